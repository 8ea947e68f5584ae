import PyProof.Rows.All
import PySem.Syntax
import PySem.PyData
import PyProof.P3Statements
import KE.DataMinMax
import KE.DataEq
import KE.DataFind
import KE.LtData
import KE.SortKeyed
import PySem.Eval
import HandS.ForMost
import HandS.Walk
import HandS.Exc
import HandS.ExcOwn
import HandS.CallSlots
import KE.DataCmp
import KE.DataIsa
import KE.SortData
import KE.DataAny
import HandS.TupAny
import HandS.TupMul
import HandS.Style
import HandS.Deep
import HandS.Conv
import HandS.Lambda
import HandS.ExcField
import HandS.ExcIs
import HandS.TryMany
import HandS.Zip
import HandS.More
import HandS.SortInts
import HandS.IsInst
import HandS.TupLen
import HandS.WordsDict
import KE.KTupSum
import KE.GoesMore
import HandS.DictComp
import PyProof.ExcBaseAll.ValueError
import HandS.HeadHook4
import HandS.NestedK
import HandS.HeadWalk
import HandS.HeadEnd
import HandS.Head0
import HandS.Head1
import HandS.Head2
import KE.KStateDown
import PySem.Challenge.RW_watchhouse_k29_whole_houses_lit_by_lamps
/-! text Ev -/
set_option autoImplicit false
set_option maxRecDepth 4000
/-! Pv: a pure evaluator for the small part of Python that the given program and the laws use. Values are PyData; a list or dict is held by value, a slot tells whether it alone holds it. -/
namespace Pv
open PySem

abbrev HS := List PyData
inductive PV where
  | d (x : PyData)
  | hand
  | fn
  | scr (xs : List PyData)
  | exn (c : Nat) (x : Option PyData)
abbrev Env := List (Option (PV × Bool))
inductive R (α : Type) where
  | ok (a : α) (h : HS)
  | ex (c : Nat) (x : Option PyData) (h : HS)
  | no
def R.bind {α β : Type} (r : R α) (f : α → HS → R β) : R β := match r with
  | .ok a h => f a h
  | .ex c x h => .ex c x h
  | .no => .no

inductive Bop where
  | add | sub | mul | mod | fdiv | pow | shl
  deriving DecidableEq, Repr
inductive Prim where
  | len | all | any | int | tuple | list | sorted | min1 | max1 | min2 | max2 | abs | sum | dict | repr | str | set
  | isInt | isBool | isStr | isTuple | isList | isDict | isTL
  deriving DecidableEq, Repr
inductive Mth where
  | count | index | get1 | get2 | join | split
  deriving DecidableEq, Repr
inductive Cop where
  | eq | ne | lt | le | gt | ge | is | isNot | inn | notIn
  deriving DecidableEq, Repr
/-- targets -/
inductive T where
  | v (i : Nat)
  | nil | cons (t r : T)
  | tup (ts : T)
  deriving Repr
/-- expressions; lists of expressions by nil, cons; sources (what a for walks) by s.. -/
inductive X where
  | nil | cons (a r : X)
  | bad
  | cst (d : PyData)
  | var (i : Nat)
  | bin (o : Bop) (a b : X)
  | neg (a : X) | not (a : X)
  | and (a b : X) | or (a b : X)
  | cmp (o : Cop) (a b : X)
  | chain (o p : Cop) (a b c : X)
  | chain3 (o p q : Cop) (a b c d : X)
  | ite (c a b : X)
  | tup (es : X) | lst (es : X)
  | idx (a b : X)
  | slice (a lo hi : X) | rev (a : X)
  | call (f : Nat) (es : X)
  | prim (p : Prim) (es : X)
  | mth (m : Mth) (o es : X)
  | rngL (tup : Bool) (src : X)
  | lc (t : T) (src cond elt : X)
  | dc (t : T) (src cond k v : X)
  | dsp (ks vs : X)
  | thunk
  | lam (f : Nat) (body : X)
  | fld (a : X)
  | isE (a : X) (cs : List (Option Nat))
  | sVal (a : X) | sRng1 (a : X) | sRng2 (a b : X) | sRng3 (a b c : X) | sZip (a b : X) | sEnum (a : X) | sItems (a : X) | sVals (a : X)

inductive S where
  | skip | seq (a b : S)
  | bad
  | set (t : T) (e : X)
  | par (ts es : X)          -- names = as many expressions (ts: a list of var)
  | aug (i : Nat) (o : Bop) (e : X)
  | sto (i : Nat) (k e : X)
  | stoA (i : Nat) (k : X) (o : Bop) (e : X)
  | app (i : Nat) (e : X) | ext (i : Nat) (e : X) | upd (i : Nat) (e : X)
  | pop (t : T) (i : Nat) | popA (t : T) (i : Nat) (e : X)
  | popE (i : Nat) (e : X)
  | appPop (j i : Nat) (e : X)
  | expr (e : X)
  | ret (e : X)
  | retV (i : Nat)
  | ite (c : X) (a b : S)
  | whl (c : X) (b : S)
  | frr (t : T) (src : X) (b : S)
  | brk | cnt
  | raise (c : Nat) (a : X)      -- a: nil or cons e nil
  | try1 (b : S) (hs : S)      -- body, handlers
  | hnd (cs : Option Nat) (i : Nat) (b : S) (r : S)   -- except C as slot i: b; r further ones
  | hnil

/-! ### data -/
mutual
/-- no list, no dict within -/
def imm : PyData → Bool
  | .none | .bool _ | .int _ | .str _ => true
  | .list _ | .dict _ => false
  | .tuple xs => immAll xs
def immAll : List PyData → Bool
  | [] => true
  | x :: xs => imm x && immAll xs
end
mutual
/-- depth at most n -/
def shallow : Nat → PyData → Bool
  | 0, .list _ | 0, .tuple _ | 0, .dict _ => false
  | n + 1, .list xs | n + 1, .tuple xs => shallowAll n xs
  | n + 1, .dict kvs => shallowKv n kvs
  | _, .none | _, .bool _ | _, .int _ | _, .str _ => true
def shallowAll : Nat → List PyData → Bool
  | _, [] => true
  | n, x :: xs => shallow n x && shallowAll n xs
def shallowKv : Nat → List (PyData × PyData) → Bool
  | _, [] => true
  | n, (a, b) :: r => shallow n a && shallow n b && shallowKv n r
end
def maxDepth : Nat := 100
def lineN : Nat := 16777216
def isTop : PyData → Bool
  | .list _ | .dict _ => true
  | _ => false
def ints? : List PyData → Option (List Int)
  | [] => some []
  | .int i :: r => (ints? r).map (i :: ·)
  | _ => none
def strs? : List PyData → Option (List Str)
  | [] => some []
  | .str i :: r => (strs? r).map (i :: ·)
  | _ => none
def bools? : List PyData → Option (List Bool)
  | [] => some []
  | .bool i :: r => (bools? r).map (i :: ·)
  | _ => none
/-- b is below 2 ^ 64 either way -/
def small64 (i : Int) : Bool := decide (-18446744073709551616 < i) && decide (i < 18446744073709551616)
def binD (o : Bop) (a b : PyData) : Option PyData := match o, a, b with
  | .add, .int i, .int j => some (.int (i + j))
  | .add, .str x, .str y => if x.length + y.length ≤ lineN then some (.str (x ++ y)) else none
  | .add, .tuple xs, .tuple ys => if xs.length + ys.length ≤ lineN then some (.tuple (xs ++ ys)) else none
  | .add, .list xs, .list ys => if xs.length + ys.length ≤ lineN then some (.list (xs ++ ys)) else none
  | .sub, .int i, .int j => some (.int (i - j))
  | .mul, .int i, .int j => if small64 i || small64 j then some (.int (i * j)) else none
  | .mul, .list xs, .int j => if decide (j.natAbs ≤ 16777216) && decide (xs.length * j.toNat ≤ lineN) then some (.list ((List.replicate j.toNat xs).flatten)) else none
  | .mul, .tuple xs, .int j => if decide (2 ≤ j) && decide (j ≤ 1000) && !xs.isEmpty && decide (xs.length ≤ 1000) then some (.tuple ((List.replicate j.toNat xs).flatten)) else none
  | .mod, .int i, .int j => if 0 < j then some (.int (i % j)) else none
  | .fdiv, .int i, .int j => if 0 < j && j < 1073741824 then some (.int (i / j)) else none
  | .pow, .int i, .int j => if 0 ≤ j && j ≤ 1000000 && small64 i then some (.int (i ^ j.toNat)) else none
  | .shl, .int i, .int j => if 0 ≤ j && j ≤ 1000000 && small64 i then some (.int (i * 2 ^ j.toNat)) else none
  | _, _, _ => none
def ord? (a b : PyData) : Bool := PySem.W.alike a b && !(match a with | .none => true | _ => false) && shallow maxDepth a
/-- an item at an index that may be below 0 -/
def atG {α : Type} (xs : List α) (i : Int) : Option α := if 0 ≤ i then xs[i.toNat]? else if 0 ≤ i + xs.length then xs[(i + xs.length).toNat]? else none
abbrev atD (xs : List PyData) (i : Int) : Option PyData := atG xs i
def strAt (x : Str) (i : Int) : Option Str := (atG x.cps.toList i).map fun c => ⟨#[c]⟩
def dictAt : List (PyData × PyData) → PyData → Option PyData
  | [], _ => none
  | (k, v) :: r, d => if PyData.eqv k d then some v else dictAt r d
def dictPut (kvs : List (PyData × PyData)) (d v : PyData) : List (PyData × PyData) :=
  match kvs.any fun p => PyData.eqv p.1 d with
  | true => kvs.map fun p => (p.1, match PyData.eqv p.1 d with | true => v | false => p.2)
  | false => kvs ++ [(d, v)]
def dictDel : List (PyData × PyData) → PyData → List (PyData × PyData)
  | [], _ => []
  | (k, w) :: r, d => if PyData.eqv k d then r else (k, w) :: dictDel r d
/-- what may be a key here: numbers and texts, or tuples of these; a dict has keys of one kind -/
def keyS : PyData → Bool
  | .int _ | .str _ => true
  | _ => false
def keyTS : PyData → Bool
  | .tuple xs => xs.all keyS
  | _ => false
def keyFor (kvs : List (PyData × PyData)) (k : PyData) : Bool := match kvs with
  | [] => keyS k || keyTS k
  | (k0, _) :: _ => keyS k0 && keyS k || keyTS k0 && keyTS k
/-- a place among n for a slice -/
def cutAt (n : Nat) (i : Int) : Nat := if i < 0 then (i + n).toNat else min i.toNat n
def cutL {α : Type} (xs : List α) (lo hi : Option Int) : List α :=
  let n := xs.length
  let a := match lo with | some i => cutAt n i | none => 0
  let b := match hi with | some i => cutAt n i | none => n
  (xs.drop a).take (b - a)
def substr? (x y : Str) : Option Bool := match x.cps.toList, y.cps.toList with
  | [c], l => some (l.contains c)
  | _, _ => none
def cmpD (o : Cop) (a b : PyData) : Option Bool := match o, a, b with
  | .eq, .int i, .int j => some (i == j)
  | .ne, .int i, .int j => some (i != j)
  | .lt, .int i, .int j => some (decide (i < j))
  | .le, .int i, .int j => some (decide (i ≤ j))
  | .gt, .int i, .int j => some (decide (j < i))
  | .ge, .int i, .int j => some (decide (j ≤ i))
  | .eq, a, b => if a.plain && b.plain && shallow maxDepth a then some (PyData.eqv a b) else none
  | .ne, a, b => if a.plain && b.plain && shallow maxDepth a then some (!PyData.eqv a b) else none
  | .lt, a, b => if ord? a b then some (PySem.W.dataLt a b) else none
  | .gt, a, b => if ord? a b then some (PySem.W.dataLt b a) else none
  | .le, a, b => if ord? a b then some (!PySem.W.dataLt b a) else none
  | .ge, a, b => if ord? a b then some (!PySem.W.dataLt a b) else none
  | .is, a, .none => some (match a with | .none => true | _ => false)
  | .isNot, a, .none => some (match a with | .none => false | _ => true)
  | .is, .bool j, .bool k => some (j == k)
  | .isNot, .bool j, .bool k => some (!(j == k))
  | .inn, a, .list xs | .inn, a, .tuple xs => if PyData.plainAll xs && a.plain && shallow maxDepth a then some (xs.any fun y => PyData.eqv y a) else none
  | .notIn, a, .list xs | .notIn, a, .tuple xs => if PyData.plainAll xs && a.plain && shallow maxDepth a then some (!(xs.any fun y => PyData.eqv y a)) else none
  | .inn, a, .dict kvs => if keyFor kvs a then some (dictAt kvs a).isSome else none
  | .notIn, a, .dict kvs => if keyFor kvs a then some (!(dictAt kvs a).isSome) else none
  | .inn, .str x, .str y => substr? x y
  | .notIn, .str x, .str y => (substr? x y).map not
  | _, _, _ => none
def idxD (a i : PyData) : Option PyData := match a, i with
  | .list xs, .int i => atD xs i
  | .tuple xs, .int i => atD xs i
  | .str x, .int i => if x.length ≤ lineN then (strAt x i).map .str else none
  | .dict kvs, k => if keyFor kvs k then dictAt kvs k else none
  | _, _ => none
def optI : PyData → Option (Option Int)
  | .none => some none
  | .int i => some (some i)
  | _ => none
def sliceD (a : PyData) (l u : Option Int) : Option PyData := match a with
  | .list xs => some (.list (cutL xs l u))
  | .tuple xs => some (.tuple (cutL xs l u))
  | .str x => if x.length ≤ lineN then some (.str ⟨(cutL x.cps.toList l u).toArray⟩) else none
  | _ => none
def revD : PyData → Option PyData
  | .list xs => some (.list xs.reverse)
  | .tuple xs => some (.tuple xs.reverse)
  | _ => none
/-- data that can be put in order -/
def isTup1 : PyData → Bool
  | .tuple (_ :: _) => true
  | _ => false
def isTupN : PyData → Bool
  | .tuple _ | .none => true
  | _ => false
def isTupA : PyData → Bool
  | .tuple _ => true
  | _ => false
def isIntD : PyData → Bool
  | .int _ => true
  | _ => false
def isIntT : PyData → Bool
  | .tuple xs => xs.all isIntD
  | _ => false
def isIntP : PyData → Bool
  | .tuple [.int _, .tuple xs] => xs.all isIntD
  | _ => false
def alikeTo : List PyData → Bool
  | [] => true
  | x :: r => r.all fun y => PySem.W.alike x y
/-- each place of one kind in all of them -/
def allAlike (xs : List PyData) : Bool := xs.all fun x => xs.all fun y => PySem.W.alike x y
def alikeN (xs : List PyData) : Bool := match xs.all isIntD with
  | true => true
  | false => match xs.all isIntT with
    | true => true
    | false => match xs.all isIntP with
      | true => true
      | false => allAlike xs
def sortOk (xs : List PyData) : Bool := (xs.all isTupA || xs.all fun x => !isTupN x) && shallowAll maxDepth xs && alikeN xs
def minOk (xs : List PyData) : Bool := (xs.all fun x => !(match x with | .none => true | _ => false)) && shallowAll maxDepth xs && allAlike xs
def insD (x : PyData) : List PyData → List PyData
  | [] => [x]
  | y :: r => match PySem.W.dataLt y x with
    | true => y :: insD x r
    | false => x :: y :: r
def sortD (xs : List PyData) : List PyData := xs.foldr insD []
/-- distinct ones, in the order of the first of each -/
def nubD : List PyData → List PyData → List PyData
  | [], acc => acc.reverse
  | x :: r, acc => if acc.any (fun y => PyData.eqv y x) then nubD r acc else nubD r (x :: acc)
def dictOfPairs : List PyData → List (PyData × PyData) → Option (List (PyData × PyData))
  | [], acc => some acc
  | .tuple [k, v] :: r, acc => if keyFor acc k then dictOfPairs r (dictPut acc k v) else none
  | _ :: _, _ => none
/-- pairs to a dict, keys numbers or texts -/
def pairsS : List PyData → List (PyData × PyData) → Option (List (PyData × PyData))
  | [], acc => some acc
  | .tuple [k, v] :: r, acc => match keyS k with
    | true => pairsS r (dictPut acc k v)
    | false => none
  | _ :: _, _ => none
def primD (p : Prim) (as : List PyData) : Option PyData := match p, as with
  | .len, [.list xs] => some (.int xs.length)
  | .len, [.tuple xs] => some (.int xs.length)
  | .len, [.dict xs] => some (.int xs.length)
  | .len, [.str x] => if x.length ≤ lineN then some (.int x.length) else none
  | .all, [.list xs] => (bools? xs).map fun bs => .bool (bs.all id)
  | .any, [.list xs] => (bools? xs).map fun bs => .bool (bs.any id)
  | .int, [.int i] => some (.int i)
  | .int, [.bool b] => some (.int (if b then 1 else 0))
  | .tuple, [.list xs] => some (.tuple xs)
  | .tuple, [.tuple xs] => some (.tuple xs)
  | .list, [.list xs] => some (.list xs)
  | .list, [.tuple xs] => some (.list xs)
  | .list, [.dict kvs] => some (.list (kvs.map (·.1)))
  | .sorted, [.list xs] => if sortOk xs then some (.list (sortD xs)) else none
  | .sorted, [.tuple xs] => if sortOk xs then some (.list (sortD xs)) else none
  | .sorted, [.dict kvs] => if (kvs.all fun p => isIntD p.1) && decide (kvs.length < 64) then some (.list (sortD (kvs.map (·.1)))) else none
  | .dict, [.list xs] => (pairsS xs []).map .dict
  | .min1, [.list (x :: xs)] => if minOk (x :: xs) then some (PySem.W.minD x xs) else none
  | .max1, [.list (x :: xs)] => if minOk (x :: xs) then some (PySem.W.maxD x xs) else none
  | .min1, [.tuple (x :: xs)] => if minOk (x :: xs) then some (PySem.W.minD x xs) else none
  | .max1, [.tuple (x :: xs)] => if minOk (x :: xs) then some (PySem.W.maxD x xs) else none
  | .min2, [.int i, .int j] => some (.int (if j < i then j else i))
  | .max2, [.int i, .int j] => some (.int (if j > i then j else i))
  | .abs, [.int i] => some (.int (if i < 0 then -i else i))
  | .sum, [.list xs] => (ints? xs).map fun ns => .int ns.sum
  | .sum, [.tuple xs] => (ints? xs).map fun ns => .int ns.sum
  | .repr, [.none] => some (.str "None")
  | .repr, [.bool b] => some (.str (if b then "True" else "False"))
  | .repr, [.int i] => if i.natAbs.log2 < 1920 then some (.str (toString i)) else none
  | .isInt, [x] => some (.bool (match x with | .int _ | .bool _ => true | _ => false))
  | .isBool, [x] => some (.bool (match x with | .bool _ => true | _ => false))
  | .isStr, [x] => some (.bool (match x with | .str _ => true | _ => false))
  | .isTuple, [x] => some (.bool (match x with | .tuple _ => true | _ => false))
  | .isList, [x] => some (.bool (match x with | .list _ => true | _ => false))
  | .isDict, [x] => some (.bool (match x with | .dict _ => true | _ => false))
  | .isTL, [x] => some (.bool (match x with | .list _ | .tuple _ => true | _ => false))
  | _, _ => none
/-- a tuple or a list -/
def mkSeq (tup : Bool) (xs : List PyData) : PyData := match tup with
  | true => .tuple xs
  | false => .list xs
/-- is what a built-in hands back new -/
def mthD (m : Mth) (o : PyData) (as : List PyData) : Option PyData := match m, o, as with
  | .count, .list xs, [y] => if PyData.plainAll xs && y.plain && shallow maxDepth y then some (.int (xs.countP fun z => PyData.eqv z y)) else none
  | .get1, .dict kvs, [k] => if keyFor kvs k then some ((dictAt kvs k).getD .none) else none
  | .get2, .dict kvs, [k, z] => if keyFor kvs k then some ((dictAt kvs k).getD z) else none
  | .index, .list xs, [y] => if PyData.plainAll xs && y.plain && shallow maxDepth y then (PySem.SeqAt.dataPlace xs y).map fun (n : Nat) => PyData.int n else none
  | _, _, _ => none
/-- has it such a method -/
def mthOn : Mth → PyData → Bool
  | .get1, .dict _ | .get2, .dict _ => true
  | .count, .list _ | .index, .list _ => true
  | _, _ => false
def rangeL (lo hi : Int) : List PyData := (List.range (hi - lo).toNat).map fun (k : Nat) => PyData.int (lo + k)
def rngOk (i : Int) : Bool := decide (-8000000 ≤ i) && decide (i ≤ 8000000)
/-- a range by steps -/
def range3 (lo hi st : Int) : List PyData :=
  if 0 < st then (List.range ((hi - lo + st - 1) / st).toNat).map fun (k : Nat) => .int (lo + st * k)
  else if st < 0 then (List.range ((lo - hi - st - 1) / (-st)).toNat).map fun (k : Nat) => .int (lo + st * k) else []
def itemsD : PyData → Option (List PyData)
  | .list xs => some xs
  | .tuple xs => some xs
  | _ => none
def seqD : PyData → Option (List PyData)
  | .list xs => some xs
  | .tuple xs => some xs
  | _ => none
def enumL : Int → List PyData → List PyData
  | _, [] => []
  | n, x :: r => .tuple [.int n, x] :: enumL (n + 1) r

/-! ### slots -/
def bindT : T → PyData → Env → Option Env
  | .v i, x, e => some (e.set i (some (.d x, false)))
  | .nil, .tuple [], e => some e
  | .cons t r, .tuple (x :: xs), e => match bindT t x e with
    | some e' => bindT r (.tuple xs) e'
    | none => none
  | .tup ts, .tuple xs, e => bindT ts (.tuple xs) e
  | _, _, _ => none
def envD (env : Env) (i : Nat) : Option PV := match env[i]? with
  | some (some (v, _)) => some v
  | _ => none
def ownD (env : Env) (i : Nat) : Option PyData := match env[i]? with
  | some (some (.d x, true)) => some x
  | _ => none
def disown (env : Env) (i : Nat) : Env := match env[i]? with
  | some (some (v, true)) => env.set i (some (v, false))
  | _ => env
def disownAll (env : Env) (is : List Nat) : Env := is.foldl disown env
/-- the slots that an expression names -/
def vars : X → List Nat
  | .var i => [i]
  | .thunk => [0]
  | .cons a r => vars a ++ vars r
  | .bin _ a b | .and a b | .or a b | .cmp _ a b | .idx a b | .sRng2 a b | .sZip a b | .mth _ a b | .dsp a b => vars a ++ vars b
  | .neg a | .not a | .tup a | .lst a | .rev a | .fld a | .isE a _ | .rngL _ a | .sVal a | .sRng1 a | .sEnum a | .sItems a | .sVals a | .call _ a | .prim _ a | .lam _ a => vars a
  | .chain _ _ a b c | .ite a b c | .slice a b c | .sRng3 a b c | .lc _ a b c => vars a ++ vars b ++ vars c
  | .chain3 _ _ _ a b c d | .dc _ a b c d => vars a ++ vars b ++ vars c ++ vars d
  | _ => []

def truth : PV → Option Bool
  | .d (.bool b) => some b
  | .d (.list xs) => some !xs.isEmpty
  | .d (.tuple xs) => some !xs.isEmpty
  | .d (.int i) => some (i != 0)
  | _ => none
/-! ### evaluation -/
abbrev Res := R (PV × Bool)
abbrev Thunk := HS → Res
abbrev Callee := Nat → List PV → Thunk → HS → Res
def one (x : Option PyData) (fr : Bool) (h : HS) : Res := match x with
  | some v => .ok (.d v, fr) h
  | none => .no
def dat (v : PV × Bool) : Option PyData := match v.1 with
  | .d x => some x
  | _ => none
def datAll : List (PV × Bool) → Option (List PyData)
  | [] => some []
  | v :: r => match dat v, datAll r with
    | some x, some xs => some (x :: xs)
    | _, _ => none
def withD (v : PV × Bool) (f : PyData → Res) : Res := match v.1 with
  | .d x => f x
  | _ => .no
def optV : PV → Option (Option Int)
  | .d x => optI x
  | _ => none
/-- the loop of a comprehension -/
def lcLoop (step : PyData → HS → R (Option PyData)) : List PyData → HS → List PyData → R (List PyData)
  | [], h, acc => .ok acc.reverse h
  | x :: r, h, acc => match step x h with
    | .ok (some y) h' => lcLoop step r h' (y :: acc)
    | .ok none h' => lcLoop step r h' acc
    | _ => .no
def dcLoop (step : PyData → HS → R (Option (PyData × PyData))) : List PyData → HS → List (PyData × PyData) → R (List (PyData × PyData))
  | [], h, acc => .ok acc h
  | x :: r, h, acc => match step x h with
    | .ok (some (k, v)) h' => match keyS k with
      | true => dcLoop step r h' (dictPut acc k v)
      | false => .no
    | .ok none h' => dcLoop step r h' acc
    | _ => .no
def dspL : List PyData → List PyData → List (PyData × PyData) → Option (List (PyData × PyData))
  | [], [], acc => some acc
  | k :: ks, v :: vs, acc => if keyFor acc k then dspL ks vs (dictPut acc k v) else none
  | _, _, _ => none
def primFresh : Prim → Bool
  | .min1 | .max1 | .min2 | .max2 => false
  | _ => true
/-- what may be handed to a def -/
def plainV : PV → Bool
  | .d _ | .hand | .scr _ => true
  | _ => false
/-- what a def that got a lambda gives back -/
def lamEnd : Res → Res
  | .ok v h => match plainV v.1 with
    | true => .ok v h
    | false => .no
  | _ => .no
/-- does it run in a suite of except too -/
def primCalm : Prim → Bool
  | .len | .int | .tuple | .abs | .isInt | .isBool | .isStr | .isTuple | .isList | .isDict | .isTL => true
  | _ => false
def mthFresh : Mth → Bool
  | .get1 | .get2 => false
  | _ => true
/-- Python's isinstance of a caught error: none: ValueError; C₀, the base class of all own ones, has the number 0 -/
def isErr (c : Nat) : Option Nat → Bool
  | none => true
  | some k => k == 0 || k == c

mutual
def evE (C : Callee) (th : Thunk) (hot : Bool) : X → Env → HS → Res
  | .cst d, _, h => .ok (.d d, true) h
  | .var i, env, h => match env[i]? with
    | some (some (v, _)) => .ok (v, false) h
    | _ => .no
  | .bin o a b, env, h => (evE C th hot a env h).bind fun x h => (evE C th hot b env h).bind fun y h => withD x fun x => withD y fun y => one (binD o x y) true h
  | .neg a, env, h => (evE C th hot a env h).bind fun x h => withD x fun x => match x with
    | .int i => .ok (.d (.int (-i)), true) h
    | _ => .no
  | .not a, env, h => (evE C th hot a env h).bind fun x h => withD x fun x => match x with
    | .bool b => .ok (.d (.bool (!b)), true) h
    | _ => .no
  | .and a b, env, h => (evE C th hot a env h).bind fun x h => withD x fun x => match x with
    | .bool true => evE C th hot b env h
    | .bool false => .ok (.d (.bool false), true) h
    | _ => .no
  | .or a b, env, h => (evE C th hot a env h).bind fun x h => withD x fun x => match x with
    | .bool false => evE C th hot b env h
    | .bool true => .ok (.d (.bool true), true) h
    | _ => .no
  | .cmp o a b, env, h => (evE C th hot a env h).bind fun x h => (evE C th hot b env h).bind fun y h => withD x fun x => withD y fun y => one ((cmpD o x y).map .bool) true h
  | .chain o p a b c, env, h => (evE C th hot a env h).bind fun x h => (evE C th hot b env h).bind fun y h => withD x fun x => withD y fun y => match cmpD o x y with
    | some true => (evE C th hot c env h).bind fun z h => withD z fun z => one ((cmpD p y z).map .bool) true h
    | some false => .ok (.d (.bool false), true) h
    | none => .no
  | .ite c a b, env, h => (evE C th hot c env h).bind fun x h => match truth x.1 with
    | some true => evE C th hot a env h
    | some false => evE C th hot b env h
    | none => .no
  | .tup es, env, h => (evL C th hot es env h).bind fun vs h => match datAll vs with
    | some xs => .ok (.d (.tuple xs), true) h
    | none => .no
  | .lst es, env, h => (evL C th hot es env h).bind fun vs h => match datAll vs with
    | some xs => .ok (.d (.list xs), true) h
    | none => .no
  | .dsp .nil .nil, _, h => .ok (.d (.dict []), true) h
  | .dsp (.cons k .nil) (.cons v .nil), env, h => (evE C th hot k env h).bind fun a h => (evE C th hot v env h).bind fun b h => match a.1, b.1 with
    | .d k, .d v => match keyS k with
      | true => .ok (.d (.dict [(k, v)]), true) h
      | false => .no
    | _, _ => .no
  | .idx a b, env, h => (evE C th hot a env h).bind fun x h => (evE C th hot b env h).bind fun y h => match x.1 with
    | .d x => withD y fun y => one (idxD x y) false h
    | .hand => withD y fun y => match y with
      | .int i => one (atD h i) false h
      | _ => .no
    | _ => .no
  | .slice a lo hi, env, h => (evE C th hot a env h).bind fun x h => (evE C th hot lo env h).bind fun y h => match optV y.1 with
    | none => .no
    | some l => (evE C th hot hi env h).bind fun z h => match optV z.1 with
      | none => .no
      | some u => match x.1 with
        | .d x => one (sliceD x l u) true h
        | .scr xs => one (sliceD (.list xs) l u) true h
        | _ => .no
  | .rev a, env, h => (evE C th hot a env h).bind fun x h => withD x fun x => one (revD x) true h
  | .call f es, env, h => match hot with
    | true => .no
    | false => (evL C th hot es env h).bind fun vs h => match vs.all fun v => plainV v.1 with
      | true => C f (vs.map (·.1)) (fun _ => .no) h
      | false => .no
  | .prim p es, env, h => match hot && !primCalm p with
    | true => .no
    | false => (evL C th hot es env h).bind fun vs h => match datAll vs with
      | some xs => one (primD p xs) (primFresh p) h
      | none => .no
  | .mth m o es, env, h => (evE C th hot o env h).bind fun x h => match x.1 with
    | .d x => match mthOn m x with
      | true => (evL C th hot es env h).bind fun vs h => match datAll vs with
        | some xs => one (mthD m x xs) (mthFresh m) h
        | none => .no
      | false => .no
    | _ => .no
  | .lc t src cond elt, env, h => match hot with
    | true => .no
    | false => (evSrc C th hot src env h).bind fun xs h => match decide (xs.length ≤ lineN) with
      | false => .no
      | true => (lcLoop (fun x h => match bindT t x env with
        | some env' => (evC C th hot cond env' h).bind fun b h => match b with
          | true => (evE C th hot elt env' h).bind fun y h => match y.1 with
            | .d y => .ok (some y) h
            | _ => .no
          | false => .ok none h
        | none => .no) xs h []).bind fun ys h => .ok (.d (.list ys), true) h
  | .dc t src cond ke ve, env, h => match hot with
    | true => .no
    | false => (evSrc C th hot src env h).bind fun xs h => match decide (xs.length ≤ lineN) with
      | false => .no
      | true => (dcLoop (fun x h => match bindT t x env with
        | some env' => (evC C th hot cond env' h).bind fun b h => match b with
          | true => (evE C th hot ke env' h).bind fun a h => (evE C th hot ve env' h).bind fun y h => match a.1, y.1 with
            | .d a, .d y => .ok (some (a, y)) h
            | _, _ => .no
          | false => .ok none h
        | none => .no) xs h []).bind fun kvs h => .ok (.d (.dict kvs), true) h
  | .rngL tup src, env, h => match hot with
    | true => .no
    | false => (evSrc C th hot src env h).bind fun xs h => match decide (xs.length ≤ lineN) with
      | true => .ok (.d (mkSeq tup xs), true) h
      | false => .no
  | .thunk, env, h => match hot, env[0]? with
    | false, some (some (PV.fn, _)) => th h
    | _, _ => .no
  | .lam f body, env, h => match hot with
    | true => .no
    | false => lamEnd (C f [.fn] (fun h => evE C (fun _ => .no) false body env h) h)
  | .fld a, env, h => (evE C th hot a env h).bind fun x h => match x.1 with
    | .exn _ (some y) => .ok (.d y, false) h
    | _ => .no
  | .isE a cs, env, h => (evE C th hot a env h).bind fun x h => match x.1 with
    | .exn c none => .ok (.d (.bool (cs.any fun k => isErr c k)), true) h
    | _ => .no
  | _, _, _ => .no
def evL (C : Callee) (th : Thunk) (hot : Bool) : X → Env → HS → R (List (PV × Bool))
  | .nil, _, h => .ok [] h
  | .cons a r, env, h => (evE C th hot a env h).bind fun x h => (evL C th hot r env h).bind fun xs h => .ok (x :: xs) h
  | _, _, _ => .no
/-- tests of a comprehension: nil or one -/
def evC (C : Callee) (th : Thunk) (hot : Bool) : X → Env → HS → R Bool
  | .nil, _, h => .ok true h
  | .cons a .nil, env, h => (evE C th hot a env h).bind fun x h => match truth x.1 with
    | some b => .ok b h
    | none => .no
  | _, _, _ => .no
def evSrc (C : Callee) (th : Thunk) (hot : Bool) : X → Env → HS → R (List PyData)
  | .sVal a, env, h => (evE C th hot a env h).bind fun x h => match x.1 with
    | .d x => match itemsD x with
      | some xs => .ok xs h
      | none => .no
    | _ => .no
  | .sRng1 a, env, h => (evE C th hot a env h).bind fun x h => match x.1 with
    | .d (.int i) => match rngOk i with
      | true => .ok (rangeL 0 i) h
      | false => .no
    | _ => .no
  | .sRng2 a b, env, h => (evE C th hot a env h).bind fun x h => (evE C th hot b env h).bind fun y h => match x.1, y.1 with
    | .d (.int i), .d (.int j) => match rngOk i && rngOk j with
      | true => .ok (rangeL i j) h
      | false => .no
    | _, _ => .no
  | .sZip a b, env, h => (evE C th hot a env h).bind fun x h => (evE C th hot b env h).bind fun y h => match x.1, y.1 with
    | .d (.list xs), .d (.list ys) => .ok ((xs.zip ys).map fun p => .tuple [p.1, p.2]) h
    | .d (.tuple xs), .d (.tuple ys) => .ok ((xs.zip ys).map fun p => .tuple [p.1, p.2]) h
    | .d (.tuple xs), .d (.list ys) => .ok ((xs.zip ys).map fun p => .tuple [p.1, p.2]) h
    | .d (.list xs), .d (.tuple ys) => .ok ((xs.zip ys).map fun p => .tuple [p.1, p.2]) h
    | _, _ => .no
  | .sEnum a, env, h => (evE C th hot a env h).bind fun x h => match x.1 with
    | .d (.list xs) => .ok (enumL 0 xs) h
    | .d (.tuple xs) => .ok (enumL 0 xs) h
    | _ => .no
  | _, _, _ => .no
end

/-! ### statements -/
inductive Out where
  | nx | bk | ct
  | rt (v : PV) (fr : Bool)
/-- no list, no dict among the values of a dict -/
def immKv : List (PyData × PyData) → Bool
  | [] => true
  | (_, v) :: r => imm v && immKv r
/-- may a value name what stood before? -/
def aliasD (x : PyData) (fr : Bool) : Bool := match fr with
  | true => (match x with
    | .list xs | .tuple xs => !immAll xs
    | .dict kvs => !immKv kvs
    | _ => false)
  | false => !imm x
def leak (v : PV) (fr : Bool) (vs : List Nat) (env : Env) : Env := match v with
  | .d x => match aliasD x fr with
    | true => disownAll env vs
    | false => env
  | .hand => env
  | _ => disownAll env vs
def ownOf (v : PV) (fr : Bool) : Bool := match v with
  | .d (.list _) => fr
  | .d (.dict kvs) => fr && immKv kvs
  | _ => false
def leakAll : List (PV × Bool) → X → Env → Env
  | v :: r, .cons e es, env => leakAll r es (leak v.1 v.2 (vars e) env)
  | _, _, env => env
def setAll : X → List (PV × Bool) → Env → Option Env
  | .nil, [], env => some env
  | .cons (.var i) r, v :: vs, env => setAll r vs (env.set i (some (v.1, false)))
  | _, _, _ => none
def setAt (xs : List PyData) (i : Int) (v : PyData) : Option (List PyData) :=
  if 0 ≤ i then (if i < xs.length then some (xs.set i.toNat v) else none) else if 0 ≤ i + xs.length then some (xs.set (i + xs.length).toNat v) else none
def storeD (x k v : PyData) : Option PyData := match x, k with
  | .list xs, .int i => (setAt xs i v).map .list
  | .dict kvs, k => if keyFor kvs k && kvs.length < lineN then some (.dict (dictPut kvs k v)) else none
  | _, _ => none
/-- what is left, what was taken -/
def popD (x : PyData) (k : Option PyData) : Option (PyData × PyData) := match x, k with
  | .list xs, none => match xs.getLast? with
    | some v => some (.list xs.dropLast, v)
    | none => none
  | .list xs, some (.int i) => if 0 ≤ i then (match xs[i.toNat]? with
      | some v => some (.list (xs.eraseIdx i.toNat), v)
      | none => none) else none
  | .dict kvs, some k => if keyFor kvs k then (match dictAt kvs k with
      | some v => some (.dict (dictDel kvs k), v)
      | none => none) else none
  | _, _ => none
def reown (env : Env) (i : Nat) (x : PyData) : Env := match env[i]? with
  | some (some (_, o)) => env.set i (some (.d x, o))
  | _ => env
def updAll : List (PyData × PyData) → List (PyData × PyData) → List (PyData × PyData)
  | kvs, [] => kvs
  | kvs, (k, v) :: r => updAll (dictPut kvs k v) r
/-- x op= y of numbers -/
def augD (o : Bop) (i j : Int) : Option Int := match o with
  | .add => some (i + j)
  | .sub => some (i - j)
  | .mul => if small64 i || small64 j then some (i * j) else none
  | .mod => if 0 < j then some (i % j) else none
  | .fdiv => if 0 < j && j < 1073741824 then some (i / j) else none
  | _ => none
abbrev ResS := R (Out × Env)
def forLoop (step : PyData → Env → HS → ResS) : List PyData → Env → HS → ResS
  | [], env, h => .ok (.nx, env) h
  | x :: r, env, h => match step x env h with
    | .ok (.nx, env') h' => forLoop step r env' h'
    | .ok (.ct, env') h' => forLoop step r env' h'
    | .ok (.bk, env') h' => .ok (.nx, env') h'
    | .ok (.rt v fr, env') h' => .ok (.rt v fr, env') h'
    | .ex c x h' => .ex c x h'
    | .no => .no
def whileLoop (step : Env → HS → R (Option (Out × Env))) : Nat → Env → HS → ResS
  | 0, _, _ => .no
  | n + 1, env, h => match step env h with
    | .ok none h' => .ok (.nx, env) h'
    | .ok (some (.nx, env')) h' => whileLoop step n env' h'
    | .ok (some (.ct, env')) h' => whileLoop step n env' h'
    | .ok (some (.bk, env')) h' => .ok (.nx, env') h'
    | .ok (some (.rt v fr, env')) h' => .ok (.rt v fr, env') h'
    | .ex c x h' => .ex c x h'
    | .no => .no
def oneVar : X → Bool
  | .var _ => true
  | _ => false
def dMax : Nat := 100000
/-- what a suite of except knows of the slots: nothing -/
def forget (env : Env) : Env := List.replicate env.length none
def okSlot : Option (PV × Bool) → Bool
  | some (v, o) => plainV v && !o
  | none => true
def okOut : Out → Bool
  | .rt v _ => plainV v
  | _ => true
def evS (C : Callee) (th : Thunk) (hot : Bool) (fu : Nat) : S → Env → HS → ResS
  | .skip, env, h => .ok (.nx, env) h
  | .seq a b, env, h => match evS C th hot fu a env h with
    | .ok (.nx, env') h' => evS C th hot fu b env' h'
    | r => r
  | .set (.v i) e, env, h => (evE C th hot e env h).bind fun v h => .ok (.nx, (leak v.1 v.2 (vars e) env).set i (some (v.1, !hot && ownOf v.1 v.2))) h
  | .set (.tup ts) e, env, h => match hot with
    | true => .no
    | false => (evE C th hot e env h).bind fun v h => match v.1 with
      | .d x => match bindT (.tup ts) x (leak v.1 v.2 (vars e) env) with
        | some env' => .ok (.nx, env') h
        | none => .no
      | _ => .no
  | .par (.cons (.var i) (.cons (.var j) .nil)) (.cons a (.cons b .nil)), env, h => (evE C th hot a env h).bind fun v h => (evE C th hot b env h).bind fun w h => match v.1, w.1 with
    | .d x, .d y => match imm x && imm y with
      | true => .ok (.nx, (env.set i (some (.d x, false))).set j (some (.d y, false))) h
      | false => .no
    | _, _ => .no
  | .aug i o e, env, h => match envD env i with
    | some (.d (.int x)) => (evE C th hot e env h).bind fun v h => match v.1 with
      | .d (.int y) => match augD o x y with
        | some z => .ok (.nx, env.set i (some (.d (.int z), false))) h
        | none => .no
      | _ => .no
    | _ => .no
  | .sto i k e, env, h => match hot, envD env i with
    | false, some .hand => (evE C th hot e env h).bind fun v h => (evE C th hot k env h).bind fun w h => match v.1, w.1 with
      | .d y, .d (.int j) => match imm y with
        | true => match setAt h j y with
          | some h' => .ok (.nx, env) h'
          | none => .no
        | false => .no
      | _, _ => .no
    | false, some (.d _) => (evE C th hot e env h).bind fun v h => (evE C th hot k env h).bind fun w h => match v.1, w.1 with
      | .d y, .d j => match ownD (leak v.1 v.2 (vars e) env) i with
        | some x => match storeD x j y with
          | some x' => .ok (.nx, reown (leak v.1 v.2 (vars e) env) i x') h
          | none => .no
        | none => .no
      | _, _ => .no
    | _, _ => .no
  | .stoA i k o e, env, h => match hot, ownD env i with
    | false, some (.list xs) => (evE C th hot k env h).bind fun w h => match w.1 with
      | .d (.int j) => match atD xs j with
        | some (.int old) => (evE C th hot e env h).bind fun v h => match v.1 with
          | .d (.int y) => match augD o old y with
            | some z => match setAt xs j (.int z) with
              | some xs' => .ok (.nx, reown env i (.list xs')) h
              | none => .no
            | none => .no
          | _ => .no
        | _ => .no
      | _ => .no
    | _, _ => .no
  | .app i e, env, h => match hot, ownD env i with
    | false, some (.list _) => (evE C th hot e env h).bind fun v h => match v.1 with
      | .d y => match ownD (leak v.1 v.2 (vars e) env) i with
        | some (.list xs) => match decide (xs.length < lineN) with
          | true => .ok (.nx, reown (leak v.1 v.2 (vars e) env) i (.list (xs ++ [y]))) h
          | false => .no
        | _ => .no
      | _ => .no
    | _, _ => .no
  | .ext i e, env, h => match hot, ownD env i with
    | false, some (.list _) => (evE C th hot e env h).bind fun v h => match v.1 with
      | .d (.list ys) => match ownD (leak v.1 v.2 (vars e) env) i with
        | some (.list xs) => match decide (xs.length + ys.length ≤ lineN) with
          | true => .ok (.nx, reown (leak v.1 v.2 (vars e) env) i (.list (xs ++ ys))) h
          | false => .no
        | _ => .no
      | _ => .no
    | _, _ => .no
  | .expr e, env, h => (evE C th hot e env h).bind fun _ h => .ok (.nx, env) h
  | .ret e, env, h => (evE C th hot e env h).bind fun v h => .ok (.rt v.1 v.2, env) h
  | .retV i, env, h => match env[i]? with
    | some (some (v, o)) => .ok (.rt v o, env) h
    | _ => .no
  | .ite c a b, env, h => (evE C th hot c env h).bind fun v h => match truth v.1 with
    | some true => evS C th hot fu a env h
    | some false => evS C th hot fu b env h
    | none => .no
  | .whl c b, env, h => if hot then .no else whileLoop (fun env h => (evE C th hot c env h).bind fun v h => match truth v.1 with
      | some true => (evS C th hot fu b env h).bind fun r h => .ok (some r) h
      | some false => .ok none h
      | none => .no) fu env h
  | .frr t src b, env, h => if hot then .no else (evSrc C th hot src env h).bind fun xs h => forLoop (fun x env h => match bindT t x env with
      | some env' => evS C th hot fu b env' h
      | none => .no) xs (disownAll env (vars src)) h
  | .brk, env, h => .ok (.bk, env) h
  | .cnt, env, h => .ok (.ct, env) h
  | .raise c .nil, _, h => match hot with
    | true => .no
    | false => .ex c none h
  | .try1 b hs, env, h => match hot with
    | true => .no
    | false => match evS C th false fu b env h with
      | .ex c x h' => evH C th fu hs c x env h'
      | r => r
  | _, _, _ => .no
where
  evH (C : Callee) (th : Thunk) (fu : Nat) : S → Nat → Option PyData → Env → HS → ResS
  | .hnd cs i b r, c, x, env, h => match isErr c cs with
    | true => match evS C th true fu b ((forget env).set i (some (.exn c x, false))) h with
      | .ok (o, env') h' => match okOut o && (env'.set i none).all okSlot with
        | true => .ok (o, env'.set i none) h'
        | false => .no
      | _ => .no
    | false => evH C th fu r c x env h
  | .hnil, c, x, _, h => .ex c x h
  | _, _, _, _, _ => .no

structure Fn where
  np : Nat
  n : Nat
  body : S
def start (n : Nat) (vs : List PV) : Env := vs.map (fun v => some (v, false)) ++ List.replicate (n - vs.length) none
def evF (P : List Fn) (fu : Nat) : Nat → Callee
  | 0, _, _, _, _ => .no
  | d + 1, f, vs, th, h => match P[f]? with
    | some fn => if vs.length == fn.np then (evS (evF P fu d) th false fu fn.body (start fn.n vs) h).bind fun r h => (match r.1 with
      | .rt v fr => .ok (v, fr) h
      | .nx => .ok (.d .none, true) h
      | _ => .no) else .no
    | none => .no
end Pv
/-! text Cm -/
set_option autoImplicit false
set_option maxRecDepth 4000
namespace Pv
open PySem

/-- what is known of a program's top: its defs, its own error classes (the first one the base), its constants -/
structure Top where
  fns : List Str
  cls : List Str
  cst : List (Str × PyData)
  fld : Option Str      -- the field of an error class
  ini : List Bool       -- has an error class its own __init__
def find (l : List Str) (x : Str) : Option Nat := l.findIdx? fun y => y == x
def kindOf (sc : Scope) (x : Str) : Option NameKind := sc.names.lookup x
def isVis : Option NameKind → Bool
  | some .local | some .cell | some .free => true
  | _ => false
/-- the defs that may hold a lambda -/
def lamNames : List Str := ["law", "_law_is_right", "_law_house_right"]
def isLam (x : Str) : Bool := lamNames.contains x
structure Cc where
  G : Top
  N : List Str
  sc : Scope
  par : Option Str      -- the parameter that is called
  lam : Bool            -- may a lambda stand here
  hot : Bool            -- within a suite of except
def okName (x : Str) : Bool := !(x == ("__debug__" : Str)) && !(x == ("__classdict__" : Str)) && !(x == ("__name__" : Str))
def Cc.slot (c : Cc) (x : Str) : Option Nat := if isVis (kindOf c.sc x) && okName x then find c.N x else none
def Cc.lslot (c : Cc) (x : Str) : Option Nat := if (kindOf c.sc x == some .local || kindOf c.sc x == some .cell) && okName x then find c.N x else none
def Cc.glob (c : Cc) (x : Str) : Bool := kindOf c.sc x == some .globalImplicit && okName x
def isStarE : Expr → Bool
  | .Starred .. => true
  | _ => false
def isSetE : Expr → Bool
  | .Set .. => true
  | _ => false
def isCallE : Expr → Bool
  | .Call .. => true
  | _ => false
def isTupE : Expr → Bool
  | .Tuple .. => true
  | _ => false
def tvs : T → List Nat
  | .v i => [i]
  | .nil => []
  | .cons t r => tvs t ++ tvs r
  | .tup ts => tvs ts
/-- a comprehension's block may run -/
def blkOkB (N : List Str) (sc scope : Scope) (vs : List Nat) : Bool :=
  (match scope.kind with | .function => true | _ => false) && (scope.names.all fun y => decide (scope.names.lookup y.1 = some y.2)) && (vs.all fun i => decide (i < N.length)) &&
    (scope.names.all fun y => match y.2 with
      | .free => (match sc.names.lookup y.1 with | some .cell => true | some .free => true | _ => false)
      | .local => (vs.any fun i => N[i]? == some y.1) || !(N.contains y.1)
      | .cell => (vs.any fun i => N[i]? == some y.1) || !(N.contains y.1)
      | _ => true)
def lamOkB (sc scope : Scope) (a : Arguments) : Bool :=
  (match a with | ⟨[], [], none, [], [], none, []⟩ => true | _ => false) && (match scope.kind with | .function => true | _ => false) && !scope.isCoroutine && !scope.isGenerator && (scope.names.all fun y => match y.2 with
    | .local => false
    | .cell => false
    | .free => (match sc.names.lookup y.1 with | some .cell => true | some .free => true | _ => false)
    | _ => true)
/-- one parameter `again`, told 0 -/
def agPs : Arguments → Bool
  | ⟨[], [⟨x, none, _⟩], none, [], [], none, [.Constant (.int 0) _ _]⟩ => x == ("again" : Str)
  | _ => false
def lamOkD (N : List Str) (sc scope : Scope) (a : Arguments) : Bool :=
  agPs a && (match scope.kind with | .function => true | _ => false) && !scope.isCoroutine && !scope.isGenerator && (scope.names.all fun y => match y.2 with
    | .local => y.1 == ("again" : Str)
    | .cell => false
    | .free => (match sc.names.lookup y.1 with | some .cell => true | some .free => true | _ => false)
    | _ => true) && (match scope.names.lookup ("again" : Str) with | some .local => true | _ => false) && !N.contains ("again" : Str)
def bopOf : Operator → Option Bop
  | .Add => some .add | .Sub => some .sub | .Mult => some .mul | .Mod => some .mod | .FloorDiv => some .fdiv | .Pow => some .pow | .LShift => some .shl
  | _ => none
def copOf : CmpOp → Cop
  | .Eq => .eq | .NotEq => .ne | .Lt => .lt | .LtE => .le | .Gt => .gt | .GtE => .ge | .Is => .is | .IsNot => .isNot | .In => .inn | .NotIn => .notIn
def primOf (x : Str) (n : Nat) : Option Prim :=
  if x == ("len" : Str) && n == 1 then some .len else if x == ("all" : Str) && n == 1 then some .all else if x == ("any" : Str) && n == 1 then some .any
  else if x == ("int" : Str) && n == 1 then some .int else if x == ("tuple" : Str) && n == 1 then some .tuple else if x == ("list" : Str) && n == 1 then some .list
  else if x == ("sorted" : Str) && n == 1 then some .sorted else if x == ("min" : Str) && n == 1 then some .min1 else if x == ("max" : Str) && n == 1 then some .max1
  else if x == ("min" : Str) && n == 2 then some .min2 else if x == ("max" : Str) && n == 2 then some .max2
  else if x == ("abs" : Str) && n == 1 then some .abs else if x == ("sum" : Str) && n == 1 then some .sum else if x == ("dict" : Str) && n == 1 then some .dict
  else if x == ("repr" : Str) && n == 1 then some .repr else none
def isiOf (x : Str) : Option Prim :=
  if x == ("int" : Str) then some .isInt else if x == ("bool" : Str) then some .isBool else if x == ("str" : Str) then some .isStr
  else if x == ("tuple" : Str) then some .isTuple else if x == ("list" : Str) then some .isList else if x == ("dict" : Str) then some .isDict else none
def constOf : Const → Option PyData
  | .none => some .none
  | .bool b => some (.bool b)
  | .int i => some (.int i)
  | .str s => some (.str s)
  | _ => none
def mthOf (m : Str) (n : Nat) : Option Mth :=
  if m == ("count" : Str) && n == 1 then some .count else if m == ("index" : Str) && n == 1 then some .index else if m == ("get" : Str) && n == 1 then some .get1 else if m == ("get" : Str) && n == 2 then some .get2 else none
def isInit (c : Cc) (x : Str) : Option Nat := if c.glob x then find c.G.cls x else none
def blt (c : Cc) (x : Str) : Bool := c.glob x && (find c.G.fns x).isNone && (find c.G.cls x).isNone && (c.G.cst.lookup x).isNone
/-- an iterable that is walked -/
def mkList : List X → X
  | [] => .nil
  | x :: r => .cons x (mkList r)
mutual
def cT : Nat → Cc → Expr → Option T
  | 0, _, _ => none
  | n + 1, c, e => match e with
    | .Name x _ => (c.lslot x).map .v
    | .Tuple es _ _ => (cTs n c es).map .tup
    | _ => none
def cTs : Nat → Cc → List Expr → Option T
  | 0, _, _ => none
  | _ + 1, _, [] => some .nil
  | n + 1, c, e :: r => match cT n c e, cTs n c r with
    | some t, some ts => some (.cons t ts)
    | _, _ => none
end
/-- what a name that is called stands for -/
inductive Cal where
  | thunk | fn (f : Nat) | blt | bad
def Cc.cal (c : Cc) (x : Str) : Cal := if some x == c.par then .thunk else match (if c.glob x then find c.G.fns x else none) with
  | some f => .fn f
  | none => if blt c x then .blt else .bad
def isaOf (c : Cc) (t : Str) : Option Prim := if blt c t then isiOf t else none
def errOf (c : Cc) (t : Str) : Option (Option Nat) := match isInit c t with
  | some k => some (some k)
  | none => if blt c t && t == ("ValueError" : Str) then some none else none
mutual
def cE : Nat → Cc → Expr → X
  | 0, _, _ => .bad
  | n + 1, c, e => match e with
    | .Constant k _ _ => match constOf k with
      | some d => .cst d
      | none => .bad
    | .Name x _ => match c.slot x with
      | some i => .var i
      | none => match (if c.glob x then c.G.cst.lookup x else none) with
        | some d => .cst d
        | none => .bad
    | .BinOp a o b _ => match bopOf o with
      | some o => .bin o (cE n c a) (cE n c b)
      | none => .bad
    | .UnaryOp .USub a _ => .neg (cE n c a)
    | .UnaryOp .Not a _ => .not (cE n c a)
    | .BoolOp .And es _ => cAnd n c es
    | .BoolOp .Or es _ => cOr n c es
    | .Compare a [o] [b] _ => match isSetE b with
      | true => .bad
      | false => .cmp (copOf o) (cE n c a) (cE n c b)
    | .Compare a [o, p] [b, d] _ => match isSetE d with
      | true => .bad
      | false => .chain (copOf o) (copOf p) (cE n c a) (cE n c b) (cE n c d)
    | .IfExp t a b _ => .ite (cE n c t) (cE n c a) (cE n c b)
    | .Tuple es _ _ => .tup (cEs n c es)
    | .List es _ => .lst (cEs n c es)
    | .Dict [] [] _ => .dsp .nil .nil
    | .Dict [some k] [v] _ => .dsp (.cons (cE n c k) .nil) (.cons (cE n c v) .nil)
    | .Subscript a b _ => match b with
      | .Slice none none (some (.UnaryOp .USub (.Constant (.int 1) _ _) _)) _ => .rev (cE n c a)
      | .Slice lo hi none _ => .slice (cE n c a) (cO n c lo) (cO n c hi)
      | .Slice .. => .bad
      | b => .idx (cE n c a) (cE n c b)
    | .Attribute a f _ => match c.hot && some f == c.G.fld && !isCallE a with
      | true => .fld (cE n c a)
      | false => .bad
    | .ListComp elt [⟨tg, src, ifs, 0⟩] sc _ => match cT n { c with sc := sc, par := none } tg with
      | some t => match blkOkB c.N c.sc sc (tvs t) && !isSetE src with
        | true => .lc t (cSrc n c (isTupE tg) src) (cEs n { c with sc := sc, par := none } ifs) (cE n { c with sc := sc, par := none } elt)
        | false => .bad
      | none => .bad
    | .DictComp ke ve [⟨tg, src, ifs, 0⟩] sc _ => match cT n { c with sc := sc, par := none } tg with
      | some t => match blkOkB c.N c.sc sc (tvs t) && !isSetE src with
        | true => .dc t (cSrc n c (isTupE tg) src) (cEs n { c with sc := sc, par := none } ifs) (cE n { c with sc := sc, par := none } ke) (cE n { c with sc := sc, par := none } ve)
        | false => .bad
      | none => .bad
    | .Call f as [] p => match as.any isStarE with
      | true => .bad
      | false => match f with
        | .Name x _ => match c.cal x with
          | .thunk => match as with
            | [] => .thunk
            | _ => .bad
          | .fn f => match as with
            | [.Lambda ps body sc _] => match c.lam && (lamOkB c.sc sc ps || lamOkD c.N c.sc sc ps) && !isLam x with
              | true => .lam f (cE n { c with sc := sc, par := none, lam := false } body)
              | false => .bad
            | as => .call f (cEs n c as)
          | .blt => match as with
            | [a, .Name t _] => match x == ("isinstance" : Str) with
              | true => match isaOf c t with
                | some p => .prim p (.cons (cE n c a) .nil)
                | none => match (if c.hot then errOf c t else none) with
                  | some k => .isE (cE n c a) [k]
                  | none => .bad
              | false => match primOf x 2 with
                | some p => .prim p (cEs n c as)
                | none => .bad
            | [a, .Tuple [.Name t1 _, .Name t2 _] _ _] => match x == ("isinstance" : Str) && blt c t1 && t1 == ("tuple" : Str) && blt c t2 && t2 == ("list" : Str) with
              | true => .prim .isTL (.cons (cE n c a) .nil)
              | false => match primOf x 2 with
                | some p => .prim p (cEs n c as)
                | none => .bad
            | [.Call (.Name y _) bs [] _] => match (x == ("list" : Str) || x == ("tuple" : Str)) && blt c y && y == ("range" : Str) && !bs.any isStarE with
              | true => match bs with
                | [b] => .rngL (x == ("tuple" : Str)) (.sRng1 (cE n c b))
                | [b, d] => .rngL (x == ("tuple" : Str)) (.sRng2 (cE n c b) (cE n c d))
                | _ => .bad
              | false => match primOf x 1 with
                | some p => .prim p (cEs n c as)
                | none => .bad
            | as => match primOf x as.length with
              | some p => .prim p (cEs n c as)
              | none => .bad
          | .bad => .bad
        | .Attribute o m q => match isCallE o || !(q.endLine == p.line) with
          | true => .bad
          | false => match as with
            | [a] => match mthOf m 1 with
              | some k => .mth k (cE n c o) (.cons (cE n c a) .nil)
              | none => .bad
            | [a, b] => match mthOf m 2 with
              | some k => .mth k (cE n c o) (.cons (cE n c a) (.cons (cE n c b) .nil))
              | none => .bad
            | _ => .bad
        | _ => .bad
    | _ => .bad
def cO : Nat → Cc → Option Expr → X
  | 0, _, _ => .bad
  | _ + 1, _, none => .cst .none
  | n + 1, c, some e => cE n c e
def cEs : Nat → Cc → List Expr → X
  | 0, _, _ => .bad
  | _ + 1, _, [] => .nil
  | n + 1, c, e :: r => match isStarE e with
    | true => .bad
    | false => .cons (cE n c e) (cEs n c r)
def cAnd : Nat → Cc → List Expr → X
  | 0, _, _ => .bad
  | _ + 1, _, [] => .bad
  | n + 1, c, [e] => cE n c e
  | n + 1, c, e :: r => .and (cE n c e) (cAnd n c r)
def cOr : Nat → Cc → List Expr → X
  | 0, _, _ => .bad
  | _ + 1, _, [] => .bad
  | n + 1, c, [e] => cE n c e
  | n + 1, c, e :: r => .or (cE n c e) (cOr n c r)
/-- what is walked, whether into several names -/
def cSrc : Nat → Cc → Bool → Expr → X
  | 0, _, _, _ => .bad
  | n + 1, c, tp, e => match e with
    | .Call (.Name x _) as [] _ => match c.cal x, as.any isStarE with
      | .blt, false => match as with
        | [a] => match x == ("range" : Str) with
          | true => .sRng1 (cE n c a)
          | false => match tp && x == ("enumerate" : Str) with
            | true => .sEnum (cE n c a)
            | false => .sVal (cE n c e)
        | [a, b] => match x == ("range" : Str) with
          | true => .sRng2 (cE n c a) (cE n c b)
          | false => match tp && x == ("zip" : Str) with
            | true => .sZip (cE n c a) (cE n c b)
            | false => .sVal (cE n c e)
        | _ => .sVal (cE n c e)
      | _, _ => .sVal (cE n c e)
    | _ => .sVal (cE n c e)
end
def isNames (es : List Expr) : Bool := es.all fun e => match e with | .Name .. => true | _ => false
def cls1 (c : Cc) (e : Expr) : Option (Option Nat) := match e with
  | .Name t _ => errOf c t
  | _ => none
/-- a name that is handed back -/
def retOf (c : Cc) : Expr → Option Nat
  | .Name x _ => c.slot x
  | _ => none
def isSlE : Expr → Bool
  | .Slice .. => true
  | _ => false
/-- xs.append(e) -/
def appOf (c : Cc) : Expr → Option (Nat × Expr)
  | .Call (.Attribute (.Name x _) m q) [a] [] p => match c.slot x, m == ("append" : Str) && q.endLine == p.line && !isStarE a with
    | some i, true => some (i, a)
    | _, _ => none
  | _ => none
def extOf (c : Cc) : Expr → Option (Nat × Expr)
  | .Call (.Attribute (.Name x _) m q) [a] [] p => match c.slot x, m == ("extend" : Str) && q.endLine == p.line && !isStarE a with
    | some i, true => some (i, a)
    | _, _ => none
  | _ => none
def isDictC : Expr → Bool
  | .DictComp .. => true
  | _ => false
def isCompE : Expr → Bool
  | .ListComp .. | .SetComp .. | .DictComp .. => true
  | _ => false
/-- may e be told to the slot of the name t -/
def swapOk (c : Cc) (t : Str) (tp : Pos) : Expr → Bool
  | .ListComp _ _ sc p => kindOf c.sc t == some .local && tp.line == p.line && !(sc.names.any fun (n, k) => n == t && (k == .local || k == .cell))
  | _ => false
def isHs : S → Bool
  | .hnil => true
  | .hnd _ _ _ r => isHs r
  | _ => false
/-- two, three plain names on one line, that are told from the right -/
def parOk2 (x y : Str) (px py : Pos) (a b : Expr) : Bool := py.line == px.line && !(x == y) && !([a, b].all (foldedForSure 8)) && !([a, b].all (constantsAlone 8))
def parOk3 (x y z : Str) (px py pz : Pos) (a b c : Expr) : Bool := py.line == px.line && pz.line == px.line && !(x == y) && !(x == z) && !(y == z) && !([a, b, c].all (foldedForSure 8)) && !([a, b, c].all (constantsAlone 8))
def cPar2 (c : Cc) (f : Expr → X) (x y : Str) (px py : Pos) (a b : Expr) (e : Expr) : S := match c.lslot x, c.lslot y, isStarE a || isStarE b with
  | some i, some j, false => match kindOf c.sc x == some .local && kindOf c.sc y == some .local with
    | true => match parOk2 x y px py a b && !(i == j) with
      | true => match !(vars (f b)).contains i with
        | true => .seq (.set (.v i) (f a)) (.set (.v j) (f b))
        | false => .par (.cons (.var i) (.cons (.var j) .nil)) (.cons (f a) (.cons (f b) .nil))
      | false => .bad
    | false => match !(i == j) && !(vars (f b)).contains i with
      | true => .seq (.set (.v i) (f a)) (.set (.v j) (f b))
      | false => .set (.tup (.cons (.v i) (.cons (.v j) .nil))) (f e)
  | _, _, _ => .bad
def cPar3 (c : Cc) (f : Expr → X) (x y z : Str) (px py pz : Pos) (a b d : Expr) (e : Expr) : S := match c.lslot x, c.lslot y, c.lslot z, isStarE a || isStarE b || isStarE d with
  | some i, some j, some l, false => match kindOf c.sc x == some .local && kindOf c.sc y == some .local && kindOf c.sc z == some .local with
    | true => match parOk3 x y z px py pz a b d && !(i == j) && !(i == l) && !(j == l) && !(vars (f b)).contains i && !(vars (f d)).contains i && !(vars (f d)).contains j with
      | true => .seq (.set (.v i) (f a)) (.seq (.set (.v j) (f b)) (.set (.v l) (f d)))
      | false => .bad
    | false => match !(i == j) && !(i == l) && !(j == l) && !(vars (f b)).contains i && !(vars (f d)).contains i && !(vars (f d)).contains j with
      | true => .seq (.set (.v i) (f a)) (.seq (.set (.v j) (f b)) (.set (.v l) (f d)))
      | false => .set (.tup (.cons (.v i) (.cons (.v j) (.cons (.v l) .nil)))) (f e)
  | _, _, _, _ => .bad
def cPar (c : Cc) (f : Expr → X) (ts : List Expr) (e : Expr) : S := match c.hot with
  | true => .bad
  | false => match ts, e with
    | [.Name x px, .Name y py], .Tuple [a, b] _ _ => cPar2 c f x y px py a b e
    | [.Name x px, .Name y py, .Name z pz], .Tuple [a, b, d] _ _ => cPar3 c f x y z px py pz a b d e
    | _, _ => .bad
mutual
def cS : Nat → Cc → Stmt → S
  | 0, _, _ => .bad
  | n + 1, c, st => match st with
    | .Pass _ => .skip
    | .Break _ => .brk
    | .Continue _ => .cnt
    | .Expr e _ => match appOf c e with
      | some (i, a) => .app i (cE n c a)
      | none => match extOf c e with
        | some (i, a) => .ext i (cE n c a)
        | none => match isCompE e with
          | true => .bad
          | false => .expr (cE n c e)
    | .Return (some e) _ => match retOf c e with
      | some i => .retV i
      | none => .ret (cE n c e)
    | .Return none _ => .ret (.cst .none)
    | .Assign [tg] e _ => match tg with
      | .Subscript (.Name x _) k _ => match c.slot x, isSetE k || isSlE k || isCompE e with
        | some i, false => .sto i (cE n c k) (cE n c e)
        | _, _ => .bad
      | .Name x _ => match c.lslot x with
        | some i => match isDictC e with
          | true => .bad
          | false => .set (.v i) (cE n c e)
        | none => .bad
      | .Tuple ts _ _ => match isTupE e with
        | true => cPar c (cE n c) ts e
        | false => match cT n c tg, isCompE e with
          | some t, false => .set t (cE n c e)
          | _, _ => .bad
      | _ => .bad
    | .AugAssign (.Name x _) o e _ => match c.lslot x, bopOf o with
      | some i, some o => .aug i o (cE n c e)
      | _, _ => .bad
    | .AugAssign (.Subscript (.Name x _) k _) o e _ => match c.hot, c.slot x, bopOf o, isSlE k with
      | false, some i, some o, false => .stoA i (cE n c k) o (cE n c e)
      | _, _, _, _ => .bad
    | .If t a b _ => .ite (cE n c t) (cB n c a) (cB n c b)
    | .While t b [] _ => .whl (cE n c t) (cB n c b)
    | .For tg src b [] _ => match cT n c tg, isSetE src with
      | some t, false => .frr t (cSrc n c (isTupE tg) src) (cB n c b)
      | _, _ => .bad
    | .Raise (some (.Call (.Name x _) as [] _)) none _ => match isInit c x with
      | some k => match as, c.G.ini.getD k true with
        | [], false => .raise k .nil
        | _, _ => .bad
      | none => .bad
    | .Try b hs [] [] _ => match c.hot, isHs (cH n c hs), hs with
      | false, true, _ :: _ => .try1 (cB n c b) (cH n c hs)
      | _, _, _ => .bad
    | _ => .bad
def cB : Nat → Cc → List Stmt → S
  | 0, _, _ => .bad
  | _ + 1, _, [] => .skip
  | n + 1, c, [s] => cS n c s
  | n + 1, c, s :: r => .seq (cS n c s) (cB n c r)
def cH : Nat → Cc → List ExceptHandler → S
  | 0, _, _ => .bad
  | _ + 1, _, [] => .hnil
  | n + 1, c, .ExceptHandler (some t) (some x) (b0 :: bs) _ :: r => match cls1 c t, c.slot x, kindOf c.sc x == some .local with
    | some k, some i, true => .hnd k i (cB n { c with hot := true, par := none } (b0 :: bs)) (cH n c r)
    | _, _, _ => .bad
  | _ + 1, _, _ => .bad
end
/-! ### names of a def by slot -/
mutual
def nE : Nat → Expr → List Str
  | 0, _ => []
  | n + 1, e => match e with
    | .BoolOp _ es _ => nEs n es
    | .BinOp a _ b _ => nE n a ++ nE n b
    | .UnaryOp _ a _ => nE n a
    | .Lambda _ b _ _ => nE n b
    | .IfExp a b c _ => nE n a ++ nE n b ++ nE n c
    | .Dict ks vs _ => (ks.flatMap fun k => match k with | some e => nE n e | none => []) ++ nEs n vs
    | .ListComp e gs sc _ => (sc.names.filterMap fun p => if (p.2 == .local || p.2 == .cell) && !(p.1 == (".0" : Str)) then some p.1 else none) ++ nE n e ++ gs.flatMap fun g => nE n g.iter ++ nEs n g.ifs
    | .DictComp e f gs sc _ => (sc.names.filterMap fun p => if (p.2 == .local || p.2 == .cell) && !(p.1 == (".0" : Str)) then some p.1 else none) ++ nE n e ++ nE n f ++ gs.flatMap fun g => nE n g.iter ++ nEs n g.ifs
    | .Compare a _ bs _ => nE n a ++ nEs n bs
    | .Call f as _ _ => nE n f ++ nEs n as
    | .Attribute a _ _ => nE n a
    | .Subscript a b _ => nE n a ++ nE n b
    | .Slice a b c _ => nO n a ++ nO n b ++ nO n c
    | .List es _ => nEs n es
    | .Tuple es _ _ => nEs n es
    | _ => []
def nO : Nat → Option Expr → List Str
  | 0, _ => []
  | _ + 1, none => []
  | n + 1, some e => nE n e
def nEs : Nat → List Expr → List Str
  | 0, _ => []
  | _ + 1, [] => []
  | n + 1, e :: r => nE n e ++ nEs n r
end
mutual
def nS : Nat → Stmt → List Str
  | 0, _ => []
  | n + 1, st => match st with
    | .Return e _ => nO n e
    | .Assign ts e _ => nEs n ts ++ nE n e
    | .AugAssign t _ e _ => nE n t ++ nE n e
    | .For t e b _ _ => nE n t ++ nE n e ++ nSs n b
    | .While t b _ _ => nE n t ++ nSs n b
    | .If t a b _ => nE n t ++ nSs n a ++ nSs n b
    | .Raise e _ _ => nO n e
    | .Try b hs _ _ _ => nSs n b ++ hs.flatMap fun h => match h with | .ExceptHandler _ _ b _ => nSs n b
    | .Expr e _ => nE n e
    | _ => []
def nSs : Nat → List Stmt → List Str
  | 0, _ => []
  | _ + 1, [] => []
  | n + 1, s :: r => nS n s ++ nSs n r
end
def namesOf (ps : List Str) (sc : Scope) (b : List Stmt) : List Str :=
  (ps ++ (sc.names.filterMap fun p => if p.2 == .local || p.2 == .cell then some p.1 else none) ++ nSs 60 b).eraseDups
/-- a def, as written -/
structure Sd where
  x : Str
  pa : Arguments
  b : List Stmt
  sc : Scope
def sdOf : Stmt → Option Sd
  | .FunctionDef f a b _ _ _ sc _ _ _ => some ⟨f, a, b, sc⟩
  | _ => none
def sds (B : List Stmt) : List Sd := B.filterMap sdOf
def Sd.ps (s : Sd) : List Str := s.pa.args.map (·.arg)
def Sd.N (s : Sd) : List Str := namesOf s.ps s.sc s.b
def parOf (ps : List Str) : Option Str := match ps with
  | [p] => if p == ("call" : Str) then some p else none
  | _ => none
def Sd.cc (s : Sd) (G : Top) : Cc := ⟨G, s.N, s.sc, parOf s.ps, isLam s.x, false⟩
def Sd.fn (s : Sd) (G : Top) : Fn := ⟨s.ps.length, s.N.length, cB 60 (s.cc G) s.b⟩
def topOf (b : List Stmt) : Top where
  fns := (sds b).map (·.x)
  cls := b.filterMap fun s => match s with | .ClassDef f .. => some f | _ => none
  cst := b.filterMap fun s => match s with
    | .Assign [.Name x _] (.Constant k _ _) _ => if x == ("__name__" : Str) then none else (constOf k).map fun d => (x, d)
    | _ => none
  fld := b.findSome? fun s => match s with
    | .ClassDef _ _ _ (.FunctionDef _ ⟨[], [_, m], _, _, _, _, _⟩ _ _ _ _ _ _ _ _ :: _) _ _ _ _ _ _ _ => some m.arg
    | _ => none
  ini := b.filterMap fun s => match s with
    | .ClassDef _ _ _ (.FunctionDef .. :: _) _ _ _ _ _ _ _ => some true
    | .ClassDef .. => some false
    | _ => none
def progOf (b : List Stmt) : List (Str × Fn) := (sds b).map fun s => (s.x, s.fn (topOf b))
def bads : X → Nat
  | .bad => 1
  | .cons a b | .bin _ a b | .and a b | .or a b | .cmp _ a b | .idx a b | .sRng2 a b | .sZip a b | .mth _ a b | .dsp a b => bads a + bads b
  | .neg a | .not a | .tup a | .lst a | .rev a | .fld a | .isE a _ | .rngL _ a | .sVal a | .sRng1 a | .sEnum a | .sItems a | .sVals a | .call _ a | .prim _ a | .lam _ a => bads a
  | .chain _ _ a b c | .ite a b c | .slice a b c | .sRng3 a b c | .lc _ a b c => bads a + bads b + bads c
  | .chain3 _ _ _ a b c d | .dc _ a b c d => bads a + bads b + bads c + bads d
  | _ => 0
def badS : S → Nat
  | .bad => 1
  | .seq a b => badS a + badS b
  | .set _ e | .aug _ _ e | .app _ e | .ext _ e | .upd _ e | .popA _ _ e | .popE _ e | .appPop _ _ e | .expr e | .ret e | .raise _ e => bads e
  | .par a b => bads a + bads b
  | .sto _ a b | .stoA _ a _ b => bads a + bads b
  | .ite c a b => bads c + badS a + badS b
  | .whl c b => bads c + badS b
  | .frr _ s b => bads s + badS b
  | .try1 a b => badS a + badS b
  | .hnd _ _ a b => badS a + badS b
  | _ => 0
/-- the law, from its script -/
def runLaw (b : List Stmt) (ns : List Int) : String :=
  let P := progOf b
  let fs := P.map (·.2)
  match find (P.map (·.1)) ("_law_hand" : Str), find (P.map (·.1)) ("law" : Str) with
  | some fh, some fl => match evF fs 100000 200 fh [.scr (ns.map .int)] (fun _ => .no) [] with
    | .ok (.d (.list hs), _) _ => match fs[fl]? with
      | some fn => match fn.body with
        | .seq (.set (.v i) _) rest => match evS (evF fs 100000 200) (fun _ => .no) false 100000 rest ((start fn.n [.scr (ns.map .int)]).set i (some (.hand, false))) hs with
          | .ok (.rt (.d (.bool r)) _, _) _ => s!"bool {r}"
          | .ok _ _ => "ok other"
          | .ex c _ _ => s!"ex {c}"
          | .no => "NO"
        | _ => "law body form"
      | none => "?"
    | _ => "hand NO"
  | _, _ => "no law"
end Pv
/-! text S1 -/
set_option autoImplicit false
set_option Elab.async false
set_option linter.all false
set_option maxRecDepth 100000
namespace Pv
open PySem PySem.Spec PyProof.Rows L2

/-! ### data in the abstract heap -/
/-- a key of a dict of numbers and texts -/
def keyK : PyData → Option Key
  | .int i => some (.inl i)
  | .str x => some (.inr x)
  | _ => none
def dK : Key → PyData
  | .inl i => .int i
  | .inr x => .str x
mutual
/-- in the heap H the value x is the data d; no list, no dict of it stands at an address in A -/
def DRep (H : Hp) (A : Addr → Prop) : PyData → V → Prop
  | .none, x => x = .non
  | .bool b, x => x = .bl b
  | .int i, x => x = .int i
  | .str s, x => x = .str s
  | .tuple ds, x => ∃ a vs, x = .ref a ∧ H a = some (.tup vs) ∧ DRepL H A ds vs
  | .list ds, x => ∃ a vs, x = .ref a ∧ ¬ A a ∧ H a = some (.lst vs) ∧ DRepL H A ds vs
  | .dict kvs, x => ∃ a, x = .ref a ∧ ¬ A a ∧ ((∃ ks, H a = some (.dK ks) ∧ DRepK H A kvs ks) ∨ ∃ ks, (H a = some (.dT ks) ∧ ks ≠ []) ∧ DRepT H A kvs ks)
def DRepL (H : Hp) (A : Addr → Prop) : List PyData → List V → Prop
  | [], vs => vs = []
  | d :: ds, vs => ∃ v r, vs = v :: r ∧ DRep H A d v ∧ DRepL H A ds r
def DRepK (H : Hp) (A : Addr → Prop) : List (PyData × PyData) → List (Key × V) → Prop
  | [], ks => ks = []
  | (k, d) :: r, ks => ∃ j v t, ks = (j, v) :: t ∧ k = dK j ∧ DRep H A d v ∧ DRepK H A r t
def DRepT (H : Hp) (A : Addr → Prop) : List (PyData × PyData) → List (List Key × V) → Prop
  | [], ks => ks = []
  | (k, d) :: r, ks => ∃ j v t, ks = (j, v) :: t ∧ k = .tuple (j.map dK) ∧ DRep H A d v ∧ DRepT H A r t
end

/-- a thing stands there, no table -/
def NT (H : Hp) (b : Addr) : Prop := ∃ o, H b = some o ∧ ∀ ps, o ≠ .tbl ps
theorem NT.of {H : Hp} {b : Addr} {o : HO} (e : H b = some o) (h : ∀ ps, o ≠ .tbl ps) : NT H b := ⟨o, e, h⟩
theorem NT.non {H : Hp} {b : Addr} (h : H b = none) : ¬ NT H b := fun ⟨_, e, _⟩ => by rw [h] at e; cases e
/-- from H to H': all stands but tables and the list at hd -/
structure Ext (hd : Option Addr) (H H' : Hp) : Prop where
  keep : ∀ b o, H b = some o → (∀ ps, o ≠ .tbl ps) → (hd ≠ some b) → H' b = some o
  dom : ∀ b, NT H b → NT H' b
theorem Ext.refl {hd : Option Addr} (H : Hp) : Ext hd H H := ⟨fun _ _ e _ _ => e, fun _ e => e⟩
theorem Ext.trans {hd : Option Addr} {H H1 H2 : Hp} (a : Ext hd H H1) (b : Ext hd H1 H2) : Ext hd H H2 :=
  ⟨fun c o e n q => b.keep c o (a.keep c o e n q) n q, fun c e => b.dom c (a.dom c e)⟩
theorem Ext.of_same {hd : Option Addr} {H H' : Hp} (s : ∀ b o, H b = some o → H' b = some o) : Ext hd H H' := ⟨fun b u e _ _ => s b u e, fun b ⟨o, e, n⟩ => ⟨o, s b o e, n⟩⟩
theorem Ext.upd {hd : Option Addr} {H : Hp} {a : Addr} {o : HO} (h : H a = none) : Ext hd H (upd H a o) := Ext.of_same fun b u e => by rw [upd_ne (ne_of_none e h)]; exact e
/-- the hand's list, and nothing else, is told by the wish -/
structure HdIn (hd : Option Addr) (A : Addr → Prop) (H : Hp) : Prop where
  hd : ∀ b, hd = some b → A b ∧ ∃ vs, H b = some (.lst vs)

mutual
theorem DRep.mono {H H' : Hp} {A A' : Addr → Prop} (hA : ∀ b, A' b → A b) (ht : ∀ b vs, H b = some (.tup vs) → H' b = some (.tup vs))
    (hm : ∀ b o, ¬ A b → H b = some o → (∀ ps, o ≠ .tbl ps) → H' b = some o) : ∀ (d : PyData) (x : V), DRep H A d x → DRep H' A' d x
  | .none, x, h => h
  | .bool _, x, h => h
  | .int _, x, h => h
  | .str _, x, h => h
  | .tuple ds, x, h => by
    obtain ⟨a, vs, e, h1, h2⟩ := h
    exact ⟨a, vs, e, ht _ _ h1, DRepL.mono hA ht hm ds vs h2⟩
  | .list ds, x, h => by
    obtain ⟨a, vs, e, n, h1, h2⟩ := h
    exact ⟨a, vs, e, fun q => n (hA _ q), hm _ _ n h1 (fun ps q => by cases q), DRepL.mono hA ht hm ds vs h2⟩
  | .dict kvs, x, h => by
    obtain ⟨a, e, n, h1⟩ := h
    refine ⟨a, e, fun q => n (hA _ q), ?_⟩
    rcases h1 with ⟨ks, h1, h2⟩ | ⟨ks, h1, h2⟩
    · exact .inl ⟨ks, hm _ _ n h1 (fun ps q => by cases q), DRepK.mono hA ht hm kvs ks h2⟩
    · exact .inr ⟨ks, ⟨hm _ _ n h1.1 (fun ps q => by cases q), h1.2⟩, DRepT.mono hA ht hm kvs ks h2⟩
theorem DRepL.mono {H H' : Hp} {A A' : Addr → Prop} (hA : ∀ b, A' b → A b) (ht : ∀ b vs, H b = some (.tup vs) → H' b = some (.tup vs))
    (hm : ∀ b o, ¬ A b → H b = some o → (∀ ps, o ≠ .tbl ps) → H' b = some o) : ∀ (ds : List PyData) (vs : List V), DRepL H A ds vs → DRepL H' A' ds vs
  | [], vs, h => h
  | d :: ds, vs, h => by
    obtain ⟨v, r, e, h1, h2⟩ := h
    exact ⟨v, r, e, DRep.mono hA ht hm d v h1, DRepL.mono hA ht hm ds r h2⟩
theorem DRepK.mono {H H' : Hp} {A A' : Addr → Prop} (hA : ∀ b, A' b → A b) (ht : ∀ b vs, H b = some (.tup vs) → H' b = some (.tup vs))
    (hm : ∀ b o, ¬ A b → H b = some o → (∀ ps, o ≠ .tbl ps) → H' b = some o) : ∀ (ds : List (PyData × PyData)) (vs : List (Key × V)), DRepK H A ds vs → DRepK H' A' ds vs
  | [], vs, h => h
  | (k, d) :: ds, vs, h => by
    obtain ⟨j, v, t, e, e2, h1, h2⟩ := h
    exact ⟨j, v, t, e, e2, DRep.mono hA ht hm d v h1, DRepK.mono hA ht hm ds t h2⟩
theorem DRepT.mono {H H' : Hp} {A A' : Addr → Prop} (hA : ∀ b, A' b → A b) (ht : ∀ b vs, H b = some (.tup vs) → H' b = some (.tup vs))
    (hm : ∀ b o, ¬ A b → H b = some o → (∀ ps, o ≠ .tbl ps) → H' b = some o) : ∀ (ds : List (PyData × PyData)) (vs : List (List Key × V)), DRepT H A ds vs → DRepT H' A' ds vs
  | [], vs, h => h
  | (k, d) :: ds, vs, h => by
    obtain ⟨j, v, t, e, e2, h1, h2⟩ := h
    exact ⟨j, v, t, e, e2, DRep.mono hA ht hm d v h1, DRepT.mono hA ht hm ds t h2⟩
end
theorem Ext.tup {hd : Option Addr} {A : Addr → Prop} {H H' : Hp} (x : Ext hd H H') (w : HdIn hd A H) : ∀ b vs, H b = some (.tup vs) → H' b = some (.tup vs) := fun b vs e =>
  x.keep b _ e (fun ps q => by cases q) fun q => by
    obtain ⟨_, us, h⟩ := w.hd b q
    rw [h] at e; cases e
theorem Ext.mut {hd : Option Addr} {A : Addr → Prop} {H H' : Hp} (x : Ext hd H H') (w : HdIn hd A H) : ∀ b o, ¬ A b → H b = some o → (∀ ps, o ≠ .tbl ps) → H' b = some o := fun b o n e q =>
  x.keep b o e q fun z => n (w.hd b z).1
theorem DRep.ext {hd : Option Addr} {A : Addr → Prop} {H H' : Hp} (x : Ext hd H H') (w : HdIn hd A H) {d : PyData} {v : V} (h : DRep H A d v) : DRep H' A d v :=
  DRep.mono (fun _ q => q) (x.tup w) (x.mut w) d v h
theorem DRepL.ext {hd : Option Addr} {A : Addr → Prop} {H H' : Hp} (x : Ext hd H H') (w : HdIn hd A H) {d : List PyData} {v : List V} (h : DRepL H A d v) : DRepL H' A d v :=
  DRepL.mono (fun _ q => q) (x.tup w) (x.mut w) d v h
mutual
/-- what stands may avoid more: what does not stand -/
theorem DRep.wide {H : Hp} {A A' : Addr → Prop} (hA : ∀ b, NT H b → A' b → A b) : ∀ (d : PyData) (x : V), DRep H A d x → DRep H A' d x
  | .none, x, h => h
  | .bool _, x, h => h
  | .int _, x, h => h
  | .str _, x, h => h
  | .tuple ds, x, h => by
    obtain ⟨a, vs, e, h1, h2⟩ := h
    exact ⟨a, vs, e, h1, DRepL.wide hA ds vs h2⟩
  | .list ds, x, h => by
    obtain ⟨a, vs, e, n, h1, h2⟩ := h
    exact ⟨a, vs, e, fun q => n (hA _ (.of h1 fun ps q => by cases q) q), h1, DRepL.wide hA ds vs h2⟩
  | .dict kvs, x, h => by
    obtain ⟨a, e, n, h1⟩ := h
    rcases h1 with ⟨ks, h1, h2⟩ | ⟨ks, h1, h2⟩
    · exact ⟨a, e, fun q => n (hA _ (.of h1 fun ps q => by cases q) q), .inl ⟨ks, h1, DRepK.wide hA kvs ks h2⟩⟩
    · exact ⟨a, e, fun q => n (hA _ (.of h1.1 fun ps q => by cases q) q), .inr ⟨ks, h1, DRepT.wide hA kvs ks h2⟩⟩
theorem DRepL.wide {H : Hp} {A A' : Addr → Prop} (hA : ∀ b, NT H b → A' b → A b) : ∀ (ds : List PyData) (vs : List V), DRepL H A ds vs → DRepL H A' ds vs
  | [], vs, h => h
  | d :: ds, vs, h => by
    obtain ⟨v, r, e, h1, h2⟩ := h
    exact ⟨v, r, e, DRep.wide hA d v h1, DRepL.wide hA ds r h2⟩
theorem DRepK.wide {H : Hp} {A A' : Addr → Prop} (hA : ∀ b, NT H b → A' b → A b) : ∀ (ds : List (PyData × PyData)) (vs : List (Key × V)), DRepK H A ds vs → DRepK H A' ds vs
  | [], vs, h => h
  | (k, d) :: ds, vs, h => by
    obtain ⟨j, v, t, e, e2, h1, h2⟩ := h
    exact ⟨j, v, t, e, e2, DRep.wide hA d v h1, DRepK.wide hA ds t h2⟩
theorem DRepT.wide {H : Hp} {A A' : Addr → Prop} (hA : ∀ b, NT H b → A' b → A b) : ∀ (ds : List (PyData × PyData)) (vs : List (List Key × V)), DRepT H A ds vs → DRepT H A' ds vs
  | [], vs, h => h
  | (k, d) :: ds, vs, h => by
    obtain ⟨j, v, t, e, e2, h1, h2⟩ := h
    exact ⟨j, v, t, e, e2, DRep.wide hA d v h1, DRepT.wide hA ds t h2⟩
end
mutual
/-- what has no list within avoids everything -/
theorem DRep.imm {H : Hp} {A A' : Addr → Prop} : ∀ (d : PyData) (x : V), imm d = true → DRep H A d x → DRep H A' d x
  | .none, x, _, h => h
  | .bool _, x, _, h => h
  | .int _, x, _, h => h
  | .str _, x, _, h => h
  | .tuple ds, x, q, h => by
    obtain ⟨a, vs, e, h1, h2⟩ := h
    exact ⟨a, vs, e, h1, DRepL.imm ds vs (by simpa [Pv.imm] using q) h2⟩
  | .list _, x, q, h => by simp [Pv.imm] at q
  | .dict _, x, q, h => by simp [Pv.imm] at q
theorem DRepL.imm {H : Hp} {A A' : Addr → Prop} : ∀ (d : List PyData) (x : List V), immAll d = true → DRepL H A d x → DRepL H A' d x
  | [], x, _, h => h
  | d :: ds, vs, q, h => by
    obtain ⟨v, r, e, h1, h2⟩ := h
    have q' : Pv.imm d = true ∧ immAll ds = true := by simpa [Pv.immAll] using q
    exact ⟨v, r, e, DRep.imm d v q'.1 h1, DRepL.imm ds r q'.2 h2⟩
end
theorem DRepL.length {H : Hp} {A : Addr → Prop} : ∀ {ds : List PyData} {vs : List V}, DRepL H A ds vs → vs.length = ds.length
  | [], vs, h => by
    have h : vs = [] := h
    subst h; rfl
  | d :: ds, vs, h => by
    obtain ⟨v, r, e, h1, h2⟩ := h
    subst e
    simp [DRepL.length h2]
theorem DRepL.append {H : Hp} {A : Addr → Prop} : ∀ {ds es : List PyData} {vs us : List V}, DRepL H A ds vs → DRepL H A es us → DRepL H A (ds ++ es) (vs ++ us)
  | [], es, vs, us, h, k => by
    have h : vs = [] := h
    subst h; exact k
  | d :: ds, es, vs, us, h, k => by
    obtain ⟨v, r, e, h1, h2⟩ := h
    subst e
    exact ⟨v, r ++ us, rfl, h1, h2.append k⟩
theorem DRepL.get {H : Hp} {A : Addr → Prop} : ∀ {ds : List PyData} {vs : List V} {i : Nat} {d : PyData}, DRepL H A ds vs → ds[i]? = some d → ∃ v, vs[i]? = some v ∧ DRep H A d v
  | [], vs, i, d, h, e => by simp at e
  | c :: ds, vs, 0, d, h, e => by
    obtain ⟨v, r, q, h1, h2⟩ := h
    simp at e
    subst e q
    exact ⟨v, rfl, h1⟩
  | c :: ds, vs, i + 1, d, h, e => by
    obtain ⟨v, r, q, h1, h2⟩ := h
    subst q
    simp at e
    obtain ⟨u, a, b⟩ := DRepL.get h2 e
    exact ⟨u, by simpa using a, b⟩
theorem DRepL.get' {H : Hp} {A : Addr → Prop} {ds : List PyData} {vs : List V} {i : Nat} {v : V} (h : DRepL H A ds vs) (e : vs[i]? = some v) : ∃ d, ds[i]? = some d ∧ DRep H A d v := by
  have hi : i < ds.length := by
    have := (List.getElem?_eq_some_iff.mp e).1
    rw [h.length] at this
    exact this
  obtain ⟨u, a, b⟩ := h.get (List.getElem?_eq_getElem hi)
  rw [e] at a
  cases a
  exact ⟨_, List.getElem?_eq_getElem hi, b⟩

/-! ### data in the heap itself -/
section
variable {P : Program} {w : World} {H : Hp} {h : Heap}
theorem pairs_rel {es : List DictEntry} {vs : List (Key × Value)} (p : Pairs (mixKind P w) es vs) : ∀ {ks : List (Key × V)}, KV ks vs →
    Paired (fun (p : Key × V) (q : DictEntry) => RelV (kV p.1) q.key ∧ RelV p.2 q.val) ks es := by
  induction p with
  | nil => intro ks r; cases r; exact .nil
  | cons hk hv _ ih =>
    intro ks r
    cases r with
    | cons a b =>
      obtain ⟨e1, e2⟩ := a
      refine .cons ⟨?_, by rw [hv]; exact e2⟩ (ih b)
      rw [e1]
      rcases keyIs_shape hk with ⟨i, t, q1, q2⟩ | ⟨x, t, q1, q2⟩
      · rw [q1, q2]; exact ⟨t, rfl⟩
      · rw [q1, q2]; exact ⟨t, rfl⟩
theorem dk_reads {a : Addr} {ks : List (Key × V)} (ok : HOk P w H h) (e : H a = some (.dK ks)) : ∃ (o : Obj) (es : Array DictEntry) (ep : Nat), h.get? a = some o ∧ o.cls = .type "dict" ∧ o.data = .dict es ep ∧
    Paired (fun (p : Key × V) (q : DictEntry) => RelV (kV p.1) q.key ∧ RelV p.2 q.val) ks es.toList := by
  obtain ⟨_, _, vs, r, o, es, ep, ho, hx, hd, _, hp, _⟩ := ok a _ e
  exact ⟨o, es, ep, ho, hx.1, hd, pairs_rel hp r⟩
theorem dt_reads {a : Addr} {ks : List (List Key × V)} (ok : HOk P w H h) (e : H a = some (.dT ks)) : ∃ (o : Obj) (es : Array DictEntry) (ep : Nat), h.get? a = some o ∧ o.cls = .type "dict" ∧ o.data = .dict es ep ∧
    Paired (fun (p : List Key × V) (q : DictEntry) => (∃ b, q.key = .ref b ∧ H b = some (.tup (p.1.map kV))) ∧ RelV p.2 q.val) ks es.toList := by
  obtain ⟨_, _, xs, r, o, es, ep, ho, hx, hd, he, _⟩ := ok a _ e
  refine ⟨o, es, ep, ho, hx.1, hd, ?_⟩
  rw [he]
  clear he hd e
  have z : ∀ {l1 : List (List Key × V)} {l2 : List (List Key × Addr × Value)}, Paired (fun (p : List Key × V) (q : List Key × Addr × Value) => p.1 = q.1 ∧ H q.2.1 = some (.tup (p.1.map kV)) ∧ RelV p.2 q.2.2) l1 l2 →
      Paired (fun (p : List Key × V) (q : DictEntry) => (∃ b, q.key = .ref b ∧ H b = some (.tup (p.1.map kV))) ∧ RelV p.2 q.val) l1 (l2.map (entryOfKey (tupleKind (mixKind P w)))) := by
    intro l1 l2 q
    induction q with
    | nil => exact .nil
    | cons p _ ih => exact .cons ⟨⟨_, rfl, p.2.1⟩, p.2.2⟩ ih
  exact z r
mutual
theorem DRep.reads (ok : HOk P w H h) {A : Addr → Prop} : ∀ (d : PyData) (x : V) (u : Value), DRep H A d x → RelV x u → ∃ as, Reads h u d as
  | .none, x, u, e, r => by
    have e : x = .non := e
    subst e
    cases r
    exact ⟨_, .none⟩
  | .bool b, x, u, e, r => by
    have e : x = .bl b := e
    subst e
    cases r
    exact ⟨_, .bool b⟩
  | .int i, x, u, e, r => by
    have e : x = .int i := e
    subst e
    obtain ⟨t, rfl⟩ := r
    exact ⟨_, .int i t⟩
  | .str s, x, u, e, r => by
    have e : x = .str s := e
    subst e
    obtain ⟨t, rfl⟩ := r
    exact ⟨_, .str s t⟩
  | .tuple ds, x, u, e, r => by
    obtain ⟨a, vs, e, h1, h2⟩ := e
    subst e
    cases r
    obtain ⟨_, its, rv, o, ho, hc, n, hd⟩ := ok a _ h1
    obtain ⟨as, q⟩ := DRepL.reads ok ds vs its h2 rv
    exact ⟨as, .tuple ho hc hd (by simpa using q)⟩
  | .list ds, x, u, e, r => by
    obtain ⟨a, vs, e, _, h1, h2⟩ := e
    subst e
    cases r
    obtain ⟨_, its, n, rv, ho⟩ := ok a _ h1
    obtain ⟨as, q⟩ := DRepL.reads ok ds vs its h2 rv
    exact ⟨_, .list ho rfl rfl (by simpa using q)⟩
  | .dict kvs, x, u, e, r => by
    obtain ⟨a, e, _, h1⟩ := e
    subst e
    cases r
    rcases h1 with ⟨ks, h1, h2⟩ | ⟨ks, h1, h2⟩
    · obtain ⟨o, es, ep, ho, hc, hd, hp⟩ := dk_reads ok h1
      obtain ⟨as, bs, q1, q2⟩ := DRepK.reads ok kvs ks es.toList h2 hp
      exact ⟨_, .dict ho hc hd q1 q2⟩
    · obtain ⟨o, es, ep, ho, hc, hd, hp⟩ := dt_reads ok h1.1
      obtain ⟨as, bs, q1, q2⟩ := DRepT.reads ok kvs ks es.toList h2 hp
      exact ⟨_, .dict ho hc hd q1 q2⟩
theorem DRepL.reads (ok : HOk P w H h) {A : Addr → Prop} : ∀ (ds : List PyData) (vs : List V) (us : List Value), DRepL H A ds vs → Vals vs us → ∃ as, ReadsAll h us ds as
  | [], vs, us, e, r => by
    have e : vs = [] := e
    subst e
    cases r
    exact ⟨_, .nil⟩
  | d :: ds, vs, us, e, r => by
    obtain ⟨v, t, e, h1, h2⟩ := e
    subst e
    cases r with
    | cons r1 r2 =>
      obtain ⟨as, q1⟩ := DRep.reads ok d v _ h1 r1
      obtain ⟨bs, q2⟩ := DRepL.reads ok ds t _ h2 r2
      exact ⟨_, .cons q1 q2⟩
theorem DRepK.reads (ok : HOk P w H h) {A : Addr → Prop} : ∀ (kvs : List (PyData × PyData)) (ks : List (Key × V)) (es : List DictEntry), DRepK H A kvs ks →
    Paired (fun (p : Key × V) (q : DictEntry) => RelV (kV p.1) q.key ∧ RelV p.2 q.val) ks es → ∃ as bs, ReadsAll h (es.map (·.key)) (kvs.map (·.1)) as ∧ ReadsAll h (es.map (·.val)) (kvs.map (·.2)) bs
  | [], ks, es, e, r => by
    have e : ks = [] := e
    subst e
    cases r
    exact ⟨_, _, .nil, .nil⟩
  | (k, d) :: kvs, ks, es, e, r => by
    obtain ⟨j, v, t, e, ek, h1, h2⟩ := e
    subst e
    cases r with
    | @cons _ en _ _ r1 r2 =>
      obtain ⟨as, q1⟩ := DRep.reads ok d v _ h1 r1.2
      obtain ⟨bs, cs, q2, q3⟩ := DRepK.reads ok kvs t _ h2 r2
      have qk : ∃ as, Reads h en.key k as := by
        have z := r1.1
        subst ek
        cases j with
        | inl i => obtain ⟨tk, e⟩ := z; rw [e]; exact ⟨_, .int i tk⟩
        | inr x => obtain ⟨tk, e⟩ := z; rw [e]; exact ⟨_, .str x tk⟩
      obtain ⟨ds, q4⟩ := qk
      exact ⟨_, _, .cons q4 q2, .cons q1 q3⟩
theorem DRepT.reads (ok : HOk P w H h) {A : Addr → Prop} : ∀ (kvs : List (PyData × PyData)) (ks : List (List Key × V)) (es : List DictEntry), DRepT H A kvs ks →
    Paired (fun (p : List Key × V) (q : DictEntry) => (∃ b, q.key = .ref b ∧ H b = some (.tup (p.1.map kV))) ∧ RelV p.2 q.val) ks es → ∃ as bs, ReadsAll h (es.map (·.key)) (kvs.map (·.1)) as ∧ ReadsAll h (es.map (·.val)) (kvs.map (·.2)) bs
  | [], ks, es, e, r => by
    have e : ks = [] := e
    subst e
    cases r
    exact ⟨_, _, .nil, .nil⟩
  | (k, d) :: kvs, ks, es, e, r => by
    obtain ⟨j, v, t, e, ek, h1, h2⟩ := e
    subst e
    cases r with
    | cons r1 r2 =>
      obtain ⟨as, q1⟩ := DRep.reads ok d v _ h1 r1.2
      obtain ⟨bs, cs, q2, q3⟩ := DRepT.reads ok kvs t _ h2 r2
      obtain ⟨⟨b, eb, hb⟩, _⟩ := r1
      have qk : ∃ as, Reads h (.ref b) k as := by
        subst ek
        obtain ⟨_, its, rv, o, ho, hc, n, hd⟩ := ok b _ hb
        have z : ∀ (js : List Key) (us : List Value), Vals (js.map kV) us → ∃ as, ReadsAll h us (js.map dK) as := by
          intro js
          induction js with
          | nil => intro us r; cases r; exact ⟨_, .nil⟩
          | cons j js ih =>
            intro us r
            cases r with
            | cons a b =>
              obtain ⟨as, q⟩ := ih _ b
              cases j with
              | inl i => obtain ⟨tk, e⟩ := a; rw [e]; exact ⟨_, .cons (.int i tk) q⟩
              | inr x => obtain ⟨tk, e⟩ := a; rw [e]; exact ⟨_, .cons (.str x tk) q⟩
        obtain ⟨as, q⟩ := z j its rv
        exact ⟨as, .tuple ho hc hd (by simpa using q)⟩
      obtain ⟨ds, q4⟩ := qk
      refine ⟨ds ++ bs, as ++ cs, ?_, .cons q1 q3⟩
      rw [← eb] at q4
      exact .cons q4 q2
end
end
end Pv
/-! text S2 -/
set_option autoImplicit false
set_option Elab.async false
set_option linter.all false
set_option maxRecDepth 100000
namespace Pv
open PySem PySem.Spec PyProof.Rows L2

/-! ### operators on data -/
abbrev Dom (A : Addr → Prop) (H : Hp) : Prop := ∀ b, A b → NT H b
/-- a list or dict that did not stand in H -/
def TopNew (H : Hp) (d : PyData) (z : V) : Prop := ∀ a, isTop d = true → z = .ref a → ¬ NT H a
/-- what is wanted of a result: all stood, it is the data d -/
def Fin1 (A : Addr → Prop) (fr : Bool) (d : PyData) (H : Hp) (Q : VK) : Prop := ∀ z H', Same H H' → DRep H' A d z → (fr = true → TopNew H d z) → Q z H'
theorem Same.refl (H : Hp) : Same H H := fun _ _ e => e
theorem Fin1.int {A : Addr → Prop} {fr : Bool} {i : Int} {H : Hp} {Q : VK} (h : Fin1 A fr (.int i) H Q) : Q (.int i) H := h _ _ (Same.refl H) rfl fun _ a e => by simp [isTop] at e
theorem Fin1.bl {A : Addr → Prop} {fr : Bool} {i : Bool} {H : Hp} {Q : VK} (h : Fin1 A fr (.bool i) H Q) : Q (.bl i) H := h _ _ (Same.refl H) rfl fun _ a e => by simp [isTop] at e
theorem Fin1.str {A : Addr → Prop} {fr : Bool} {i : Str} {H : Hp} {Q : VK} (h : Fin1 A fr (.str i) H Q) : Q (.str i) H := h _ _ (Same.refl H) rfl fun _ a e => by simp [isTop] at e
theorem same_upd {H : Hp} {p : Addr} {o : HO} (h : H p = none) : Same H (upd H p o) := fun b x e => by rw [upd_ne (ne_of_none e h)]; exact e
theorem DRep.same {H H' : Hp} {A : Addr → Prop} (s : Same H H') {d : PyData} {x : V} (h : DRep H A d x) : DRep H' A d x := DRep.mono (fun _ q => q) (fun _ _ e => s _ _ e) (fun _ _ _ e _ => s _ _ e) d x h
theorem DRepL.same {H H' : Hp} {A : Addr → Prop} (s : Same H H') {d : List PyData} {x : List V} (h : DRepL H A d x) : DRepL H' A d x := DRepL.mono (fun _ q => q) (fun _ _ e => s _ _ e) (fun _ _ _ e _ => s _ _ e) d x h
theorem Fin1.tup {A : Addr → Prop} {fr : Bool} {ds : List PyData} {vs : List V} {H : Hp} {Q : VK} (h : Fin1 A fr (.tuple ds) H Q) (r : DRepL H A ds vs) {p : Addr} (hp : H p = none) : Q (.ref p) (upd H p (.tup vs)) :=
  h _ _ (same_upd hp) ⟨p, vs, rfl, upd_same, r.same (same_upd hp)⟩ fun _ a e => by simp [isTop] at e
theorem Fin1.lst {A : Addr → Prop} {fr : Bool} {ds : List PyData} {vs : List V} {H : Hp} {Q : VK} (dm : Dom A H) (h : Fin1 A fr (.list ds) H Q) (r : DRepL H A ds vs) {p : Addr} (hp : H p = none) : Q (.ref p) (upd H p (.lst vs)) :=
  h _ _ (same_upd hp) ⟨p, vs, rfl, fun q => NT.non hp (dm p q), upd_same, r.same (same_upd hp)⟩ fun _ a _ e => by cases e; exact NT.non hp
theorem Fin1.dic0 {A : Addr → Prop} {fr : Bool} {H : Hp} {Q : VK} (dm : Dom A H) (h : Fin1 A fr (.dict []) H Q) {p : Addr} (hp : H p = none) : Q (.ref p) (upd H p (.dK [])) :=
  h _ _ (same_upd hp) ⟨p, rfl, fun q => NT.non hp (dm p q), .inl ⟨[], upd_same, rfl⟩⟩ fun _ a _ e => by cases e; exact NT.non hp
theorem Fin1.self {A : Addr → Prop} {ds : PyData} {x : V} {fr : Bool} {H : Hp} {Q : VK} (h : Fin1 A fr ds H Q) (r : DRep H A ds x) (ht : isTop ds = false) : Q x H := h _ _ (Same.refl H) r fun _ a e => by rw [ht] at e; cases e

def rD (F : PyData → PyData → Option PyData) (fr : Bool) : R2 := fun x y H Q => ∃ A dx dy d, Dom A H ∧ DRep H A dx x ∧ DRep H A dy y ∧ F dx dy = some d ∧ Fin1 A fr d H Q

def Bop.op : Bop → Operator
  | .add => .Add | .sub => .Sub | .mul => .Mult | .mod => .Mod | .fdiv => .FloorDiv | .pow => .Pow | .shl => .LShift

section
variable {X : Cx}
theorem lineN_eq : lineN = sizeLine := by rw [sizeLine_eq]; rfl
theorem small_of {i : Int} (h : small64 i = true) : -(2 ^ 64) < i ∧ i < 2 ^ 64 := by
  have h' : -18446744073709551616 < i ∧ i < 18446744073709551616 := by simpa [small64] using h
  have e : (2 : Int) ^ 64 = 18446744073709551616 := by decide
  rw [e]; exact h'
theorem DRepL.flat {H : Hp} {A : Addr → Prop} {ds : List PyData} {vs : List V} (h : DRepL H A ds vs) : ∀ n : Nat, DRepL H A (List.replicate n ds).flatten (List.replicate n vs).flatten
  | 0 => rfl
  | n + 1 => by
    rw [List.replicate_succ, List.replicate_succ, List.flatten_cons, List.flatten_cons]
    exact h.append (DRepL.flat h n)
/-- an operator by what it is at the data at hand -/
theorem OpR.of {f : Value → Value → Sem Value} {F : PyData → PyData → Option PyData} {fr : Bool}
    (h : ∀ (A : Addr → Prop) (H : Hp) (dx dy d : PyData) (x y : V) (Q : VK), Dom A H → DRep H A dx x → DRep H A dy y → F dx dy = some d → Fin1 A fr d H Q → ∃ r : R2, OpR X f r ∧ r x y H Q) : OpR X f (rD F fr) := by
  intro pins s σ H x y v u Q I rx ry ⟨A, dx, dy, d, dm, h1, h2, e, q⟩
  obtain ⟨r, hr, hq⟩ := h A H dx dy d x y Q dm h1 h2 e q
  exact hr pins s σ H x y v u Q I rx ry hq
theorem op_bin (o : Bop) : OpR X (binaryOp o.op) (rD (binD o) true) := by
  refine OpR.of fun A H dx dy d x y Q dm h1 h2 e q => ?_
  cases o with
  | add =>
    cases dx <;> cases dy <;> simp only [binD, reduceCtorEq] at e
    · rename_i i j
      cases e; cases h1; cases h2
      exact ⟨_, op_add, i, j, rfl, rfl, q.int⟩
    · rename_i i j
      split at e
      · cases e; cases h1; cases h2
        exact ⟨_, op_add_str, i, j, rfl, rfl, by rw [← lineN_eq]; assumption, q.str⟩
      · cases e
    · rename_i xs ys
      split at e
      · rename_i hl
        cases e
        obtain ⟨a, vs, rfl, _, ha, ra⟩ := h1
        obtain ⟨b, us, rfl, _, hb, rb⟩ := h2
        exact ⟨_, op_cat, a, b, vs, us, rfl, rfl, ha, hb, by rw [ra.length, rb.length, ← lineN_eq]; exact hl, fun p hp => q.lst dm (ra.append rb) hp⟩
      · cases e
    · rename_i xs ys
      split at e
      · rename_i hl
        cases e
        obtain ⟨a, vs, rfl, ha, ra⟩ := h1
        obtain ⟨b, us, rfl, hb, rb⟩ := h2
        refine ⟨_, op_catA, a, b, vs, us, rfl, rfl, .of ha, .of hb, by rw [ra.length, rb.length, ← lineN_eq]; exact hl, fun z => ?_, fun _ z => ?_, fun _ _ p hp => q.tup (ra.append rb) hp⟩
        · subst z
          have e0 : xs = [] := List.eq_nil_of_length_eq_zero (by rw [← ra.length]; rfl)
          subst e0
          exact q.self ⟨b, us, rfl, hb, rb⟩ rfl
        · subst z
          have e0 : ys = [] := List.eq_nil_of_length_eq_zero (by rw [← rb.length]; rfl)
          subst e0
          exact q.self ⟨a, vs, rfl, ha, by rw [List.append_nil]; exact ra⟩ rfl
      · cases e
  | sub =>
    cases dx <;> cases dy <;> simp only [binD, reduceCtorEq] at e
    cases e; cases h1; cases h2
    exact ⟨_, op_sub, _, _, rfl, rfl, q.int⟩
  | mul =>
    cases dx <;> cases dy <;> simp only [binD, reduceCtorEq] at e
    · rename_i i j
      split at e
      · rename_i hs
        cases e; cases h1; cases h2
        refine ⟨_, op_mul, i, j, rfl, rfl, ?_, q.int⟩
        rcases Bool.or_eq_true_iff.mp hs with k | k
        · exact .inl (small_of k)
        · exact .inr (small_of k)
      · cases e
    · rename_i xs j
      split at e
      · rename_i hs
        cases e; cases h2
        have hs' : j.natAbs ≤ 16777216 ∧ xs.length * j.toNat ≤ lineN := by simpa using hs
        obtain ⟨a, vs, rfl, _, ha, ra⟩ := h1
        have e63 : (2 : Int) ^ 63 = 9223372036854775808 := by decide
        exact ⟨_, op_rep, a, j, vs, rfl, rfl, ha, by rw [e63]; omega, by rw [e63]; omega, by rw [ra.length, ← lineN_eq]; exact hs'.2, fun p hp => q.lst dm (ra.flat _) hp⟩
      · cases e
    · rename_i xs j
      split at e
      · rename_i hs
        cases e; cases h2
        obtain ⟨a, vs, rfl, ha, ra⟩ := h1
        have hs' : ((2 ≤ j ∧ j ≤ 1000) ∧ xs ≠ []) ∧ xs.length ≤ 1000 := by simpa using hs
        refine ⟨_, op_repT, a, j, vs, rfl, rfl, .of ha, ?_, hs'.1.1.1, hs'.1.1.2, by rw [ra.length]; exact hs'.2, fun p hp => q.tup (ra.flat _) hp⟩
        intro z
        subst z
        exact hs'.1.2 (List.eq_nil_of_length_eq_zero (by rw [← ra.length]; rfl))
      · cases e
  | mod =>
    cases dx <;> cases dy <;> simp only [binD, reduceCtorEq] at e
    split at e
    · cases e; cases h1; cases h2
      exact ⟨_, op_mod, _, _, rfl, rfl, by assumption, q.int⟩
    · cases e
  | fdiv =>
    cases dx <;> cases dy <;> simp only [binD, reduceCtorEq] at e
    split at e
    · rename_i hs
      cases e; cases h1; cases h2
      have hs' := hs
      simp only [Bool.and_eq_true, decide_eq_true_eq] at hs'
      exact ⟨_, op_fdiv, _, _, rfl, rfl, hs', q.int⟩
    · cases e
  | pow =>
    cases dx <;> cases dy <;> simp only [binD, reduceCtorEq] at e
    split at e
    · rename_i i j hs
      cases e; cases h1; cases h2
      have hs' := hs
      simp only [Bool.and_eq_true, decide_eq_true_eq] at hs'
      have sm := small_of hs'.2
      refine ⟨_, op_pow, _, _, rfl, rfl, ⟨hs'.1.1, hs'.1.2, ?_⟩, q.int⟩
      have e64 : (2 : Nat) ^ 64 = 18446744073709551616 := by decide
      have e64' : (2 : Int) ^ 64 = 18446744073709551616 := by decide
      rw [e64]; rw [e64'] at sm
      omega
    · cases e
  | shl =>
    cases dx <;> cases dy <;> simp only [binD, reduceCtorEq] at e
    split at e
    · rename_i i j hs
      cases e; cases h1; cases h2
      have hs' := hs
      simp only [Bool.and_eq_true, decide_eq_true_eq] at hs'
      have sm := small_of hs'.2
      refine ⟨_, op_shl, _, _, rfl, rfl, ⟨hs'.1.1, hs'.1.2, ?_⟩, q.int⟩
      have e64 : (2 : Nat) ^ 64 = 18446744073709551616 := by decide
      have e64' : (2 : Int) ^ 64 = 18446744073709551616 := by decide
      rw [e64]; rw [e64'] at sm
      omega
    · cases e
end
end Pv
/-! text S3 -/
set_option autoImplicit false
set_option Elab.async false
set_option linter.all false
set_option maxRecDepth 100000
namespace Pv
open PySem PySem.Spec PyProof.Rows L2

mutual
theorem shallow_depth : ∀ (n : Nat) (d : PyData), shallow n d = true → d.depth ≤ n
  | n, .none, _ => by simp [PyData.depth]
  | n, .bool _, _ => by simp [PyData.depth]
  | n, .int _, _ => by simp [PyData.depth]
  | n, .str _, _ => by simp [PyData.depth]
  | 0, .list _, h => by simp [shallow] at h
  | 0, .tuple _, h => by simp [shallow] at h
  | 0, .dict _, h => by simp [shallow] at h
  | n + 1, .list xs, h => by
    have := shallowAll_depth n xs (by simpa [shallow] using h)
    simp only [PyData.depth]; omega
  | n + 1, .tuple xs, h => by
    have := shallowAll_depth n xs (by simpa [shallow] using h)
    simp only [PyData.depth]; omega
  | n + 1, .dict kvs, h => by
    have := shallowKv_depth n kvs (by simpa [shallow] using h)
    simp only [PyData.depth]; omega
theorem shallowAll_depth : ∀ (n : Nat) (ds : List PyData), shallowAll n ds = true → PyData.depthAll ds ≤ n
  | n, [], _ => by simp [PyData.depthAll]
  | n, d :: ds, h => by
    have h' : shallow n d = true ∧ shallowAll n ds = true := by simpa [shallowAll] using h
    have a := shallow_depth n d h'.1
    have b := shallowAll_depth n ds h'.2
    simp only [PyData.depthAll]; omega
theorem shallowKv_depth : ∀ (n : Nat) (ds : List (PyData × PyData)), shallowKv n ds = true → PyData.depthKv ds ≤ n
  | n, [], _ => by simp [PyData.depthKv]
  | n, (a, b) :: ds, h => by
    have h' : (shallow n a = true ∧ shallow n b = true) ∧ shallowKv n ds = true := by simpa [shallowKv] using h
    have x := shallow_depth n a h'.1.1
    have y := shallow_depth n b h'.1.2
    have z := shallowKv_depth n ds h'.2
    simp only [PyData.depthKv]; omega
end
/-! ### keys -/
theorem keyS_of {d : PyData} (h : keyS d = true) : ∃ j, d = dK j := by
  cases d <;> simp [keyS] at h
  · exact ⟨.inl _, rfl⟩
  · exact ⟨.inr _, rfl⟩
theorem keysS_of : ∀ {ds : List PyData}, ds.all keyS = true → ∃ js : List Key, ds = js.map dK
  | [], _ => ⟨[], rfl⟩
  | d :: ds, h => by
    have h' : keyS d = true ∧ ds.all keyS = true := by simpa using h
    obtain ⟨j, e⟩ := keyS_of h'.1
    obtain ⟨js, e2⟩ := keysS_of h'.2
    exact ⟨j :: js, by rw [e, e2]; rfl⟩
theorem keyTS_of {d : PyData} (h : keyTS d = true) : ∃ js : List Key, d = .tuple (js.map dK) := by
  cases d <;> simp only [keyTS, Bool.false_eq_true] at h
  obtain ⟨js, e⟩ := keysS_of h
  exact ⟨js, by rw [e]⟩
theorem dK_v {H : Hp} {A : Addr → Prop} {j : Key} {x : V} (h : DRep H A (dK j) x) : x = kV j := by
  cases j <;> exact h
theorem dKs_v {H : Hp} {A : Addr → Prop} : ∀ {js : List Key} {xs : List V}, DRepL H A (js.map dK) xs → xs = js.map kV
  | [], xs, h => h
  | j :: js, xs, h => by
    obtain ⟨v, r, e, h1, h2⟩ := h
    rw [e, dK_v h1, dKs_v h2]; rfl
theorem eqv_dK (j k : Key) : PyData.eqv (dK j) (dK k) = decide (j = k) := by
  cases j <;> cases k
  · rename_i a b
    show (a == b) = _
    rw [key_ll]
  · rw [key_lr]; rfl
  · rw [key_rl]; rfl
  · rename_i a b
    show (a == b) = _
    rw [key_rr]
    by_cases e : a = b
    · subst e; simp
    · simp [e]
theorem eqv_dKs : ∀ (j k : List Key), PyData.eqvAll (j.map dK) (k.map dK) = decide (j = k)
  | [], [] => by simp [PyData.eqvAll]
  | [], _ :: _ => by simp [PyData.eqvAll]
  | _ :: _, [] => by simp [PyData.eqvAll]
  | a :: as, b :: bs => by
    simp only [List.map_cons, PyData.eqvAll, eqv_dK, eqv_dKs as bs]
    by_cases e : a = b <;> by_cases e2 : as = bs <;> simp [e, e2]
theorem eqv_dT (j k : List Key) : PyData.eqv (.tuple (j.map dK)) (.tuple (k.map dK)) = decide (j = k) := by
  show PyData.eqvAll _ _ = _
  exact eqv_dKs j k
/-- a look-up -/
theorem DRepK.at {H : Hp} {A : Addr → Prop} (j : Key) : ∀ {kvs : List (PyData × PyData)} {ks : List (Key × V)}, DRepK H A kvs ks →
    (dictAt kvs (dK j) = none ∧ valV ks j = none) ∨ ∃ d v, dictAt kvs (dK j) = some d ∧ valV ks j = some v ∧ DRep H A d v
  | [], ks, h => by
    have h : ks = [] := h
    subst h
    exact .inl ⟨rfl, rfl⟩
  | (k, d) :: kvs, ks, h => by
    obtain ⟨i, v, t, rfl, rfl, h1, h2⟩ := h
    unfold dictAt
    rw [eqv_dK]
    by_cases e : i = j
    · refine .inr ⟨d, v, by simp [e], valV_pos e, h1⟩
    · rw [valV_neg (p := (i, v)) e]
      simp only [e, decide_false, Bool.false_eq_true, if_false]
      exact DRepK.at j h2
theorem DRepT.at {H : Hp} {A : Addr → Prop} (j : List Key) : ∀ {kvs : List (PyData × PyData)} {ks : List (List Key × V)}, DRepT H A kvs ks →
    (dictAt kvs (.tuple (j.map dK)) = none ∧ valV ks j = none) ∨ ∃ d v, dictAt kvs (.tuple (j.map dK)) = some d ∧ valV ks j = some v ∧ DRep H A d v
  | [], ks, h => by
    have h : ks = [] := h
    subst h
    exact .inl ⟨rfl, rfl⟩
  | (k, d) :: kvs, ks, h => by
    obtain ⟨i, v, t, rfl, rfl, h1, h2⟩ := h
    unfold dictAt
    rw [eqv_dT]
    by_cases e : i = j
    · refine .inr ⟨d, v, by simp [e], valV_pos e, h1⟩
    · rw [valV_neg (p := (i, v)) e]
      simp only [e, decide_false, Bool.false_eq_true, if_false]
      exact DRepT.at j h2
section
variable {P : Program} {w : World} {H H' : Hp} {h : Heap} {a : Addr}
/-- an empty dict of the one kind is one of the other kind -/
theorem dt_of_dk0 (ok : HOk P w H h) (e : H a = some (.dK [])) : (a == sysModules) = false ∧ h.DictOfH (tupleKind (mixKind P w)) a [] := by
  obtain ⟨_, hs, vs, r, o, es, ep, ho, hx, hd, _, hp, _⟩ := ok a _ e
  cases r
  have he : es.toList = [] := by
    cases q : es.toList with
    | nil => rfl
    | cons x y => rw [q] at hp; cases hp
  exact ⟨hs, o, es, ep, ho, hx, hd, he, (fun _ z => nomatch z), List.Pairwise.nil⟩
theorem dk_of_dt0 (ok : HOk P w H h) (e : H a = some (.dT [])) : (a == sysModules) = false ∧ h.DictOf (mixKind P w) a [] := by
  obtain ⟨_, hs, xs, r, o, es, ep, ho, hx, hd, he, _⟩ := ok a _ e
  cases r
  have he' : es.toList = [] := he
  refine ⟨hs, o, es, ep, ho, hx, hd, ?_, ?_, List.Pairwise.nil⟩
  · intro x hx
    have : x ∈ es.toList := by simpa using hx
    rw [he'] at this
    cases this
  · rw [he']; exact .nil
end
section
variable {X : Cx} {pins : List (Addr × Obj)} {σ : L2.St} {H : Hp} {s : Shared} {a : Addr}
theorem Inv.toT (I : Inv X pins σ H s) (e : H a = some (.dK [])) : Inv X pins σ (upd H a (.dT [])) s := by
  obtain ⟨z, hd, vs, rel, o, es, ep, h1, h2, h3, h4⟩ := dk_of I.hok e
  cases rel
  exact I.write (x := a) (e := a) (h' := s.heap) (t' := s.toks) (by rw [e]; exact True.intro) (.inl rfl) (fun _ _ _ q => q) ⟨o, h1⟩ ⟨Nat.zero_le _, hd, [], .nil, o, es, ep, h1, h2, h3, List.eq_nil_of_length_eq_zero (h4.2.1.length), List.nodup_nil⟩
theorem Inv.toK (I : Inv X pins σ H s) (e : H a = some (.dT [])) : Inv X pins σ (upd H a (.dK [])) s := by
  obtain ⟨z, hd, xs, rel, o, es, ep, h1, h2, h3, h4, h5⟩ := I.hok a _ e
  cases rel
  have he : es = #[] := Array.toList_inj.mp (by rw [h4]; rfl)
  subst he
  exact I.write (x := a) (e := a) (h' := s.heap) (t' := s.toks) (by rw [e]; exact True.intro) (.inl rfl) (fun _ _ _ q => q) ⟨o, h1⟩ ⟨Nat.zero_le _, hd, [], .nil, o, #[], ep, h1, h2, h3, (fun e he => by simp at he), .nil, List.nodup_nil⟩
end
/-- a dict and a key that it may have: what the library asks -/
theorem get_cases {H : Hp} {A : Addr → Prop} {kvs : List (PyData × PyData)} {k : PyData} {x y : V} (hd : DRep H A (.dict kvs) x) (hk : DRep H A k y) (hf : keyFor kvs k = true) :
    ∃ a, x = .ref a ∧ ((kvs = [] ∧ H a = some (.dK []) ∧ ∃ (b : Addr) (js : List Key), y = .ref b ∧ H b = some (.tup (js.map kV)) ∧ k = .tuple (js.map dK)) ∨ (kvs = [] ∧ H a = some (.dT []) ∧ ∃ j, y = kV j ∧ k = dK j) ∨
      ∃ o, DGet H a y o ∧ ((dictAt kvs k = none ∧ o = none) ∨ ∃ d v, dictAt kvs k = some d ∧ o = some v ∧ DRep H A d v)) := by
  obtain ⟨a, rfl, _, hd⟩ := hd
  refine ⟨a, rfl, ?_⟩
  have toK : keyS k = true → ∃ j, k = dK j ∧ y = kV j := fun q => by
    obtain ⟨j, e⟩ := keyS_of q
    subst e
    exact ⟨j, rfl, dK_v hk⟩
  have toT : keyTS k = true → ∃ (b : Addr) (js : List Key), k = .tuple (js.map dK) ∧ y = .ref b ∧ H b = some (.tup (js.map kV)) := fun q => by
    obtain ⟨js, e⟩ := keyTS_of q
    subst e
    obtain ⟨b, vs, e1, h1, h2⟩ := hk
    rw [dKs_v h2] at h1
    exact ⟨b, js, rfl, e1, h1⟩
  have useK : ∀ ks, H a = some (.dK ks) → DRepK H A kvs ks → keyS k = true → ∃ o, DGet H a y o ∧ ((dictAt kvs k = none ∧ o = none) ∨ ∃ d v, dictAt kvs k = some d ∧ o = some v ∧ DRep H A d v) := fun ks e r q => by
    obtain ⟨j, rfl, rfl⟩ := toK q
    exact ⟨_, DGet.k e, r.at j⟩
  have useT : ∀ ks, H a = some (.dT ks) → DRepT H A kvs ks → keyTS k = true → ∃ o, DGet H a y o ∧ ((dictAt kvs k = none ∧ o = none) ∨ ∃ d v, dictAt kvs k = some d ∧ o = some v ∧ DRep H A d v) := fun ks e r q => by
    obtain ⟨b, js, rfl, rfl, hb⟩ := toT q
    exact ⟨_, DGet.t e hb, r.at js⟩
  rcases hd with ⟨ks, e, r⟩ | ⟨ks, ⟨e, _⟩, r⟩
  · cases kvs with
    | nil =>
      have r' : ks = [] := r
      subst r'
      rcases Bool.or_eq_true_iff.mp hf with q | q
      · exact .inr (.inr (useK _ e r q))
      · obtain ⟨b, js, e1, e2, hb⟩ := toT q
        exact .inl ⟨rfl, e, b, js, e2, hb, e1⟩
    | cons p kvs =>
      obtain ⟨k0, d0⟩ := p
      obtain ⟨j0, v, t, e1, e2, _⟩ := id r
      rcases Bool.or_eq_true_iff.mp hf with q | q
      · exact .inr (.inr (useK _ e r (Bool.and_eq_true_iff.mp q).2))
      · have q1 := (Bool.and_eq_true_iff.mp q).1
        rw [e2] at q1
        cases j0 <;> simp [dK, keyTS] at q1
  · cases kvs with
    | nil =>
      have r' : ks = [] := r
      subst r'
      rcases Bool.or_eq_true_iff.mp hf with q | q
      · obtain ⟨j, e1, e2⟩ := toK q
        exact .inr (.inl ⟨rfl, e, j, e2, e1⟩)
      · exact .inr (.inr (useT _ e r q))
    | cons p kvs =>
      obtain ⟨k0, d0⟩ := p
      obtain ⟨j0, v, t, e1, e2, _⟩ := id r
      rcases Bool.or_eq_true_iff.mp hf with q | q
      · have q1 := (Bool.and_eq_true_iff.mp q).1
        rw [e2] at q1
        simp [keyS] at q1
      · exact .inr (.inr (useT _ e r (Bool.and_eq_true_iff.mp q).2))

/-! ### comparisons -/
def Cop.op : Cop → CmpOp
  | .eq => .Eq | .ne => .NotEq | .lt => .Lt | .le => .LtE | .gt => .Gt | .ge => .GtE | .is => .Is | .isNot => .IsNot | .inn => .In | .notIn => .NotIn
def rCmp (o : Cop) : R2 := fun x y H Q => ∃ A dx dy b, DRep H A dx x ∧ DRep H A dy y ∧ cmpD o dx dy = some b ∧ Q (.bl b) H
section
variable {X : Cx}
theorem OpR.ofD {f : Value → Value → Sem Value} {F : PyData → PyData → Option Bool}
    (h : ∀ (A : Addr → Prop) (pins : List (Addr × Obj)) (s : Shared) (σ : L2.St) (H : Hp) (dx dy : PyData) (b : Bool) (x y : V) (v u : Value) (as bs : List Addr) (Q : VK), Inv X pins σ H s → RelV x v → RelV y u → DRep H A dx x → DRep H A dy y →
      Reads s.heap v dx as → Reads s.heap u dy bs → F dx dy = some b → Q (.bl b) H → wpAny (model X.prog X.w) X.A (f v u) (EP X pins σ Q) X.xe s) :
    OpR X f (fun x y H Q => ∃ A dx dy b, DRep H A dx x ∧ DRep H A dy y ∧ F dx dy = some b ∧ Q (.bl b) H) := by
  intro pins s σ H x y v u Q I rx ry ⟨A, dx, dy, b, h1, h2, e, q⟩
  obtain ⟨as, r1⟩ := h1.reads I.hok _ _ _ rx
  obtain ⟨bs, r2⟩ := h2.reads I.hok _ _ _ ry
  exact h A pins s σ H dx dy b x y v u as bs Q I rx ry h1 h2 r1 r2 e q
theorem op_cmp (hu : X.A.units + 200 < cLine) (o : Cop) : OpR X (compareOp o.op) (rCmp o) := by
  refine OpR.ofD fun A pins s σ H dx dy b x y v u as bs Q I rx ry h1 h2 r1 r2 e q => ?_
  have fin : ∀ {c : Bool}, c = b → EP X pins σ Q (.bool c) s := fun {c} z => ⟨.bl b, H, I, by rw [z]; rfl, q⟩
  have fin' : ∀ {c : Bool} {s' : Shared}, Inv X pins σ H s' → c = b → EP X pins σ Q (.bool c) s' := fun {c s'} I' z => ⟨.bl b, H, I', by rw [z]; rfl, q⟩
  have md : ∀ {d e : PyData}, shallow maxDepth d = true → X.A.units + min d.depth e.depth < cLine := fun {d e} z => by
    have := shallow_depth _ _ z
    unfold maxDepth at this
    omega
  have mi : ∀ {d : PyData} {n : Nat}, shallow maxDepth d = true → X.A.units + 1 + min n d.depth < cLine := fun {d n} z => by
    have := shallow_depth _ _ z
    unfold maxDepth at this
    omega
  have eqc : ∀ {c : Bool}, (if (dx.plain && dy.plain && shallow maxDepth dx) = true then some (PyData.eqv dx dy) else none) = some b → wpAny (model X.prog X.w) X.A (compareOp .Eq v u) (EP X pins σ Q) X.xe s := fun z => by
    split at z
    · rename_i z1
      simp only [Bool.and_eq_true] at z1
      exact SeqAt.eq_plain r1 r2 z1.1.1 z1.1.2 (md z1.2) (fin (Option.some.inj z))
    · cases z
  have nec : (if (dx.plain && dy.plain && shallow maxDepth dx) = true then some (!PyData.eqv dx dy) else none) = some b → wpAny (model X.prog X.w) X.A (compareOp .NotEq v u) (EP X pins σ Q) X.xe s := fun z => by
    split at z
    · rename_i z1
      simp only [Bool.and_eq_true] at z1
      exact SeqAt.ne_plain r1 r2 z1.1.1 z1.1.2 (md z1.2) (fin (Option.some.inj z))
    · cases z
  have ordc : ord? dx dy = true → PySem.W.alike dx dy = true ∧ dx ≠ .none ∧ X.A.units + min dx.depth dy.depth < cLine := fun z => by
    simp only [ord?, Bool.and_eq_true, Bool.not_eq_true'] at z
    refine ⟨z.1.1, fun q => ?_, md z.2⟩
    rw [q] at z
    cases z.1.2
  cases o with
  | eq =>
    by_cases hi : ∃ i j, dx = .int i ∧ dy = .int j
    · obtain ⟨i, j, rfl, rfl⟩ := hi
      cases r1; cases r2
      exact eq_int (fin (Option.some.inj e))
    · refine eqc (c := b) ?_
      rw [← e]
      cases dx <;> cases dy <;> first | rfl | exact absurd ⟨_, _, rfl, rfl⟩ hi
  | ne =>
    by_cases hi : ∃ i j, dx = .int i ∧ dy = .int j
    · obtain ⟨i, j, rfl, rfl⟩ := hi
      cases r1; cases r2
      exact ne_int (fin (Option.some.inj e))
    · refine nec ?_
      rw [← e]
      cases dx <;> cases dy <;> first | rfl | exact absurd ⟨_, _, rfl, rfl⟩ hi
  | lt =>
    by_cases hi : ∃ i j, dx = .int i ∧ dy = .int j
    · obtain ⟨i, j, rfl, rfl⟩ := hi
      cases r1; cases r2
      exact lt_int (fin (Option.some.inj e))
    · have e' : (if ord? dx dy = true then some (PySem.W.dataLt dx dy) else none) = some b := by
        rw [← e]
        cases dx <;> cases dy <;> first | rfl | exact absurd ⟨_, _, rfl, rfl⟩ hi
      split at e'
      · rename_i z
        obtain ⟨a1, a2, a3⟩ := ordc z
        exact PySem.W.lt_data r1 r2 a1 a2 a3 (fin (Option.some.inj e'))
      · cases e'
  | gt =>
    by_cases hi : ∃ i j, dx = .int i ∧ dy = .int j
    · obtain ⟨i, j, rfl, rfl⟩ := hi
      cases r1; cases r2
      exact gt_int (fin (Option.some.inj e))
    · have e' : (if ord? dx dy = true then some (PySem.W.dataLt dy dx) else none) = some b := by
        rw [← e]
        cases dx <;> cases dy <;> first | rfl | exact absurd ⟨_, _, rfl, rfl⟩ hi
      split at e'
      · rename_i z
        obtain ⟨a1, a2, a3⟩ := ordc z
        exact PySem.W.gt_data r1 r2 a1 a2 a3 (fin (Option.some.inj e'))
      · cases e'
  | le =>
    by_cases hi : ∃ i j, dx = .int i ∧ dy = .int j
    · obtain ⟨i, j, rfl, rfl⟩ := hi
      cases r1; cases r2
      exact le_int (fin (Option.some.inj e))
    · have e' : (if ord? dx dy = true then some (!PySem.W.dataLt dy dx) else none) = some b := by
        rw [← e]
        cases dx <;> cases dy <;> first | rfl | exact absurd ⟨_, _, rfl, rfl⟩ hi
      split at e'
      · rename_i z
        obtain ⟨a1, a2, a3⟩ := ordc z
        exact PySem.W.le_data r1 r2 a1 a2 a3 (fin (Option.some.inj e'))
      · cases e'
  | ge =>
    by_cases hi : ∃ i j, dx = .int i ∧ dy = .int j
    · obtain ⟨i, j, rfl, rfl⟩ := hi
      cases r1; cases r2
      exact ge_int (fin (Option.some.inj e))
    · have e' : (if ord? dx dy = true then some (!PySem.W.dataLt dx dy) else none) = some b := by
        rw [← e]
        cases dx <;> cases dy <;> first | rfl | exact absurd ⟨_, _, rfl, rfl⟩ hi
      split at e'
      · rename_i z
        obtain ⟨a1, a2, a3⟩ := ordc z
        exact PySem.W.ge_data r1 r2 a1 a2 a3 (fin (Option.some.inj e'))
      · cases e'
  | is =>
    cases dy <;> simp only [cmpD, reduceCtorEq] at e
    · refine op_isN pins s σ H x y v u Q I rx ry ⟨h2, ?_⟩
      have : decide (x = .non) = b := by
        cases dx <;> simp only [Option.some.injEq] at e <;> rw [← e]
        · rw [show x = .non from h1]; rfl
        · rw [show x = .bl _ from h1]; rfl
        · rw [show x = .int _ from h1]; rfl
        · rw [show x = .str _ from h1]; rfl
        · obtain ⟨_, _, q1, _⟩ := h1; rw [q1]; rfl
        · obtain ⟨_, _, q1, _⟩ := h1; rw [q1]; rfl
        · obtain ⟨_, q1, _⟩ := h1; rw [q1]; rfl
      rw [this]; exact q
    · cases dx <;> simp only [cmpD, reduceCtorEq] at e
      rename_i k j
      refine op_isBl pins s σ H x y v u Q I rx ry ⟨_, _, h1, h2, ?_⟩
      have : decide (j = k) = b := by
        rw [← Option.some.inj e]
        cases j <;> cases k <;> rfl
      rw [this]; exact q
  | isNot =>
    cases dy <;> simp only [cmpD, reduceCtorEq] at e
    · refine op_notN pins s σ H x y v u Q I rx ry ⟨h2, ?_⟩
      have : (!decide (x = .non)) = b := by
        cases dx <;> simp only [Option.some.injEq] at e <;> rw [← e]
        · rw [show x = .non from h1]; rfl
        · rw [show x = .bl _ from h1]; rfl
        · rw [show x = .int _ from h1]; rfl
        · rw [show x = .str _ from h1]; rfl
        · obtain ⟨_, _, q1, _⟩ := h1; rw [q1]; rfl
        · obtain ⟨_, _, q1, _⟩ := h1; rw [q1]; rfl
        · obtain ⟨_, q1, _⟩ := h1; rw [q1]; rfl
      rw [this]; exact q
    · cases dx <;> simp only [cmpD, reduceCtorEq] at e
      rename_i k j
      refine op_notBl pins s σ H x y v u Q I rx ry ⟨_, _, h1, h2, ?_⟩
      have : (!decide (j = k)) = b := by
        rw [← Option.some.inj e]
        cases j <;> cases k <;> rfl
      rw [this]; exact q
  | inn =>
    cases dy with
    | list xs =>
      simp only [cmpD] at e
      split at e
      · rename_i z
        simp only [Bool.and_eq_true] at z
        exact SeqAt.in_list_data r2 r1 z.1.1 z.1.2 (mi z.2) (fin (Option.some.inj e))
      · cases e
    | tuple xs =>
      simp only [cmpD] at e
      split at e
      · rename_i z
        simp only [Bool.and_eq_true] at z
        exact SeqAt.in_tuple_data r2 r1 z.1.1 z.1.2 (mi z.2) (fin (Option.some.inj e))
      · cases e
    | dict kvs =>
      simp only [cmpD] at e
      split at e
      · rename_i z
        have e' := Option.some.inj e
        obtain ⟨a, rfl, c⟩ := get_cases h2 h1 z
        cases ry
        rcases c with ⟨rfl, ha, b', js, rfl, hb, rfl⟩ | ⟨rfl, ha, j, rfl, rfl⟩ | ⟨o, g, c⟩
        · cases rx
          obtain ⟨hs, dd⟩ := dt_of_dk0 I.hok ha
          exact wpAny_in_heap (tupleKind_room_in1 (by omega)) (key_of I.hok hb) hs dd (fin' (I.tok _) e')
        · obtain ⟨hs, dd⟩ := dk_of_dt0 I.hok ha
          exact wpAny_in_of (kV_is rx) hs dd.mapOf (fin' (I.tok _) e')
        · refine d_in (by omega) I g rx fun s' I' => fin' I' ?_
          rcases c with ⟨c1, c2⟩ | ⟨d, v', c1, c2, _⟩ <;> rw [c1] at e' <;> rw [c2] <;> exact e'
      · cases e
    | str z =>
      cases dx with
      | str c =>
        simp only [cmpD] at e
        unfold substr? at e
        split at e
        · rename_i l c' hc
          have hx : x = .str ⟨#[c']⟩ := by
            have : c = ⟨#[c']⟩ := by
              cases c
              simp only [Str.mk.injEq]
              exact Array.toList_inj.mp hc
            rw [← this]; exact h1
          refine op_in_sign pins s σ H x y v u Q I rx ry ⟨c', z, hx, h2, ?_⟩
          have e' := Option.some.inj e
          rw [show decide (c' ∈ z.cps.toList) = b by rw [← e']; simp [List.contains_iff_mem]]
          exact q
        · cases e
      | _ => simp [cmpD] at e
    | _ => simp [cmpD] at e
  | notIn =>
    cases dy with
    | list xs =>
      simp only [cmpD] at e
      split at e
      · rename_i z
        simp only [Bool.and_eq_true] at z
        exact SeqAt.notIn_list_data r2 r1 z.1.1 z.1.2 (mi z.2) (fin (Option.some.inj e))
      · cases e
    | tuple xs =>
      simp only [cmpD] at e
      split at e
      · rename_i z
        simp only [Bool.and_eq_true] at z
        exact SeqAt.notIn_tuple_data r2 r1 z.1.1 z.1.2 (mi z.2) (fin (Option.some.inj e))
      · cases e
    | dict kvs =>
      simp only [cmpD] at e
      split at e
      · rename_i z
        have e' := Option.some.inj e
        obtain ⟨a, rfl, c⟩ := get_cases h2 h1 z
        cases ry
        rcases c with ⟨rfl, ha, b', js, rfl, hb, rfl⟩ | ⟨rfl, ha, j, rfl, rfl⟩ | ⟨o, g, c⟩
        · cases rx
          obtain ⟨hs, dd⟩ := dt_of_dk0 I.hok ha
          exact wpAny_notIn_heap (tupleKind_room_in1 (by omega)) (key_of I.hok hb) hs dd (fin' (I.tok _) e')
        · obtain ⟨hs, dd⟩ := dk_of_dt0 I.hok ha
          exact wpAny_notIn_of (kV_is rx) hs dd.mapOf (fin' (I.tok _) e')
        · refine d_notIn (by omega) I g rx fun s' I' => fin' I' ?_
          rcases c with ⟨c1, c2⟩ | ⟨d, v', c1, c2, _⟩ <;> rw [c1] at e' <;> rw [c2] <;> exact e'
      · cases e
    | str z =>
      cases dx with
      | str c =>
        simp only [cmpD] at e
        unfold substr? at e
        split at e
        · rename_i l c' hc
          have hx : x = .str ⟨#[c']⟩ := by
            have : c = ⟨#[c']⟩ := by
              cases c
              simp only [Str.mk.injEq]
              exact Array.toList_inj.mp hc
            rw [← this]; exact h1
          refine op_notIn_sign pins s σ H x y v u Q I rx ry ⟨c', z, hx, h2, ?_⟩
          have e' := Option.some.inj e
          rw [show (!decide (c' ∈ z.cps.toList)) = b by rw [← e']; simp [List.contains_iff_mem]]
          exact q
        · cases e
      | _ => simp [cmpD] at e
    | _ => simp [cmpD] at e
end
end Pv
/-! text S4 -/
set_option autoImplicit false
set_option Elab.async false
set_option linter.all false
set_option maxRecDepth 100000
namespace Pv
open PySem PySem.Spec PyProof.Rows L2

/-! ### items, slices -/
theorem DRep.self {A : Addr → Prop} {d : PyData} {x : V} {H : Hp} {Q : VK} (h : Fin1 A false d H Q) (r : DRep H A d x) : Q x H := h _ _ (Same.refl H) r fun e => by cases e
theorem atG_of {α : Type} {xs : List α} {i : Int} {v : α} (h : atG xs i = some v) : ∃ j : Nat, xs[j]? = some v ∧ ixN xs.length i = some j := by
  unfold atG at h
  split at h
  · rename_i h0
    have hj := (List.getElem?_eq_some_iff.mp h).1
    refine ⟨_, h, ?_⟩
    unfold ixN
    rw [if_pos h0, if_pos (by omega)]
  · split at h
    · rename_i h0 h1
      have hj := (List.getElem?_eq_some_iff.mp h).1
      refine ⟨_, h, ?_⟩
      unfold ixN
      rw [if_neg h0, if_pos (by omega)]
    · cases h
theorem atI_of {xs : List V} {i : Int} {n : Nat} {j : Nat} {v : V} (hn : xs.length = n) (hj : ixN n i = some j) (hv : xs[j]? = some v) : atI xs i = some v := by
  unfold atI
  rw [hn, hj]
  exact hv
def rIdx : R2 := fun x y H Q => ∃ A dx dy d, DRep H A dx x ∧ DRep H A dy y ∧ idxD dx dy = some d ∧ Fin1 A false d H Q
section
variable {X : Cx}
theorem ix_data (hu : X.A.units + 200 < cLine) : IxR X rIdx := by
  intro value slice pins s σ H x y v u Q I rx ry ⟨A, dx, dy, d, h1, h2, e, q⟩ hs
  cases dx with
  | list xs =>
    cases dy with
    | int i =>
      obtain ⟨a, vs, rfl, _, ha, ra⟩ := h1
      obtain ⟨j, e1, e2⟩ := atG_of (show atG xs i = some d from e)
      obtain ⟨w, hw, rw'⟩ := ra.get e1
      exact ix_list value slice pins s σ H _ y v u Q I rx ry ⟨a, vs, i, w, rfl, h2, .of ha, atI_of ra.length e2 hw, DRep.self q rw'⟩ hs
    | _ => simp [idxD] at e
  | tuple xs =>
    cases dy with
    | int i =>
      obtain ⟨a, vs, rfl, ha, ra⟩ := h1
      obtain ⟨j, e1, e2⟩ := atG_of (show atG xs i = some d from e)
      obtain ⟨w, hw, rw'⟩ := ra.get e1
      exact ix_tup value slice pins s σ H _ y v u Q I rx ry ⟨a, vs, i, w, rfl, h2, .of ha, atI_of ra.length e2 hw, DRep.self q rw'⟩ hs
    | _ => simp [idxD] at e
  | str z =>
    cases dy with
    | int i =>
      simp only [idxD] at e
      split at e
      · rename_i hz
        unfold strAt at e
        cases hc : atG z.cps.toList i with
        | none => rw [hc] at e; cases e
        | some c =>
          rw [hc] at e
          have e' : PyData.str ⟨#[c]⟩ = d := Option.some.inj e
          obtain ⟨j, e1, e2⟩ := atG_of hc
          refine ix_str value slice pins s σ H x y v u Q I rx ry ⟨z, i, c, h1, h2, by rw [← lineN_eq]; exact hz, ?_, ?_⟩ hs
          · unfold atI
            rw [e2]
            exact e1
          · subst e'
            exact q.str
      · cases e
    | _ => simp [idxD] at e
  | dict kvs =>
    simp only [idxD] at e
    split at e
    · rename_i hk
      obtain ⟨a, rfl, c⟩ := get_cases h1 h2 hk
      cases rx
      rcases c with ⟨rfl, _⟩ | ⟨rfl, _⟩ | ⟨o, g, c⟩
      · cases e
      · cases e
      · rcases c with ⟨c1, c2⟩ | ⟨d', v', c1, c2, r⟩
        · rw [c1] at e; cases e
        · rw [c1] at e
          cases e
          subst c2
          refine tail_any (ops := [.ref a, u]) (dict_typeIs I g) PySem.F.slot_dict_getitem.lookup ?_ hs
          exact d_getItem (by omega) I g ry fun w' s' I' rw' => ⟨v', H, I', rw', DRep.self q r⟩
    · cases e
  | _ => simp [idxD] at e

theorem cutL_V (vs : List V) (n : Nat) (hn : vs.length = n) (lo hi : Option Int) : cutV vs lo hi = (vs.drop (match lo with | some i => cutAt n i | none => 0)).take ((match hi with | some i => cutAt n i | none => n) - (match lo with | some i => cutAt n i | none => 0)) := by
  subst hn
  unfold cutV HT.sIx cutAt
  cases lo <;> cases hi <;> rfl
theorem DRepL.take {H : Hp} {A : Addr → Prop} : ∀ {ds : List PyData} {vs : List V} (n : Nat), DRepL H A ds vs → DRepL H A (ds.take n) (vs.take n)
  | ds, vs, 0, h => by simp only [List.take_zero]; rfl
  | [], vs, n + 1, h => by
    have h : vs = [] := h
    subst h; rfl
  | d :: ds, vs, n + 1, h => by
    obtain ⟨v, r, rfl, h1, h2⟩ := h
    exact ⟨v, r.take n, rfl, h1, DRepL.take n h2⟩
theorem DRepL.drop {H : Hp} {A : Addr → Prop} : ∀ {ds : List PyData} {vs : List V} (n : Nat), DRepL H A ds vs → DRepL H A (ds.drop n) (vs.drop n)
  | ds, vs, 0, h => h
  | [], vs, n + 1, h => by
    have h : vs = [] := h
    subst h; rfl
  | d :: ds, vs, n + 1, h => by
    obtain ⟨v, r, rfl, h1, h2⟩ := h
    exact DRepL.drop n h2
theorem DRepL.cut {H : Hp} {A : Addr → Prop} {ds : List PyData} {vs : List V} (h : DRepL H A ds vs) (lo hi : Option Int) : DRepL H A (cutL ds lo hi) (cutV vs lo hi) := by
  rw [cutL_V vs _ h.length]
  exact (h.drop _).take _
theorem cutL_whole {xs : List PyData} {lo hi : Option Int} (h : HT.sIx xs.length 0 lo = 0 ∧ HT.sIx xs.length xs.length hi = xs.length) : cutL xs lo hi = xs := by
  have e : cutL xs lo hi = (xs.drop (HT.sIx xs.length 0 lo)).take (HT.sIx xs.length xs.length hi - HT.sIx xs.length 0 lo) := by
    unfold cutL HT.sIx cutAt
    cases lo <;> cases hi <;> rfl
  rw [e, h.1, h.2, List.drop_zero, Nat.sub_zero, List.take_length]
def rSl (fr : Bool) : V → Option Int → Option Int → Hp → VK → Prop := fun x lo hi H Q => ∃ A dx d, Dom A H ∧ DRep H A dx x ∧ sliceD dx lo hi = some d ∧ Fin1 A fr d H Q
theorem sl_data : SlR X (rSl true) := by
  intro pins s σ H x v vl vu lo hi sl Q I rx hs pl pu ⟨A, dx, d, dm, h1, e, q⟩
  unfold sliceD at e
  cases dx with
  | list xs =>
    cases e
    obtain ⟨a, vs, rfl, _, ha, ra⟩ := h1
    exact sl_list pins s σ H _ v vl vu lo hi sl Q I rx hs pl pu ⟨a, vs, rfl, .of ha, fun p hp => q.lst dm (ra.cut lo hi) hp⟩
  | tuple xs =>
    cases e
    obtain ⟨a, vs, rfl, ha, ra⟩ := h1
    refine sl_tupA pins s σ H _ v vl vu lo hi sl Q I rx hs pl pu ⟨a, vs, rfl, .of ha, fun hw => ?_, fun _ p hp => q.tup (ra.cut lo hi) hp⟩
    rw [ra.length] at hw
    exact q.self ⟨a, vs, rfl, ha, by rw [cutL_whole hw]; exact ra⟩ rfl
  | str z =>
    simp only at e
    split at e
    · rename_i hz
      cases e
      refine sl_str pins s σ H x v vl vu lo hi sl Q I rx hs pl pu ⟨z, h1, by rw [← lineN_eq]; exact hz, ?_⟩
      have ec : cutS z lo hi = ⟨(cutL z.cps.toList lo hi).toArray⟩ := by
        unfold cutS cutL HT.sIx cutAt
        have el : z.length = z.cps.toList.length := by simp [Str.length]
        cases lo <;> cases hi <;> simp only [el]
      rw [ec]
      exact q.str
    · cases e
  | _ => cases e
/-- a list known to the object -/
theorem sl_frz {pins : List (Addr × Obj)} {s : Shared} {σ : L2.St} {H : Hp} {a : Addr} {vs : List V} {v vl vu : Value} {lo hi : Option Int} {sl : Addr} {Q : VK} (I : Inv X pins σ H s) (rx : RelV (.ref a) v) (hs : s.heap.IsSliceOf sl vl vu .none) (pl : IsPart vl lo) (pu : IsPart vu hi)
    (ha : SqL X.K H a vs) (q : ∀ p, H p = none → Q (.ref p) (upd H p (.lst (cutV vs lo hi)))) : ∃ T id, typeLookup (.type T) "__getitem__" = pure (some (.builtin id)) ∧ s.TypeIs v T ∧ wpAny (model X.prog X.w) X.A (getItem v (.ref sl)) (EP X pins σ Q) X.xe s :=
  sl_list pins s σ H _ v vl vu lo hi sl Q I rx hs pl pu ⟨a, vs, rfl, ha, q⟩
theorem DRepL.reverse {H : Hp} {A : Addr → Prop} : ∀ {ds : List PyData} {vs : List V}, DRepL H A ds vs → DRepL H A ds.reverse vs.reverse
  | [], vs, h => by
    have h : vs = [] := h
    subst h; rfl
  | d :: ds, vs, h => by
    obtain ⟨v, r, rfl, h1, h2⟩ := h
    rw [List.reverse_cons, List.reverse_cons]
    exact (DRepL.reverse h2).append ⟨v, [], rfl, h1, rfl⟩

/-! ### truth -/
theorem emp_of {xs : List PyData} {vs : List V} (h : vs.length = xs.length) : (!xs.isEmpty) = !vs.isEmpty := by
  cases xs <;> cases vs <;> simp at h ⊢
theorem truth_rep {pins : List (Addr × Obj)} {s : Shared} {σ : L2.St} {H : Hp} {A : Addr → Prop} {d : PyData} {x : V} {v : Value} {b : Bool} {Q : Bool → Hp → Prop} (I : Inv X pins σ H s) (rx : RelV x v) (h : DRep H A d x) (e : truth (.d d) = some b) (q : Q b H) :
    wpAny (model X.prog X.w) X.A (truthy v) (TP X pins σ Q) X.xe s := by
  refine tru_ok pins s σ H x v Q I rx ⟨b, ?_, q⟩
  cases d <;> simp only [truth, Option.some.injEq, reduceCtorEq] at e
  · rw [show x = .bl _ from h]; exact e.symm
  · rw [show x = .int _ from h]; exact e.symm
  · obtain ⟨a, vs, rfl, _, ha, ra⟩ := h
    refine .inl ⟨vs, .of ha, ?_⟩
    rw [← e, emp_of ra.length]
  · obtain ⟨a, vs, rfl, ha, ra⟩ := h
    refine .inr (.inl ⟨vs, .of ha, ?_⟩)
    rw [← e, emp_of ra.length]
end
end Pv
/-! text S6 -/
set_option autoImplicit false
set_option Elab.async false
set_option linter.all false
set_option maxRecDepth 100000
namespace Pv
open PySem PySem.Spec PyProof.Rows L2

/-! ### the world of a run: the hand's list, the tables, the error classes; what a lambda, an error stands for -/
structure Wo where
  K : PySem.W.Frag
  hd : Option Addr
  hc : Addr → Prop      -- where the lists and dicts within the hand's list stand
  T : List (Addr × Str)
  cl : Nat → Option Addr
  fl : Nat → Str
  fnr : Option (Addr × Addr × Str)
  exr : Option (Addr × Value × Option Addr)
  bs : Option (Hp × (Addr → Prop))      -- where a def that got a lambda began
def XRep (w : Wo) (H : Hp) (A : Addr → Prop) (c : Nat) (y : Option PyData) (cls : Value) (d : Option Addr) : Prop := ∃ C, w.cl c = some C ∧ cls = .ref C ∧ (match y with
  | none => d = none
  | some y => ∃ dd fs v, d = some dd ∧ H dd = some (.xd fs) ∧ fs.lookup (w.fl c) = some v ∧ DRep H A y v)
/-- the script's list -/
def ScrAt (w : Wo) (H : Hp) (A : Addr → Prop) (a : Addr) (vs : List V) : Prop := (∃ o, H a = some (.frz o (.lst vs))) ∨ (H a = some (.lst vs) ∧ ¬ A a ∧ w.hd ≠ some a) ∨
  ∃ (o : Obj) (its : Array Value) (n : Nat), w.K.lookup a = some o ∧ o.cls = .type "list" ∧ o.dict = none ∧ o.data = .seq its n ∧ its.size ≤ sizeLine ∧ Vals vs its.toList
theorem ScrAt.sq {w : Wo} {H : Hp} {A : Addr → Prop} {a : Addr} {vs : List V} (h : ScrAt w H A a vs) : SqL w.K H a vs := by
  rcases h with ⟨o, h⟩ | ⟨h, _⟩ | h
  · exact .inl (.inr ⟨o, h⟩)
  · exact .inl (.inl h)
  · exact .inr h
def VRep (w : Wo) (H : Hp) (A : Addr → Prop) : PV → V → Prop
  | .d d, x => DRep H A d x
  | .hand, x => ∃ a, w.hd = some a ∧ x = .ref a
  | .fn, x => ∃ f c q, w.fnr = some (f, c, q) ∧ x = .ref f ∧ H c = some (LamX.CodeO c q)
  | .scr ds, x => ∃ a vs, x = .ref a ∧ ScrAt w H A a vs ∧ DRepL H A ds vs
  | .exn c y, x => ∃ a cls d, w.exr = some (a, cls, d) ∧ x = .ref a ∧ XRep w H A c y cls d
/-- all goes on from where it began, what is newly avoided is new -/
def Bs (w : Wo) (A : Addr → Prop) (H : Hp) : Prop := ∀ B AB, w.bs = some (B, AB) → Ext w.hd B H ∧ ∀ b, NT B b → A b → AB b
theorem Bs.sub {w : Wo} {A A' : Addr → Prop} {H : Hp} (x : Bs w A H) (hA : ∀ b, A' b → A b) : Bs w A' H := fun B AB e => ⟨(x B AB e).1, fun b n q => (x B AB e).2 b n (hA b q)⟩
theorem Bs.ext {w : Wo} {A : Addr → Prop} {H H' : Hp} (x : Bs w A H) (y : Ext w.hd H H') : Bs w A H' := fun B AB e => ⟨(x B AB e).1.trans y, (x B AB e).2⟩
theorem Bs.wide {w : Wo} {A A' : Addr → Prop} {H : Hp} (x : Bs w A H) (hA : ∀ b, A' b → A b ∨ ¬ NT H b) : Bs w A' H := fun B AB e => ⟨(x B AB e).1, fun b n q => (hA b q).elim ((x B AB e).2 b n) fun z => absurd ((x B AB e).1.dom b n) z⟩
theorem Bs.fin {w : Wo} {A : Addr → Prop} {H H' : Hp} (x : Bs w A H) (y : ∀ B AB, w.bs = some (B, AB) → Ext w.hd B H') : Bs w A H' := fun B AB e => ⟨y B AB e, (x B AB e).2⟩
structure Wd (w : Wo) (A : Addr → Prop) (H : Hp) (h : HS) : Prop where
  hand : ∀ a, w.hd = some a → A a ∧ ¬ w.hc a ∧ ∃ vs, H a = some (.lst vs) ∧ DRepL H (fun b => ¬ w.hc b) h vs
  out : ∀ b, A b → ¬ w.hc b
  ins : ∀ b, w.hc b → NT H b
  dom : Dom A H
  tabs : LamX.Tabs w.T H
  bs : Bs w A H
theorem Wd.in {w : Wo} {A : Addr → Prop} {H : Hp} {h : HS} (x : Wd w A H h) : HdIn w.hd A H := ⟨fun b e => ⟨(x.hand b e).1, let ⟨_, _, vs, q, _⟩ := x.hand b e; ⟨vs, q⟩⟩⟩
theorem Wd.other {w : Wo} {A A' : Addr → Prop} {H : Hp} {h : HS} (x : Wd w A H h) (hA : ∀ b, w.hd = some b → A b → A' b) (ho : ∀ b, A' b → ¬ w.hc b) (dm : Dom A' H) (bs : Bs w A' H) : Wd w A' H h :=
  ⟨fun a e => let ⟨q1, q2⟩ := x.hand a e; ⟨hA a e q1, q2⟩, ho, x.ins, dm, x.tabs, bs⟩
theorem NT.same {H H' : Hp} (s : Same H H') {b : Addr} (n : NT H b) : NT H' b := let ⟨o, e, q⟩ := n; ⟨o, s _ _ e, q⟩
theorem Wd.same {w : Wo} {A : Addr → Prop} {H H' : Hp} {h : HS} (x : Wd w A H h) (s : Same H H') : Wd w A H' h :=
  ⟨fun a e => let ⟨q1, q2, vs, q3, q4⟩ := x.hand a e; ⟨q1, q2, vs, s _ _ q3, q4.same s⟩, x.out, fun b q => (x.ins b q).same s, fun b q => (x.dom b q).same s, x.tabs.ext s, x.bs.ext ⟨fun b o e _ _ => s b o e, fun b n => n.same s⟩⟩
/-- what is read off the hand's list avoids what is to be avoided -/
theorem Wd.un {w : Wo} {A : Addr → Prop} {H : Hp} {h : HS} (x : Wd w A H h) {d : PyData} {v : V} (r : DRep H (fun b => ¬ w.hc b) d v) : DRep H A d v := DRep.wide (fun b _ q => x.out b q) d v r
theorem DRep.ext' {w : Wo} {A : Addr → Prop} {H H' : Hp} {h : HS} (x : Ext w.hd H H') (i : Wd w A H h) {d : PyData} {v : V} (r : DRep H A d v) : DRep H' A d v := r.ext x i.in
theorem DRepL.ext' {w : Wo} {A : Addr → Prop} {H H' : Hp} {h : HS} (x : Ext w.hd H H') (i : Wd w A H h) {d : List PyData} {v : List V} (r : DRepL H A d v) : DRepL H' A d v := r.ext x i.in
theorem Ext.at {w : Wo} {A : Addr → Prop} {H H' : Hp} (x : Ext w.hd H H') (i : HdIn w.hd A H) {b : Addr} {o : HO} (e : H b = some o) (n : ∀ ps, o ≠ .tbl ps) (nl : ∀ vs, o ≠ .lst vs) : H' b = some o :=
  x.keep b o e n fun q => by
    obtain ⟨_, vs, h⟩ := i.hd b q
    rw [h] at e
    exact nl vs (Option.some.inj e).symm
theorem XRep.ext {w : Wo} {A : Addr → Prop} {H H' : Hp} (x : Ext w.hd H H') (i : HdIn w.hd A H) {c : Nat} {y : Option PyData} {cls : Value} {d : Option Addr} (r : XRep w H A c y cls d) : XRep w H' A c y cls d := by
  obtain ⟨C, h1, h2, h3⟩ := r
  refine ⟨C, h1, h2, ?_⟩
  cases y with
  | none => exact h3
  | some y =>
    obtain ⟨dd, fs, v, e1, e2, e3, e4⟩ := h3
    exact ⟨dd, fs, v, e1, x.at i e2 (fun _ q => by cases q) (fun _ q => by cases q), e3, e4.ext x i⟩
theorem codeO_lst {c : Addr} {q : Str} (vs : List V) : LamX.CodeO c q ≠ .lst vs := fun e => by cases e
theorem VRep.ext {w : Wo} {A : Addr → Prop} {H H' : Hp} (x : Ext w.hd H H') (i : HdIn w.hd A H) : ∀ {v : PV} {u : V}, VRep w H A v u → VRep w H' A v u
  | .d _, _, r => DRep.ext x i r
  | .hand, _, r => r
  | .fn, _, r => let ⟨f, c, q, e1, e2, e3⟩ := r; ⟨f, c, q, e1, e2, x.at i e3 (fun ps => LamX.codeO_ne ps) (fun vs => codeO_lst vs)⟩
  | .scr ds, _, r => by
    obtain ⟨a, vs, e, hs, hr⟩ := r
    refine ⟨a, vs, e, ?_, hr.ext x i⟩
    rcases hs with ⟨o, hs⟩ | ⟨hs, h1, h2⟩ | hs
    · exact .inl ⟨o, x.at i hs (fun _ q => by cases q) (fun _ q => by cases q)⟩
    · exact .inr (.inl ⟨x.keep _ _ hs (fun _ q => by cases q) h2, h1, h2⟩)
    · exact .inr (.inr hs)
  | .exn _ _, _, r => let ⟨a, cls, d, e1, e2, e3⟩ := r; ⟨a, cls, d, e1, e2, e3.ext x i⟩

/-! ### slots -/
def Rel (w : Wo) (A : Addr → Prop) (W : List Nat) (σ : L2.St) (H : Hp) (env : Pv.Env) : Prop := ∀ i v o, i ∈ W → env[i]? = some (some (v, o)) → ∃ x, σ[i]? = some (some x) ∧ VRep w H A v x
theorem Rel.ext {w : Wo} {A : Addr → Prop} {W : List Nat} {σ : L2.St} {H H' : Hp} {h : HS} {env : Pv.Env} (r : Rel w A W σ H env) (x : Ext w.hd H H') (i : Wd w A H h) : Rel w A W σ H' env := fun j v o hj e =>
  let ⟨u, e1, e2⟩ := r j v o hj e
  ⟨u, e1, e2.ext x i.in⟩
theorem Rel.sub {w : Wo} {A : Addr → Prop} {W W' : List Nat} {σ : L2.St} {H : Hp} {env : Pv.Env} (r : Rel w A W σ H env) (s : ∀ i ∈ W', i ∈ W) : Rel w A W' σ H env := fun j v o hj e => r j v o (s j hj) e
theorem DRep.mono' {H : Hp} {A A' : Addr → Prop} (hA : ∀ b, A' b → A b) {d : PyData} {x : V} (r : DRep H A d x) : DRep H A' d x := DRep.mono hA (fun _ _ e => e) (fun _ _ _ e _ => e) d x r
theorem DRepL.mono' {H : Hp} {A A' : Addr → Prop} (hA : ∀ b, A' b → A b) {d : List PyData} {x : List V} (r : DRepL H A d x) : DRepL H A' d x := DRepL.mono hA (fun _ _ e => e) (fun _ _ _ e _ => e) d x r

/-! ### what a result of the evaluator wants -/
section
variable {α β γ δ : Type}
def SimG (w : Wo) (W : WX) (A : Addr → Prop) (Rp : α → β → Hp → Hp → Prop) (r : R α) (σ : L2.St) (H : Hp) (Q : β → Hp → Prop) : Prop := match r with
  | .ok a h' => ∀ y H', Ext w.hd H H' → Wd w A H' h' → Rp a y H H' → Q y H'
  | .ex c x h' => ∀ τ cls d H', Ext w.hd H H' → Wd w A H' h' → XRep w H' A c x cls d → W cls d τ H'
  | .no => False
/-- the relation's first heap may be an earlier one -/
def Back (hd : Option Addr) (Rp : α → β → Hp → Hp → Prop) : Prop := ∀ a y H0 H1 H', Ext hd H0 H1 → Rp a y H1 H' → Rp a y H0 H'
variable {w : Wo} {W : WX} {A : Addr → Prop} {Rp : α → β → Hp → Hp → Prop} {Rp2 : γ → δ → Hp → Hp → Prop} {σ : L2.St} {H H1 : Hp}
theorem SimG.from {r : R α} {Q : β → Hp → Prop} (x : Ext w.hd H H1) (bk : Back w.hd Rp) (s : SimG w W A Rp r σ H Q) : SimG w W A Rp r σ H1 Q := by
  cases r with
  | ok a h' => exact fun y H' e wd rp => s y H' (x.trans e) wd (bk _ _ _ _ _ x rp)
  | ex c y h' => exact fun τ cls d H' e wd xr => s τ cls d H' (x.trans e) wd xr
  | no => exact s
theorem SimG.bind {r : R α} {f : α → HS → R γ} {Q : δ → Hp → Prop} {Q1 : β → Hp → Prop} (s : SimG w W A Rp2 (r.bind f) σ H Q) (bk : Back w.hd Rp2)
    (k : ∀ a h1 y H1, r = .ok a h1 → Ext w.hd H H1 → Wd w A H1 h1 → Rp a y H H1 → SimG w W A Rp2 (f a h1) σ H1 Q → Q1 y H1) : SimG w W A Rp r σ H Q1 := by
  cases r with
  | ok a h1 => exact fun y H1 e wd rp => k a h1 y H1 rfl e wd rp (SimG.from e bk s)
  | ex c y h1 => exact s
  | no => exact s
theorem SimG.mono {r : R α} {Q Q' : β → Hp → Prop} (s : SimG w W A Rp r σ H Q) (h : ∀ y H', Q y H' → Q' y H') : SimG w W A Rp r σ H Q' := by
  cases r with
  | ok a h' => exact fun y H' e wd rp => h _ _ (s y H' e wd rp)
  | ex c y h' => exact s
  | no => exact s
end
/-- a value, new where the evaluator says so -/
def TopN (H : Hp) : PV → V → Prop
  | .d d, x => TopNew H d x
  | _, _ => True
def RpE (w : Wo) (A : Addr → Prop) : PV × Bool → V → Hp → Hp → Prop := fun a x H H' => VRep w H' A a.1 x ∧ (a.2 = true → TopN H a.1 x)
def RpL (w : Wo) (A : Addr → Prop) : List (PV × Bool) → List V → Hp → Hp → Prop
  | [], xs, _, _ => xs = []
  | a :: as, xs, H, H' => ∃ x r, xs = x :: r ∧ RpE w A a x H H' ∧ RpL w A as r H H'
def RpB : Bool → Bool → Hp → Hp → Prop := fun a b _ _ => b = a
theorem TopNew.back {hd : Option Addr} {H0 H1 : Hp} (x : Ext hd H0 H1) {d : PyData} {v : V} (t : TopNew H1 d v) : TopNew H0 d v := fun a h e n => t a h e (x.dom a n)
theorem TopN.back {hd : Option Addr} {H0 H1 : Hp} (x : Ext hd H0 H1) : ∀ {d : PV} {v : V}, TopN H1 d v → TopN H0 d v
  | .d _, _, t => TopNew.back x t
  | .hand, _, _ => trivial
  | .fn, _, _ => trivial
  | .scr _, _, _ => trivial
  | .exn _ _, _, _ => trivial
theorem RpE.back {w : Wo} {A : Addr → Prop} : Back w.hd (RpE w A) := fun _ _ _ _ _ x r => ⟨r.1, fun q => TopN.back x (r.2 q)⟩
theorem RpL.back {w : Wo} {A : Addr → Prop} : Back w.hd (RpL w A) := fun as => by
  induction as with
  | nil => exact fun _ _ _ _ _ r => r
  | cons a as ih =>
    intro xs H0 H1 H' x r
    obtain ⟨y, t, e, h1, h2⟩ := r
    exact ⟨y, t, e, RpE.back _ _ _ _ _ x h1, ih _ _ _ _ x h2⟩
theorem RpB.back {hd : Option Addr} : Back hd RpB := fun _ _ _ _ _ _ r => r

/-! ### the reading of compiled code -/
def tG {α β : Type} (w : Wo) (n : Nat) (W : WX) (W' : List Nat) (Rp : (Addr → Prop) → α → β → Hp → Hp → Prop) (f : Pv.Env → HS → R α) : L2.St → Hp → (β → Hp → Prop) → Prop := fun σ H Q =>
  ∃ A env h, (σ.length = n ∧ env.length = n) ∧ Rel w A W' σ H env ∧ Wd w A H h ∧ SimG w W A (Rp A) (f env h) σ H Q
abbrev tE (w : Wo) (n : Nat) (W : WX) (V : List Nat) (f : Pv.Env → HS → Pv.Res) : TE := tG w n W V (RpE w) f
abbrev tA (w : Wo) (n : Nat) (W : WX) (V : List Nat) (f : Pv.Env → HS → R (List (PV × Bool))) : TA := tG w n W V (RpL w) f
/-- a value's truth -/
def tru (v : PV × Bool) (h : HS) : R Bool := match truth v.1 with
  | some b => .ok b h
  | none => .no
abbrev tT (w : Wo) (n : Nat) (W : WX) (V : List Nat) (f : Pv.Env → HS → Pv.Res) : TT := tG w n W V (fun _ => RpB) fun env h => (f env h).bind tru
theorem _root_.L2.PE.imp {X : Cx} {e : Expr} {t t' : TE} (p : PE X e t) (h : ∀ σ H Q, t' σ H Q → t σ H Q) : PE X e t' := ⟨fun pins s σ H Q I q => p.run pins s σ H Q I (h σ H Q q)⟩
theorem _root_.L2.PT.imp {X : Cx} {e : Expr} {t t' : TT} (p : PT X e t) (h : ∀ σ H Q, t' σ H Q → t σ H Q) : PT X e t' := ⟨fun pins s σ H Q I q => p.run pins s σ H Q I (h σ H Q q)⟩
theorem _root_.L2.PA.imp {X : Cx} {e : List Expr} {t t' : TA} (p : PA X e t) (h : ∀ σ H Q, t' σ H Q → t σ H Q) : PA X e t' := ⟨fun pos pins s σ H Q I q => p.run pos pins s σ H Q I (h σ H Q q)⟩
theorem _root_.L2.PE.never {X : Cx} {e : Expr} {t : TE} (h : ∀ σ H Q, ¬ t σ H Q) : PE X e t := ⟨fun pins s σ H Q I q => absurd q (h σ H Q)⟩
theorem _root_.L2.PT.never {X : Cx} {e : Expr} {t : TT} (h : ∀ σ H Q, ¬ t σ H Q) : PT X e t := ⟨fun pins s σ H Q I q => absurd q (h σ H Q)⟩
theorem _root_.L2.PA.never {X : Cx} {e : List Expr} {t : TA} (h : ∀ σ H Q, ¬ t σ H Q) : PA X e t := ⟨fun pos pins s σ H Q I q => absurd q (h σ H Q)⟩
/-- one value told -/
theorem SimG.fin1 {w : Wo} {W : WX} {A : Addr → Prop} {d : PyData} {fr : Bool} {h : HS} {σ : L2.St} {H : Hp} {Q : VK} (wd : Wd w A H h) (s : SimG w W A (RpE w A) (.ok (.d d, fr) h) σ H Q) : Fin1 A fr d H Q := fun z H' sm r t => s z H' (Ext.of_same sm) (wd.same sm) ⟨r, t⟩
theorem SimG.one {w : Wo} {W : WX} {A : Addr → Prop} {o : Option PyData} {fr : Bool} {h : HS} {σ : L2.St} {H : Hp} {Q : VK} (wd : Wd w A H h) (s : SimG w W A (RpE w A) (one o fr h) σ H Q) : ∃ d, o = some d ∧ Fin1 A fr d H Q := by
  cases o with
  | none => exact s.elim
  | some d => exact ⟨d, rfl, SimG.fin1 wd s⟩
theorem withD_of {w : Wo} {W : WX} {A : Addr → Prop} {v : PV × Bool} {f : PyData → Pv.Res} {σ : L2.St} {H : Hp} {Q : VK} (s : SimG w W A (RpE w A) (withD v f) σ H Q) : ∃ d, v.1 = .d d ∧ SimG w W A (RpE w A) (f d) σ H Q := by
  obtain ⟨v, fr⟩ := v
  cases v with
  | d d => exact ⟨d, rfl, s⟩
  | _ => exact s.elim
end Pv
/-! text S7 -/
set_option autoImplicit false
set_option Elab.async false
set_option linter.all false
set_option maxRecDepth 100000
set_option maxHeartbeats 1000000
namespace Pv
open PySem PySem.Spec PyProof.Rows L2

/-! ### expressions, one form at a time -/
structure Pm where
  w : Wo
  n : Nat
  W : WX
  C : Callee
  th : Thunk
  hot : Bool
abbrev Pm.ev (p : Pm) (x : Pv.X) : Pv.Env → HS → Pv.Res := evE p.C p.th p.hot x
abbrev Pm.evL (p : Pm) (x : Pv.X) : Pv.Env → HS → R (List (PV × Bool)) := Pv.evL p.C p.th p.hot x
abbrev Cov (x : Pv.X) (V' : List Nat) : Prop := ∀ i ∈ vars x, i ∈ V'
structure Ev (p : Pm) (X : Cx) (e : Expr) (x : Pv.X) : Prop where
  pe : ∀ V', Cov x V' → PE X e (tE p.w p.n p.W V' (p.ev x))
  pt : ∀ V', Cov x V' → PT X e (tT p.w p.n p.W V' (p.ev x))
structure EvL (p : Pm) (X : Cx) (es : List Expr) (x : Pv.X) : Prop where
  pa : ∀ V', Cov x V' → PA X es (tA p.w p.n p.W V' (p.evL x))
section
variable {p : Pm} {X : Cx}
theorem tru_of {w : Wo} {W : WX} {A : Addr → Prop} {v : PV × Bool} {h : HS} {σ : L2.St} {H : Hp} {Q : Bool → Hp → Prop} (wd : Wd w A H h) (s : SimG w W A RpB (tru v h) σ H Q) : ∃ d b, v.1 = .d d ∧ truth (.d d) = some b ∧ Q b H := by
  obtain ⟨v, fr⟩ := v
  unfold tru at s
  cases v with
  | d d =>
    cases et : truth (.d d) with
    | none => simp only [et] at s; exact s.elim
    | some b => simp only [et] at s; exact ⟨d, b, rfl, et, s b H (Ext.refl H) wd rfl⟩
  | _ => exact s.elim
theorem isTrue_rep {e : Expr} {V' : List Nat} {f : Pv.Env → HS → Pv.Res} (h : PE X e (tE p.w p.n p.W V' f)) (he : ∀ whole, isTrue e X.env whole = (do let v ← whole; standAt e.pos; holding [v] (truthy v))) : PT X e (tT p.w p.n p.W V' f) := by
  refine ⟨fun pins s σ H Q I hw => ?_⟩
  obtain ⟨A, env, h', ln, rel, wd, sm⟩ := hw
  have hq : tE p.w p.n p.W V' f σ H fun x H1 => ∃ A d b, truth (.d d) = some b ∧ DRep H1 A d x ∧ Q b H1 :=
    ⟨A, env, h', ln, rel, wd, SimG.bind sm RpB.back fun a h1 y H1 _ x1 w1 r1 s1 => by
      obtain ⟨d, b, e1, e2, e3⟩ := tru_of w1 s1
      obtain ⟨v, fr⟩ := a
      have e1 : v = .d d := e1
      subst e1
      exact ⟨A, d, b, e2, r1.1, e3⟩⟩
  refine isTrue_plain (thn (h.run pins s σ H _ I hq) fun v s1 ⟨x, H1, I1, r1, q1⟩ => ?_) (he _)
  obtain ⟨A1, d, b, e1, e2, e3⟩ := q1
  exact truth_rep I1 r1 e2 e1 e3
theorem Ev.mk' {e : Expr} {x : Pv.X} (h : ∀ V', Cov x V' → PE X e (tE p.w p.n p.W V' (p.ev x))) (he : ∀ whole, isTrue e X.env whole = (do let v ← whole; standAt e.pos; holding [v] (truthy v))) : Ev p X e x := ⟨h, fun V' c => isTrue_rep (h V' c) he⟩
theorem Ev.no {e : Expr} {x : Pv.X} (h : ∀ env h, p.ev x env h = .no) : Ev p X e x :=
  ⟨fun V' _ => PE.never fun σ H Q ⟨A, env, h', _, _, _, s⟩ => by rw [h] at s; exact s, fun V' _ => PT.never fun σ H Q ⟨A, env, h', _, _, _, s⟩ => by simp only [h] at s; exact s⟩
theorem EvL.no {e : List Expr} {x : Pv.X} (h : ∀ env h, p.evL x env h = .no) : EvL p X e x :=
  ⟨fun V' _ => PA.never fun σ H Q ⟨A, env, h', _, _, _, s⟩ => by rw [h] at s; exact s⟩
/-- to the first of two readings -/
theorem SimG.sub1 {e : Pv.Env → HS → Pv.Res} {V' : List Nat} {A : Addr → Prop} {env : Pv.Env} {h : HS} {σ : L2.St} {H : Hp} {γ δ : Type} {Rp2 : γ → δ → Hp → Hp → Prop} {f : PV × Bool → HS → R γ} {Q : δ → Hp → Prop} {Q1 : VK}
    (ln : σ.length = p.n ∧ env.length = p.n) (rel : Rel p.w A V' σ H env) (wd : Wd p.w A H h) (bk : Back p.w.hd Rp2) (s : SimG p.w p.W A Rp2 ((e env h).bind f) σ H Q)
    (k : ∀ a h1 x H1, Ext p.w.hd H H1 → Wd p.w A H1 h1 → Rel p.w A V' σ H1 env → VRep p.w H1 A a.1 x → (a.2 = true → TopN H a.1 x) → SimG p.w p.W A Rp2 (f a h1) σ H1 Q → Q1 x H1) : tE p.w p.n p.W V' e σ H Q1 :=
  ⟨A, env, h, ln, rel, wd, SimG.bind s bk fun a h1 x H1 _ x1 w1 r1 s1 => k a h1 x H1 x1 w1 (rel.ext x1 wd) r1.1 r1.2 s1⟩

/-! constants, names -/
theorem constOf_cases {k : Const} {d : PyData} (h : Pv.constOf k = some d) : (k = .none ∧ d = .none) ∨ (∃ b, k = .bool b ∧ d = .bool b) ∨ (∃ i, k = .int i ∧ d = .int i) ∨ ∃ s, k = .str s ∧ d = .str s := by
  cases k <;> simp [Pv.constOf] at h <;> subst h
  · exact .inl ⟨rfl, rfl⟩
  · exact .inr (.inl ⟨_, rfl, rfl⟩)
  · exact .inr (.inr (.inl ⟨_, rfl, rfl⟩))
  · exact .inr (.inr (.inr ⟨_, rfl, rfl⟩))
def vOf : PyData → V
  | .none => .non
  | .bool b => .bl b
  | .int i => .int i
  | .str s => .str s
  | _ => .non
theorem ev_const {d : PyData} {e : Expr} (hp : PE X e (tC (vOf d))) (hd : ∀ H A, DRep H A d (vOf d)) (ht : isTop d = false) (he : ∀ whole, isTrue e X.env whole = (do let v ← whole; standAt e.pos; holding [v] (truthy v))) : Ev p X e (.cst d) :=
  .mk' (fun V' _ => hp.imp fun σ H Q ⟨A, env, h, ln, rel, wd, s⟩ => s _ H (Ext.refl H) wd ⟨hd H A, fun _ a q => by rw [ht] at q; cases q⟩) he
theorem ev_cst {k : Const} {j : Nat} {pos : Pos} {d : PyData} (h : Pv.constOf k = some d) : Ev p X (.Constant k j pos) (.cst d) := by
  rcases constOf_cases h with ⟨rfl, rfl⟩ | ⟨b, rfl, rfl⟩ | ⟨i, rfl, rfl⟩ | ⟨s, rfl, rfl⟩
  · exact ev_const pe_non (fun _ _ => rfl) rfl (fun _ => rfl)
  · exact ev_const pe_bl (fun _ _ => rfl) rfl (fun _ => rfl)
  · exact ev_const pe_int (fun _ _ => rfl) rfl (fun _ => rfl)
  · exact ev_const pe_str (fun _ _ => rfl) rfl (fun _ => rfl)
theorem ev_var {i : Nat} {x : Str} {pos : Pos} (hN : X.N[i]? = some x) (hv : Vis X.env.scope x) (hd : (x == ("__debug__" : Str)) = false) (hcd : (x == ("__classdict__" : Str)) = false) : Ev p X (.Name x pos) (.var i) :=
  .mk' (fun V' c => (pe_var hN hv hd hcd).imp fun σ H Q ⟨A, env, h, ln, rel, wd, s⟩ => by
    have hi : i ∈ V' := c i (by simp [vars])
    unfold Pm.ev evE at s
    cases e1 : env[i]? with
    | none => simp only [e1] at s; exact s.elim
    | some q =>
      cases q with
      | none => simp only [e1] at s; exact s.elim
      | some q =>
        obtain ⟨v, o⟩ := q
        simp only [e1] at s
        obtain ⟨x, h1, h2⟩ := rel i v o hi e1
        exact ⟨x, h1, s _ H (Ext.refl H) wd ⟨h2, fun q => by cases q⟩⟩) fun _ => rfl
/-! operators -/
theorem covL {a b : List Nat} {V' : List Nat} (c : ∀ i ∈ a ++ b, i ∈ V') : ∀ i ∈ a, i ∈ V' := fun i h => c i (List.mem_append_left _ h)
theorem covR {a b : List Nat} {V' : List Nat} (c : ∀ i ∈ a ++ b, i ∈ V') : ∀ i ∈ b, i ∈ V' := fun i h => c i (List.mem_append_right _ h)
theorem VRep.toD {w : Wo} {H : Hp} {A : Addr → Prop} {v : PV} {d : PyData} {x : V} (e : v = .d d) (r : VRep w H A v x) : DRep H A d x := by subst e; exact r
theorem ev_bin {a b : Expr} {xa xb : Pv.X} {o : Bop} {pos : Pos} (ha : Ev p X a xa) (hb : Ev p X b xb) : Ev p X (.BinOp a o.op b pos) (.bin o xa xb) :=
  .mk' (fun V' c => (pe_op (op_bin o) (ha.pe V' (covL c)) (hb.pe V' (covR c))).imp fun σ H Q ⟨A, env, h, ln, rel, wd, s⟩ => by
    unfold Pm.ev evE at s
    refine SimG.sub1 ln rel wd RpE.back s fun va h1 x H1 x1 w1 rel1 r1 _ s1 => SimG.sub1 ln rel1 w1 RpE.back s1 fun vb h2 y H2 x2 w2 rel2 r2 _ s2 => ?_
    obtain ⟨da, ea, s3⟩ := withD_of s2
    obtain ⟨db, eb, s4⟩ := withD_of s3
    obtain ⟨d, e, f⟩ := SimG.one w2 s4
    exact ⟨A, da, db, d, w2.dom, (VRep.toD ea r1).ext' x2 w1, VRep.toD eb r2, e, f⟩) fun _ => rfl
theorem ev_neg {a : Expr} {xa : Pv.X} {pos : Pos} (ha : Ev p X a xa) : Ev p X (.UnaryOp .USub a pos) (.neg xa) :=
  .mk' (fun V' c => (pe_un un_neg (ha.pe V' c)).imp fun σ H Q ⟨A, env, h, ln, rel, wd, s⟩ => by
    unfold Pm.ev evE at s
    refine SimG.sub1 ln rel wd RpE.back s fun va h1 x H1 x1 w1 rel1 r1 _ s1 => ?_
    obtain ⟨da, ea, s2⟩ := withD_of s1
    cases da with
    | int i => exact ⟨i, VRep.toD ea r1, (SimG.fin1 w1 s2).int⟩
    | _ => exact s2.elim) fun _ => rfl
theorem ev_not {a : Expr} {xa : Pv.X} {pos : Pos} (ha : Ev p X a xa) : Ev p X (.UnaryOp .Not a pos) (.not xa) := by
  refine ⟨fun V' c => (pe_not (ha.pe V' c)).imp fun σ H Q ⟨A, env, h, ln, rel, wd, s⟩ => ?_, fun V' c => (pt_not (ha.pt V' c)).imp fun σ H Q ⟨A, env, h, ln, rel, wd, s⟩ => ?_⟩
  · unfold Pm.ev evE at s
    refine SimG.sub1 ln rel wd RpE.back s fun va h1 x H1 x1 w1 rel1 r1 _ s1 => ?_
    obtain ⟨da, ea, s2⟩ := withD_of s1
    cases da with
    | bool b => exact ⟨b, VRep.toD ea r1, (SimG.fin1 w1 s2).bl⟩
    | _ => exact s2.elim
  · refine ⟨A, env, h, ln, rel, wd, ?_⟩
    unfold Pm.ev evE at s
    revert s
    show SimG _ _ _ _ (R.bind (R.bind (evE p.C p.th p.hot xa env h) _) tru) σ H Q → SimG _ _ _ _ (R.bind (evE p.C p.th p.hot xa env h) tru) σ H _
    cases evE p.C p.th p.hot xa env h with
    | no => exact fun s => s
    | ex c y h1 => exact fun s => s
    | ok v h1 =>
      obtain ⟨v, fr⟩ := v
      cases v with
      | d d =>
        cases d with
        | bool b => exact fun s y H' x1 w1 r1 => by cases r1; exact s _ H' x1 w1 rfl
        | _ => exact fun s => s.elim
      | _ => exact fun s => s.elim
end
end Pv
/-! text S8 -/
set_option autoImplicit false
set_option Elab.async false
set_option linter.all false
set_option maxRecDepth 100000
set_option maxHeartbeats 1000000
namespace Pv
open PySem PySem.Spec PyProof.Rows L2
section
variable {p : Pm} {X : Cx}
/-! and, or -/
theorem ev_one {op : BoolOp} {a : Expr} {xa : Pv.X} {pos : Pos} (ha : Ev p X a xa) : Ev p X (.BoolOp op [a] pos) xa :=
  ⟨fun V' c => pe_one (ha.pe V' c), fun V' c => match op with
    | .And => (pw_and1 (ha.pt V' c)).pt
    | .Or => (pw_or1 (ha.pt V' c)).pt⟩
theorem pw_of {op : BoolOp} {es : List Expr} {pos : Pos} {t : TT} (h : PT X (.BoolOp op es pos) t) : PW X (.BoolOp op es pos) t := ⟨fun wh pins s σ H Q I q => by
  have z := h.run pins s σ H Q I q
  unfold PySem.isTrue at z ⊢
  exact z⟩
theorem bool_of {w : Wo} {W : WX} {A : Addr → Prop} {γ δ : Type} {Rp : γ → δ → Hp → Hp → Prop} {v : PV × Bool} {f : Bool → HS → R γ} {h : HS} {σ : L2.St} {H : Hp} {Q : δ → Hp → Prop} {g : PyData → R γ} (hv : ∃ d, v.1 = .d d ∧ SimG w W A Rp (g d) σ H Q) (hg : ∀ b, g (.bool b) = f b h) (hn : ∀ d, (∀ b, d ≠ .bool b) → g d = .no) :
    ∃ b, v.1 = .d (.bool b) ∧ SimG w W A Rp (f b h) σ H Q := by
  obtain ⟨d, e, s⟩ := hv
  by_cases hb : ∃ b, d = .bool b
  · obtain ⟨b, rfl⟩ := hb
    exact ⟨b, e, by rw [← hg]; exact s⟩
  · rw [hn d (fun b q => hb ⟨b, q⟩)] at s
    exact s.elim
/-- the reading of a test by its value -/
theorem tru_bool {w : Wo} {W : WX} {A : Addr → Prop} {b : Bool} {fr : Bool} {h : HS} {σ : L2.St} {H : Hp} {Q : Bool → Hp → Prop} (wd : Wd w A H h) (s : SimG w W A RpB (tru (.d (.bool b), fr) h) σ H Q) : Q b H := s b H (Ext.refl H) wd rfl
theorem withD_tru {w : Wo} {W : WX} {A : Addr → Prop} {v : PV × Bool} {f : PyData → Pv.Res} {σ : L2.St} {H : Hp} {Q : Bool → Hp → Prop} (s : SimG w W A RpB ((withD v f).bind tru) σ H Q) : ∃ d, v.1 = .d d ∧ SimG w W A RpB ((f d).bind tru) σ H Q := by
  obtain ⟨v, fr⟩ := v
  cases v with
  | d d => exact ⟨d, rfl, s⟩
  | _ => exact s.elim
theorem bind_assoc {α β γ : Type} (r : R α) (f : α → HS → R β) (g : β → HS → R γ) : (r.bind f).bind g = r.bind fun a h => (f a h).bind g := by cases r <;> rfl
/-- to the first of two tests -/
theorem SimG.sub1T {e : Pv.Env → HS → Pv.Res} {V' : List Nat} {A : Addr → Prop} {env : Pv.Env} {h : HS} {σ : L2.St} {H : Hp} {γ δ : Type} {Rp2 : γ → δ → Hp → Hp → Prop} {f : PV × Bool → HS → R γ} {Q : δ → Hp → Prop} {Q1 : Bool → Hp → Prop}
    (ln : σ.length = p.n ∧ env.length = p.n) (rel : Rel p.w A V' σ H env) (wd : Wd p.w A H h) (bk : Back p.w.hd Rp2) (s : SimG p.w p.W A Rp2 ((e env h).bind f) σ H Q)
    (hd : ∀ v h1 σ H, SimG p.w p.W A Rp2 (f v h1) σ H Q → ∃ b, truth v.1 = some b)
    (k : ∀ a h1 b H1, Ext p.w.hd H H1 → Wd p.w A H1 h1 → Rel p.w A V' σ H1 env → truth a.1 = some b → SimG p.w p.W A Rp2 (f a h1) σ H1 Q → Q1 b H1) : tT p.w p.n p.W V' e σ H Q1 := by
  refine ⟨A, env, h, ln, rel, wd, ?_⟩
  revert s
  show SimG _ _ _ _ (R.bind (e env h) f) σ H Q → SimG _ _ _ _ (R.bind (e env h) tru) σ H Q1
  cases e env h with
  | no => exact fun s => s
  | ex c y h1 => exact fun s => s
  | ok v h1 =>
    intro s
    have s : SimG p.w p.W A Rp2 (f v h1) σ H Q := s
    obtain ⟨b, eb⟩ := hd v h1 _ _ s
    show SimG _ _ _ _ (tru v h1) σ H Q1
    unfold tru
    rw [eb]
    exact fun y H1 x1 w1 r1 => by
      cases r1
      exact k v h1 b H1 x1 w1 (rel.ext x1 wd) eb (SimG.from x1 bk s)
theorem ev_and {a b : Expr} {rest : List Expr} {xa xb : Pv.X} {pos : Pos} (ha : Ev p X a xa) (hb : Ev p X (.BoolOp .And (b :: rest) pos) xb) : Ev p X (.BoolOp .And (a :: b :: rest) pos) (.and xa xb) := by
  refine ⟨fun V' c => (pe_and (ha.pe V' (covL c)) (hb.pe V' (covR c))).imp fun σ H Q ⟨A, env, h, ln, rel, wd, s⟩ => ?_, fun V' c => (pw_and (ha.pt V' (covL c)) (pw_of (hb.pt V' (covR c)))).pt.imp fun σ H Q ⟨A, env, h, ln, rel, wd, s⟩ => ?_⟩
  · unfold Pm.ev evE at s
    refine SimG.sub1 ln rel wd RpE.back s fun va h1 x H1 x1 w1 rel1 r1 _ s1 => ?_
    obtain ⟨da, ea, s2⟩ := withD_of s1
    cases da with
    | bool b =>
      refine ⟨b, VRep.toD ea r1, ?_⟩
      cases b with
      | true => exact ⟨A, env, h1, ln, rel1, w1, s2⟩
      | false => exact (SimG.fin1 w1 s2).bl
    | _ => exact s2.elim
  · unfold Pm.ev evE at s
    simp only [bind_assoc] at s
    refine SimG.sub1T ln rel wd RpB.back s (fun v h1 σ H s => ?_) fun va h1 b H1 x1 w1 rel1 eb s1 => ?_
    · obtain ⟨da, ea, s2⟩ := withD_tru s
      cases da with
      | bool b => exact ⟨b, by rw [ea]; rfl⟩
      | _ => exact s2.elim
    · obtain ⟨da, ea, s2⟩ := withD_tru s1
      rw [ea] at eb
      cases da with
      | bool b' =>
        cases eb
        cases b with
        | true => exact ⟨A, env, h1, ln, rel1, w1, s2⟩
        | false => exact tru_bool (fr := true) w1 s2
      | _ => exact s2.elim
theorem ev_or {a b : Expr} {rest : List Expr} {xa xb : Pv.X} {pos : Pos} (ha : Ev p X a xa) (hb : Ev p X (.BoolOp .Or (b :: rest) pos) xb) : Ev p X (.BoolOp .Or (a :: b :: rest) pos) (.or xa xb) := by
  refine ⟨fun V' c => (pe_or (ha.pe V' (covL c)) (hb.pe V' (covR c))).imp fun σ H Q ⟨A, env, h, ln, rel, wd, s⟩ => ?_, fun V' c => (pw_or (ha.pt V' (covL c)) (pw_of (hb.pt V' (covR c)))).pt.imp fun σ H Q ⟨A, env, h, ln, rel, wd, s⟩ => ?_⟩
  · unfold Pm.ev evE at s
    refine SimG.sub1 ln rel wd RpE.back s fun va h1 x H1 x1 w1 rel1 r1 _ s1 => ?_
    obtain ⟨da, ea, s2⟩ := withD_of s1
    cases da with
    | bool b =>
      refine ⟨b, VRep.toD ea r1, ?_⟩
      cases b with
      | false => exact ⟨A, env, h1, ln, rel1, w1, s2⟩
      | true => exact (SimG.fin1 w1 s2).bl
    | _ => exact s2.elim
  · unfold Pm.ev evE at s
    simp only [bind_assoc] at s
    refine SimG.sub1T ln rel wd RpB.back s (fun v h1 σ H s => ?_) fun va h1 b H1 x1 w1 rel1 eb s1 => ?_
    · obtain ⟨da, ea, s2⟩ := withD_tru s
      cases da with
      | bool b => exact ⟨b, by rw [ea]; rfl⟩
      | _ => exact s2.elim
    · obtain ⟨da, ea, s2⟩ := withD_tru s1
      rw [ea] at eb
      cases da with
      | bool b' =>
        cases eb
        cases b with
        | false => exact ⟨A, env, h1, ln, rel1, w1, s2⟩
        | true => exact tru_bool (fr := true) w1 s2
      | _ => exact s2.elim
/-! comparisons -/
/-- a test that is always told by a bool -/
theorem test_of {V' : List Nat} {f : Pv.Env → HS → Pv.Res} {t0 : TE} (core : ∀ {σ H} {Q : VK}, tE p.w p.n p.W V' f σ H Q → t0 σ H Q) (hb : ∀ env h v h', f env h = .ok v h' → ∃ b, v.1 = .d (.bool b)) {σ : L2.St} {H : Hp} {Q : Bool → Hp → Prop} (t : tT p.w p.n p.W V' f σ H Q) : tTest t0 σ H Q := by
  obtain ⟨A, env, h, ln, rel, wd, s⟩ := t
  refine core ⟨A, env, h, ln, rel, wd, ?_⟩
  have hb' := hb env h
  revert s hb'
  show SimG _ _ _ _ (R.bind (f env h) tru) σ H Q → _ → SimG _ _ _ _ (f env h) σ H _
  cases f env h with
  | no => exact fun s _ => s
  | ex c y h1 => exact fun s _ => s
  | ok v h1 =>
    intro s hb' y H1 x1 w1 r1
    obtain ⟨b, e⟩ := hb' v h1 rfl
    obtain ⟨v, fr⟩ := v
    have e : v = .d (.bool b) := e
    subst e
    exact ⟨b, r1.1, s b H1 x1 w1 rfl⟩
theorem bind_ok {α β : Type} {r : R α} {f : α → HS → R β} {b : β} {h' : HS} (e : r.bind f = .ok b h') : ∃ a h, r = .ok a h ∧ f a h = .ok b h' := by
  cases r with
  | ok a h => exact ⟨a, h, rfl, e⟩
  | ex c x h => cases e
  | no => cases e
theorem withD_ok {v : PV × Bool} {f : PyData → Pv.Res} {b : PV × Bool} {h' : HS} (e : withD v f = .ok b h') : ∃ d, v.1 = .d d ∧ f d = .ok b h' := by
  obtain ⟨v, fr⟩ := v
  cases v with
  | d d => exact ⟨d, rfl, e⟩
  | _ => cases e
theorem one_ok {o : Option PyData} {fr : Bool} {h h' : HS} {b : PV × Bool} (e : one o fr h = .ok b h') : ∃ d, o = some d ∧ b = (.d d, fr) := by
  cases o with
  | none => cases e
  | some d => cases e; exact ⟨d, rfl, rfl⟩
theorem map_bool {o : Option Bool} {d : PyData} (e : o.map PyData.bool = some d) : ∃ b, o = some b ∧ d = .bool b := by
  cases o with
  | none => cases e
  | some b => cases e; exact ⟨b, rfl, rfl⟩
theorem ev_cmp (hu : X.A.units + 200 < cLine) {a b : Expr} {xa xb : Pv.X} {o : Cop} {pos : Pos} (hm : behindInMarks o.op b = false) (ha : Ev p X a xa) (hb : Ev p X b xb) : Ev p X (.Compare a [o.op] [b] pos) (.cmp o xa xb) := by
  have core : ∀ {V' σ H} {Q : VK}, tE p.w p.n p.W V' (p.ev (.cmp o xa xb)) σ H Q → tOp (rCmp o) (tE p.w p.n p.W V' (p.ev xa)) (tE p.w p.n p.W V' (p.ev xb)) σ H Q := fun {V' σ H Q} ⟨A, env, h, ln, rel, wd, s⟩ => by
    unfold Pm.ev evE at s
    refine SimG.sub1 ln rel wd RpE.back s fun va h1 x H1 x1 w1 rel1 r1 _ s1 => SimG.sub1 ln rel1 w1 RpE.back s1 fun vb h2 y H2 x2 w2 rel2 r2 _ s2 => ?_
    obtain ⟨da, ea, s3⟩ := withD_of s2
    obtain ⟨db, eb, s4⟩ := withD_of s3
    obtain ⟨d, e, f⟩ := SimG.one w2 s4
    obtain ⟨b, hc, rfl⟩ := map_bool e
    exact ⟨A, da, db, b, (VRep.toD ea r1).ext' x2 w1, VRep.toD eb r2, hc, f.bl⟩
  refine ⟨fun V' c => (pe_cmpR (op_cmp hu o) (ha.pe V' (covL c)) (hb.pe V' (covR c)) hm).imp fun σ H Q t => core t,
    fun V' c => (pt_cmpR (op_cmp hu o) (ha.pe V' (covL c)) (hb.pe V' (covR c)) hm).imp fun σ H Q t => test_of core (fun env h v h' e => ?_) t⟩
  unfold Pm.ev evE at e
  obtain ⟨va, h1, _, e⟩ := bind_ok e
  obtain ⟨vb, h2, _, e⟩ := bind_ok e
  obtain ⟨da, _, e⟩ := withD_ok e
  obtain ⟨db, _, e⟩ := withD_ok e
  obtain ⟨d, e, e2⟩ := one_ok e
  obtain ⟨b, _, rfl⟩ := map_bool e
  exact ⟨b, by rw [e2]⟩
theorem ev_chain (hu : X.A.units + 200 < cLine) {a b c : Expr} {xa xb xc : Pv.X} {o q : Cop} {pos : Pos} (hm : lastMarks [o.op, q.op] [b, c] = false) (ha : Ev p X a xa) (hb : Ev p X b xb) (hc : Ev p X c xc) : Ev p X (.Compare a [o.op, q.op] [b, c] pos) (.chain o q xa xb xc) := by
  have core : ∀ {V' σ H} {Q : VK}, tE p.w p.n p.W V' (p.ev (.chain o q xa xb xc)) σ H Q → tChain (rCmp o) (rCmp q) (tE p.w p.n p.W V' (p.ev xa)) (tE p.w p.n p.W V' (p.ev xb)) (tE p.w p.n p.W V' (p.ev xc)) σ H Q := fun {V' σ H Q} ⟨A, env, h, ln, rel, wd, s⟩ => by
    unfold Pm.ev evE at s
    refine SimG.sub1 ln rel wd RpE.back s fun va h1 x H1 x1 w1 rel1 r1 _ s1 => SimG.sub1 ln rel1 w1 RpE.back s1 fun vb h2 y H2 x2 w2 rel2 r2 _ s2 => ?_
    obtain ⟨da, ea, s3⟩ := withD_of s2
    obtain ⟨db, eb, s4⟩ := withD_of s3
    cases hcm : cmpD o da db with
    | none => simp only [hcm] at s4; exact s4.elim
    | some k =>
      simp only [hcm] at s4
      refine ⟨A, da, db, k, (VRep.toD ea r1).ext' x2 w1, VRep.toD eb r2, hcm, k, rfl, ?_⟩
      cases k with
      | false => exact (SimG.fin1 w2 s4).bl
      | true =>
        refine SimG.sub1 ln rel2 w2 RpE.back s4 fun vc h3 z H3 x3 w3 rel3 r3 _ s5 => ?_
        obtain ⟨dc, ec, s6⟩ := withD_of s5
        obtain ⟨d, e, f⟩ := SimG.one w3 s6
        obtain ⟨b, hc2, rfl⟩ := map_bool e
        exact ⟨A, db, dc, b, (VRep.toD eb r2).ext' x3 w2, VRep.toD ec r3, hc2, f.bl⟩
  refine ⟨fun V' c => (pe_chain (op_cmp hu o) (op_cmp hu q) (ha.pe V' (covL (covL c))) (hb.pe V' (covR (covL c))) (hc.pe V' (covR c)) hm).imp fun σ H Q t => core t,
    fun V' c => (pt_chain (op_cmp hu o) (op_cmp hu q) (ha.pe V' (covL (covL c))) (hb.pe V' (covR (covL c))) (hc.pe V' (covR c)) hm).imp fun σ H Q t => test_of core (fun env h v h' e => ?_) t⟩
  unfold Pm.ev evE at e
  obtain ⟨va, h1, _, e⟩ := bind_ok e
  obtain ⟨vb, h2, _, e⟩ := bind_ok e
  obtain ⟨da, _, e⟩ := withD_ok e
  obtain ⟨db, _, e⟩ := withD_ok e
  cases hcm : cmpD o da db with
  | none => simp only [hcm] at e; cases e
  | some k =>
    simp only [hcm] at e
    cases k with
    | false => cases e; exact ⟨false, rfl⟩
    | true =>
      obtain ⟨vc, h3, _, e⟩ := bind_ok e
      obtain ⟨dc, _, e⟩ := withD_ok e
      obtain ⟨d, e, e2⟩ := one_ok e
      obtain ⟨b, _, rfl⟩ := map_bool e
      exact ⟨b, by rw [e2]⟩
/-! a if c else b -/
theorem pt_ifExp {c a b : Expr} {pos : Pos} {tc ta tb : TT} (hc : PT X c tc) (ha : PT X a ta) (hb : PT X b tb) : PT X (.IfExp c a b pos) (fun σ H Q => tc σ H fun k H1 => if k = true then ta σ H1 Q else tb σ H1 Q) := by
  refine ⟨fun pins s σ H Q I h => ?_⟩
  rw [PySem.isTrue]
  refine wpAny_bind (thn (hc.run pins s σ H _ I h) fun d s1 ⟨H1, I1, q1⟩ => ?_)
  cases d with
  | true => exact ha.run pins s1 σ H1 Q I1 q1
  | false => exact hb.run pins s1 σ H1 Q I1 q1
theorem bool_or {γ δ : Type} {w : Wo} {W : WX} {A : Addr → Prop} {Rp : γ → δ → Hp → Hp → Prop} {σ : L2.St} {H : Hp} {Q : δ → Hp → Prop} {d : PyData} {r1 r2 : R γ} (s : SimG w W A Rp (match d with
    | .bool true => r1
    | .bool false => r2
    | _ => .no) σ H Q) : ∃ b, d = .bool b ∧ SimG w W A Rp (if b = true then r1 else r2) σ H Q := by
  cases d with
  | bool b => cases b <;> exact ⟨_, rfl, s⟩
  | _ => exact s.elim
theorem ev_ite {c a b : Expr} {xc xa xb : Pv.X} {pos : Pos} (hc : Ev p X c xc) (ha : Ev p X a xa) (hb : Ev p X b xb) : Ev p X (.IfExp c a b pos) (.ite xc xa xb) := by
  refine ⟨fun V' cv => (pe_ifExp (hc.pt V' (covL (covL cv))) (ha.pe V' (covR (covL cv))) (hb.pe V' (covR cv))).imp fun σ H Q ⟨A, env, h, ln, rel, wd, s⟩ => ?_,
    fun V' cv => (pt_ifExp (hc.pt V' (covL (covL cv))) (ha.pt V' (covR (covL cv))) (hb.pt V' (covR cv))).imp fun σ H Q ⟨A, env, h, ln, rel, wd, s⟩ => ?_⟩
  · unfold Pm.ev evE at s
    refine SimG.sub1T ln rel wd RpE.back s (fun v h1 σ H s => ?_) fun va h1 b H1 x1 w1 rel1 eb s1 => ?_
    · cases e : truth v.1 with
      | some b => exact ⟨b, rfl⟩
      | none => simp only [e] at s; exact s.elim
    · simp only [eb] at s1
      cases b with
      | true => exact ⟨A, env, h1, ln, rel1, w1, s1⟩
      | false => exact ⟨A, env, h1, ln, rel1, w1, s1⟩
  · unfold Pm.ev evE at s
    simp only [bind_assoc] at s
    refine SimG.sub1T ln rel wd RpB.back s (fun v h1 σ H s => ?_) fun va h1 b H1 x1 w1 rel1 eb s1 => ?_
    · cases e : truth v.1 with
      | some b => exact ⟨b, rfl⟩
      | none => simp only [e] at s; exact s.elim
    · simp only [eb] at s1
      cases b with
      | true => exact ⟨A, env, h1, ln, rel1, w1, s1⟩
      | false => exact ⟨A, env, h1, ln, rel1, w1, s1⟩
end
end Pv
/-! text SV -/
set_option autoImplicit false
set_option Elab.async false
set_option linter.all false
set_option maxRecDepth 100000
set_option maxHeartbeats 1000000
/-! x[::-1], of a tuple too -/
namespace HT
open PySem PySem.Spec PyProof.Rows
section
variable {prog : Program} {w : World} {A : Around} {E : Value → Shared → Prop} {s : Shared}
theorem places_rev (n : Nat) : Builtin.Slice.slicePlaces ((n : Int) - 1) (-1) (-1) = n := by
  unfold Builtin.Slice.slicePlaces
  have h1 : ¬ ((-1 : Int) > 0) := by decide
  simp only [h1, if_false]
  by_cases h : (n : Int) - 1 > -1
  · rw [if_pos h, show (-(-1 : Int)) = 1 by decide, Int.ediv_one]; omega
  · rw [if_neg h]; omega
theorem sliceApplied_rev {sl : Addr} {vs : Value} {n : Nat} {Q : Int × Int × Nat → Shared → Prop} (hs : s.heap.IsSliceOf sl .none .none vs) (ps : IsPart vs (some (-1)))
    (h : Q (((n : Int) - 1), -1, n) s) : wpAny (model prog w) A (Builtin.Slice.sliceApplied (.ref sl) (pure (n : Int))) Q E s := by
  obtain ⟨os, hos, hcs, hds⟩ := id hs
  unfold Builtin.Slice.sliceApplied Builtin.Slice.sliceFields
  refine wpAny_bind (wpAny_bind (wpAny_field hos hds (x := .none) rfl (wpAny_bind (wpAny_field hos hds (x := .none) rfl (wpAny_bind (wpAny_field hos hds (x := vs) rfl (wpAny_pure ?_)))))))
  refine wpAny_bind (slicePart_ ps ?_)
  show wpAny _ _ (if ((-1 : Int) == 0) = true then _ else _) _ _ s
  rw [if_neg (by decide)]
  refine wpAny_bind (slicePart_none (wpAny_bind (slicePart_none (wpAny_bind (wpAny_pure ?_)))))
  show wpAny _ _ (pure (((n : Int) - 1), (-1 : Int), Builtin.Slice.slicePlaces ((n : Int) - 1) (-1) (-1))) _ _ s
  rw [places_rev]
  exact wpAny_pure h
theorem pick_rev (xs : Array Value) : ((List.range xs.size).filterMap fun (m : Nat) => xs[(((xs.size : Nat) : Int) - 1 + (m : Int) * (-1)).toNat]?).toArray = xs.toList.reverse.toArray := by
  have e : (fun (m : Nat) => xs[(((xs.size : Nat) : Int) - 1 + (m : Int) * (-1)).toNat]?) = fun m => (xs[·]?) (xs.size - 1 - m) := by
    funext m
    have : (((xs.size : Nat) : Int) - 1 + (m : Int) * (-1)).toNat = xs.size - 1 - m := by omega
    show xs[_]? = xs[_]?
    rw [this]
  have q : (List.range xs.size).filterMap (fun m => (xs[·]?) (xs.size - 1 - m)) = ((List.range xs.size).map fun m => xs.size - 1 - m).filterMap (xs[·]?) := by
    rw [List.filterMap_map]; rfl
  rw [e, q, PySem.W.krv_range, List.filterMap_reverse, PySem.W.krv_all]
theorem getItem_tuple_rev {t sl : Addr} {items : Array Value} {vs : Value} {Q : Value → Shared → Prop} (ht : IsTup s.heap t items) (hs : s.heap.IsSliceOf sl .none .none vs) (ps : IsPart vs (some (-1)))
    (h : Q (.ref s.heap.objs.size) { s with heap := s.heap.push { cls := .type "tuple", data := .seq items.toList.reverse.toArray } })
    (hsz : items.size ≤ sizeLine) : wpAny (model prog w) A (getItem (.ref t) (.ref sl)) Q E s := by
  have htake : sizeOk (.seq items.toList.reverse.toArray) := by
    show items.toList.reverse.toArray.size ≤ sizeLine
    rw [List.size_toArray, List.length_reverse, Array.length_toList]
    omega
  obtain ⟨os, hos, hcs, hds⟩ := id hs
  have hTs : s.TypeIs (.ref sl) "slice" := ⟨os, hos, hcs⟩
  unfold getItem
  try with_reducible refine wpAny_holding ?_
  first | refine wpAny_bind (wpAny_pure ?_) | skip
  refine wpAny_bind (wpAny_sequenceKey ht.typeIs (by decide) ?_)
  refine wpAny_bind (wpAny_callSpecial?_slot (name := Str.ofString "__getitem__") ht.typeIs PyProof.Rows.slot_tuple_getitem
    (wpAny_call_entry PyProof.Rows.slot_tuple_getitem ht.typeIs entry_tuple_getitem ?_ (args_tuple_getitem _ _)))
  show wpAny _ _ (Builtin.Tuple.tupleItemsOf (.ref t) >>= _) _ _ s
  refine wpAny_bind (tupleItemsOf_ ht ?_)
  refine wpAny_bind (wpAny_typeOf hTs ?_)
  rw [if_pos (by decide)]
  refine wpAny_bind (sliceApplied_rev hs ps ?_)
  have hno : ¬ (((((items.size : Nat) : Int) - 1) == 0 && (-1 : Int) == 1 && items.size == items.size) = true) := by
    intro q
    rw [Bool.and_eq_true, Bool.and_eq_true] at q
    exact absurd (eq_of_beq q.1.2) (by decide)
  show wpAny _ _ (if ((((items.size : Nat) : Int) - 1) == 0 && (-1 : Int) == 1 && items.size == items.size) = true then _ else _) _ _ s
  rw [if_neg hno, pick_rev]
  first
    | exact wpAny_bind (m := Builtin.Tuple.tupleExact _) (wpAny_newObj_type (wpAny_pure ⟨_, rfl, wpAny_pure h⟩) htake)
    | exact wpAny_bind (m := Builtin.Tuple.tupleExact _) (wpAny_newObj_type (wpAny_bind (wpAny_pure (wpAny_pure ⟨_, rfl, wpAny_pure h⟩))) htake)
    | exact wpAny_bind (wpAny_bind (m := Builtin.Tuple.tupleExact _) (wpAny_newObj_type (wpAny_pure (wpAny_pure ⟨_, rfl, wpAny_pure h⟩)) htake))
    | exact wpAny_bind (wpAny_bind (m := Builtin.Tuple.tupleExact _) (wpAny_newObj_type (wpAny_pure ⟨_, rfl, wpAny_pure h⟩) htake))
end
end HT
namespace L2
open PySem PySem.Spec PyProof.Rows
section
variable {X : Cx}
def tRevA (K : PySem.W.Frag) (te : TE) : TE := fun σ H Q => te σ H fun x H1 => (∃ a xs, x = .ref a ∧ SqL K H1 a xs ∧ ∀ p, H1 p = none → Q (.ref p) (upd H1 p (.lst xs.reverse))) ∨
  ∃ a xs, x = .ref a ∧ SqT K H1 a xs ∧ ∀ p, H1 p = none → Q (.ref p) (upd H1 p (.tup xs.reverse))
theorem pe_revA {e : Expr} {te : TE} {k : Nat} {p1 p2 p3 pos : Pos} (he : PE X e te) : PE X (.Subscript e (.Slice none none (some (.UnaryOp .USub (.Constant (.int 1) k p1) p2)) p3) pos) (tRevA X.K te) := by
  refine ⟨fun pins s σ H Q I h => ?_⟩
  refine Subscript_ (thn (he.run pins s σ H _ I h) fun v s1 ⟨x, H1, I1, r1, q1⟩ => ?_)
  have hst : PO X (some (.UnaryOp .USub (.Constant (.int 1) k p1) p2)) (tPart (tUn (rU fun i => .int (-i)) (tC (.int 1)))) := po_some (pe_un un_neg pe_int)
  refine wpAny_Slice (thn (po_none.run pins s1 σ H1 (fun o H2 => o = none ∧ H2 = H1) I1 ⟨rfl, rfl⟩) fun vl s2 ⟨l, H2, I2, pl, el, e2⟩ => ?_)
  subst el e2
  refine thn (po_none.run pins s2 σ H2 (fun o H3 => o = none ∧ H3 = H2) I2 ⟨rfl, rfl⟩) fun vu s3 ⟨u, H3, I3, pu, eu, e3⟩ => ?_
  subst eu e3
  refine thn (hst.run pins s3 σ H3 (fun o H4 => o = some (-1) ∧ H4 = H3) I3 ⟨1, rfl, -1, rfl, rfl, rfl⟩) fun vs s4 ⟨o, H4, I4, ps, eo, e4⟩ => ?_
  subst eo e4
  have I5 : Inv X pins σ H4 { s4 with heap := s4.heap.push { cls := .type "slice", data := .fields #[vl, vu, vs] } } := I4.kept (t' := s4.toks) fun b ob q => Heap.get?_push_of_some _ q
  rcases q1 with ⟨a, xs, ex, hx, q⟩ | ⟨a, xs, ex, hx, q⟩
  · subst ex
    cases r1
    obtain ⟨its, r, ht, hz⟩ := I5.list hx
    have hlen := r.length
    show wpAny (model X.prog X.w) X.A (subscriptTail e (.Slice none none (some (.UnaryOp .USub (.Constant (.int 1) k p1) p2)) p3) (.ref a) (.ref s4.heap.objs.size)) (EP X pins σ Q) X.xe { s4 with heap := s4.heap.push { cls := .type "slice", data := .fields #[vl, vu, vs] } }
    refine tail_any (ops := [.ref a, .ref s4.heap.objs.size]) ht.isList.typeIs (PySem.slot_list_getitem.lookup) ?_ (by with_unfolding_all rfl)
    refine wpAny_getItem_list_slice ht.isList (Heap.IsSliceOf.new _ vl vu vs) pl pu ps (by decide) ?_ (by rw [List.size_toArray]; omega)
    rw [PySem.W.krv_pick]
    refine ⟨.ref _, _, I5.laid (t' := s4.toks) (o := .lst xs.reverse) (fun b ob q => Heap.get?_push_of_some _ q) (Nat.le_refl _) ?_, rfl, q _ (I5.hok.fresh (Nat.le_refl _))⟩
    exact ⟨by rw [List.length_reverse]; exact hz, _, 0, r.reverse, Heap.get?_push_size _ rfl⟩
  · subst ex
    cases r1
    cases pl
    cases pu
    obtain ⟨its, r, ht, hz⟩ := I5.tuple hx
    have hlen := r.length
    show wpAny (model X.prog X.w) X.A (subscriptTail e (.Slice none none (some (.UnaryOp .USub (.Constant (.int 1) k p1) p2)) p3) (.ref a) (.ref s4.heap.objs.size)) (EP X pins σ Q) X.xe { s4 with heap := s4.heap.push { cls := .type "slice", data := .fields #[.none, .none, vs] } }
    refine tail_any (ops := [.ref a, .ref s4.heap.objs.size]) ht.typeIs (PyProof.Rows.slot_tuple_getitem.lookup) ?_ (by with_unfolding_all rfl)
    refine HT.getItem_tuple_rev ht (Heap.IsSliceOf.new _ .none .none vs) ps ?_ (by rw [List.size_toArray]; omega)
    refine ⟨.ref _, _, I5.laid (t' := s4.toks) (o := .tup xs.reverse) (fun b ob q => Heap.get?_push_of_some _ q) (Nat.le_refl _) ?_, rfl, q _ (I5.hok.fresh (Nat.le_refl _))⟩
    exact ⟨by rw [List.length_reverse]; exact hz, _, r.reverse, IsTup.new _ _⟩
end
end L2
/-! text S9 -/
set_option autoImplicit false
set_option Elab.async false
set_option linter.all false
set_option maxRecDepth 100000
set_option maxHeartbeats 1000000
namespace Pv
open PySem PySem.Spec PyProof.Rows L2
def isStar : Expr → Bool
  | .Starred .. => true
  | _ => false
def isSl : Expr → Bool
  | .Slice .. => true
  | _ => false
theorem starEach_cons {e : Expr} (h : isStar e = false) (es : List Expr) (env : PySem.Env) : starEach (e :: es) env = (false, eval e env) :: starEach es env := by
  cases e <;> first | rfl | cases h
section
variable {p : Pm} {X : Cx}
theorem evl_nil : EvL p X [] .nil := ⟨fun V' _ => pa_nil.imp fun σ H Q ⟨A, env, h, ln, rel, wd, s⟩ => by
  unfold Pm.evL Pv.evL at s
  exact s [] H (Ext.refl H) wd rfl⟩
theorem evl_cons {e : Expr} {es : List Expr} {xe xr : Pv.X} (hs : isStar e = false) (he : Ev p X e xe) (hr : EvL p X es xr) : EvL p X (e :: es) (.cons xe xr) :=
  ⟨fun V' c => (pa_cons (he.pe V' (covL c)) (hr.pa V' (covR c)) (starEach_cons hs es X.env)).imp fun σ H Q ⟨A, env, h, ln, rel, wd, s⟩ => by
    unfold Pm.evL Pv.evL at s
    refine ⟨A, env, h, ln, rel, wd, ?_⟩
    revert s
    show SimG _ _ _ _ (R.bind (p.ev xe env h) _) σ H Q → SimG _ _ _ _ (p.ev xe env h) σ H _
    cases p.ev xe env h with
    | no => exact fun s => s
    | ex c y h1 => exact fun s => s
    | ok va h1 =>
      intro s x H1 x1 w1 r1
      refine ⟨A, env, h1, ln, rel.ext x1 wd, w1, ?_⟩
      revert s
      show SimG _ _ _ _ (R.bind (p.evL xr env h1) _) σ H Q → SimG _ _ _ _ (p.evL xr env h1) σ H1 _
      cases p.evL xr env h1 with
      | no => exact fun s => s
      | ex c y h2 => exact fun s τ cls d H' e wd xr => s τ cls d H' (x1.trans e) wd xr
      | ok vas h2 => exact fun s xs H2 x2 w2 r2 => s (x :: xs) H2 (x1.trans x2) w2 ⟨x, xs, rfl, ⟨r1.1.ext x2 w1.in, r1.2⟩, RpL.back _ _ _ _ _ x1 r2⟩⟩
theorem RpL.rep {w : Wo} {A : Addr → Prop} {H H' : Hp} : ∀ {vs : List (PV × Bool)} {xs : List V} {ds : List PyData}, RpL w A vs xs H H' → datAll vs = some ds → DRepL H' A ds xs
  | [], xs, ds, r, e => by
    cases e
    exact r
  | (v, fr) :: vs, xs, ds, r, e => by
    obtain ⟨x, t, rfl, h1, h2⟩ := r
    unfold datAll at e
    cases v with
    | d d =>
      cases hd : datAll vs with
      | none => simp [dat, hd] at e
      | some ds' =>
        simp [dat, hd] at e
        subst e
        exact ⟨x, t, rfl, h1.1, RpL.rep h2 hd⟩
    | _ => simp [dat] at e
/-- to the first of a list's readings -/
theorem SimG.subL {e : Pv.X} {V' : List Nat} {A : Addr → Prop} {env : Pv.Env} {h : HS} {σ : L2.St} {H : Hp} {γ δ : Type} {Rp2 : γ → δ → Hp → Hp → Prop} {f : List (PV × Bool) → HS → R γ} {Q : δ → Hp → Prop} {Q1 : List V → Hp → Prop}
    (ln : σ.length = p.n ∧ env.length = p.n) (rel : Rel p.w A V' σ H env) (wd : Wd p.w A H h) (bk : Back p.w.hd Rp2) (s : SimG p.w p.W A Rp2 ((p.evL e env h).bind f) σ H Q)
    (k : ∀ a h1 x H1, p.evL e env h = .ok a h1 → Ext p.w.hd H H1 → Wd p.w A H1 h1 → Rel p.w A V' σ H1 env → RpL p.w A a x H H1 → SimG p.w p.W A Rp2 (f a h1) σ H1 Q → Q1 x H1) : tA p.w p.n p.W V' (p.evL e) σ H Q1 :=
  ⟨A, env, h, ln, rel, wd, SimG.bind s bk fun a h1 x H1 e1 x1 w1 r1 s1 => k a h1 x H1 e1 x1 w1 (rel.ext x1 wd) r1 s1⟩
theorem datAll_len : ∀ {vs : List (PV × Bool)} {ds : List PyData}, datAll vs = some ds → ds.length = vs.length
  | [], ds, e => by cases e; rfl
  | (v, fr) :: vs, ds, e => by
    unfold datAll at e
    cases v with
    | d d =>
      cases hd : datAll vs with
      | none => simp [dat, hd] at e
      | some ds' =>
        simp [dat, hd] at e
        subst e
        simp [datAll_len hd]
    | _ => simp [dat] at e
theorem datAll_of {w : Wo} {W : WX} {A : Addr → Prop} {vs : List (PV × Bool)} {f : List PyData → Pv.Res} {σ : L2.St} {H : Hp} {Q : VK} (s : SimG w W A (RpE w A) (match datAll vs with
    | some xs => f xs
    | none => .no) σ H Q) : ∃ ds, datAll vs = some ds ∧ SimG w W A (RpE w A) (f ds) σ H Q := by
  cases h : datAll vs with
  | none => simp only [h] at s; exact s.elim
  | some ds => simp only [h] at s; exact ⟨ds, rfl, s⟩
theorem ev_tup {es : List Expr} {x : Pv.X} {k : Nat} {pos : Pos} (hl : ∀ env h vs h', p.evL x env h = .ok vs h' → vs.length ≤ sizeLine) (he : EvL p X es x) : Ev p X (.Tuple es k pos) (.tup x) :=
  .mk' (fun V' c => (pe_tup (he.pa V' c)).imp fun σ H Q ⟨A, env, h, ln, rel, wd, s⟩ => by
    unfold Pm.ev evE at s
    refine SimG.subL ln rel wd RpE.back s fun va h1 xs H1 e1 x1 w1 rel1 r1 s1 => ?_
    obtain ⟨ds, hd, s2⟩ := datAll_of s1
    have rr := r1.rep hd
    exact ⟨by rw [rr.length, datAll_len hd]; exact hl _ _ _ _ e1, fun a ha => (SimG.fin1 w1 s2).tup rr ha⟩) fun _ => rfl
theorem ev_lst {es : List Expr} {x : Pv.X} {pos : Pos} (hl : ∀ env h vs h', p.evL x env h = .ok vs h' → vs.length ≤ sizeLine) (he : EvL p X es x) : Ev p X (.List es pos) (.lst x) :=
  .mk' (fun V' c => (pe_lst (he.pa V' c)).imp fun σ H Q ⟨A, env, h, ln, rel, wd, s⟩ => by
    unfold Pm.ev evE at s
    refine SimG.subL ln rel wd RpE.back s fun va h1 xs H1 e1 x1 w1 rel1 r1 s1 => ?_
    obtain ⟨ds, hd, s2⟩ := datAll_of s1
    have rr := r1.rep hd
    exact ⟨by rw [rr.length, datAll_len hd]; exact hl _ _ _ _ e1, fun a ha => (SimG.fin1 w1 s2).lst w1.dom rr ha⟩) fun _ => rfl
theorem ev_dsp0 {pos : Pos} : Ev p X (.Dict [] [] pos) (.dsp .nil .nil) :=
  .mk' (fun V' c => pe_dnewK.imp fun σ H Q ⟨A, env, h, ln, rel, wd, s⟩ => by
    unfold Pm.ev evE at s
    exact fun a ha => (SimG.fin1 wd s).dic0 wd.dom ha) fun _ => rfl
/-! subscripts -/
theorem atG_at {xs : List PyData} {vs : List V} {i : Int} {d : PyData} {H : Hp} {A : Addr → Prop} (r : DRepL H A xs vs) (e : atG xs i = some d) : ∃ v, atI vs i = some v ∧ DRep H A d v := by
  obtain ⟨j, e1, e2⟩ := atG_of e
  obtain ⟨v, hv, rv⟩ := r.get e1
  exact ⟨v, atI_of r.length e2 hv, rv⟩
theorem ev_idx (hu : X.A.units + 200 < cLine) {a b : Expr} {xa xb : Pv.X} {pos : Pos} (hs : PlainIx b) (ha : Ev p X a xa) (hb : Ev p X b xb) : Ev p X (.Subscript a b pos) (.idx xa xb) :=
  .mk' (fun V' c => (pe_ix ((ix_data hu).or ix_list) (ha.pe V' (covL c)) (hb.pe V' (covR c)) hs).imp fun σ H Q ⟨A, env, h, ln, rel, wd, s⟩ => by
    unfold Pm.ev evE at s
    refine SimG.sub1 ln rel wd RpE.back s fun va h1 x H1 x1 w1 rel1 r1 _ s1 => SimG.sub1 ln rel1 w1 RpE.back s1 fun vb h2 y H2 x2 w2 rel2 r2 _ s2 => ?_
    obtain ⟨v, fr⟩ := va
    cases v with
    | d da =>
      obtain ⟨db, eb, s4⟩ := withD_of s2
      obtain ⟨d, e, f⟩ := SimG.one w2 s4
      exact .inl ⟨A, da, db, d, DRep.ext' x2 w1 r1, VRep.toD eb r2, e, f⟩
    | hand =>
      obtain ⟨db, eb, s4⟩ := withD_of s2
      cases db with
      | int i =>
        obtain ⟨d, e, f⟩ := SimG.one w2 s4
        obtain ⟨a, ea, rfl⟩ := r1
        obtain ⟨_, _, vs, hv, rv⟩ := w2.hand a ea
        obtain ⟨v, e1, rv⟩ := atG_at rv e
        exact .inr ⟨a, vs, i, v, rfl, VRep.toD eb r2, .of hv, e1, DRep.self f (w2.un rv)⟩
      | _ => exact s4.elim
    | _ => exact s2.elim) fun _ => rfl
def rSl2 (K : PySem.W.Frag) : V → Option Int → Option Int → Hp → VK → Prop := fun x lo hi H Q => rSl true x lo hi H Q ∨ ∃ a vs, x = .ref a ∧ SqL K H a vs ∧ ∀ p, H p = none → Q (.ref p) (upd H p (.lst (cutV vs lo hi)))
theorem sl2 : SlR X (rSl2 X.K) := SlR.or sl_data sl_list
def vO : Option Int → V
  | none => .non
  | some i => .int i
def poOf (p : Pm) (V' : List Nat) (x : Pv.X) : TO := fun σ H Q => tE p.w p.n p.W V' (p.ev x) σ H fun v H1 => ∃ o, v = vO o ∧ Q o H1
theorem part_of {v : V} {u : Value} {o : Option Int} (r : RelV v u) (e : v = vO o) : IsPart u o := by
  cases o with
  | none => subst e; cases r; exact .none
  | some i => subst e; obtain ⟨t, rfl⟩ := r; exact .int i t
theorem po_of {e : Expr} {x : Pv.X} {V' : List Nat} (h : PE X e (tE p.w p.n p.W V' (p.ev x))) : PO X (some e) (poOf p V' x) := by
  refine ⟨fun pins s σ H Q I hw => ?_⟩
  rw [evalPart_some]
  refine thn (h.run pins s σ H _ I hw) fun u s1 ⟨v, H1, I1, r1, q1⟩ => ?_
  obtain ⟨o, e, q⟩ := q1
  exact ⟨o, H1, I1, part_of r1 e, q⟩
theorem po_non {V' : List Nat} : PO X none (poOf p V' (.cst .none)) := by
  refine ⟨fun pins s σ H Q I hw => ?_⟩
  rw [evalPart_none]
  obtain ⟨A, env, h, ln, rel, wd, sm⟩ := hw
  unfold Pm.ev evE at sm
  obtain ⟨o, e, q⟩ := sm .non H (Ext.refl H) wd ⟨rfl, fun _ a z => by cases z⟩
  cases o with
  | none => exact wpAny_pure ⟨none, H, I, .none, q⟩
  | some i => cases e
theorem vO_of {w : Wo} {H : Hp} {A : Addr → Prop} {v : PV} {o : Option Int} {x : V} (e : optV v = some o) (r : VRep w H A v x) : x = vO o := by
  cases v with
  | d d => cases d <;> simp [optV, optI] at e <;> subst e <;> exact r
  | _ => cases e
theorem optV_of {α β : Type} {w : Wo} {W : WX} {A : Addr → Prop} {Rp : α → β → Hp → Hp → Prop} {v : PV} {f : Option Int → R α} {σ : L2.St} {H : Hp} {Q : β → Hp → Prop} (s : SimG w W A Rp (match optV v with
    | none => .no
    | some l => f l) σ H Q) : ∃ l, optV v = some l ∧ SimG w W A Rp (f l) σ H Q := by
  cases h : optV v with
  | none => simp only [h] at s; exact s.elim
  | some l => simp only [h] at s; exact ⟨l, rfl, s⟩
theorem ev_slice {a : Expr} {lo hi : Option Expr} {xa xl xh : Pv.X} {p2 pos : Pos} (hK : X.K = p.w.K) (ha : Ev p X a xa) (hl : ∀ V', Cov xl V' → PO X lo (poOf p V' xl)) (hh : ∀ V', Cov xh V' → PO X hi (poOf p V' xh)) : Ev p X (.Subscript a (.Slice lo hi none p2) pos) (.slice xa xl xh) :=
  .mk' (fun V' c => (pe_slice sl2 (ha.pe V' (covL (covL c))) (hl V' (covR (covL c))) (hh V' (covR c))).imp fun σ H Q ⟨A, env, h, ln, rel, wd, s⟩ => by
    unfold Pm.ev evE at s
    refine SimG.sub1 ln rel wd RpE.back s fun va h1 x H1 x1 w1 rel1 r1 _ s1 => ?_
    refine SimG.sub1 ln rel1 w1 RpE.back s1 fun vb h2 y H2 x2 w2 rel2 r2 _ s2 => ?_
    obtain ⟨l, el, s2⟩ := optV_of s2
    refine ⟨l, vO_of el r2, ?_⟩
    refine SimG.sub1 ln rel2 w2 RpE.back s2 fun vc h3 z H3 x3 w3 rel3 r3 _ s3 => ?_
    obtain ⟨u, eu, s4⟩ := optV_of s3
    refine ⟨u, vO_of eu r3, ?_⟩
    obtain ⟨v, fr⟩ := va
    cases v with
    | d da =>
      obtain ⟨d, e, f⟩ := SimG.one w3 s4
      exact .inl ⟨A, da, d, w3.dom, DRep.ext' x3 w2 (DRep.ext' x2 w1 r1), e, f⟩
    | scr xs =>
      obtain ⟨d, e, f⟩ := SimG.one w3 s4
      obtain ⟨a, vs, rfl, hs, rv⟩ := (VRep.ext x3 w2.in (VRep.ext x2 w1.in (v := .scr xs) r1))
      cases e
      exact .inr ⟨a, vs, rfl, by rw [hK]; exact hs.sq, fun q hq => f.lst w3.dom (rv.cut l u) hq⟩
    | _ => exact s4.elim) fun _ => rfl
/-- xs[::-1], a list -/
theorem ev_rev {a : Expr} {xa : Pv.X} {k : Nat} {p1 p2 p3 pos : Pos} (ha : Ev p X a xa) : Ev p X (.Subscript a (.Slice none none (some (.UnaryOp .USub (.Constant (.int 1) k p1) p2)) p3) pos) (.rev xa) :=
  .mk' (fun V' c => (pe_revA (ha.pe V' c)).imp fun σ H Q ⟨A, env, h, ln, rel, wd, s⟩ => by
    unfold Pm.ev evE at s
    refine SimG.sub1 ln rel wd RpE.back s fun va h1 x H1 x1 w1 rel1 r1 _ s1 => ?_
    obtain ⟨da, ea, s3⟩ := withD_of s1
    obtain ⟨d, e, f⟩ := SimG.one w1 s3
    have r := VRep.toD ea r1
    cases da with
    | list xs =>
      cases e
      obtain ⟨a, vs, rfl, _, hv, rv⟩ := r
      exact .inl ⟨a, vs, rfl, .of hv, fun q hq => f.lst w1.dom rv.reverse hq⟩
    | tuple xs =>
      cases e
      obtain ⟨a, vs, rfl, hv, rv⟩ := r
      exact .inr ⟨a, vs, rfl, .of hv, fun q hq => f.tup rv.reverse hq⟩
    | _ => cases e) fun _ => rfl
end
end Pv
/-! text ST -/
set_option autoImplicit false
set_option maxRecDepth 100000
set_option linter.all false
set_option maxHeartbeats 1000000
/-! Tuples that may be empty, put in order. -/
namespace Pv
open PySem PySem.W PySem.SeqAt PySem.Calls PyProof.Rows
section
variable {prog : Program} {w : World} {A : Around} {E : Value → Shared → Prop} {s : Shared}
theorem tupLt_call {p q : Addr} {ps qs : Array Value} {eq lt : Nat → Bool} {Q : Value → Shared → Prop} (hp : s.heap.IsTuple p ps) (hq : s.heap.IsTuple q qs)
    (h1 : ∀ j (a : j < ps.size) (b : j < qs.size), EqAt A.in1 s ps[j] qs[j] (eq j)) (h2 : ∀ j (a : j < ps.size) (b : j < qs.size), eq j = false → RcLt A.in1 s ps[j] qs[j] (lt j))
    (h : Q (.bool (firstLt eq lt (decide (ps.size < qs.size)) (List.range (min ps.size qs.size)))) s) : wpAny (model prog w) A (call (.builtin "tuple.__lt__") [.ref p, .ref q]) Q E s := by
  obtain ⟨⟨c1, d1, x1, l1⟩, o1, e1, n1, f1⟩ := id hp
  obtain ⟨⟨c2, d2, x2, l2⟩, o2, e2, n2, f2⟩ := id hq
  simp only at e1 f1 e2 f2
  subst e1 f1 e2 f2
  exact call_meets F.slot_tuple_lt ⟨_, o1, rfl⟩ F.entry_tuple_lt (F.args_tuple_lt_2 _ _) (PySem.SeqAt.tuple_ltAt p q ps qs n1 n2 d1 d2 l1 l2 eq lt) ⟨o1, o2, h1, h2, h⟩

theorem oneLt_tup {xs ys : List PyData} {a b : Value} {as bs : List Addr} {Q : Bool → Shared → Prop} (ra : Reads s.heap a (.tuple xs) as) (rb : Reads s.heap b (.tuple ys) bs) (h : alike (.tuple xs) (.tuple ys) = true)
    (hu : A.units + min (PyData.tuple xs).depth (PyData.tuple ys).depth < cLine) (hq : Q (dataLt (.tuple xs) (.tuple ys)) s) : wpAny (model prog w) A (oneLt' true a b) Q E s := by
  have hal : alikeAll xs ys = true := by simpa [alike] using h
  cases ra with
  | @tuple l o vs n _ as₁ a1 a2 a3 a4 =>
  cases rb with
  | @tuple l' o' vs' n' _ bs₁ b1 b2 b3 b4 =>
  have z1 : vs.size = xs.length := by simpa using ReadsAll.length _ _ _ a4
  have z2 : vs'.size = ys.length := by simpa using ReadsAll.length _ _ _ b4
  rw [dataLt_tuple, ← firstLt_toks xs ys hal, ← z1, ← z2] at hq
  rw [oneLt'_eq]; simp only [if_true]
  refine wpAny_bind (wpAny_cRoomFor (room_here hu) (wpAny_bind (wpAny_callSpecialIfBound?_slot (T := "tuple") ⟨_, a1, a2⟩ F.slot_tuple_lt
    (tupLt_call (eq := pairEq xs ys) (lt := fun j => dataLt (xs.getD j .none) (ys.getD j .none)) ⟨_, a1, a2, _, a3⟩ ⟨_, b1, b2, _, b3⟩ (fun j u v => ?_) (fun j u v hj => ?_) (wpAny_truthy_bool hq)))))
  · have t := eqAt_alikeAll xs ys A.in1 s vs.toList vs'.toList _ _ a4 b4 hal (room_in hu) j (by simpa using u) (by simpa using v)
    simpa using t
  · have t := rcLt_alikeAll xs ys A.in1 s vs.toList vs'.toList _ _ a4 b4 hal (room_in hu) j (by simpa using u) (by simpa using v) hj
    simpa using t
end

section
variable {M : Model} {A : Around} {E : Value → Shared → Prop} {s : Shared}
theorem tup_firsts : ∀ (vs : List Value) (ds : List PyData), EachIs (fun v d => ∃ as, Reads s.heap v d as) vs ds → (∀ d ∈ ds, ∃ xs, d = .tuple xs) →
    ∃ fs : List (Option Value), fs.map (·.isSome) = ds.map isTup1 ∧ ∀ Q : List (Option Value) → Shared → Prop, Q fs s → wpAny M A (vs.mapM firstOfTuple') Q E s
  | _, _, .nil, _ => ⟨[], rfl, fun Q h => by rw [List.mapM_nil]; exact wpAny_pure h⟩
  | v :: vs, d :: ds, .cons ⟨as, r⟩ t, ht => by
    obtain ⟨fs, e1, e2⟩ := tup_firsts vs ds t fun d h => ht d (List.mem_cons_of_mem _ h)
    obtain ⟨xs, rfl⟩ := ht d (List.mem_cons_self ..)
    cases r with
    | @tuple a o us n _ _ ho hc hd hr =>
      refine ⟨us[0]? :: fs, ?_, fun Q h => ?_⟩
      · rw [List.map_cons, List.map_cons, e1]
        congr 1
        cases xs with
        | nil =>
          have : us.toList = [] := by generalize us.toList = u at hr; cases hr; rfl
          rw [← Array.getElem?_toList, this]; rfl
        | cons x xs =>
          obtain ⟨f, fr, q⟩ : ∃ f fr, us.toList = f :: fr := by generalize us.toList = u at hr; cases hr; exact ⟨_, _, rfl⟩
          rw [← Array.getElem?_toList, q]; rfl
      · rw [List.mapM_cons]
        refine wpAny_bind ?_
        rw [kas_first_eq]
        refine wpAny_bind (Looks.here (show Looks M s.heap (typeOf (.ref a)) o.cls from (Looks.ld ho).andThen .now) ?_)
        rw [hc, if_neg (by first | decide | simp)]
        exact wpAny_bind (listItems_at ho hd (wpAny_pure (wpAny_bind (e2 _ (wpAny_pure h)))))

def tupKd (ds : List PyData) : SortKind := if (ds.head?.map isTup1).getD false = true then general' else oneType'
theorem tup_kind {vs : List Value} {ds : List PyData} {Q : SortKind → Shared → Prop} (h2 : 2 ≤ vs.length) (e : EachIs (fun v d => ∃ as, Reads s.heap v d as) vs ds) (ht : ∀ d ∈ ds, ∃ xs, d = .tuple xs) (hn : ds.all isTup1 = false)
    (h : Q (tupKd ds) s) : wpAny M A (keyKind' vs.toArray) Q E s := by
  obtain ⟨fs, e1, e2⟩ := tup_firsts (M := M) (A := A) (E := E) vs ds e ht
  rw [keyKind'_eq, List.mapM_toArray, map_eq_pure_bind]
  refine wpAny_bind (wpAny_bind (e2 _ (wpAny_pure ?_)))
  have na : (fs.toArray.all fun x => x.isSome) = false := by
    have : (fs.toArray.all fun x => x.isSome) = (fs.map (·.isSome)).all id := by simp [List.all_map]
    rw [this, e1, List.all_map]; exact hn
  have hd : (fs.toArray[0]?.bind id).isSome = (ds.head?.map isTup1).getD false := by
    cases fs with
    | nil => cases ds with
      | nil => rfl
      | cons d ds => cases e1
    | cons f fs => cases ds with
      | nil => cases e1
      | cons d ds =>
        have : f.isSome = isTup1 d := (List.cons.inj e1).1
        rw [List.head?_cons, Option.map_some, Option.getD_some, ← this]; simp
  rw [if_neg (by rw [na]; exact Bool.false_ne_true), hd]
  unfold tupKd at h
  split
  · rename_i hc
    rw [if_pos hc] at h
    exact wpAny_pure h
  · rename_i hc
    rw [if_neg hc] at h
    obtain ⟨v₁, rest, rfl⟩ : ∃ v₁ rest, vs = v₁ :: rest := by
      match vs, h2 with
      | v₁ :: rest, _ => exact ⟨v₁, rest, rfl⟩
    have hT : ∀ v ∈ v₁ :: rest, Looks M s.heap (typeOf v) (.type "tuple") := fun v hv => by
      obtain ⟨d, hd, as, r⟩ := e.left v hv
      obtain ⟨xs, rfl⟩ := ht d hd
      exact looks_reads r
    rw [oneTypeOnly'_eq, List.mapM_toArray, map_eq_pure_bind]
    refine wpAny_bind (wpAny_bind (wpAny_bind (kas_mapM (r := Value.type "tuple") _ (fun v hv Q' hq => (hT v hv).here hq) (wpAny_pure ?_))))
    have hz : ((List.map (fun _ => Value.type "tuple") (v₁ :: rest)).toArray.all fun x => x == Value.type "tuple") = true := by
      simp only [List.all_toArray, List.all_map, List.all_eq_true]; intro _ _; first | rfl | decide
    have h0 : (List.map (fun _ => Value.type "tuple") (v₁ :: rest)).toArray[0]? = some (Value.type "tuple") := by simp
    rw [h0]; simp only [hz, if_true]
    exact wpAny_pure (wpAny_pure h)
end

section
variable {prog : Program} {w : World} {A : Around} {s : Shared}
theorem sortsAt_tups {vs : List Value} {ds : List PyData} (e : EachIs (fun v d => ∃ as, Reads s.heap v d as) vs ds) (hal : AllAlike ds) (ht : ∀ d ∈ ds, ∃ xs, d = .tuple xs) (hn : ds.all isTup1 = false) (hu : ∀ d, d ∈ ds → A.units + d.depth < cLine) :
    SortsAt prog w A s (dataKind s.heap ds) vs := by
  refine ⟨fun v hv => ?_, tupKd ds, ?_, fun h2 E Q hq => tup_kind h2 e ht hn hq⟩
  · obtain ⟨d, hd, as, r⟩ := e.left v hv
    exact ⟨_, dataKind_some hal hd r⟩
  · intro E x y a b Q ha hb hq
    obtain ⟨d, as, hd, ra, rfl⟩ := dataKind_inv ha
    obtain ⟨d', as', hd', rb, rfl⟩ := dataKind_inv hb
    have rm : A.units + min d.depth d'.depth < cLine := Nat.lt_of_le_of_lt (Nat.add_le_add_left (Nat.min_le_left _ _) _) (hu d hd)
    obtain ⟨xs, rfl⟩ := ht d hd
    obtain ⟨ys, rfl⟩ := ht d' hd'
    unfold tupKd
    split
    · exact (show wpAny (model prog w) A (oneLt' false x y) Q E s from oneLt_alike (fun z => absurd z (by decide)) ra rb (hal _ hd _ hd') (fun z => nomatch z) rm hq)
    · rw [keyLt'_oneType]
      exact oneLt_tup ra rb (hal _ hd _ hd') rm hq
/-- all are tuples, or none is a tuple or None -/
def Ordable (ds : List PyData) : Prop := (∀ d ∈ ds, ∃ xs, d = .tuple xs) ∨ ∀ d ∈ ds, d ≠ .none ∧ ∀ xs, d ≠ .tuple xs
theorem sortsAt_any {vs : List Value} {ds : List PyData} (e : EachIs (fun v d => ∃ as, Reads s.heap v d as) vs ds) (hal : AllAlike ds) (hk : Ordable ds) (hu : ∀ d, d ∈ ds → A.units + d.depth < cLine) :
    SortsAt prog w A s (dataKind s.heap ds) vs := by
  rcases hk with ht | hn
  · cases q : ds.all isTup1 with
    | false => exact sortsAt_tups e hal ht q hu
    | true =>
      refine SortsAt.data e hal (.inl fun d hd => ?_) hu
      have := List.all_eq_true.mp q d hd
      match d, this with
      | .tuple (x :: r), _ => exact ⟨x, r, rfl⟩
  · exact SortsAt.data e hal (.inr hn) hu
end
section
variable {β : Type} {prog : Program} {w : World} {A : Around} {E : Value → Shared → Prop} {s : Shared} {RR : Value → β → Prop} {enc : β → PyData} {vs : List Value} {bs : List β}
/-- what collects a row of values -/
def Coll (prog : Program) (w : World) (A : Around) (s : Shared) (l : Addr) (vs : List Value) : Prop := ∀ (Q : List Value → Shared → Prop) (E : Value → Shared → Prop), Q vs { s with heap := (s.heap.push (seqObj "list" #[] 0)).update s.heap.objs.size (Obj.mapSeq (· ++ vs.toArray)) } → wpAny (model prog w) A (collect (.ref l)) Q E s
theorem coll_of {l : Addr} {T : String} (hT : T = "list" ∨ T = "tuple") {o : Obj} {n : Nat} (ho : s.heap.get? l = some o) (hc : o.cls = .type T) (hd : o.data = .seq vs.toArray n) (hsz : vs.length ≤ sizeLine) : Coll prog w A s l vs := by
  intro Q E h
  unfold collect
  refine wpAny_bind (wpAny_runValue (codeAny_builtin entry_proto_collect' ?_))
  show wpAny _ _ (do again (.builtin "list.__iadd__" ⟨[← newList [], .ref l], []⟩)) _ _ s
  refine wpAny_bind (wpAny_newList (wpAny_pure ⟨Code.quiet_builtin _ (by decide +kernel), codeAny_builtin entry_list_iadd' ?_⟩))
  show wpAny _ _ (Builtin.List.listExtendWith (.ref s.heap.objs.size) (.ref l) (.ref s.heap.objs.size)) _ _ { s with heap := s.heap.push (seqObj "list" #[] 0) }
  unfold Builtin.List.listExtendWith
  have ho' : (s.heap.push (seqObj "list" #[] 0)).get? l = some o := Heap.get?_push_of_some _ ho
  refine wpAny_bind (wpAny_typeOf (T := T) ⟨o, ho', hc⟩ ?_)
  rw [if_pos (by rcases hT with rfl | rfl <;> simp)]
  refine wpAny_bind (listItems_at ho' hd ?_)
  refine wpAny_bind (listItems_at (xs := #[]) (n := 0) (Heap.get?_push_size _ rfl) rfl ?_)
  rw [if_neg (by simp)]
  refine wpAny_bind (listUpdate_at (xs := #[]) (n := 0) (Heap.get?_push_size _ rfl) rfl ?_ (Nat.zero_le _) (by show (#[] ++ vs.toArray).size ≤ sizeLine + 1; simp only [Array.size_append, List.size_toArray, List.length_nil]; omega))
  refine wpAny_pure ?_
  show wpAny (model prog w) A (do
      let o ← load s.heap.objs.size
      match o.data with
      | .seq xs _ => pure xs.toList
      | _ => unsupported "internal:collect") Q E { s with heap := (s.heap.push (seqObj "list" #[] 0)).update s.heap.objs.size (Obj.mapSeq (· ++ vs.toArray)) }
  refine wpAny_bind (wpAny_load (get?_update_seq (Heap.get?_push_size _ rfl) _) ?_)
  show wpAny _ _ (pure ((#[] : Array Value) ++ vs.toArray).toList) Q E _
  rw [show ((#[] : Array Value) ++ vs.toArray).toList = vs by simp]
  exact wpAny_pure h
theorem sorted_valsC {κ : PyProof.Rows.KeyKind} {l : Addr} {Q : Value → Shared → Prop} (hl : Coll prog w A.in1 s l vs) (S : SortsAt prog w A.in1.in1 { s with heap := sortingHeap (copyHeap s.heap vs) (s.heap.objs.size + 1) vs } κ vs) (hL : vs.length ≤ sizeLine)
    (h : Q (.ref (s.heap.objs.size + 1)) { s with heap := sortedAll s.heap vs (sortVals κ false vs vs).toArray }) : wpAny (model prog w) A (call (.builtin "sorted") [.ref l]) Q E s := by
  refine call_function_entry_kw kind_sorted plain_sorted entry_sorted (args_sorted1 _) ?_
  unfold Builtin.«sorted»
  refine wpAny_bind (m := checkCount "sorted" 1 1 _) (wpAny_pure ?_)
  refine wpAny_bind (hl _ _ ?_)
  refine wpAny_bind (wpAny_newList ?_ hL)
  have hsz : ((s.heap.push (seqObj "list" #[] 0)).update s.heap.objs.size (Obj.mapSeq (· ++ vs.toArray))).objs.size = s.heap.objs.size + 1 := by
    rw [Heap.size_update, size_push']
  show wpAny _ _ _ _ _ { s with heap := copyHeap s.heap vs }
  rw [hsz]
  refine wpAny_bind (wpAny_holding (wpAny_call_entry_kw slot_list_sort ⟨_, copyHeap_at s.heap vs, rfl⟩ entry_list_sort ?body (args_list_sort _)))
  case body =>
    show wpAny (model prog w) A.in1.in1 (Builtin.«list.sort» ⟨[.ref (s.heap.objs.size + 1)], []⟩) _ _ _
    exact list_sort_vals (s := { s with heap := copyHeap s.heap vs }) (copyHeap_at s.heap vs) S hL ⟨_, rfl, wpAny_pure ⟨_, rfl, h⟩⟩
theorem sorted_any {l : Addr} {Q : Value → Shared → Prop} (hl : Coll prog w A.in1 s l vs) (e : EachIs RR vs bs) (er : EachIs (fun v b => ∃ as, Reads s.heap v (enc b) as) vs bs) (hal : AllAlike (bs.map enc)) (hk : Ordable (bs.map enc))
    (hL : bs.length ≤ sizeLine) (hu : ∀ b, b ∈ bs → A.units + 2 + (enc b).depth < cLine)
    (h : ∀ out, out.length = bs.length → EachIs RR out (bs.mergeSort (dataLe false enc)) → Q (.ref (s.heap.objs.size + 1)) { s with heap := sortedAll s.heap vs (List.toArray out) }) : wpAny (model prog w) A (call (.builtin "sorted") [.ref l]) Q E s := by
  have er' : EachIs (fun v b => ∃ as, Reads (sortingHeap (copyHeap s.heap vs) (s.heap.objs.size + 1) vs) v (enc b) as) vs bs := er.mono fun _ _ ⟨as, r⟩ => ⟨as, PyProof.Rows.Reads.keeps (fun _ _ => sorting_copy_old) r⟩
  refine sorted_valsC hl (sortsAt_any (s := { s with heap := sortingHeap (copyHeap s.heap vs) (s.heap.objs.size + 1) vs }) (each_map (R := fun v d => ∃ as, Reads (sortingHeap (copyHeap s.heap vs) (s.heap.objs.size + 1) vs) v d as) enc er') hal hk (bound_map hu)) (by rw [e.length]; exact hL) ?_
  exact h _ (by rw [sortVals_length false rfl]; exact e.length) (sortVals_data false e er' hal)
end
end Pv
/-! text S10 -/
set_option autoImplicit false
set_option Elab.async false
set_option linter.all false
set_option maxRecDepth 100000
set_option maxHeartbeats 1000000
namespace Pv
open PySem PySem.Spec PyProof.Rows L2
/-! ### built-in functions -/
def rPrim (k : Prim) : List V → Hp → VK → Prop := fun xs H Q => ∃ A ds d, Dom A H ∧ DRepL H A ds xs ∧ primD k ds = some d ∧ Fin1 A (primFresh k) d H Q
theorem DRepL.one {H : Hp} {A : Addr → Prop} {d : PyData} {xs : List V} (r : DRepL H A [d] xs) : ∃ x, xs = [x] ∧ DRep H A d x := by
  obtain ⟨v, t, rfl, h1, h2⟩ := r
  cases (show t = [] from h2)
  exact ⟨v, rfl, h1⟩
theorem DRepL.two {H : Hp} {A : Addr → Prop} {d e : PyData} {xs : List V} (r : DRepL H A [d, e] xs) : ∃ x y, xs = [x, y] ∧ DRep H A d x ∧ DRep H A e y := by
  obtain ⟨v, t, rfl, h1, h2⟩ := r
  obtain ⟨y, rfl, h3⟩ := h2.one
  exact ⟨v, y, rfl, h1, h3⟩
theorem ints_rep {H : Hp} {A : Addr → Prop} : ∀ {ds : List PyData} {vs : List V} {ns : List Int}, DRepL H A ds vs → ints? ds = some ns → vs = ns.map V.int
  | [], vs, ns, r, e => by cases e; exact r
  | .int i :: ds, vs, ns, r, e => by
    obtain ⟨v, t, rfl, h1, h2⟩ := r
    cases hd : ints? ds with
    | none => simp [ints?, hd] at e
    | some ms =>
      simp [ints?, hd] at e
      subst e
      cases (show v = V.int i from h1)
      rw [ints_rep h2 hd]; rfl
  | .none :: _, _, _, _, e => by cases e
  | .bool _ :: _, _, _, _, e => by cases e
  | .str _ :: _, _, _, _, e => by cases e
  | .list _ :: _, _, _, _, e => by cases e
  | .tuple _ :: _, _, _, _, e => by cases e
  | .dict _ :: _, _, _, _, e => by cases e
theorem bools_rep {H : Hp} {A : Addr → Prop} : ∀ {ds : List PyData} {vs : List V} {ns : List Bool}, DRepL H A ds vs → bools? ds = some ns → vs = ns.map V.bl
  | [], vs, ns, r, e => by cases e; exact r
  | .bool i :: ds, vs, ns, r, e => by
    obtain ⟨v, t, rfl, h1, h2⟩ := r
    cases hd : bools? ds with
    | none => simp [bools?, hd] at e
    | some ms =>
      simp [bools?, hd] at e
      subst e
      cases (show v = V.bl i from h1)
      rw [bools_rep h2 hd]; rfl
  | .none :: _, _, _, _, e => by cases e
  | .int _ :: _, _, _, _, e => by cases e
  | .str _ :: _, _, _, _, e => by cases e
  | .list _ :: _, _, _, _, e => by cases e
  | .tuple _ :: _, _, _, _, e => by cases e
  | .dict _ :: _, _, _, _, e => by cases e
theorem DRepK.length {H : Hp} {A : Addr → Prop} : ∀ {kvs : List (PyData × PyData)} {ks : List (Key × V)}, DRepK H A kvs ks → ks.length = kvs.length
  | [], ks, r => by cases (show ks = [] from r); rfl
  | (k, d) :: r, ks, h => by
    obtain ⟨j, v, t, rfl, _, _, h2⟩ := h
    simp [DRepK.length h2]
theorem DRepT.length {H : Hp} {A : Addr → Prop} : ∀ {kvs : List (PyData × PyData)} {ks : List (List Key × V)}, DRepT H A kvs ks → ks.length = kvs.length
  | [], ks, r => by cases (show ks = [] from r); rfl
  | (k, d) :: r, ks, h => by
    obtain ⟨j, v, t, rfl, _, _, h2⟩ := h
    simp [DRepT.length h2]
theorem DRepK.keys {H : Hp} {A : Addr → Prop} : ∀ {kvs : List (PyData × PyData)} {ks : List (Key × V)}, DRepK H A kvs ks → DRepL H A (kvs.map (·.1)) (ks.map fun p => kV p.1)
  | [], ks, r => by cases (show ks = [] from r); rfl
  | (k, d) :: r, ks, h => by
    obtain ⟨j, v, t, rfl, rfl, _, h2⟩ := h
    exact ⟨kV j, _, rfl, by cases j <;> rfl, DRepK.keys h2⟩
section
variable {X : Cx}
theorem CallR.of {f : Value} {k : Prim} (h : ∀ (A : Addr → Prop) (H : Hp) (ds : List PyData) (d : PyData) (xs : List V) (Q : VK), Dom A H → DRepL H A ds xs → primD k ds = some d → Fin1 A (primFresh k) d H Q → ∃ r, CallR X f r ∧ r xs H Q) : CallR X f (rPrim k) := by
  intro pins s σ H xs us Q I r ⟨A, ds, d, dm, h1, e, q⟩
  obtain ⟨r', hr, hq⟩ := h A H ds d xs Q dm h1 e q
  exact hr pins s σ H xs us Q I r hq
theorem one_of {k : Prim} {ds : List PyData} {d : PyData} (h0 : primD k [] = none) (h2 : ∀ x y r, primD k (x :: y :: r) = none) (e : primD k ds = some d) : ∃ x, ds = [x] := by
  rcases ds with _ | ⟨x, _ | ⟨y, r⟩⟩
  · rw [h0] at e; cases e
  · exact ⟨x, rfl⟩
  · rw [h2] at e; cases e
theorem two_of {k : Prim} {ds : List PyData} {d : PyData} (h0 : primD k [] = none) (h1 : ∀ x, primD k [x] = none) (h2 : ∀ x y z r, primD k (x :: y :: z :: r) = none) (e : primD k ds = some d) : ∃ x y, ds = [x, y] := by
  rcases ds with _ | ⟨x, _ | ⟨y, _ | ⟨z, r⟩⟩⟩
  · rw [h0] at e; cases e
  · rw [h1] at e; cases e
  · exact ⟨x, y, rfl⟩
  · rw [h2] at e; cases e
theorem c_len : CallR X (.builtin "len") (rPrim .len) := by
  refine CallR.of fun A H ds d xs Q dm r e q => ?_
  obtain ⟨x, rfl⟩ := one_of rfl (fun x y r => by cases x <;> rfl) e
  obtain ⟨v, rfl, h⟩ := r.one
  cases x <;> simp only [primD, reduceCtorEq] at e
  · split at e
    · cases e
      cases (show v = .str _ from h)
      exact ⟨_, call_len_str, _, rfl, by rw [← lineN_eq]; assumption, q.int⟩
    · cases e
  · cases e
    obtain ⟨a, vs, rfl, _, h, rv⟩ := h
    exact ⟨_, call_len_seq, a, vs, rfl, .inl (.of h), by rw [rv.length]; exact q.int⟩
  · cases e
    obtain ⟨a, vs, rfl, h, rv⟩ := h
    exact ⟨_, call_len_seq, a, vs, rfl, .inr (.of h), by rw [rv.length]; exact q.int⟩
  · cases e
    obtain ⟨a, rfl, _, h⟩ := h
    rcases h with ⟨ks, h, rk⟩ | ⟨ks, h, rk⟩
    · exact ⟨_, call_lenD, a, ks, rfl, h, by rw [rk.length]; exact q.int⟩
    · exact ⟨_, call_len_dT, a, ks, rfl, h.1, by rw [rk.length]; exact q.int⟩
theorem c_abs : CallR X (.builtin "abs") (rPrim .abs) := by
  refine CallR.of fun A H ds d xs Q dm r e q => ?_
  obtain ⟨x, rfl⟩ := one_of rfl (fun x y r => by cases x <;> rfl) e
  obtain ⟨v, rfl, h⟩ := r.one
  cases x <;> simp only [primD, reduceCtorEq] at e
  cases e
  cases (show v = .int _ from h)
  exact ⟨_, call_abs, _, rfl, q.int⟩
theorem c_int : CallR X (.type "int") (rPrim .int) := by
  refine CallR.of fun A H ds d xs Q dm r e q => ?_
  obtain ⟨x, rfl⟩ := one_of rfl (fun x y r => by cases x <;> rfl) e
  obtain ⟨v, rfl, h⟩ := r.one
  cases x <;> simp only [primD, reduceCtorEq] at e
  · cases e
    cases (show v = .bl _ from h)
    exact ⟨_, call_int1, .inr ⟨_, rfl, q.int⟩⟩
  · cases e
    cases (show v = .int _ from h)
    exact ⟨_, call_int1, .inl ⟨_, rfl, q.int⟩⟩
theorem c_tuple : CallR X (.type "tuple") (rPrim .tuple) := by
  refine CallR.of fun A H ds d xs Q dm r e q => ?_
  obtain ⟨x, rfl⟩ := one_of rfl (fun x y r => by cases x <;> rfl) e
  obtain ⟨v, rfl, h⟩ := r.one
  cases x <;> simp only [primD, reduceCtorEq] at e
  · cases e
    obtain ⟨a, vs, rfl, _, h, rv⟩ := h
    exact ⟨_, call_tuple_of, a, vs, rfl, .inl ⟨.of h, fun p hp => q.tup rv hp⟩⟩
  · cases e
    obtain ⟨a, vs, rfl, h, rv⟩ := h
    exact ⟨_, call_tuple_of, a, vs, rfl, .inr ⟨.of h, q.self ⟨a, vs, rfl, h, rv⟩ rfl⟩⟩
theorem isKeys_rep {H H' : Hp} (hs : Same H H') {A : Addr → Prop} : ∀ {kvs : List (PyData × PyData)} {ks : List (List Key × V)} {bs : List Addr}, DRepT H A kvs ks → IsKeys H ks bs → DRepL H A (kvs.map (·.1)) (bs.map V.ref)
  | [], ks, bs, r, h => by
    cases (show ks = [] from r)
    cases h
    rfl
  | (k, d) :: r, ks, bs, h, hk => by
    obtain ⟨j, v, t, rfl, rfl, _, h2⟩ := h
    cases hk with
    | cons h3 h4 =>
      have key : ∀ js : List Key, DRepL H A (js.map dK) (js.map kV) := fun js => by
        induction js with
        | nil => rfl
        | cons j js ih => exact ⟨kV j, _, rfl, by cases j <;> rfl, ih⟩
      exact ⟨_, _, rfl, ⟨_, _, rfl, h3, key j⟩, isKeys_rep hs h2 h4⟩
theorem c_list (hc : X.calm = true) : CallR X (.type "list") (rPrim .list) := by
  refine CallR.of fun A H ds d xs Q dm r e q => ?_
  obtain ⟨x, rfl⟩ := one_of rfl (fun x y r => by cases x <;> rfl) e
  obtain ⟨v, rfl, h⟩ := r.one
  cases x <;> simp only [primD, reduceCtorEq] at e
  · cases e
    obtain ⟨a, vs, rfl, _, h, rv⟩ := h
    exact ⟨_, call_list_of, a, vs, rfl, .inl (.of h), fun p hp => q.lst dm rv hp⟩
  · cases e
    obtain ⟨a, vs, rfl, h, rv⟩ := h
    exact ⟨_, call_list_of, a, vs, rfl, .inr (.of h), fun p hp => q.lst dm rv hp⟩
  · cases e
    obtain ⟨a, rfl, _, h⟩ := h
    rcases h with ⟨ks, h, rk⟩ | ⟨ks, h, rk⟩
    · exact ⟨_, call_list_dK hc, a, ks, rfl, h, fun p hp => q.lst dm rk.keys hp⟩
    · exact ⟨_, call_list_dT hc, a, ks, rfl, .of h.1, fun p bs hp hk => q.lst dm (isKeys_rep (Same.refl H) rk hk) hp⟩
theorem map_some {α β : Type} {o : Option α} {f : α → β} {b : β} (e : o.map f = some b) : ∃ a, o = some a ∧ b = f a := by
  cases o with
  | none => cases e
  | some a => cases e; exact ⟨a, rfl, rfl⟩
theorem c_all (hc : X.calm = true) : CallR X (.builtin "all") (rPrim .all) := by
  refine CallR.of fun A H ds d xs Q dm r e q => ?_
  obtain ⟨x, rfl⟩ := one_of rfl (fun x y r => by cases x <;> rfl) e
  obtain ⟨v, rfl, h⟩ := r.one
  cases x <;> simp only [primD, reduceCtorEq] at e
  obtain ⟨bs, hb, rfl⟩ := map_some e
  obtain ⟨a, vs, rfl, _, h, rv⟩ := h
  have := bools_rep rv hb
  subst this
  exact ⟨_, cr_all hc, a, bs, rfl, .of h, q.bl⟩
theorem c_any (hc : X.calm = true) : CallR X (.builtin "any") (rPrim .any) := by
  refine CallR.of fun A H ds d xs Q dm r e q => ?_
  obtain ⟨x, rfl⟩ := one_of rfl (fun x y r => by cases x <;> rfl) e
  obtain ⟨v, rfl, h⟩ := r.one
  cases x <;> simp only [primD, reduceCtorEq] at e
  obtain ⟨bs, hb, rfl⟩ := map_some e
  obtain ⟨a, vs, rfl, _, h, rv⟩ := h
  have := bools_rep rv hb
  subst this
  exact ⟨_, cr_any hc, a, bs, rfl, .of h, q.bl⟩
theorem cr_sumT (hc : X.calm = true) : CallR X (.builtin "sum") (fun vs H Q => ∃ (a : Addr) (ns : List Int), vs = [V.ref a] ∧ SqT X.K H a (ns.map V.int) ∧ Q (.int ns.sum) H) := by
  intro pins s σ H vs us Q I r h
  obtain ⟨a, ns, rfl, hs, q⟩ := h
  obtain ⟨its, rv, hl, _⟩ := I.tuple hs
  rw [Vals.ref1 r]
  have hi := rv.ints
  obtain ⟨xs, hx⟩ := hi.allInts.items
  have hn : numsOf its.toArray.toList = ns := by rw [show its.toArray.toList = its from rfl, hi.numsOf]
  have hl : s.heap.IsTuple a its.toArray := hl
  rw [hx] at hl hn
  rw [nums_intItems] at hn
  refine PySem.W.ktm_sumG (I.ok.hd hc) hl fun h' tk t' hk => ?_
  rw [preSum_eq, List.take_of_length_le (by simp), hn]
  exact ⟨.int _, H, I.kept hk, ⟨_, rfl⟩, q⟩
theorem c_sum (hc : X.calm = true) : CallR X (.builtin "sum") (rPrim .sum) := by
  intro pins s σ H xs us Q I rv ⟨A, ds, d, dm, r, e, q⟩
  obtain ⟨x, rfl⟩ := one_of rfl (fun x y r => by cases x <;> rfl) e
  obtain ⟨v, rfl, h⟩ := r.one
  cases x <;> simp only [primD, reduceCtorEq] at e
  · obtain ⟨bs, hb, rfl⟩ := map_some e
    obtain ⟨a, vs, rfl, _, h, rv'⟩ := h
    have := ints_rep rv' hb
    subst this
    exact cr_sum hc pins s σ H _ us Q I rv ⟨a, bs, rfl, .of h, q.int⟩
  · obtain ⟨bs, hb, rfl⟩ := map_some e
    obtain ⟨a, vs, rfl, h, rv'⟩ := h
    have := ints_rep rv' hb
    subst this
    exact cr_sumT hc pins s σ H _ us Q I rv ⟨a, bs, rfl, .of h, q.int⟩
theorem c_repr : CallR X (.builtin "repr") (rPrim .repr) := by
  intro pins s σ H xs us Q I rv ⟨A, ds, d, dm, r, e, q⟩
  obtain ⟨x, rfl⟩ := one_of rfl (fun x y r => by cases x <;> rfl) e
  obtain ⟨v, rfl, h⟩ := r.one
  obtain ⟨u, rfl, r1⟩ := vals1 rv
  cases x <;> simp only [primD, reduceCtorEq] at e
  · cases e
    cases (show v = .non from h)
    cases r1
    exact PySem.P.repr_of_none ⟨.str _, H, I.tok _, ⟨_, rfl⟩, q.str⟩
  · cases e
    cases (show v = .bl _ from h)
    cases r1
    exact PySem.P.repr_of_bool ⟨.str _, H, I.tok _, ⟨_, rfl⟩, q.str⟩
  · split at e
    · rename_i hz
      cases e
      cases (show v = .int _ from h)
      obtain ⟨t, rfl⟩ := r1
      exact PySem.P.repr_of_int hz ⟨.str _, H, I.tok _, ⟨_, rfl⟩, q.str⟩
    · cases e
theorem c_min2 (hc : X.calm = true) : CallR X (.builtin "min") (rPrim .min2) := by
  refine CallR.of fun A H ds d xs Q dm r e q => ?_
  obtain ⟨x, y, rfl⟩ := two_of rfl (fun x => by cases x <;> rfl) (fun x y z r => by cases x <;> cases y <;> rfl) e
  obtain ⟨v, w, rfl, h, k⟩ := r.two
  cases x <;> cases y <;> simp only [primD, reduceCtorEq] at e
  cases e
  cases (show v = .int _ from h)
  cases (show w = .int _ from k)
  exact ⟨_, call_min2 hc, _, _, rfl, q.int⟩
theorem c_max2 (hc : X.calm = true) : CallR X (.builtin "max") (rPrim .max2) := by
  refine CallR.of fun A H ds d xs Q dm r e q => ?_
  obtain ⟨x, y, rfl⟩ := two_of rfl (fun x => by cases x <;> rfl) (fun x y z r => by cases x <;> cases y <;> rfl) e
  obtain ⟨v, w, rfl, h, k⟩ := r.two
  cases x <;> cases y <;> simp only [primD, reduceCtorEq] at e
  cases e
  cases (show v = .int _ from h)
  cases (show w = .int _ from k)
  exact ⟨_, call_max2 hc, _, _, rfl, q.int⟩
/-! isinstance -/
def rIsa (k : Prim) (T : String) : List V → Hp → VK → Prop := fun xs H Q => ∃ A d b x, DRep H A d x ∧ xs = [x, .ty T] ∧ primD k [d] = some (.bool b) ∧ Q (.bl b) H
theorem isa_of {k : Prim} {T : String} {t : PyData → Bool} (hk : ∀ d, primD k [d] = some (.bool (t d)))
    (h : ∀ {prog : Program} {w : World} {A : Around} {E : Value → Shared → Prop} {s : Shared} {v : Value} {d : PyData} {as : List Addr} {Q : Value → Shared → Prop}, Reads s.heap v d as → (∀ tk, s.toks ≤ tk → Q (.bool (t d)) { s with toks := tk }) → wpAny (model prog w) A (call (.builtin "isinstance") [v, .type T]) Q E s) :
    CallR X (.builtin "isinstance") (rIsa k T) := by
  intro pins s σ H xs us Q I r ⟨A, d, b, x, hr, e, hb, q⟩
  subst e
  obtain ⟨u1, u2, rfl, r1, r2⟩ := vals2 r
  cases (show u2 = .type T from r2)
  obtain ⟨as, rd⟩ := hr.reads I.hok _ _ _ r1
  rw [hk d] at hb
  cases hb
  exact h rd fun tk _ => ⟨.bl _, H, I.tok tk, rfl, q⟩
theorem c_isInt : CallR X (.builtin "isinstance") (rIsa .isInt "int") := isa_of (t := PyData.isInt) (fun d => by cases d <;> rfl) fun r h => PySem.W.isinstance_int_data r h
theorem c_isBool : CallR X (.builtin "isinstance") (rIsa .isBool "bool") := isa_of (t := PyData.isBool) (fun d => by cases d <;> rfl) fun r h => PySem.W.isinstance_bool_data r h
theorem c_isStr : CallR X (.builtin "isinstance") (rIsa .isStr "str") := isa_of (t := PyData.isStr) (fun d => by cases d <;> rfl) fun r h => PySem.W.isinstance_str_data r h
theorem c_isTuple : CallR X (.builtin "isinstance") (rIsa .isTuple "tuple") := isa_of (t := PyData.isTuple) (fun d => by cases d <;> rfl) fun r h => PySem.W.isinstance_tuple_data r h
theorem c_isList : CallR X (.builtin "isinstance") (rIsa .isList "list") := isa_of (t := PyData.isList) (fun d => by cases d <;> rfl) fun r h => PySem.W.isinstance_list_data r h
theorem c_isDict : CallR X (.builtin "isinstance") (rIsa .isDict "dict") := isa_of (t := PyData.isDict) (fun d => by cases d <;> rfl) fun r h => PySem.W.isinstance_dict_data r h
/-! sorted, min, max -/
def PairsL (H : Hp) (A : Addr → Prop) (bs : List (PyData × V)) : Prop := ∀ b ∈ bs, DRep H A b.1 b.2
theorem DRepL.zip {H : Hp} {A : Addr → Prop} : ∀ {ds : List PyData} {vs : List V}, DRepL H A ds vs → ∃ bs : List (PyData × V), bs.map Prod.fst = ds ∧ bs.map Prod.snd = vs ∧ PairsL H A bs
  | [], vs, r => by
    cases (show vs = [] from r)
    exact ⟨[], rfl, rfl, fun b h => nomatch h⟩
  | d :: ds, vs, r => by
    obtain ⟨v, t, rfl, h1, h2⟩ := r
    obtain ⟨bs, e1, e2, h⟩ := DRepL.zip h2
    exact ⟨(d, v) :: bs, by simp [e1], by simp [e2], fun b hb => by
      rcases List.mem_cons.mp hb with e | hb
      · rw [e]; exact h1
      · exact h b hb⟩
theorem PairsL.rep {H : Hp} {A : Addr → Prop} : ∀ {bs : List (PyData × V)}, PairsL H A bs → DRepL H A (bs.map Prod.fst) (bs.map Prod.snd)
  | [], _ => rfl
  | b :: bs, h => ⟨b.2, _, rfl, h b (List.mem_cons_self ..), PairsL.rep fun c hc => h c (List.mem_cons_of_mem _ hc)⟩
theorem each_vals : ∀ {bs : List (PyData × V)} {us : List Value}, PySem.W.EachIs (fun v (b : PyData × V) => RelV b.2 v) us bs → Vals (bs.map Prod.snd) us
  | _, _, .nil => .nil
  | _, _, .cons a b => .cons a (each_vals b)
theorem vals_each : ∀ {bs : List (PyData × V)} {us : List Value}, Vals (bs.map Prod.snd) us → PySem.W.EachIs (fun v (b : PyData × V) => RelV b.2 v) us bs
  | [], us, h => by
    cases us with
    | nil => exact .nil
    | cons u us => nomatch h
  | b :: bs, us, h => by
    cases us with
    | nil => nomatch h
    | cons u us =>
      have h' : Paired RelV (b.2 :: bs.map Prod.snd) (u :: us) := h
      cases h' with
      | cons a t => exact .cons a (vals_each t)
theorem shallow_mem : ∀ {n : Nat} {ds : List PyData} {d : PyData}, shallowAll n ds = true → d ∈ ds → d.depth ≤ n
  | n, c :: ds, d, h, m => by
    have h' : shallow n c = true ∧ shallowAll n ds = true := by simpa [shallowAll] using h
    rcases List.mem_cons.mp m with e | m
    · rw [e]; exact shallow_depth _ _ h'.1
    · exact shallow_mem h'.2 m
theorem allAlike_of {ds : List PyData} (h : allAlike ds = true) : ∀ x ∈ ds, ∀ y ∈ ds, PySem.W.alike x y = true := by
  intro x hx y hy
  unfold allAlike at h
  exact List.all_eq_true.mp (List.all_eq_true.mp h x hx) y hy
theorem alike_ints : ∀ {xs ys : List PyData}, xs.all isIntD = true → ys.all isIntD = true → PySem.W.alikeAll xs ys = true
  | [], _, _, _ => by unfold PySem.W.alikeAll; rfl
  | _ :: _, [], _, _ => by unfold PySem.W.alikeAll; rfl
  | x :: xs, y :: ys, h, k => by
    rw [List.all_cons, Bool.and_eq_true] at h k
    rw [PySem.W.alikeAll, Bool.and_eq_true]
    refine ⟨?_, alike_ints h.2 k.2⟩
    cases x <;> first | exact absurd h.1 Bool.false_ne_true | skip
    cases y <;> first | exact absurd k.1 Bool.false_ne_true | skip
    rfl
theorem alikeN_of {ds : List PyData} (h : alikeN ds = true) : ∀ x ∈ ds, ∀ y ∈ ds, PySem.W.alike x y = true := by
  unfold alikeN at h
  split at h
  · rename_i q
    intro x hx y hy
    have a := List.all_eq_true.mp q x hx
    have b := List.all_eq_true.mp q y hy
    cases x <;> first | exact absurd a Bool.false_ne_true | skip
    cases y <;> first | exact absurd b Bool.false_ne_true | skip
    rfl
  · split at h
    · rename_i q
      intro x hx y hy
      have a := List.all_eq_true.mp q x hx
      have b := List.all_eq_true.mp q y hy
      cases x <;> first | exact absurd a Bool.false_ne_true | skip
      cases y <;> first | exact absurd b Bool.false_ne_true | skip
      rw [PySem.W.alike]
      exact alike_ints a b
    · split at h
      · rename_i q
        intro x hx y hy
        have a := List.all_eq_true.mp q x hx
        have b := List.all_eq_true.mp q y hy
        match x, a, y, b with
        | .tuple [.int _, .tuple xs], a, .tuple [.int _, .tuple ys], b =>
          have a' : xs.all isIntD = true := a
          have b' : ys.all isIntD = true := b
          simp [PySem.W.alike, PySem.W.alikeAll, alike_ints a' b']
      · exact allAlike_of h
def leD (a b : PyData) : Bool := !PySem.W.dataLt b a
theorem leD_eq : leD = PySem.W.dataLe false id := rfl
theorem leD_total : PySem.W.TotalLe leD := by
  rw [leD_eq]; exact PySem.W.sortLe_total _ _ _
theorem insD_mem {x z : PyData} : ∀ {l : List PyData}, z ∈ insD x l → z = x ∨ z ∈ l
  | [], h => by rw [insD] at h; exact .inl (List.mem_singleton.mp h)
  | y :: r, h => by
    rw [insD] at h
    split at h
    · rcases List.mem_cons.mp h with e | m
      · exact .inr (e ▸ List.mem_cons_self ..)
      · exact (insD_mem m).imp id (List.mem_cons_of_mem _)
    · exact List.mem_cons.mp h
theorem insD_sorted {x : PyData} : ∀ {l : List PyData}, l.Pairwise (fun a b => leD a b = true) → (insD x l).Pairwise fun a b => leD a b = true
  | [], _ => by rw [insD]; exact List.pairwise_singleton ..
  | y :: r, h => by
    rw [insD]
    obtain ⟨h1, h2⟩ := List.pairwise_cons.mp h
    split
    · rename_i q
      refine List.pairwise_cons.mpr ⟨fun z hz => ?_, insD_sorted h2⟩
      rcases insD_mem hz with e | m
      · subst e
        refine (leD_total.total y z).elim id fun k => ?_
        unfold leD at k
        rw [q] at k
        cases k
      · exact h1 z m
    · rename_i q
      have hxy : leD x y = true := by unfold leD; rw [q]; rfl
      refine List.pairwise_cons.mpr ⟨fun z hz => ?_, h⟩
      rcases List.mem_cons.mp hz with e | m
      · rw [e]; exact hxy
      · exact leD_total.trans _ _ _ hxy (h1 z m)
theorem insD_filter {x c : PyData} : ∀ {l : List PyData}, (insD x l).filter (PySem.W.sameRank leD c) = (x :: l).filter (PySem.W.sameRank leD c)
  | [] => by rw [insD]
  | y :: r => by
    rw [insD]
    split
    · rename_i q
      rw [List.filter_cons, insD_filter, List.filter_cons, List.filter_cons, List.filter_cons]
      cases sx : PySem.W.sameRank leD c x with
      | false => simp
      | true =>
        cases sy : PySem.W.sameRank leD c y with
        | false => simp
        | true =>
          unfold PySem.W.sameRank at sx sy
          have k := leD_total.trans _ _ _ (Bool.and_eq_true_iff.mp sx).2 (Bool.and_eq_true_iff.mp sy).1
          unfold leD at k
          rw [q] at k
          cases k
    · rfl
theorem sortD_eq (ds : List PyData) : sortD ds = ds.mergeSort fun a b => !PySem.W.dataLt b a := by
  refine PySem.W.sort_unique leD_total (m := sortD ds) ?_ fun c => ?_
  · unfold sortD
    induction ds with
    | nil => exact List.Pairwise.nil
    | cons x xs ih => rw [List.foldr_cons]; exact insD_sorted ih
  · unfold sortD
    induction ds with
    | nil => rfl
    | cons x xs ih => rw [List.foldr_cons, insD_filter, List.filter_cons, List.filter_cons, ih]
theorem drepl_ints {H : Hp} {A : Addr → Prop} : ∀ (ns : List Int), DRepL H A (ns.map .int) (ns.map V.int)
  | [] => rfl
  | i :: r => ⟨.int i, r.map V.int, rfl, rfl, drepl_ints r⟩
theorem sortD_ints {is ys : List Int} (hp : ys.Perm is) (hs : ys.Pairwise (· ≤ ·)) : sortD (is.map .int) = ys.map .int := by
  rw [sortD_eq]
  have h1 := PySem.W.sort_pairwise leD_total (is.map PyData.int)
  have h2 : (ys.map PyData.int).Pairwise (fun a b => leD a b = true) := by
    refine List.pairwise_map.mpr (hs.imp fun {a b} h => ?_)
    show (!PySem.W.dataLt (.int b) (.int a)) = true
    rw [PySem.W.dataLt_int]
    simp; omega
  have h3 : ((is.map PyData.int).mergeSort leD).Perm (ys.map PyData.int) := (List.mergeSort_perm _ _).trans (hp.symm.map _)
  refine List.Perm.eq_of_pairwise (le := fun a b => leD a b = true) (fun a b ha hb p q => ?_) h1 h2 h3
  obtain ⟨i, _, rfl⟩ := List.mem_map.mp ((List.mergeSort_perm _ _).mem_iff.mp ha)
  obtain ⟨j, _, rfl⟩ := List.mem_map.mp hb
  have p : (!PySem.W.dataLt (.int j) (.int i)) = true := p
  have q : (!PySem.W.dataLt (.int i) (.int j)) = true := q
  rw [PySem.W.dataLt_int] at p q
  have : i = j := by simp at p q; omega
  rw [this]
theorem intKeys {H : Hp} {A : Addr → Prop} : ∀ {kvs : List (PyData × PyData)} {ks : List (Key × V)}, DRepK H A kvs ks → (kvs.all fun p => isIntD p.1) = true → ∃ is : List Int, ks.map (·.1) = is.map Sum.inl ∧ kvs.map (·.1) = is.map PyData.int
  | [], ks, h, _ => by cases (show ks = [] from h); exact ⟨[], rfl, rfl⟩
  | (k, d) :: kvs, ks, h, q => by
    obtain ⟨i, v, t, rfl, rfl, h1, h2⟩ := h
    have q := Bool.and_eq_true_iff.mp (show (isIntD (dK i) && kvs.all fun p => isIntD p.1) = true from q)
    obtain ⟨is, e1, e2⟩ := intKeys h2 q.2
    cases i with
    | inl i => exact ⟨i :: is, by simp [e1], by simp [e2, dK]⟩
    | inr x => cases q.1
theorem c_sorted (hc : X.calm = true) (hu : X.A.units + 200 < cLine) : CallR X (.builtin "sorted") (rPrim .sorted) := by
  intro pins s σ H xs us Q I rv ⟨A, ds, d, dm, r, e, q⟩
  obtain ⟨x, rfl⟩ := one_of rfl (fun x y r => by cases x <;> rfl) e
  obtain ⟨v, rfl, h⟩ := r.one
  have main : ∀ (ds : List PyData) (a : Addr) (vs : List V) (its : List Value), sortOk ds = true → d = .list (sortD ds) → DRepL H A ds vs → vs.length ≤ sizeLine → Vals vs its → Coll X.prog X.w X.A.in1 s a its → wpAny (model X.prog X.w) X.A (call (.builtin "sorted") [.ref a]) (EP X pins σ Q) X.xe s := by
    intro ds a vs its hk e ra hz rva hc
    subst e
    obtain ⟨bs, e1, e2, hp⟩ := ra.zip
    have hal := alikeN_of (show alikeN ds = true by unfold sortOk at hk; exact (Bool.and_eq_true_iff.mp hk).2)
    have hsh : shallowAll maxDepth ds = true := by
      unfold sortOk at hk
      exact (Bool.and_eq_true_iff.mp (Bool.and_eq_true_iff.mp hk).1).2
    have hsrt : Ordable ds := by
      unfold sortOk at hk
      rcases Bool.or_eq_true_iff.mp (Bool.and_eq_true_iff.mp (Bool.and_eq_true_iff.mp hk).1).1 with z | z
      · refine .inl fun d hd => ?_
        have := List.all_eq_true.mp z d hd
        match d, this with
        | .tuple xs, _ => exact ⟨xs, rfl⟩
      · refine .inr fun d hd => ?_
        have := List.all_eq_true.mp z d hd
        refine ⟨fun e => ?_, fun xs e => ?_⟩ <;> (rw [e] at this; cases this)
    have er : PySem.W.EachIs (fun v (b : PyData × V) => ∃ as, Reads s.heap v b.1 as) its bs := by
      rw [← e2] at rva
      clear hc e1 e2 hal hsh hsrt hk q dm e ra hz
      induction bs generalizing its with
      | nil =>
        cases its with
        | nil => exact .nil
        | cons u us => nomatch rva
      | cons b bs ih =>
        cases its with
        | nil => nomatch rva
        | cons u us =>
          have h' : Paired RelV (b.2 :: bs.map Prod.snd) (u :: us) := rva
          cases h' with
          | cons a t => exact .cons ((hp b (List.mem_cons_self ..)).reads I.hok _ _ _ a) (ih _ t (fun c hc => hp c (List.mem_cons_of_mem _ hc)))
    have ev := vals_each (bs := bs) (us := its) (by rw [e2]; exact rva)
    have lb : bs.length = vs.length := by rw [← e2, List.length_map]
    refine sorted_any (enc := Prod.fst) hc ev er (by rw [e1]; exact fun x hx y hy => hal x hx y hy) (by rw [e1]; exact hsrt) (by rw [lb]; exact hz) (fun b hb => ?_) fun out h1 h2 => ?_
    · have : b.1 ∈ ds := by rw [← e1]; exact List.mem_map_of_mem hb
      have := shallow_mem hsh this
      unfold maxDepth at this
      omega
    · obtain ⟨ep, he'⟩ := PyProof.Rows.sortedAll_at s.heap its out.toArray
      have hv := each_vals h2
      have es : (bs.mergeSort (PySem.W.dataLe false Prod.fst)).map Prod.fst = sortD ds := by
        rw [sortD_eq, ← e1]
        exact PySem.W.sort_maps Prod.fst fun a _ b _ => rfl
      have hp' : PairsL H A (bs.mergeSort (PySem.W.dataLe false Prod.fst)) := fun b hb => hp b ((List.mergeSort_perm _ _).mem_iff.mp hb)
      refine ⟨.ref _, upd H (s.heap.objs.size + 1) (.lst ((bs.mergeSort (PySem.W.dataLe false Prod.fst)).map Prod.snd)), I.laid (t' := s.toks) (fun _ _ => PyProof.Rows.sortedAll_old) (Nat.le_succ _) ⟨?_, out, ep, hv, he'⟩, rfl, ?_⟩
      · rw [hv.length, h1, lb]; exact hz
      · refine q.lst dm ?_ (I.hok.fresh (Nat.le_succ _))
        rw [← es]
        exact hp'.rep
  cases x <;> simp only [primD, reduceCtorEq] at e
  · rename_i ds
    split at e
    · rename_i hk
      cases e
      obtain ⟨a, vs, rfl, _, ha, ra⟩ := h
      rw [Vals.ref1 rv]
      obtain ⟨hz, its, n, rva, ho⟩ := I.hok a _ ha
      exact main ds a vs its hk rfl ra hz rva (coll_of (T := "list") (.inl rfl) ho rfl rfl (by have := rva.length; omega))
    · cases e
  · rename_i ds
    split at e
    · rename_i hk
      cases e
      obtain ⟨a, vs, rfl, ha, ra⟩ := h
      rw [Vals.ref1 rv]
      obtain ⟨its, rva, ⟨o, ho, ho2, n, ho3⟩, hz⟩ := I.tuple (.inl (.of ha))
      exact main ds a vs its hk rfl ra hz rva (coll_of (T := "tuple") (.inr rfl) ho ho2 ho3 (by have := rva.length; omega))
    · cases e
  · rename_i kvs
    split at e
    · rename_i hk
      cases e
      obtain ⟨hk, hl⟩ := Bool.and_eq_true_iff.mp hk
      have hl := of_decide_eq_true hl
      obtain ⟨a, rfl, _, hh⟩ := h
      rcases hh with ⟨ks, h, rk⟩ | ⟨ks, ⟨h, ne⟩, rk⟩
      · obtain ⟨is, e1, e2⟩ := intKeys rk hk
        have el : is.length = kvs.length := by
          have := congrArg List.length e2
          simpa using this.symm
        refine call_sortedDI hc pins s σ H _ us Q I rv ⟨a, ks, is, rfl, .inl h, e1, by omega, fun ys p hp hpw hnp => q.lst dm ?_ hnp⟩
        rw [e2, sortD_ints hp hpw]
        exact drepl_ints ys
      · cases kvs with
        | nil => exact absurd (show ks = [] from rk) ne
        | cons p kvs =>
          obtain ⟨k0, d0⟩ := p
          obtain ⟨j0, v, t, e1, e2, _⟩ := rk
          rw [e2] at hk
          cases (Bool.and_eq_true_iff.mp hk).1
    · cases e
theorem minOk_of {ds : List PyData} (h : minOk ds = true) : PySem.W.AlikeAll ds ∧ PyData.depthAll ds ≤ 100 := by
  unfold minOk at h
  have h1 := (Bool.and_eq_true_iff.mp (Bool.and_eq_true_iff.mp h).1)
  refine ⟨⟨allAlike_of (Bool.and_eq_true_iff.mp h).2, fun x hx e => ?_⟩, shallowAll_depth _ _ h1.2⟩
  have := List.all_eq_true.mp h1.1 x hx
  rw [e] at this
  cases this
theorem minD_mem : ∀ (xs : List PyData) (x : PyData), PySem.W.minD x xs ∈ x :: xs
  | [], x => List.mem_cons_self ..
  | y :: ys, x => by
    have h := minD_mem ys (if PySem.W.dataLt y x then y else x)
    unfold PySem.W.minD at h ⊢
    rw [List.foldl_cons]
    rcases List.mem_cons.mp h with e | m
    · rw [e]; split
      · exact List.mem_cons_of_mem _ (List.mem_cons_self ..)
      · exact List.mem_cons_self ..
    · exact List.mem_cons_of_mem _ (List.mem_cons_of_mem _ m)
theorem maxD_mem : ∀ (xs : List PyData) (x : PyData), PySem.W.maxD x xs ∈ x :: xs
  | [], x => List.mem_cons_self ..
  | y :: ys, x => by
    have h := maxD_mem ys (if PySem.W.dataLt x y then y else x)
    unfold PySem.W.maxD at h ⊢
    rw [List.foldl_cons]
    rcases List.mem_cons.mp h with e | m
    · rw [e]; split
      · exact List.mem_cons_of_mem _ (List.mem_cons_self ..)
      · exact List.mem_cons_self ..
    · exact List.mem_cons_of_mem _ (List.mem_cons_of_mem _ m)
theorem pick_rep {pins : List (Addr × Obj)} {s : Shared} {σ : L2.St} {H : Hp} {A : Addr → Prop} {ds : List PyData} {vs : List V} {its : List Value} {h' : Heap} {v : Value} {i : Nat} {as : List Addr} {m : PyData} (I : Inv X pins σ H s) (ra : DRepL H A ds vs) (rv : Vals vs its) (hk : ∀ b o, s.heap.get? b = some o → h'.get? b = some o)
    (hal : PySem.W.AlikeAll ds) (hm : m ∈ ds) (hi : its[i]? = some v) (hr : Reads h' v m as) : ∃ x, RelV x v ∧ DRep H A m x := by
  obtain ⟨x, hx, rx⟩ : ∃ x, vs[i]? = some x ∧ RelV x v := by
    have hl := rv.length
    have hlt : i < vs.length := by
      have := (List.getElem?_eq_some_iff.mp hi).1
      omega
    obtain ⟨u, e1, e2⟩ := rv.get (List.getElem?_eq_getElem hlt)
    rw [hi] at e1
    cases e1
    exact ⟨_, List.getElem?_eq_getElem hlt, e2⟩
  obtain ⟨d, hd, rd⟩ := ra.get' hx
  obtain ⟨bs, r2⟩ := rd.reads I.hok _ _ _ rx
  have r3 := PyProof.Rows.Reads.keeps hk r2
  have ed : d = m := PySem.W.alike_unique _ _ _ _ _ (hal.1 d (List.mem_of_getElem? hd) m hm) r3 hr
  exact ⟨x, rx, by rw [← ed]; exact rd⟩
theorem min_max (hc : X.calm = true) (hu : X.A.units + 200 < cLine) {id : String} {k : Prim} {f : PyData → List PyData → PyData} (hfm : ∀ xs x, f x xs ∈ x :: xs) (hfr : primFresh k = false)
    (h1 : ∀ ds d, primD k ds = some d → ∃ x xs, (ds = [.list (x :: xs)] ∨ ds = [.tuple (x :: xs)]) ∧ minOk (x :: xs) = true ∧ d = f x xs)
    (hL : ∀ {s : Shared} {l : Addr} {vs : Array Value} {x : PyData} {xs : List PyData} {as : List Addr} {Q : Value → Shared → Prop}, X.A.handled = none → s.heap.IsList l vs → ReadsAll s.heap vs.toList (x :: xs) as → PySem.W.AlikeAll (x :: xs) → X.A.units + 1 + PyData.depthAll (x :: xs) < cLine →
      (∀ (i : Nat) v h' tk bs, vs[i]? = some v → Reads h' v (f x xs) bs → (∀ b o, s.heap.get? b = some o → h'.get? b = some o) → Q v { s with heap := h', toks := tk }) → wpAny (model X.prog X.w) X.A (call (.builtin id) [.ref l]) Q X.xe s)
    (hT : ∀ {s : Shared} {l : Addr} {vs : Array Value} {x : PyData} {xs : List PyData} {as : List Addr} {Q : Value → Shared → Prop}, X.A.handled = none → s.heap.IsTuple l vs → ReadsAll s.heap vs.toList (x :: xs) as → PySem.W.AlikeAll (x :: xs) → X.A.units + 1 + PyData.depthAll (x :: xs) < cLine →
      (∀ (i : Nat) v h' tk bs, vs[i]? = some v → Reads h' v (f x xs) bs → (∀ b o, s.heap.get? b = some o → h'.get? b = some o) → Q v { s with heap := h', toks := tk }) → wpAny (model X.prog X.w) X.A (call (.builtin id) [.ref l]) Q X.xe s) :
    CallR X (.builtin id) (rPrim k) := by
  intro pins s σ H xs us Q I rv ⟨A, ds, d, dm, r, e, q⟩
  rw [hfr] at q
  obtain ⟨x, ys, hds, hm, rfl⟩ := h1 ds d e
  obtain ⟨hal, hdp⟩ := minOk_of hm
  rcases hds with rfl | rfl
  · obtain ⟨v, rfl, a, vs, rfl, _, ha, ra⟩ := r.one
    rw [Vals.ref1 rv]
    obtain ⟨hz, its, n, rva, ho⟩ := I.hok a _ ha
    obtain ⟨as, rd⟩ := ra.reads I.hok _ _ its rva
    refine hL (I.ok.hd hc) ⟨_, ho, rfl, n, rfl⟩ (by simpa using rd) hal (by omega) fun i v h' tk bs hv hr hk => ?_
    obtain ⟨y, ry, rdy⟩ := pick_rep I ra rva hk hal (hfm _ _) (by simpa using hv) hr
    exact ⟨y, H, I.kept (t' := tk) hk, ry, DRep.self q rdy⟩
  · obtain ⟨v, rfl, a, vs, rfl, ha, ra⟩ := r.one
    rw [Vals.ref1 rv]
    obtain ⟨hz, its, rva, ho⟩ := I.hok a _ ha
    obtain ⟨as, rd⟩ := ra.reads I.hok _ _ its rva
    refine hT (I.ok.hd hc) ho (by simpa using rd) hal (by omega) fun i v h' tk bs hv hr hk => ?_
    obtain ⟨y, ry, rdy⟩ := pick_rep I ra rva hk hal (hfm _ _) (by simpa using hv) hr
    exact ⟨y, H, I.kept (t' := tk) hk, ry, DRep.self q rdy⟩
theorem c_min1 (hc : X.calm = true) (hu : X.A.units + 200 < cLine) : CallR X (.builtin "min") (rPrim .min1) :=
  min_max hc hu minD_mem rfl (fun ds d e => by
    obtain ⟨x, rfl⟩ := one_of rfl (fun x y r => by rcases x with _ | _ | _ | _ | (_ | _) | (_ | _) | _ <;> rfl) e
    rcases x with _ | _ | _ | _ | (_ | ⟨x, xs⟩) | (_ | ⟨x, xs⟩) | _ <;> simp only [primD, reduceCtorEq] at e
    · split at e
      · cases e; exact ⟨x, xs, .inl rfl, by assumption, rfl⟩
      · cases e
    · split at e
      · cases e; exact ⟨x, xs, .inr rfl, by assumption, rfl⟩
      · cases e) (fun hh hl hr ha hd h => PySem.W.min_list_data hh hl hr ha hd h) (fun hh hl hr ha hd h => PySem.W.min_tuple_data hh hl hr ha hd h)
theorem c_max1 (hc : X.calm = true) (hu : X.A.units + 200 < cLine) : CallR X (.builtin "max") (rPrim .max1) :=
  min_max hc hu maxD_mem rfl (fun ds d e => by
    obtain ⟨x, rfl⟩ := one_of rfl (fun x y r => by rcases x with _ | _ | _ | _ | (_ | _) | (_ | _) | _ <;> rfl) e
    rcases x with _ | _ | _ | _ | (_ | ⟨x, xs⟩) | (_ | ⟨x, xs⟩) | _ <;> simp only [primD, reduceCtorEq] at e
    · split at e
      · cases e; exact ⟨x, xs, .inl rfl, by assumption, rfl⟩
      · cases e
    · split at e
      · cases e; exact ⟨x, xs, .inr rfl, by assumption, rfl⟩
      · cases e) (fun hh hl hr ha hd h => PySem.W.max_list_data hh hl hr ha hd h) (fun hh hl hr ha hd h => PySem.W.max_tuple_data hh hl hr ha hd h)
end
end Pv
/-! text S11 -/
set_option autoImplicit false
set_option Elab.async false
set_option linter.all false
set_option maxRecDepth 100000
set_option maxHeartbeats 1000000
namespace Pv
open PySem PySem.Spec PyProof.Rows L2
section
variable {X : Cx}
/-! ### methods of lists -/
def rMth (m : Mth) : V → List V → Hp → VK → Prop := fun x xs H Q => ∃ A dx ds d, DRep H A dx x ∧ DRepL H A ds xs ∧ mthD m dx ds = some d ∧ Fin1 A (mthFresh m) d H Q
theorem mt_cnt (hu : X.A.units + 200 < cLine) : MtR X "list.count" (rMth .count) := by
  intro pins s σ H x xs v us Q I rx rxs ⟨A, dx, ds, d, h1, h2, e, q⟩
  rcases ds with _ | ⟨y, _ | ⟨z, r⟩⟩
  · cases dx <;> simp [mthD] at e
  · cases dx <;> simp only [mthD, reduceCtorEq] at e
    rename_i ys
    split at e
    · rename_i hk
      cases e
      simp only [Bool.and_eq_true] at hk
      obtain ⟨w, rfl, h3⟩ := h2.one
      obtain ⟨u, rfl, ru⟩ := vals1 rxs
      obtain ⟨a, vs, rfl, _, ha, ra⟩ := h1
      cases rx
      obtain ⟨hz, its, n, rva, ho⟩ := I.hok a _ ha
      obtain ⟨as, rd⟩ := ra.reads I.hok _ _ its rva
      obtain ⟨bs, rb⟩ := h3.reads I.hok _ _ _ ru
      have hd := shallow_depth _ _ hk.2
      unfold maxDepth at hd
      exact SeqAt.count_list_data (vs := its.toArray) ⟨_, ho, rfl, n, rfl⟩ (by simpa using rd) rb hk.1.1 hk.1.2 (by omega) ⟨.int _, H, I.tok _, ⟨_, rfl⟩, q.int⟩
    · cases e
  · cases dx <;> simp [mthD] at e
theorem mt_idx (hu : X.A.units + 200 < cLine) : MtR X "list.index" (rMth .index) := by
  intro pins s σ H x xs v us Q I rx rxs ⟨A, dx, ds, d, h1, h2, e, q⟩
  rcases ds with _ | ⟨y, _ | ⟨z, r⟩⟩
  · cases dx <;> simp [mthD] at e
  · cases dx <;> simp only [mthD, reduceCtorEq] at e
    rename_i ys
    split at e
    · rename_i hk
      obtain ⟨j, hj, rfl⟩ := map_some e
      simp only [Bool.and_eq_true] at hk
      obtain ⟨w, rfl, h3⟩ := h2.one
      obtain ⟨u, rfl, ru⟩ := vals1 rxs
      obtain ⟨a, vs, rfl, _, ha, ra⟩ := h1
      cases rx
      obtain ⟨hz, its, n, rva, ho⟩ := I.hok a _ ha
      obtain ⟨as, rd⟩ := ra.reads I.hok _ _ its rva
      obtain ⟨bs, rb⟩ := h3.reads I.hok _ _ _ ru
      have hd := shallow_depth _ _ hk.2
      unfold maxDepth at hd
      have rd' : ReadsAll s.heap its.toArray.toList ys as := by simpa using rd
      obtain ⟨hl, hit, hno⟩ := SeqAt.hit_at rd' hk.1.1 hj
      have l63 := line63
      have hvl := rva.length
      have hsz : its.toArray.size = its.length := by simp
      refine call_meets PySem.F.slot_list_index ⟨_, ho, rfl⟩ PySem.F.entry_list_index (PySem.F.args_list_index_2 _ _)
        (SeqAt.list_indexAt a its.toArray n none #[] u (fun u => PyData.eqv (SeqAt.readOf s.heap u) y) j hl (by omega) hit hno) ⟨ho, SeqAt.items_plain rd' rb hk.1.1 hk.1.2 (by omega), ?_⟩
      exact ⟨.int _, H, I.tok _, ⟨_, rfl⟩, q.int⟩
    · cases e
  · cases dx <;> simp [mthD] at e
end
section
variable {p : Pm} {X : Cx}
/-! ### their calls -/
theorem rPrim_of {k : Prim} {x : Pv.X} {V' : List Nat} {σ : L2.St} {H : Hp} {Q : VK} (t : tE p.w p.n p.W V' (p.ev (.prim k x)) σ H Q) : tCB (rPrim k) (tA p.w p.n p.W V' (p.evL x)) σ H Q := by
  obtain ⟨A, env, h, ln, rel, wd, s⟩ := t
  unfold Pm.ev evE at s
  split at s
  · exact s.elim
  · refine SimG.subL ln rel wd RpE.back s fun va h1 xs H1 e1 x1 w1 rel1 r1 s1 => ?_
    obtain ⟨ds, hd, s2⟩ := datAll_of s1
    obtain ⟨d, e, f⟩ := SimG.one w1 s2
    exact ⟨A, ds, d, w1.dom, r1.rep hd, e, f⟩
theorem isTrue_call {f : Expr} {as : List Expr} {kw : List Keyword} {pos : Pos} {env : PySem.Env} (whole : Sem Value) : PySem.isTrue (.Call f as kw pos) env whole = (do let v ← whole; standAt (Expr.Call f as kw pos).pos; holding [v] (truthy v)) := rfl
theorem ev_primB {k : Prim} {id : String} {x : Str} {e : Expr} {es : List Expr} {xs : Pv.X} {q pos : Pos} (hc : CallR X (.builtin id) (rPrim k)) (hg : Gl X x) (hm : X.mg x = none) (hv : bootBuiltins x = some (.builtin id)) (hn : x ≠ "__name__") (hdb : (x == ("__debug__" : Str)) = false)
    (hst : ∀ a ∈ e :: es, isStar a = false) (he : EvL p X (e :: es) xs) : Ev p X (.Call (.Name x q) (e :: es) [] pos) (.prim k xs) :=
  .mk' (fun V' c => (pe_callB hc hg hm hv (he.pa V' c) hn hdb (starEach_cons (hst e (List.mem_cons_self ..)) es X.env) (by
    have : ∀ (es : List Expr), (∀ a ∈ es, isStar a = false) → ∀ pos, (backTo pos (starEach es X.env)).any (·.1) = false := fun es => by
      induction es with
      | nil => intro _ pos; rfl
      | cons a es ih =>
        intro h pos
        rw [starEach_cons (h a (List.mem_cons_self ..))]
        show (false || (backTo pos (starEach es X.env)).any (·.1)) = false
        rw [ih (fun b hb => h b (List.mem_cons_of_mem _ hb)) pos]
        rfl
    exact this es (fun a ha => hst a (List.mem_cons_of_mem _ ha)) pos)).imp fun σ H Q t => rPrim_of t) isTrue_call
theorem ev_primT {k : Prim} {T : String} {x : Str} {e : Expr} {es : List Expr} {xs : Pv.X} {q pos : Pos} (hc : CallR X (.type T) (rPrim k)) (hg : Gl X x) (hm : X.mg x = none) (hv : bootBuiltins x = some (.type T)) (hn : x ≠ "__name__") (hdb : (x == ("__debug__" : Str)) = false)
    (hst : ∀ a ∈ e :: es, isStar a = false) (he : EvL p X (e :: es) xs) : Ev p X (.Call (.Name x q) (e :: es) [] pos) (.prim k xs) :=
  .mk' (fun V' c => (pe_callTy hc hg hm hv (he.pa V' c) hn hdb (starEach_cons (hst e (List.mem_cons_self ..)) es X.env) (by
    have : ∀ (es : List Expr), (∀ a ∈ es, isStar a = false) → ∀ pos, (backTo pos (starEach es X.env)).any (·.1) = false := fun es => by
      induction es with
      | nil => intro _ pos; rfl
      | cons a es ih =>
        intro h pos
        rw [starEach_cons (h a (List.mem_cons_self ..))]
        show (false || (backTo pos (starEach es X.env)).any (·.1)) = false
        rw [ih (fun b hb => h b (List.mem_cons_of_mem _ hb)) pos]
        rfl
    exact this es (fun a ha => hst a (List.mem_cons_of_mem _ ha)) pos)).imp fun σ H Q t => rPrim_of t) isTrue_call
/-- isinstance(e, T) -/
theorem ev_isa {k : Prim} {T : String} {t : Str} {e : Expr} {xe : Pv.X} {q q2 pos : Pos} (hpk : ∀ d d', primD k [d] = some d' → ∃ b, d' = .bool b) (hc : CallR X (.builtin "isinstance") (rIsa k T)) (hg : Gl X "isinstance") (hm : X.mg "isinstance" = none) (hgt : Gl X t) (hmt : X.mg t = none) (hv : bootBuiltins t = some (.type T)) (hn : t ≠ "__name__") (hdb : (t == ("__debug__" : Str)) = false)
    (hst : isStar e = false) (he : Ev p X e xe) : Ev p X (.Call (.Name "isinstance" q) [e, .Name t q2] [] pos) (.prim k (.cons xe .nil)) :=
  .mk' (fun V' c => by
    have hT : PE X (.Name t q2) (tC (V.ty T)) := pe_bltn hgt hmt hv rfl hn hdb
    refine (pe_callB hc hg hm (by rfl) (pa_cons (he.pe V' fun i hi => c i (by simpa [vars] using hi)) (pa_cons hT pa_nil (by rfl)) (starEach_cons hst _ X.env)) (by decide) (by decide) (starEach_cons hst _ X.env) (by rfl)).imp fun σ H Q t => ?_
    obtain ⟨A, env, h, ln, rel, wd, s⟩ := t
    unfold Pm.ev evE at s
    split at s
    · exact s.elim
    · unfold Pv.evL at s
      simp only [bind_assoc] at s
      refine SimG.sub1 ln rel wd RpE.back s fun va h1 x H1 x1 w1 rel1 r1 _ s1 => ?_
      unfold Pv.evL at s1
      obtain ⟨v, fr⟩ := va
      cases v with
      | d d =>
        have s1 : SimG p.w p.W A (RpE p.w A) (one (primD k [d]) (primFresh k) h1) σ H1 Q := s1
        obtain ⟨d', e', f⟩ := SimG.one w1 s1
        obtain ⟨b, rfl⟩ := hpk d d' e'
        exact ⟨A, d, b, x, r1, rfl, e', f.bl⟩
      | _ => exact s1.elim) isTrue_call
theorem attr_base {o : Expr} {m : Str} {env : PySem.Env} (h : ∀ f as kw pos, o ≠ .Call f as kw pos) : attributeBase o m env (eval o env) = eval o env := by
  cases o <;> first | rfl | exact absurd rfl (h _ _ _ _)
/-- o.count(e), o.index(e) of a list -/
theorem ev_mth {m : Mth} (hm : m = .count ∨ m = .index) {nm : Str} {id : String} {o e : Expr} {xo xe : Pv.X} {ap cp : Pos} (slot : Slot "list" nm id) (hty : typeOf (.builtin id) = pure (.type "method_descriptor")) (hmr : MtR X id (rMth m))
    (hs : attributeBase o nm X.env (eval o X.env) = eval o X.env) (hl : (ap.endLine == cp.line) = true) (hst : isStar e = false) (ho : Ev p X o xo) (he : Ev p X e xe) : Ev p X (.Call (.Attribute o nm ap) [e] [] cp) (.mth m xo (.cons xe .nil)) :=
  .mk' (fun V' c => by
    refine (pe_bm F.plainAttrs_list slot hty hmr (ho.pe V' (covL c)) (pa_cons (he.pe V' fun i hi => c i (by simp [vars]; exact .inr hi)) pa_nil (starEach_cons hst _ X.env)) hs (by rw [starEach_cons hst]; rfl) hl (starEach_cons hst _ X.env) (by rfl)).imp fun σ H Q t => ?_
    obtain ⟨A, env, h, ln, rel, wd, s⟩ := t
    unfold Pm.ev evE at s
    refine SimG.sub1 ln rel wd RpE.back s fun va h1 x H1 x1 w1 rel1 r1 _ s1 => ?_
    obtain ⟨v, fr⟩ := va
    cases v with
    | d dx =>
      cases dx with
      | list ys =>
        have hon : mthOn m (.list ys) = true := by rcases hm with rfl | rfl <;> rfl
        have s0 : SimG p.w p.W A (RpE p.w A) (match mthOn m (.list ys) with
          | true => (Pv.evL p.C p.th p.hot (.cons xe .nil) env h1).bind fun vs h => match datAll vs with
            | some xs => one (mthD m (.list ys) xs) (mthFresh m) h
            | none => .no
          | false => .no) σ H1 Q := s1
        rw [hon] at s0
        have s1 : SimG p.w p.W A (RpE p.w A) ((Pv.evL p.C p.th p.hot (.cons xe .nil) env h1).bind fun vs h => match datAll vs with
          | some xs => one (mthD m (.list ys) xs) (mthFresh m) h
          | none => .no) σ H1 Q := s0
        obtain ⟨a, vs, rfl, hna, ha, ra⟩ := r1
        refine ⟨.inl ⟨rfl, vs, .of ha⟩, ?_⟩
        unfold Pv.evL at s1
        simp only [bind_assoc] at s1
        refine SimG.sub1 ln rel1 w1 RpE.back s1 fun vb h2 y H2 x2 w2 rel2 r2 _ s2 => ?_
        unfold Pv.evL at s2
        obtain ⟨v, fr⟩ := vb
        cases v with
        | d dy =>
          have s2 : SimG p.w p.W A (RpE p.w A) (one (mthD m (.list ys) [dy]) (mthFresh m) h2) σ H2 Q := s2
          obtain ⟨d', e', f⟩ := SimG.one w2 s2
          exact ⟨A, .list ys, [dy], d', DRep.ext' x2 w1 ⟨a, vs, rfl, hna, ha, ra⟩, ⟨y, [], rfl, r2, rfl⟩, e', f⟩
        | _ => exact s2.elim
      | _ => rcases hm with rfl | rfl <;> exact s1.elim
    | _ => exact s1.elim) isTrue_call
/-! d.get -/
/-- the dict in the kind of its key -/
theorem get_ghost {P : Prop} {pins : List (Addr × Obj)} {s : Shared} {σ : L2.St} {H : Hp} {A : Addr → Prop} {kvs : List (PyData × PyData)} {k : PyData} {x y : V} (I : Inv X pins σ H s) (hd : DRep H A (.dict kvs) x) (hk : DRep H A k y) (hf : keyFor kvs k = true)
    (h : ∀ (a : Addr) (H1 : Hp) (o : Option V), x = .ref a → Inv X pins σ H1 s → DGet H1 a y o → ((dictAt kvs k = none ∧ o = none) ∨ ∃ d w, dictAt kvs k = some d ∧ o = some w ∧ DRep H A d w) → (∀ s', Inv X pins σ H1 s' → Inv X pins σ H s') → P) : P := by
  have hd0 := hd
  obtain ⟨a, rfl, c⟩ := get_cases hd hk hf
  rcases c with ⟨rfl, e, b, js, rfl, hb, rfl⟩ | ⟨rfl, e, _⟩ | ⟨o, g, c⟩
  · have ne : b ≠ a := fun z => by rw [z, e] at hb; cases hb
    refine h a (upd H a (.dT [])) none rfl (Inv.toT I e) (DGet.t upd_same (by rw [upd_ne ne]; exact hb)) (.inl ⟨rfl, rfl⟩) fun s' I' => ?_
    have := Inv.toK I' upd_same
    rw [upd_upd] at this
    have e2 : upd H a (.dK []) = H := by
      funext c
      by_cases hc : c = a
      · rw [hc, upd_same, e]
      · rw [upd_ne hc]
    rw [e2] at this
    exact this
  · obtain ⟨a', z, _, q⟩ := hd0
    cases z
    rcases q with ⟨ks, q, _⟩ | ⟨ks, ⟨q, n⟩, r⟩
    · rw [e] at q; cases q
    · exact absurd (show ks = [] from r) n
  · exact h a H o rfl I g c fun s' I' => I'
theorem mt_get1 (hu : X.A.units + 200 < cLine) : MtR X "dict.get" (rMth .get1) := by
  intro pins s σ H x xs v us Q I rx rxs ⟨A, dx, ds, d, h1, h2, e, q⟩
  rcases ds with _ | ⟨k, _ | ⟨z, r⟩⟩
  · cases dx <;> simp [mthD] at e
  · cases dx <;> simp only [mthD, reduceCtorEq] at e
    rename_i kvs
    split at e
    · rename_i hk
      cases e
      obtain ⟨y, rfl, h3⟩ := h2.one
      obtain ⟨u, rfl, ru⟩ := vals1 rxs
      refine get_ghost I h1 h3 hk fun a H1 o ex I1 g c bk => ?_
      subst ex
      cases rx
      refine d_get1 (by omega) I1 g ru fun w' s' I' rw' => ⟨_, H, bk s' I', rw', ?_⟩
      rcases c with ⟨c1, c2⟩ | ⟨d, w, c1, c2, c3⟩
      · rw [c1] at q; subst c2; exact q .non H (Same.refl H) rfl (fun z => by cases z)
      · rw [c1] at q; subst c2; exact DRep.self q c3
    · cases e
  · cases dx <;> simp [mthD] at e
theorem mt_get2 (hu : X.A.units + 200 < cLine) : MtR X "dict.get" (rMth .get2) := by
  intro pins s σ H x xs v us Q I rx rxs ⟨A, dx, ds, d, h1, h2, e, q⟩
  rcases ds with _ | ⟨k, _ | ⟨z, _ | ⟨z2, r⟩⟩⟩
  · cases dx <;> simp [mthD] at e
  · cases dx <;> simp [mthD] at e
  · cases dx <;> simp only [mthD, reduceCtorEq] at e
    rename_i kvs
    split at e
    · rename_i hk
      cases e
      obtain ⟨y, yz, rfl, h3, h4⟩ := h2.two
      obtain ⟨u, uz, rfl, ru, rz⟩ := vals2 rxs
      refine get_ghost I h1 h3 hk fun a H1 o ex I1 g c bk => ?_
      subst ex
      cases rx
      refine d_get2 (by omega) I1 g ru rz fun w' s' I' rw' => ⟨_, H, bk s' I', rw', ?_⟩
      rcases c with ⟨c1, c2⟩ | ⟨d, w, c1, c2, c3⟩
      · rw [c1] at q; subst c2; exact DRep.self q h4
      · rw [c1] at q; subst c2; exact DRep.self q c3
    · cases e
  · cases dx <;> simp [mthD] at e
theorem ev_get1 {o e : Expr} {xo xe : Pv.X} {ap cp : Pos} (hu : X.A.units + 200 < cLine) (hs : attributeBase o "get" X.env (eval o X.env) = eval o X.env) (hl : (ap.endLine == cp.line) = true) (hst : isStar e = false) (ho : Ev p X o xo) (he : Ev p X e xe) : Ev p X (.Call (.Attribute o "get" ap) [e] [] cp) (.mth .get1 xo (.cons xe .nil)) :=
  .mk' (fun V' c => by
    refine (pe_bm F.plainAttrs_dict PySem.F.slot_dict_get PySem.F.type_dict_get (mt_get1 hu) (ho.pe V' (covL c)) (pa_cons (he.pe V' fun i hi => c i (by simp [vars]; exact .inr hi)) pa_nil (starEach_cons hst _ X.env)) hs (by rw [starEach_cons hst]; rfl) hl (starEach_cons hst _ X.env) (by rfl)).imp fun σ H Q t => ?_
    obtain ⟨A, env, h, ln, rel, wd, s⟩ := t
    unfold Pm.ev evE at s
    refine SimG.sub1 ln rel wd RpE.back s fun va h1 x H1 x1 w1 rel1 r1 _ s1 => ?_
    obtain ⟨v, fr⟩ := va
    cases v with
    | d dx =>
      cases dx with
      | dict kvs =>
        have s1 : SimG p.w p.W A (RpE p.w A) ((Pv.evL p.C p.th p.hot (.cons xe .nil) env h1).bind fun vs h => match datAll vs with
          | some xs => one (mthD .get1 (.dict kvs) xs) (mthFresh .get1) h
          | none => .no) σ H1 Q := s1
        obtain ⟨a, rfl, hna, ha⟩ := r1
        refine ⟨.inr (.inr (.inl ⟨rfl, ha.elim (fun ⟨ks, e, _⟩ => .inl ⟨ks, e⟩) fun ⟨ks, e, _⟩ => .inr ⟨ks, e.1⟩⟩)), ?_⟩
        unfold Pv.evL at s1
        simp only [bind_assoc] at s1
        refine SimG.sub1 ln rel1 w1 RpE.back s1 fun vb h2 y H2 x2 w2 rel2 r2 _ s2 => ?_
        unfold Pv.evL at s2
        obtain ⟨v, fr⟩ := vb
        cases v with
        | d dy =>
          have s2 : SimG p.w p.W A (RpE p.w A) (one (mthD .get1 (.dict kvs) [dy]) (mthFresh .get1) h2) σ H2 Q := s2
          obtain ⟨d', e', f⟩ := SimG.one w2 s2
          exact ⟨A, .dict kvs, [dy], d', DRep.ext' x2 w1 ⟨a, rfl, hna, ha⟩, ⟨y, [], rfl, r2, rfl⟩, e', f⟩
        | _ => exact s2.elim
      | _ => exact s1.elim
    | _ => exact s1.elim) isTrue_call
theorem ev_get2 {o e f : Expr} {xo xe xf : Pv.X} {ap cp : Pos} (hu : X.A.units + 200 < cLine) (hs : attributeBase o "get" X.env (eval o X.env) = eval o X.env) (hl : (ap.endLine == cp.line) = true) (hst : isStar e = false) (hst2 : isStar f = false) (ho : Ev p X o xo) (he : Ev p X e xe) (hf : Ev p X f xf) : Ev p X (.Call (.Attribute o "get" ap) [e, f] [] cp) (.mth .get2 xo (.cons xe (.cons xf .nil))) :=
  .mk' (fun V' c => by
    refine (pe_bm F.plainAttrs_dict PySem.F.slot_dict_get PySem.F.type_dict_get (mt_get2 hu) (ho.pe V' (covL c)) (pa_cons (he.pe V' fun i hi => c i (by simp [vars]; exact .inr (.inl hi))) (pa_cons (hf.pe V' fun i hi => c i (by simp [vars]; exact .inr (.inr hi))) pa_nil (starEach_cons hst2 _ X.env)) (starEach_cons hst _ X.env)) hs (by rw [starEach_cons hst, starEach_cons hst2]; rfl) hl (starEach_cons hst _ X.env) (by rw [starEach_cons hst2]; rfl)).imp fun σ H Q t => ?_
    obtain ⟨A, env, h, ln, rel, wd, s⟩ := t
    unfold Pm.ev evE at s
    refine SimG.sub1 ln rel wd RpE.back s fun va h1 x H1 x1 w1 rel1 r1 _ s1 => ?_
    obtain ⟨v, fr⟩ := va
    cases v with
    | d dx =>
      cases dx with
      | dict kvs =>
        have s1 : SimG p.w p.W A (RpE p.w A) ((Pv.evL p.C p.th p.hot (.cons xe (.cons xf .nil)) env h1).bind fun vs h => match datAll vs with
          | some xs => one (mthD .get2 (.dict kvs) xs) (mthFresh .get2) h
          | none => .no) σ H1 Q := s1
        obtain ⟨a, rfl, hna, ha⟩ := r1
        refine ⟨.inr (.inr (.inl ⟨rfl, ha.elim (fun ⟨ks, e, _⟩ => .inl ⟨ks, e⟩) fun ⟨ks, e, _⟩ => .inr ⟨ks, e.1⟩⟩)), ?_⟩
        unfold Pv.evL at s1
        simp only [bind_assoc] at s1
        refine SimG.sub1 ln rel1 w1 RpE.back s1 fun vb h2 y H2 x2 w2 rel2 r2 _ s2 => ?_
        unfold Pv.evL at s2
        simp only [bind_assoc] at s2
        refine SimG.sub1 ln rel2 w2 RpE.back s2 fun vc h3 z H3 x3 w3 rel3 r3 _ s3 => ?_
        unfold Pv.evL at s3
        obtain ⟨v, fr⟩ := vb
        obtain ⟨v2, fr2⟩ := vc
        cases v with
        | d dy =>
          cases v2 with
          | d dz =>
            have s3 : SimG p.w p.W A (RpE p.w A) (one (mthD .get2 (.dict kvs) [dy, dz]) (mthFresh .get2) h3) σ H3 Q := s3
            obtain ⟨d', e', f⟩ := SimG.one w3 s3
            exact ⟨A, .dict kvs, [dy, dz], d', DRep.ext' (x2.trans x3) w1 ⟨a, rfl, hna, ha⟩, ⟨y, [z], rfl, DRep.ext' x3 w2 r2, ⟨z, [], rfl, r3, rfl⟩⟩, e', f⟩
          | _ => exact s3.elim
        | _ => exact s3.elim
      | _ => exact s1.elim
    | _ => exact s1.elim) isTrue_call
end
end Pv
/-! text SN -/
set_option autoImplicit false
set_option Elab.async false
set_option linter.all false
set_option maxRecDepth 100000
set_option maxHeartbeats 2000000
/-! enumerate over a tuple. -/
namespace Pv
open PySem PySem.Spec PyProof.Rows L2
open AutoSeq1 (wpAny_loadPart')
theorem enumNewT (l : Addr) (items : Array Value) (n : Nat) (dct : Option Addr) (sl : Array (Option Value)) :
    Meets (Builtin.«enumerate.__new__» ⟨[.type "enumerate", .ref l], []⟩) (fun _ R s => s.heap.get? l = some { cls := .type "tuple", dict := dct, data := .seq items n, slots := sl } ∧
      R (.ok (.ret (.ref (s.heap.push { cls := .type "tuple_iterator", data := .fields #[.ref l, .int 0 0] }).objs.size)))
        { s with heap := (s.heap.push { cls := .type "tuple_iterator", data := .fields #[.ref l, .int 0 0] }).push { cls := .type "enumerate", data := .fields #[.none, .bool false, .ref s.heap.objs.size, rawInt 0, .none, .none] } }) :=
  .of_wp fun prog w A R s h => by
    obtain ⟨hp, g, d, tk, os⟩ := s; obtain ⟨tl, h⟩ := h
    have sb := sub_enumerate
    have tL : Heap.IsTuple (Shared.heap ⟨hp, g, d, tk, os⟩) l items := ⟨_, tl, rfl, n, rfl⟩
    wp_walk using wpAny_loadPart' tl
    refine wpAny_stack_any fun st => wpAny_pure ?_
    split
    · rename_i c _ _ _ _ _
      cases (c == Value.type "enumerate")
      · wp_walk using wpAny_loadPart' tl, wpAny_pyIter_tuple tL
        exact ⟨_, rfl, h⟩
      · wp_walk using wpAny_loadPart' tl, wpAny_pyIter_tuple tL
        exact ⟨_, rfl, h⟩
    · wp_walk using wpAny_loadPart' tl, wpAny_pyIter_tuple tL
      exact ⟨_, rfl, h⟩
section
variable {prog : Program} {w : World} {A : Around} {E : Value → Shared → Prop} {s : Shared}
theorem call_enumT {l : Addr} {items : Array Value} {Q : Value → Shared → Prop} (tL : s.heap.IsTuple l items)
    (h : ∀ h', IsEnum h' (s.heap.objs.size + 1) s.heap.objs.size 0 .none → h'.IsTupleIter s.heap.objs.size l 0 → h'.objs.size = s.heap.objs.size + 2 →
      (∀ b o, s.heap.get? b = some o → h'.get? b = some o) → Q (.ref (s.heap.objs.size + 1)) { s with heap := h' }) :
    wpAny (model prog w) A (call (.type "enumerate") [.ref l]) Q E s := by
  obtain ⟨⟨c, dct, dt, sl⟩, hl, hc, n, hd⟩ := tL
  replace hc : c = .type "tuple" := hc
  replace hd : dt = .seq items n := hd
  subst hc hd
  refine callType_new F.called_enumerate (by decide) (F.typeCall_enumerate_1 _) (F.newCall_enumerate_1 _) (fun obj => F.args_object_init_2 obj _) F.entry_enumerate_new (enumNewT l items n dct sl) ⟨hl, ?_⟩
  have hz : (s.heap.push { cls := .type "tuple_iterator", data := .fields #[.ref l, .int 0 0] }).objs.size = s.heap.objs.size + 1 := Heap.size_push ..
  show _ ∧ _
  rw [hz]
  have he : IsEnum ((s.heap.push { cls := .type "tuple_iterator", data := .fields #[.ref l, .int 0 0] }).push
      { cls := .type "enumerate", data := .fields #[.none, .bool false, .ref s.heap.objs.size, rawInt 0, .none, .none] }) (s.heap.objs.size + 1) s.heap.objs.size 0 .none := by
    have := Heap.get?_push_size (s.heap.push { cls := .type "tuple_iterator", data := .fields #[.ref l, .int 0 0] }) (o := { cls := .type "enumerate", data := .fields #[.none, .bool false, .ref s.heap.objs.size, rawInt 0, .none, .none] }) rfl
    rw [hz] at this; exact this
  refine ⟨⟨_, he, rfl⟩, h _ he ⟨_, Heap.get?_push_of_some _ (Heap.get?_push_size _ rfl), rfl, rfl⟩ (by rw [Heap.size_push, hz]) fun b o x => Heap.get?_push_of_some _ (Heap.get?_push_of_some _ x)⟩
theorem enumEndT {e it t : Addr} {i : Nat} {items : Array Value} {old : Value} {Q : Option Value → Shared → Prop} (hh : A.handled = none) (he : IsEnum s.heap e it i old) (hit : s.heap.IsTupleIter it t i) (ht : s.heap.IsTuple t items) (hi : items.size ≤ i)
    (k : ∀ h', Heap.ExtBut it s.heap h' → Q none { s with heap := h' }) : wpAny (model prog w) A (pyNext (.ref e)) Q E s := by
  have eT : s.TypeIs (.ref e) "enumerate" := ⟨_, he, rfl⟩
  unfold pyNext
  refine wpAny_bind (wpAny_attempt (wpAny_callSpecial?_slot (name := Str.ofString "__next__") eT F.slot_enumerate_next (wpAny_call_entry F.slot_enumerate_next eT F.entry_enumerate_next ?_ (F.args_enumerate_next_1 _))))
  show wpAny _ _ (field (.ref e) 2 >>= _) _ _ _
  refine wpAny_bind (wpAny_field he rfl (x := .ref it) rfl (wpAny_bind (wpAny_nextOf_tuple_end hh hit ht (Array.getElem?_eq_none hi) fun h1 x q1 q2 => ?_)))
  obtain ⟨o1, g1, g2⟩ := q2
  exact wpAny_bind (wpAny_isInstance (T := "StopIteration") (b := true) ⟨o1, g1, g2⟩ isSubtype_stop (wpAny_pure (k _ q1)))
end
/-- the tuple at a, each item in a new pair -/
def IteT (K : PySem.W.Frag) (a : Addr) : It :=
  ⟨fun i H => ∃ (xs : List V) (x : V), SqT K H a xs ∧ xs[i]? = some x, fun i H v H' => ∃ T x, v = .ref T ∧ H T = none ∧ H' = upd H T (.tup [.int (i : Nat), x]) ∧ ∀ xs, SqT K H a xs → xs[i]? = some x, fun i H => ∃ xs : List V, SqT K H a xs ∧ xs.length ≤ i⟩
theorem turn_enumT {P : Program} {w : World} {K : PySem.W.Frag} {elts : List Expr} {kk : Nat} {tpos : Pos} (a e it : Addr) (items : Array Value) :
    Turn P w K (.Tuple elts kk tpos) (IteT K a) [e, it] e (fun i h => (∃ old, IsEnum h e it ((i : Nat) : Int) old) ∧ h.IsTupleIter it a i ∧ e ≠ it) where
  mem := by simp
  obj := fun i h st b hb => by
    obtain ⟨⟨old, he⟩, ⟨o, ho, hc, hd⟩, _⟩ := st
    have e' : b = e ∨ b = it := by simpa using hb
    rcases e' with z | z
    · rw [z]; exact ⟨_, he, fun v q => nomatch q⟩
    · rw [z]; exact ⟨o, ho, fun v q => by rw [hd] at q; cases q⟩
  keep := fun i h h' st k => let ⟨⟨old, he⟩, hi, hne⟩ := st; ⟨⟨old, k e (by simp) _ he⟩, hi.at fun o q => k it (by simp) o q, hne⟩
  item := by
    intro X hP hw hK hc i pins s σ H E I hf st hg
    subst hP hw hK
    obtain ⟨⟨old, he⟩, hit, hne⟩ := st
    obtain ⟨xs, x, hq, hx⟩ := hg
    obtain ⟨its, rv, p, hz⟩ := I.tuple hq
    have p : s.heap.IsTuple a its.toArray := p
    obtain ⟨u, hu, ru⟩ := rv.get hx
    have hel : e < s.heap.objs.size := Heap.lt_size he
    have hil : it < s.heap.objs.size := by obtain ⟨_, q, _⟩ := hit; exact Heap.lt_size q
    have hai : a ≠ it := fun z => by
      obtain ⟨o1, g1, c1, _⟩ := hit
      obtain ⟨o2, g2, c2, _⟩ := p
      rw [z, g1] at g2
      cases g2
      rw [c1] at c2
      exact absurd c2 (by simp)
    have hae : e ≠ a := fun z => by
      obtain ⟨o2, g2, c2, _⟩ := p
      have he' : s.heap.get? e = _ := he
      rw [z, g2] at he'
      cases he'
      exact absurd c2 (by simp)
    refine wpAny_pyNext_enum_itemD (Draws.tuple (A := X.A.in1) (I.ok.hd hc) it a hai its.toArray) he ⟨hit, p⟩ (by
      have := (List.getElem?_eq_some_iff.mp hu).1
      simpa using this) hne (by simp [hne, hae]) fun y h' tk hy ho st' hT hsz hk => ?_
    have hy : y = u := by
      have : its.toArray[i]? = some u := by simpa using hu
      rw [this] at hy
      exact (Option.some.inj hy).symm
    subst hy
    refine ⟨_, rfl, wpAny_letOwnedTupleGo_enum (s := { s with heap := h', toks := tk + 1 }) ho fun h'' he' sb => ?_⟩
    have hT2 : h''.get? s.heap.objs.size = some { cls := .type "tuple", data := .seq #[.int i tk, y] } := (sb.2 _ (Nat.ne_of_gt hel)).trans hT
    have new : ObjOk X.prog X.w (upd H s.heap.objs.size (.tup [.int (i : Nat), x])) h'' s.heap.objs.size (.tup [.int (i : Nat), x]) :=
      ⟨by show 2 ≤ sizeLine; decide, [.int i tk, y], .cons ⟨_, rfl⟩ (.cons ru .nil), ⟨_, hT2, rfl, _, rfl⟩⟩
    have I1 : Inv X pins σ (upd H s.heap.objs.size (.tup [.int (i : Nat), x])) { s with heap := h'', toks := tk + 1 } :=
      I.turnedNew (ch := [e, it]) (fun b ob hb q => (sb.2 b (fun z => hb (by simp [z]))).trans (hk b ob (fun z => hb (by simp [z])) (fun z => hb (by simp [z])) q)) hf (Nat.le_refl _) new
    refine ⟨.ref s.heap.objs.size, _, I1, rfl, ⟨_, x, rfl, I.hok.fresh (Nat.le_refl _), rfl, fun ys hy => by rw [I.tuple_inj hy hq]; exact hx⟩, ⟨⟨y, ?_⟩, st'.1.at fun o q => (sb.2 it (Ne.symm hne)).trans q, hne⟩, fun b hb => ?_⟩
    · have e1 : ((i + 1 : Nat) : Int) = (i : Int) + 1 := by omega
      rw [e1]; exact he'
    · have hb' : b < s.heap.objs.size := by
        have e' : b = e ∨ b = it := by simpa using hb
        rcases e' with z | z
        · rw [z]; exact hel
        · rw [z]; exact hil
      rw [upd_ne (Nat.ne_of_lt hb')]
      exact (hf b hb).1
  done := by
    intro X hP hw hK hc i pins s σ H E I hf st hg
    subst hP hw hK
    obtain ⟨⟨old, he⟩, hit, hne⟩ := st
    obtain ⟨xs, hq, hx⟩ := hg
    obtain ⟨its, rv, p, hz⟩ := I.tuple hq
    have p : s.heap.IsTuple a its.toArray := p
    obtain ⟨f0, f1, f2, f3, f4, f5⟩ := hf it (by simp)
    have hl := rv.length
    have hai : a ≠ it := fun z => by
      obtain ⟨o1, g1, c1, _⟩ := hit
      obtain ⟨o2, g2, c2, _⟩ := p
      rw [z, g1] at g2
      cases g2
      rw [c1] at c2
      exact absurd c2 (by simp)
    exact enumEndT (I.ok.hd hc) he hit p (by simp; omega) fun h' eb => ⟨rfl, I.turned (t' := s.toks) (fun b o hb q => eb b o hb q) f0 f1 f3 f4 f5⟩
  self := fun A i s Q E st h => let ⟨⟨_, he⟩, _⟩ := st; wpAny_pyIter_enum he h
/-- enumerate over a list or a tuple -/
def iEnumB (K : PySem.W.Frag) (ta : TA) : TI := fun σ H R => ta σ H fun vs H1 => ∃ a xs, vs = [.ref a] ∧ (SqL K H1 a xs ∧ R (Ite K a) H1 ∨ SqT K H1 a xs ∧ R (IteT K a) H1)
theorem pi_enumB {X : Cx} {e : Expr} {ta : TA} {p pos tpos : Pos} {elts : List Expr} {kk : Nat} (hg : Gl X "enumerate") (hm : X.mg "enumerate" = none) (ha : PA X [e] ta) (hs : starEach [e] X.env = [(false, eval e X.env)] := by rfl) :
    PI X (.Tuple elts kk tpos) (.Call (.Name "enumerate" p) [e] [] pos) (iEnumB X.K ta) := by
  refine ⟨fun pins s σ H R I h => ?_⟩
  refine Call_ (ld_blt I hg hm boot_enumerate (PyProof.Rows.callWith_type1 (thn (ha.run pos pins s σ H _ I h) fun us s1 ⟨vs, H1, I1, r1, q1⟩ => ?_) hs rfl))
  obtain ⟨a, xs, ex, hq⟩ := q1
  subst ex
  cases r1 with
  | cons r rr =>
    cases rr
    cases r
    have fpk : ∀ {H1 : Hp} {s1 : Shared} (I1 : Inv X pins σ H1 s1) (b : Addr), b ∈ [s1.heap.objs.size + 1, s1.heap.objs.size] → s1.heap.objs.size ≤ b := fun I1 b hb => by
      have e' := by simpa using hb
      rcases e' with z | z
      · rw [z]; exact Nat.le_add_right _ _
      · rw [z]; exact Nat.le_refl _
    rcases hq with ⟨hq, q⟩ | ⟨hq, q⟩
    · obtain ⟨its, rv, p', hz⟩ := I1.list hq
      refine call_enumerate_list p'.isList fun h' he hit hsz hk => wpAny_pyIter_enum he ?_
      have I2 : Inv X pins σ H1 { s1 with heap := h' } := I1.kept (t' := s1.toks) hk
      exact ⟨s1.heap.objs.size + 1, [s1.heap.objs.size + 1, s1.heap.objs.size], _, _, H1, rfl, I2, turn_enum a (s1.heap.objs.size + 1) s1.heap.objs.size, ⟨⟨.none, he⟩, hit, Nat.succ_ne_self _⟩, fun b hb => I1.fpOk (fpk I1 b hb) (I1.hok.fresh (fpk I1 b hb)), q⟩
    · obtain ⟨its, rv, p', hz⟩ := I1.tuple hq
      have p' : s1.heap.IsTuple a its.toArray := p'
      refine call_enumT p' fun h' he hit hsz hk => wpAny_pyIter_enum he ?_
      have I2 : Inv X pins σ H1 { s1 with heap := h' } := I1.kept (t' := s1.toks) hk
      exact ⟨s1.heap.objs.size + 1, [s1.heap.objs.size + 1, s1.heap.objs.size], _, _, H1, rfl, I2, turn_enumT a (s1.heap.objs.size + 1) s1.heap.objs.size its.toArray, ⟨⟨.none, he⟩, hit, Nat.succ_ne_self _⟩, fun b hb => I1.fpOk (fpk I1 b hb) (I1.hok.fresh (fpk I1 b hb)), q⟩
end Pv
/-! text SZ -/
set_option autoImplicit false
set_option Elab.async false
set_option linter.all false
set_option maxRecDepth 100000
set_option maxHeartbeats 2000000
/-! zip of a tuple and a list, either way: iterators of either kind -/
namespace ZM
open PySem PySem.Spec PyProof.Rows L2
def Iti (t : Bool) (h : Heap) (i l : Addr) (n : Nat) : Prop := match t with
  | true => h.IsTupleIter i l n
  | false => h.IsListIter i l n
def Sqi (t : Bool) (h : Heap) (l : Addr) (xs : Array Value) : Prop := match t with
  | true => h.IsTuple l xs
  | false => h.IsList l xs
theorem Iti.keep {t : Bool} {h h' : Heap} {i l : Addr} {n : Nat} (x : Iti t h i l n) (k : ∀ o, h.get? i = some o → h'.get? i = some o) : Iti t h' i l n := by
  cases t with
  | true => exact Heap.IsTupleIter.at x k
  | false => exact Heap.IsListIter.at x k
theorem Sqi.keep {t : Bool} {h h' : Heap} {l : Addr} {xs : Array Value} (x : Sqi t h l xs) (k : ∀ o, h.get? l = some o → h'.get? l = some o) : Sqi t h' l xs := by
  cases t with
  | true => obtain ⟨o, e, r⟩ := (show h.IsTuple l xs from x); exact (show h'.IsTuple l xs from ⟨o, k o e, r⟩)
  | false => obtain ⟨o, e, r⟩ := (show h.IsList l xs from x); exact (show h'.IsList l xs from ⟨o, k o e, r⟩)
theorem Iti.obj {t : Bool} {h : Heap} {i l : Addr} {n : Nat} (x : Iti t h i l n) : ∃ o, h.get? i = some o ∧ o.data = .fields #[.ref l, .int n 0] := by
  cases t with
  | true => obtain ⟨o, e, _, d⟩ := (show h.IsTupleIter i l n from x); exact ⟨o, e, d⟩
  | false => obtain ⟨o, e, _, d⟩ := (show h.IsListIter i l n from x); exact ⟨o, e, d⟩
theorem Sqi.obj {t : Bool} {h : Heap} {l : Addr} {xs : Array Value} (x : Sqi t h l xs) : ∃ o, h.get? l = some o := by
  cases t with
  | true => obtain ⟨o, e, _⟩ := (show h.IsTuple l xs from x); exact ⟨o, e⟩
  | false => obtain ⟨o, e, _⟩ := (show h.IsList l xs from x); exact ⟨o, e⟩
section
variable {prog : Program} {w : World} {A : Around} {E : Value → Shared → Prop} {s : Shared}
theorem next_item {t : Bool} {it l : Addr} {i : Nat} {items : Array Value} {x : Value} {Q : Value → Shared → Prop} (hit : Iti t s.heap it l i) (hl : Sqi t s.heap l items) (hx : items[i]? = some x)
    (hQ : ∀ h', Iti t h' it l (i + 1) → Heap.SameBut it s.heap h' → Q x { s with heap := h' }) : wpAny (model prog w) A (Builtin.SmallTypes.nextOf (.ref it)) Q E s := by
  cases t with
  | true => exact RZ.nextOf_tuple_item hit hl hx hQ
  | false => exact wpAny_nextOf_list_item hit hl hx hQ
theorem next_end {t : Bool} {it l : Addr} {i : Nat} {items : Array Value} {Q : Value → Shared → Prop} (hh : A.handled = none) (hit : Iti t s.heap it l i) (hl : Sqi t s.heap l items) (hx : items[i]? = none)
    (hE : ∀ h' e, Heap.ExtBut it s.heap h' → (∃ o, h'.get? e = some o ∧ o.cls = .type "StopIteration") → E (.ref e) { s with heap := h' }) : wpAny (model prog w) A (Builtin.SmallTypes.nextOf (.ref it)) Q E s := by
  cases t with
  | true => exact RZ.nextOf_tuple_end hh hit hl hx hE
  | false => exact wpAny_nextOf_list_end hh hit hl hx hE
theorem zm_item {t1 t2 : Bool} {z TI TO i1 i2 l1 l2 : Addr} {k : Nat} {xs ys : Array Value} {x y a b : Value} {Q : Value → Shared → Prop} (D : ZipApart z TI TO i1 i2 l1 l2)
    (hz : IsZip s.heap z TI TO .none) (hTI : IsPair s.heap TI (.ref i1) (.ref i2)) (hTO : IsPair s.heap TO a b)
    (h1 : Iti t1 s.heap i1 l1 k) (h2 : Iti t2 s.heap i2 l2 k) (hl1 : Sqi t1 s.heap l1 xs) (hl2 : Sqi t2 s.heap l2 ys) (hx : xs[k]? = some x) (hy : ys[k]? = some y)
    (hQ : ∀ h', IsZip h' z TI TO (rawInt s.heap.objs.size) → IsPair h' TO x y → Iti t1 h' i1 l1 (k + 1) → Iti t2 h' i2 l2 (k + 1) → IsPair h' s.heap.objs.size x y →
      (∀ c o, c ≠ z → c ≠ TO → c ≠ i1 → c ≠ i2 → s.heap.get? c = some o → h'.get? c = some o) → Q (.ref s.heap.objs.size) { s with heap := h' }) :
    wpAny (model prog w) A (Builtin.«zip.__next__» ⟨[.ref z], []⟩) (fun fin s' => ∃ v, fin = .done (.ret v) ∧ Q v s') E s := by
  show wpAny _ _ (field (.ref z) 2 >>= _) _ _ _
  refine wpAny_bind (wpAny_field hz rfl (x := .bool false) rfl ?_)
  show wpAny _ _ (field (.ref z) 3 >>= _) _ _ _
  refine wpAny_bind (wpAny_field hz rfl (x := .ref TI) rfl ?_)
  refine wpAny_bind (wpAny_seqItems hTI rfl ?_)
  show wpAny _ _ (Builtin.SmallTypes.ownedTupleIsFree (.ref z) >>= _) _ _ _
  refine wpAny_bind ?_
  unfold Builtin.SmallTypes.ownedTupleIsFree
  refine wpAny_bind (wpAny_field hz rfl (x := .none) rfl (wpAny_pure ?_))
  simp only [if_true]
  refine wpAny_bind (wpAny_rule ?_)
  refine wpAny_bind (wpAny_field hz rfl (x := .ref TO) rfl ?_)
  refine wpAny_bind (wpAny_setField_rec hz (by simp) fun g1 hz1 s1 => ?_)
  replace hz1 : IsZip g1 z TI TO .ellipsis := hz1
  have e1 := s1.extBut
  refine wpAny_bind ?_
  simp only [List.zipIdx_cons, List.zipIdx_nil, List.forIn_cons, List.forIn_nil]
  -- the first
  refine wpAny_bind (wpAny_bind (wpAny_onRaise ?_))
  show wpAny _ _ (Builtin.SmallTypes.nextOf (.ref i1) >>= _) _ _ _
  refine wpAny_bind (next_item (h1.keep fun o e => e1 _ o D.i1z e) (hl1.keep fun o e => e1 _ o D.l1z e) hx fun g2 p2 s2 => wpAny_pure ?_)
  have e2 := s2.extBut
  have T2 : IsPair g2 TO a b := e2 _ _ D.TOi1 (e1 _ _ D.TOz hTO)
  refine wpAny_bind (wpAny_seqItems T2 rfl ?_)
  refine wpAny_bind (wpAny_updateSeq_pair T2 fun g3 T3 s3 => ?_)
  replace T3 : IsPair g3 TO x b := T3
  have e3 := s3.extBut
  refine wpAny_bind (wpAny_letGo (wpAny_pure ?_))
  -- the second
  refine wpAny_bind (wpAny_bind (wpAny_onRaise ?_))
  show wpAny _ _ (Builtin.SmallTypes.nextOf (.ref i2) >>= _) _ _ _
  refine wpAny_bind (next_item (h2.keep fun o e => e3 _ o D.TOi2.symm (e2 _ o D.i12.symm (e1 _ o D.i2z e))) (hl2.keep fun o e => e3 _ o D.l2TO (e2 _ o D.l2i1 (e1 _ o D.l2z e))) hy fun g4 p4 s4 => wpAny_pure ?_)
  have e4 := s4.extBut
  have T4 : IsPair g4 TO x b := e4 _ _ D.TOi2 T3
  refine wpAny_bind (wpAny_seqItems T4 rfl ?_)
  refine wpAny_bind (wpAny_updateSeq_pair T4 fun g5 T5 s5 => ?_)
  replace T5 : IsPair g5 TO x y := T5
  have e5 := s5.extBut
  refine wpAny_bind (wpAny_letGo (wpAny_pure (wpAny_pure ?_)))
  -- the pair
  refine wpAny_bind (wpAny_seqItems T5 rfl ?_)
  refine wpAny_bind (wpAny_newTuple ?_)
  have sz : g5.objs.size = s.heap.objs.size := by rw [s5.1, s4.1, s3.1, s2.1, s1.1]
  have hz5 : IsZip g5 z TI TO .ellipsis := e5 _ _ D.TOz.symm (e4 _ _ D.i2z.symm (e3 _ _ D.TOz.symm (e2 _ _ D.i1z.symm hz1)))
  have k5 : ∀ c o, c ≠ z → c ≠ TO → c ≠ i1 → c ≠ i2 → s.heap.get? c = some o → g5.get? c = some o := fun c o c1 c2 c3 c4 e => e5 _ _ c2 (e4 _ _ c4 (e3 _ _ c2 (e2 _ _ c3 (e1 _ _ c1 e))))
  have q1 : Iti t1 g5 i1 l1 (k + 1) := p2.keep fun o e => e5 _ o D.TOi1.symm (e4 _ o D.i12 (e3 _ o D.TOi1.symm e))
  have q2 : Iti t2 g5 i2 l2 (k + 1) := p4.keep fun o e => e5 _ o D.TOi2.symm e
  have zlt : z < g5.objs.size := Heap.lt_size hz5
  show wpAny _ _ (Builtin.SmallTypes.ownedTupleHandOut (.ref z) (.ref g5.objs.size) >>= _) _ _ _
  refine wpAny_bind ?_
  unfold Builtin.SmallTypes.ownedTupleHandOut
  have hz6 : IsZip (g5.push { cls := .type "tuple", data := .seq #[x, y] }) z TI TO .ellipsis := Heap.get?_push_of_some _ hz5
  refine wpAny_bind (wpAny_setField_rec hz6 (by simp) fun g7 hz7 s7 => ?_)
  replace hz7 : IsZip g7 z TI TO (rawInt g5.objs.size) := hz7
  refine wpAny_setField_rec hz7 (by simp) fun g8 hz8 s8 => ?_
  replace hz8 : IsZip g8 z TI TO (rawInt g5.objs.size) := hz8
  have up : ∀ c o, c ≠ z → g5.get? c = some o → g8.get? c = some o := fun c o c1 e => s8.extBut _ _ c1 (s7.extBut _ _ c1 (Heap.get?_push_of_some _ e))
  have T8 : IsPair g8 g5.objs.size x y := s8.extBut _ _ (Nat.ne_of_gt zlt) (s7.extBut _ _ (Nat.ne_of_gt zlt) (Heap.get?_push_size _ rfl))
  rw [sz] at hz8 T8
  refine wpAny_pure ⟨_, rfl, ?_⟩
  show Q (.ref g5.objs.size) _
  rw [sz]
  exact hQ g8 hz8 (up _ _ D.TOz T5) (q1.keep fun o e => up _ o D.i1z e) (q2.keep fun o e => up _ o D.i2z e) T8 fun c o c1 c2 c3 c4 e => up c o c1 (k5 c o c1 c2 c3 c4 e)
theorem zm_end {t1 t2 : Bool} {z TI TO i1 i2 l1 l2 : Addr} {k : Nat} {xs ys : Array Value} {a b : Value} {Q : Fin → Shared → Prop} (hh : A.handled = none) (D : ZipApart z TI TO i1 i2 l1 l2)
    (hz : IsZip s.heap z TI TO .none) (hTI : IsPair s.heap TI (.ref i1) (.ref i2)) (hTO : IsPair s.heap TO a b)
    (h1 : Iti t1 s.heap i1 l1 k) (h2 : Iti t2 s.heap i2 l2 k) (hl1 : Sqi t1 s.heap l1 xs) (hl2 : Sqi t2 s.heap l2 ys) (hend : xs[k]? = none ∨ ys[k]? = none)
    (hE : ∀ h' e, (∀ c o, c ≠ z → c ≠ TO → c ≠ i1 → c ≠ i2 → s.heap.get? c = some o → h'.get? c = some o) → (∃ o, h'.get? e = some o ∧ o.cls = .type "StopIteration") → E (.ref e) { s with heap := h' }) :
    wpAny (model prog w) A (Builtin.«zip.__next__» ⟨[.ref z], []⟩) Q E s := by
  show wpAny _ _ (field (.ref z) 2 >>= _) _ _ _
  refine wpAny_bind (wpAny_field hz rfl (x := .bool false) rfl ?_)
  show wpAny _ _ (field (.ref z) 3 >>= _) _ _ _
  refine wpAny_bind (wpAny_field hz rfl (x := .ref TI) rfl ?_)
  refine wpAny_bind (wpAny_seqItems hTI rfl ?_)
  show wpAny _ _ (Builtin.SmallTypes.ownedTupleIsFree (.ref z) >>= _) _ _ _
  refine wpAny_bind ?_
  unfold Builtin.SmallTypes.ownedTupleIsFree
  refine wpAny_bind (wpAny_field hz rfl (x := .none) rfl (wpAny_pure ?_))
  simp only [if_true]
  refine wpAny_bind (wpAny_rule ?_)
  refine wpAny_bind (wpAny_field hz rfl (x := .ref TO) rfl ?_)
  refine wpAny_bind (wpAny_setField_rec hz (by simp) fun g1 hz1 s1 => ?_)
  replace hz1 : IsZip g1 z TI TO .ellipsis := hz1
  have e1 := s1.extBut
  refine wpAny_bind ?_
  simp only [List.zipIdx_cons, List.zipIdx_nil, List.forIn_cons, List.forIn_nil]
  refine wpAny_bind (wpAny_bind (wpAny_onRaise ?_))
  show wpAny _ _ (Builtin.SmallTypes.nextOf (.ref i1) >>= _) _ _ _
  have n1 : Iti t1 g1 i1 l1 k := h1.keep fun o e => e1 _ o D.i1z e
  have m1 : Sqi t1 g1 l1 xs := hl1.keep fun o e => e1 _ o D.l1z e
  cases hx : xs[k]? with
  | none =>
    refine wpAny_bind (next_end hh n1 m1 hx fun g2 e e2 ⟨oe, hoe, hce⟩ => ?_)
    have hz2 : IsZip g2 z TI TO .ellipsis := e2 _ _ D.i1z.symm hz1
    have hez : e ≠ z := fun q => by rw [q, hz2] at hoe; cases hoe; simp at hce
    exact wpAny_setField_rec hz2 (by simp) fun g3 _ s3 => hE g3 e (fun c o c1 _ c3 _ q => s3.extBut _ _ c1 (e2 _ _ c3 (e1 _ _ c1 q))) ⟨oe, s3.extBut _ _ hez hoe, hce⟩
  | some x =>
    have hy : ys[k]? = none := hend.elim (fun q => by rw [hx] at q; cases q) id
    refine wpAny_bind (next_item n1 m1 hx fun g2 p2 s2 => wpAny_pure ?_)
    have e2 := s2.extBut
    have T2 : IsPair g2 TO a b := e2 _ _ D.TOi1 (e1 _ _ D.TOz hTO)
    refine wpAny_bind (wpAny_seqItems T2 rfl ?_)
    refine wpAny_bind (wpAny_updateSeq_pair T2 fun g3 T3 s3 => ?_)
    have e3 := s3.extBut
    refine wpAny_bind (wpAny_letGo (wpAny_pure ?_))
    refine wpAny_bind (wpAny_bind (wpAny_onRaise ?_))
    show wpAny _ _ (Builtin.SmallTypes.nextOf (.ref i2) >>= _) _ _ _
    refine wpAny_bind (next_end hh (h2.keep fun o e => e3 _ o D.TOi2.symm (e2 _ o D.i12.symm (e1 _ o D.i2z e))) (hl2.keep fun o e => e3 _ o D.l2TO (e2 _ o D.l2i1 (e1 _ o D.l2z e))) hy fun g4 e e4 ⟨oe, hoe, hce⟩ => ?_)
    have hz4 : IsZip g4 z TI TO .ellipsis := e4 _ _ D.i2z.symm (e3 _ _ D.TOz.symm (e2 _ _ D.i1z.symm hz1))
    have hez : e ≠ z := fun q => by rw [q, hz4] at hoe; cases hoe; simp at hce
    exact wpAny_setField_rec hz4 (by simp) fun g5 _ s5 => hE g5 e (fun c o c1 c2 c3 c4 q => s5.extBut _ _ c1 (e4 _ _ c4 (e3 _ _ c2 (e2 _ _ c3 (e1 _ _ c1 q))))) ⟨oe, s5.extBut _ _ hez hoe, hce⟩
theorem py_item {t1 t2 : Bool} {z TI TO i1 i2 l1 l2 : Addr} {k : Nat} {xs ys : Array Value} {x y a b : Value} {Q : Option Value → Shared → Prop} (D : ZipApart z TI TO i1 i2 l1 l2)
    (hz : IsZip s.heap z TI TO .none) (hTI : IsPair s.heap TI (.ref i1) (.ref i2)) (hTO : IsPair s.heap TO a b)
    (h1 : Iti t1 s.heap i1 l1 k) (h2 : Iti t2 s.heap i2 l2 k) (hl1 : Sqi t1 s.heap l1 xs) (hl2 : Sqi t2 s.heap l2 ys) (hx : xs[k]? = some x) (hy : ys[k]? = some y)
    (hQ : ∀ h', IsZip h' z TI TO (rawInt s.heap.objs.size) → IsPair h' TO x y → Iti t1 h' i1 l1 (k + 1) → Iti t2 h' i2 l2 (k + 1) → IsPair h' s.heap.objs.size x y →
      (∀ c o, c ≠ z → c ≠ TO → c ≠ i1 → c ≠ i2 → s.heap.get? c = some o → h'.get? c = some o) → Q (some (.ref s.heap.objs.size)) { s with heap := h' }) :
    wpAny (model prog w) A (pyNext (.ref z)) Q E s := by
  have hT : s.TypeIs (.ref z) "zip" := ⟨_, hz, rfl⟩
  unfold pyNext
  exact wpAny_bind (wpAny_attempt (wpAny_callSpecial?_slot (name := Str.ofString "__next__") hT F.slot_zip_next
    (wpAny_call_entry F.slot_zip_next hT F.entry_zip_next (zm_item D hz hTI hTO h1 h2 hl1 hl2 hx hy fun h' a1 a2 a3 a4 a5 a6 => wpAny_pure (hQ h' a1 a2 a3 a4 a5 a6)) (F.args_zip_next_1 _))))
theorem py_end {t1 t2 : Bool} {z TI TO i1 i2 l1 l2 : Addr} {k : Nat} {xs ys : Array Value} {a b : Value} {Q : Option Value → Shared → Prop} (hh : A.handled = none) (D : ZipApart z TI TO i1 i2 l1 l2)
    (hz : IsZip s.heap z TI TO .none) (hTI : IsPair s.heap TI (.ref i1) (.ref i2)) (hTO : IsPair s.heap TO a b)
    (h1 : Iti t1 s.heap i1 l1 k) (h2 : Iti t2 s.heap i2 l2 k) (hl1 : Sqi t1 s.heap l1 xs) (hl2 : Sqi t2 s.heap l2 ys) (hend : xs[k]? = none ∨ ys[k]? = none)
    (hQ : ∀ h', (∀ c o, c ≠ z → c ≠ TO → c ≠ i1 → c ≠ i2 → s.heap.get? c = some o → h'.get? c = some o) → Q none { s with heap := h' }) : wpAny (model prog w) A (pyNext (.ref z)) Q E s := by
  have hT : s.TypeIs (.ref z) "zip" := ⟨_, hz, rfl⟩
  unfold pyNext
  refine wpAny_bind (wpAny_attempt (wpAny_callSpecial?_slot (name := Str.ofString "__next__") hT F.slot_zip_next
    (wpAny_call_entry F.slot_zip_next hT F.entry_zip_next (zm_end hh D hz hTI hTO h1 h2 hl1 hl2 hend fun h' e hk ⟨o, ho, hc⟩ => ?_) (F.args_zip_next_1 _))))
  refine wpAny_bind (wpAny_isInstance (T := "StopIteration") (b := true) ⟨o, ho, hc⟩ isSubtype_stop ?_)
  exact wpAny_pure (hQ _ hk)
end
abbrev itO (t : Bool) (l : Addr) : Obj := { cls := .type (if t then "tuple_iterator" else "list_iterator"), data := .fields #[.ref l, .int 0 0] }
theorem pushNe {h : Heap} {o o2 : Obj} {c : Addr} (e : h.get? c = some o) : (h.push o2).get? c = some o := Heap.get?_push_of_some _ e
abbrev zH2 (t1 t2 : Bool) (h : Heap) (l1 l2 : Addr) : Heap := (h.push (itO t1 l1)).push (itO t2 l2)
abbrev zH3 (t1 t2 : Bool) (h : Heap) (l1 l2 : Addr) : Heap := (zH2 t1 t2 h l1 l2).push { cls := .type "tuple", data := .seq #[.ref h.objs.size, .ref (h.push (itO t1 l1)).objs.size] }
abbrev zH4 (t1 t2 : Bool) (h : Heap) (l1 l2 : Addr) : Heap := (zH3 t1 t2 h l1 l2).push { cls := .type "tuple", data := .seq #[.none, .none] }
abbrev zH5 (t1 t2 : Bool) (h : Heap) (l1 l2 : Addr) : Heap := (zH4 t1 t2 h l1 l2).push { cls := .type "zip", data := .fields #[.none, .bool false, .bool false, .ref (zH2 t1 t2 h l1 l2).objs.size, .ref (zH3 t1 t2 h l1 l2).objs.size] }
theorem new_tl (l1 l2 : Addr) (xs ys : Array Value) : Meets (Builtin.«zip.__new__» ⟨[.type "zip", .ref l1, .ref l2], []⟩) (fun _ R s => s.heap.IsTuple l1 xs ∧ s.heap.IsList l2 ys ∧
      R (.ok (.ret (.ref (zH4 true false s.heap l1 l2).objs.size))) { s with heap := zH5 true false s.heap l1 l2 }) :=
  .of_wp fun prog w A R s h => by
    obtain ⟨hp, g, d, tk, os⟩ := s; obtain ⟨hl1, hl2, h⟩ := h
    have hsub := sub_zip
    have hL1 : Heap.IsTuple (Shared.heap ⟨hp, g, d, tk, os⟩) l1 xs := hl1
    have hL2 : Heap.IsList (Shared.heap ⟨hp.push { cls := .type "tuple_iterator", data := .fields #[.ref l1, .int 0 0] }, g, d, tk, os⟩) l2 ys := Heap.IsList.push hl2 _
    wp_walk using wpAny_pyIter_tuple hL1, wpAny_pyIter_list hL2
    exact ⟨_, rfl, h⟩
theorem new_lt (l1 l2 : Addr) (xs ys : Array Value) : Meets (Builtin.«zip.__new__» ⟨[.type "zip", .ref l1, .ref l2], []⟩) (fun _ R s => s.heap.IsList l1 xs ∧ s.heap.IsTuple l2 ys ∧
      R (.ok (.ret (.ref (zH4 false true s.heap l1 l2).objs.size))) { s with heap := zH5 false true s.heap l1 l2 }) :=
  .of_wp fun prog w A R s h => by
    obtain ⟨hp, g, d, tk, os⟩ := s; obtain ⟨hl1, hl2, h⟩ := h
    have hsub := sub_zip
    have hL1 : Heap.IsList (Shared.heap ⟨hp, g, d, tk, os⟩) l1 xs := hl1
    have hL2 : Heap.IsTuple (Shared.heap ⟨hp.push { cls := .type "list_iterator", data := .fields #[.ref l1, .int 0 0] }, g, d, tk, os⟩) l2 ys := Heap.IsTuple.push hl2 _
    wp_walk using wpAny_pyIter_list hL1, wpAny_pyIter_tuple hL2
    exact ⟨_, rfl, h⟩
section
variable {prog : Program} {w : World} {A : Around} {E : Value → Shared → Prop} {s : Shared}
theorem call_mix {t1 t2 : Bool} {l1 l2 : Addr} {xs ys : Array Value} {Q : Value → Shared → Prop} (hl1 : Sqi t1 s.heap l1 xs) (hl2 : Sqi t2 s.heap l2 ys)
    (h : ∀ h', IsZip h' (s.heap.objs.size + 4) (s.heap.objs.size + 2) (s.heap.objs.size + 3) .none → IsPair h' (s.heap.objs.size + 2) (.ref s.heap.objs.size) (.ref (s.heap.objs.size + 1)) → IsPair h' (s.heap.objs.size + 3) .none .none →
      Iti t1 h' s.heap.objs.size l1 0 → Iti t2 h' (s.heap.objs.size + 1) l2 0 → (∀ c o, s.heap.get? c = some o → h'.get? c = some o) → Q (.ref (s.heap.objs.size + 4)) { s with heap := h' }) :
    wpAny (model prog w) A (call (.type "zip") [.ref l1, .ref l2]) Q E s := by
  have fin : ∀ t1 t2 : Bool, (∀ h', IsZip h' (s.heap.objs.size + 4) (s.heap.objs.size + 2) (s.heap.objs.size + 3) .none → IsPair h' (s.heap.objs.size + 2) (.ref s.heap.objs.size) (.ref (s.heap.objs.size + 1)) → IsPair h' (s.heap.objs.size + 3) .none .none →
      Iti t1 h' s.heap.objs.size l1 0 → Iti t2 h' (s.heap.objs.size + 1) l2 0 → (∀ c o, s.heap.get? c = some o → h'.get? c = some o) → Q (.ref (s.heap.objs.size + 4)) { s with heap := h' }) →
      (∃ o, (zH5 t1 t2 s.heap l1 l2).get? (zH4 t1 t2 s.heap l1 l2).objs.size = some o ∧ o.cls = .type "zip") ∧ Q (.ref (zH4 t1 t2 s.heap l1 l2).objs.size) { s with heap := zH5 t1 t2 s.heap l1 l2 } := fun t1 t2 h => by
    have z1 : (s.heap.push (itO t1 l1)).objs.size = s.heap.objs.size + 1 := Heap.size_push ..
    have z2 : (zH2 t1 t2 s.heap l1 l2).objs.size = s.heap.objs.size + 2 := by rw [Heap.size_push, z1]
    have z3 : (zH3 t1 t2 s.heap l1 l2).objs.size = s.heap.objs.size + 3 := by rw [Heap.size_push, z2]
    have z4 : (zH4 t1 t2 s.heap l1 l2).objs.size = s.heap.objs.size + 4 := by rw [Heap.size_push, z3]
    have g5 : (zH5 t1 t2 s.heap l1 l2).get? (zH4 t1 t2 s.heap l1 l2).objs.size = some _ := Heap.get?_push_size _ rfl
    have g4 : (zH5 t1 t2 s.heap l1 l2).get? (zH3 t1 t2 s.heap l1 l2).objs.size = some _ := pushNe (Heap.get?_push_size _ rfl)
    have g3 : (zH5 t1 t2 s.heap l1 l2).get? (zH2 t1 t2 s.heap l1 l2).objs.size = some _ := pushNe (pushNe (Heap.get?_push_size _ rfl))
    have g2 : (zH5 t1 t2 s.heap l1 l2).get? (s.heap.push (itO t1 l1)).objs.size = some _ := pushNe (pushNe (pushNe (Heap.get?_push_size _ rfl)))
    have g1 : (zH5 t1 t2 s.heap l1 l2).get? s.heap.objs.size = some _ := pushNe (pushNe (pushNe (pushNe (Heap.get?_push_size _ rfl))))
    rw [z2, z3, z4] at g5
    rw [z1, z2] at g3
    rw [z3] at g4
    rw [z1] at g2
    rw [z4]
    refine ⟨⟨_, g5, rfl⟩, h _ g5 g3 g4 ?_ ?_ fun c o x => pushNe (pushNe (pushNe (pushNe (pushNe x))))⟩
    · cases t1 with
      | true => exact (show Heap.IsTupleIter _ _ _ _ from ⟨_, g1, rfl, rfl⟩)
      | false => exact (show Heap.IsListIter _ _ _ _ from ⟨_, g1, rfl, rfl⟩)
    · cases t2 with
      | true => exact (show Heap.IsTupleIter _ _ _ _ from ⟨_, g2, rfl, rfl⟩)
      | false => exact (show Heap.IsListIter _ _ _ _ from ⟨_, g2, rfl, rfl⟩)
  cases t1 with
  | true => cases t2 with
    | true => exact RZ.call_zipT hl1 hl2 fun h' a1 a2 a3 a4 a5 _ a7 => h h' a1 a2 a3 a4 a5 a7
    | false => exact callType_new F.called_zip (by decide) (F.typeCall_zip_2 _ _) (F.newCall_zip_2 _ _) (fun obj => F.args_object_init_3 obj _ _) F.entry_zip_new (new_tl l1 l2 xs ys) ⟨hl1, hl2, fin true false h⟩
  | false => cases t2 with
    | true => exact callType_new F.called_zip (by decide) (F.typeCall_zip_2 _ _) (F.newCall_zip_2 _ _) (fun obj => F.args_object_init_3 obj _ _) F.entry_zip_new (new_lt l1 l2 xs ys) ⟨hl1, hl2, fin false true h⟩
    | false => exact call_zip_2 hl1 hl2 fun h' a1 a2 a3 a4 a5 _ a7 => h h' a1 a2 a3 a4 a5 a7
end
/-! ### over what is tracked -/
def Sqv (t : Bool) (K : PySem.W.Frag) (H : Hp) (a : Addr) (xs : List V) : Prop := match t with
  | true => SqT K H a xs
  | false => SqL K H a xs
theorem Sqv.get {t : Bool} {X : Cx} {pins : List (Addr × Obj)} {σ : L2.St} {H : Hp} {s : Shared} {a : Addr} {xs : List V} (I : Inv X pins σ H s) (h : Sqv t X.K H a xs) : ∃ its : List Value, Vals xs its ∧ Sqi t s.heap a its.toArray := by
  cases t with
  | true => obtain ⟨its, r, p, _⟩ := I.tuple h; exact ⟨its, r, p⟩
  | false => obtain ⟨its, r, p, _⟩ := I.list h; exact ⟨its, r, p.isList⟩
theorem Sqv.inj {t : Bool} {X : Cx} {pins : List (Addr × Obj)} {σ : L2.St} {H : Hp} {s : Shared} {a : Addr} {xs ys : List V} (I : Inv X pins σ H s) (h : Sqv t X.K H a xs) (h' : Sqv t X.K H a ys) : xs = ys := by
  cases t with
  | true => exact I.tuple_inj h h'
  | false => exact I.list_inj h h'
/-- two rows walked side by side -/
def ItM (t1 t2 : Bool) (K : PySem.W.Frag) (a b : Addr) : It :=
  ⟨fun i H => ∃ (xs ys : List V) (x y : V), Sqv t1 K H a xs ∧ Sqv t2 K H b ys ∧ xs[i]? = some x ∧ ys[i]? = some y,
    fun i H v H' => ∃ T x y, v = .ref T ∧ H T = none ∧ H' = upd H T (.tup [x, y]) ∧ (∀ xs, Sqv t1 K H a xs → xs[i]? = some x) ∧ ∀ ys, Sqv t2 K H b ys → ys[i]? = some y,
    fun i H => ∃ xs ys : List V, Sqv t1 K H a xs ∧ Sqv t2 K H b ys ∧ (xs.length ≤ i ∨ ys.length ≤ i)⟩
theorem mem5 {z TI TO i1 i2 c : Addr} (h : c ∈ [z, TI, TO, i1, i2]) : c = z ∨ c = TI ∨ c = TO ∨ c = i1 ∨ c = i2 := by simpa using h
theorem turn_mix {t1 t2 : Bool} {P : Program} {w : World} {K : PySem.W.Frag} {elts : List Expr} {kk : Nat} {tpos : Pos} {a b z TI TO i1 i2 : Addr} (D : ZipApart z TI TO i1 i2 a b) :
    Turn P w K (.Tuple elts kk tpos) (ItM t1 t2 K a b) [z, TI, TO, i1, i2] z (fun i h => IsZip h z TI TO .none ∧ IsPair h TI (.ref i1) (.ref i2) ∧ (∃ x y, IsPair h TO x y) ∧ Iti t1 h i1 a i ∧ Iti t2 h i2 b i) where
  mem := List.mem_cons_self ..
  obj := fun i h ⟨hz, hTI, ⟨x, y, hTO⟩, h1, h2⟩ c hc => by
    obtain ⟨o1, e1, d1⟩ := h1.obj
    obtain ⟨o2, e2, d2⟩ := h2.obj
    rcases mem5 hc with q | q | q | q | q
    · rw [q]; exact ⟨_, hz, fun v q => nomatch q⟩
    · rw [q]; exact ⟨_, hTI, fun v q => nomatch q⟩
    · rw [q]; exact ⟨_, hTO, fun v q => nomatch q⟩
    · rw [q]; exact ⟨o1, e1, fun v q => by rw [d1] at q; cases q⟩
    · rw [q]; exact ⟨o2, e2, fun v q => by rw [d2] at q; cases q⟩
  keep := fun i h h' ⟨hz, hTI, ⟨x, y, hTO⟩, h1, h2⟩ k =>
    ⟨k z (by simp) _ hz, k TI (by simp) _ hTI, ⟨x, y, k TO (by simp) _ hTO⟩, h1.keep fun o q => k i1 (by simp) o q, h2.keep fun o q => k i2 (by simp) o q⟩
  item := by
    intro X hP hw hK hc i pins s σ H E I hf ⟨hz, hTI, ⟨x0, y0, hTO⟩, h1, h2⟩ ⟨xs, ys, x, y, hqx, hqy, hx, hy⟩
    subst hP hw hK
    obtain ⟨its, rv, p⟩ := hqx.get I
    obtain ⟨its2, rv2, p2⟩ := hqy.get I
    obtain ⟨u, hu, ru⟩ := rv.get hx
    obtain ⟨u2, hu2, ru2⟩ := rv2.get hy
    have hzl : z < s.heap.objs.size := Heap.lt_size hz
    refine py_item D hz hTI hTO h1 h2 p p2 (x := u) (y := u2) (by simpa using hu) (by simpa using hu2) fun h' z' TO' h1' h2' hT hk => ?_
    refine ⟨_, rfl, wpAny_letOwnedTupleGo_zip (s := { s with heap := h' }) z' fun h'' z'' sb => ?_⟩
    have e2 := sb.2
    have hT2 : h''.get? s.heap.objs.size = some { cls := .type "tuple", data := .seq #[u, u2] } := (e2 _ (Nat.ne_of_gt hzl)).trans hT
    have new : ObjOk X.prog X.w (upd H s.heap.objs.size (.tup [x, y])) h'' s.heap.objs.size (.tup [x, y]) :=
      ⟨by show 2 ≤ sizeLine; decide, [u, u2], .cons ru (.cons ru2 .nil), ⟨_, hT2, rfl, _, rfl⟩⟩
    have I1 : Inv X pins σ (upd H s.heap.objs.size (.tup [x, y])) { s with heap := h'' } :=
      I.turnedNew (t' := s.toks) (ch := [z, TI, TO, i1, i2]) (fun c o hb q => (e2 c fun q' => hb (by simp [q'])).trans (hk c o (fun q' => hb (by simp [q'])) (fun q' => hb (by simp [q'])) (fun q' => hb (by simp [q'])) (fun q' => hb (by simp [q'])) q)) hf (Nat.le_refl _) new
    refine ⟨.ref s.heap.objs.size, _, I1, rfl, ⟨_, x, y, rfl, I.hok.fresh (Nat.le_refl _), rfl, fun l hl => by rw [hl.inj I hqx]; exact hx, fun l hl => by rw [hl.inj I hqy]; exact hy⟩, ⟨z'', ?_, ⟨u, u2, ?_⟩, ?_, ?_⟩, fun c hcm => ?_⟩
    · exact (e2 _ D.TIz).trans (hk _ _ D.TIz D.TITO D.TIi1 D.TIi2 hTI)
    · exact (e2 _ D.TOz).trans TO'
    · exact h1'.keep fun o q => (e2 _ D.i1z).trans q
    · exact h2'.keep fun o q => (e2 _ D.i2z).trans q
    · have hlt : c < s.heap.objs.size := by
        rcases mem5 hcm with q | q | q | q | q
        · rw [q]; exact hzl
        · rw [q]; exact Heap.lt_size hTI
        · rw [q]; exact Heap.lt_size hTO
        · rw [q]; obtain ⟨_, e, _⟩ := h1.obj; exact Heap.lt_size e
        · rw [q]; obtain ⟨_, e, _⟩ := h2.obj; exact Heap.lt_size e
      rw [upd_ne (Nat.ne_of_lt hlt)]
      exact (hf c hcm).1
  done := by
    intro X hP hw hK hc i pins s σ H E I hf ⟨hz, hTI, ⟨x0, y0, hTO⟩, h1, h2⟩ ⟨xs, ys, hqx, hqy, hend⟩
    subst hP hw hK
    obtain ⟨its, rv, p⟩ := hqx.get I
    obtain ⟨its2, rv2, p2⟩ := hqy.get I
    have l1 := rv.length
    have l2 := rv2.length
    have he : its.toArray[i]? = none ∨ its2.toArray[i]? = none := hend.elim (fun q => .inl (by simp; omega)) fun q => .inr (by simp; omega)
    exact py_end (I.ok.hd hc) D hz hTI hTO h1 h2 p p2 he fun h' hk => ⟨rfl, I.turnedL (t' := s.toks) (ch := [z, TI, TO, i1, i2]) (fun c o hb q =>
      hk c o (fun q' => hb (by simp [q'])) (fun q' => hb (by simp [q'])) (fun q' => hb (by simp [q'])) (fun q' => hb (by simp [q'])) q) hf⟩
  self := fun A i s Q E st h => wpAny_pyIter_zip st.1 h
def iZipM (K : PySem.W.Frag) (ta : TA) : TI := fun σ H R => ta σ H fun vs H1 => ∃ (t1 t2 : Bool) (a b : Addr) (xs ys : List V), vs = [.ref a, .ref b] ∧ Sqv t1 K H1 a xs ∧ Sqv t2 K H1 b ys ∧ R (ItM t1 t2 K a b) H1
theorem pi_mix {X : Cx} {e e2 : Expr} {ta : TA} {p pos tpos : Pos} {elts : List Expr} {kk : Nat} (hg : Gl X "zip") (hm : X.mg "zip" = none) (ha : PA X [e, e2] ta)
    (hs : starEach [e, e2] X.env = (false, eval e X.env) :: starEach [e2] X.env := by rfl) (hpl : (backTo pos (starEach [e2] X.env)).any (·.1) = false := by rfl) :
    PI X (.Tuple elts kk tpos) (.Call (.Name "zip" p) [e, e2] [] pos) (iZipM X.K ta) := by
  refine ⟨fun pins s σ H R I h => ?_⟩
  refine Call_ (ld_blt I hg hm PyProof.Rows.boot_zip (PyProof.Rows.callWith_type1 (thn (ha.run pos pins s σ H _ I h) fun us s1 ⟨vs, H1, I1, r1, t1, t2, a, b, xs, ys, ex, hqx, hqy, q⟩ => ?_) hs hpl))
  subst ex
  obtain ⟨u1, u2, rfl, e1, e2⟩ : ∃ u1 u2, us = [u1, u2] ∧ RelV (.ref a) u1 ∧ RelV (.ref b) u2 := by
    cases r1 with
    | cons r rr => cases rr with
      | cons r' rr => cases rr; exact ⟨_, _, rfl, r, r'⟩
  cases e1
  cases e2
  have fresh5 : ∀ c, c ∈ [s1.heap.objs.size + 4, s1.heap.objs.size + 2, s1.heap.objs.size + 3, s1.heap.objs.size, s1.heap.objs.size + 1] → FpOk X pins H1 c := fun c hcm => by
    have hle : s1.heap.objs.size ≤ c := by rcases mem5 hcm with q | q | q | q | q <;> rw [q] <;> first | exact Nat.le_add_right _ _ | exact Nat.le_refl _
    exact I1.fpOk hle (I1.hok.fresh hle)
  obtain ⟨its, rv, p1⟩ := hqx.get I1
  obtain ⟨its2, rv2, p2⟩ := hqy.get I1
  obtain ⟨o1, ho1⟩ := p1.obj
  obtain ⟨o2, ho2⟩ := p2.obj
  refine call_mix p1 p2 fun h' hz hTI hTO h1 h2 hk => wpAny_pyIter_zip hz ?_
  exact ⟨s1.heap.objs.size + 4, [s1.heap.objs.size + 4, s1.heap.objs.size + 2, s1.heap.objs.size + 3, s1.heap.objs.size, s1.heap.objs.size + 1], _, _, H1, rfl, I1.kept (t' := s1.toks) hk, turn_mix (PySem.W.ktu_apart s1.heap.objs.size a b (Heap.lt_size ho1) (Heap.lt_size ho2)), ⟨hz, hTI, ⟨_, _, hTO⟩, h1, h2⟩, fresh5, q⟩
end ZM
/-! text S12 -/
set_option autoImplicit false
set_option Elab.async false
set_option linter.all false
set_option maxRecDepth 100000
set_option maxHeartbeats 1000000
namespace Pv
open PySem PySem.Spec PyProof.Rows L2
/-! ### what is walked -/
def Roots (H : Hp) (A : Addr → Prop) (rt : List (PyData × V)) : Prop := ∀ q ∈ rt, DRep H A q.1 q.2
structure Src (J : It) (xs : List PyData) (rt : List (PyData × V)) : Prop where
  go : ∀ i H A, i < xs.length → Roots H A rt → J.go i H
  stop : ∀ H A, Roots H A rt → J.stop xs.length H
  yld : ∀ i H A x H', i < xs.length → Roots H A rt → J.yld i H x H' → ∃ d, xs[i]? = some d ∧ Same H H' ∧ DRep H' A d x
def RpI (A : Addr → Prop) : List PyData → It → Hp → Hp → Prop := fun xs J _ H' => ∃ rt, Src J xs rt ∧ Roots H' A rt
theorem RpI.back {hd : Option Addr} {A : Addr → Prop} : Back hd (RpI A) := fun _ _ _ _ _ _ r => r
theorem Roots.one {H : Hp} {A : Addr → Prop} {d : PyData} {x : V} (r : DRep H A d x) : Roots H A [(d, x)] := fun q h => by
  rcases List.mem_cons.mp h with e | h
  · rw [e]; exact r
  · cases h
theorem Roots.hd {H : Hp} {A : Addr → Prop} {d : PyData} {x : V} {r : List (PyData × V)} (h : Roots H A ((d, x) :: r)) : DRep H A d x := h _ (List.mem_cons_self ..)
theorem Roots.tl {H : Hp} {A : Addr → Prop} {d : PyData × V} {r : List (PyData × V)} (h : Roots H A (d :: r)) : Roots H A r := fun q m => h q (List.mem_cons_of_mem _ m)
theorem src_list {K : PySem.W.Frag} {a : Addr} (xs : List PyData) : Src (Itl K a) xs [(.list xs, .ref a)] where
  go := fun i H A hi r => by
    obtain ⟨_, vs, e, _, h, rv⟩ := r.hd
    cases e
    have : i < vs.length := by rw [rv.length]; exact hi
    exact ⟨vs, vs[i], .of h, by simp [this]⟩
  stop := fun H A r => by
    obtain ⟨_, vs, e, _, h, rv⟩ := r.hd
    cases e
    exact ⟨vs, .of h, by rw [rv.length]; exact Nat.le_refl _⟩
  yld := fun i H A x H' hi r y => by
    obtain ⟨_, vs, e, _, h, rv⟩ := r.hd
    cases e
    obtain ⟨rfl, y⟩ := y
    obtain ⟨d, hd, rd⟩ := rv.get' (y vs (.of h))
    exact ⟨d, hd, Same.refl _, rd⟩
theorem src_tup {K : PySem.W.Frag} {a : Addr} (xs : List PyData) : Src (Itt K a) xs [(.tuple xs, .ref a)] where
  go := fun i H A hi r => by
    obtain ⟨_, vs, e, h, rv⟩ := r.hd
    cases e
    have : i < vs.length := by rw [rv.length]; exact hi
    exact ⟨vs, vs[i], .of h, by simp [this]⟩
  stop := fun H A r => by
    obtain ⟨_, vs, e, h, rv⟩ := r.hd
    cases e
    exact ⟨vs, .of h, by rw [rv.length]; exact Nat.le_refl _⟩
  yld := fun i H A x H' hi r y => by
    obtain ⟨_, vs, e, h, rv⟩ := r.hd
    cases e
    obtain ⟨rfl, y⟩ := y
    obtain ⟨d, hd, rd⟩ := rv.get' (y vs (.of h))
    exact ⟨d, hd, Same.refl _, rd⟩
theorem rangeL_len (lo hi : Int) : (rangeL lo hi).length = (hi - lo).toNat := by simp [rangeL]
theorem rangeL_at {lo hi : Int} {i : Nat} (h : i < (hi - lo).toNat) : (rangeL lo hi)[i]? = some (.int (lo + i)) := by simp [rangeL, h]
theorem src_rng (lo hi : Int) : Src (Itr lo (hi - lo).toNat) (rangeL lo hi) [] where
  go := fun i H A hi r => by rw [rangeL_len] at hi; exact hi
  stop := fun H A r => by rw [rangeL_len]; exact Nat.le_refl _
  yld := fun i H A x H' hi r y => by
    rw [rangeL_len] at hi
    obtain ⟨rfl, rfl⟩ := y
    exact ⟨_, rangeL_at hi, Same.refl _, rfl⟩
theorem pair_rep {H : Hp} {A : Addr → Prop} {T : Addr} {d e : PyData} {x y : V} (hT : H T = none) (h1 : DRep H A d x) (h2 : DRep H A e y) : Same H (upd H T (.tup [x, y])) ∧ DRep (upd H T (.tup [x, y])) A (.tuple [d, e]) (.ref T) :=
  ⟨same_upd hT, T, [x, y], rfl, upd_same, ⟨x, [y], rfl, h1.same (same_upd hT), ⟨y, [], rfl, h2.same (same_upd hT), rfl⟩⟩⟩
theorem enumL_len : ∀ (n : Int) (xs : List PyData), (enumL n xs).length = xs.length
  | _, [] => rfl
  | n, x :: r => by simp [enumL, enumL_len (n + 1) r]
theorem enumL_at : ∀ (n : Int) (xs : List PyData) (i : Nat) (d : PyData), xs[i]? = some d → (enumL n xs)[i]? = some (.tuple [.int (n + i), d])
  | _, [], i, d, h => by simp at h
  | n, x :: r, 0, d, h => by
    simp at h
    subst h
    simp [enumL]
  | n, x :: r, i + 1, d, h => by
    simp at h
    have := enumL_at (n + 1) r i d h
    simp only [enumL, List.getElem?_cons_succ, this]
    congr 4
    push_cast
    omega
theorem src_enum {K : PySem.W.Frag} {a : Addr} (xs : List PyData) : Src (Ite K a) (enumL 0 xs) [(.list xs, .ref a)] where
  go := fun i H A hi r => by
    rw [enumL_len] at hi
    obtain ⟨_, vs, e, _, h, rv⟩ := r.hd
    cases e
    have : i < vs.length := by rw [rv.length]; exact hi
    exact ⟨vs, vs[i], .of h, by simp [this]⟩
  stop := fun H A r => by
    rw [enumL_len]
    obtain ⟨_, vs, e, _, h, rv⟩ := r.hd
    cases e
    exact ⟨vs, .of h, by rw [rv.length]; exact Nat.le_refl _⟩
  yld := fun i H A x H' hi r y => by
    obtain ⟨_, vs, e, _, h, rv⟩ := r.hd
    cases e
    obtain ⟨T, z, rfl, hT, rfl, y⟩ := y
    obtain ⟨d, hd, rd⟩ := rv.get' (y vs (.of h))
    obtain ⟨q1, q2⟩ := pair_rep (d := .int (i : Nat)) (x := .int (i : Nat)) hT rfl rd
    refine ⟨_, enumL_at 0 xs i d hd, q1, ?_⟩
    rw [Int.zero_add]
    exact q2
theorem src_enumT {K : PySem.W.Frag} {a : Addr} (xs : List PyData) : Src (IteT K a) (enumL 0 xs) [(.tuple xs, .ref a)] where
  go := fun i H A hi r => by
    rw [enumL_len] at hi
    obtain ⟨_, vs, e, h, rv⟩ := r.hd
    cases e
    have : i < vs.length := by rw [rv.length]; exact hi
    exact ⟨vs, vs[i], .of h, by simp [this]⟩
  stop := fun H A r => by
    rw [enumL_len]
    obtain ⟨_, vs, e, h, rv⟩ := r.hd
    cases e
    exact ⟨vs, .of h, by rw [rv.length]; exact Nat.le_refl _⟩
  yld := fun i H A x H' hi r y => by
    obtain ⟨_, vs, e, h, rv⟩ := r.hd
    cases e
    obtain ⟨T, z, rfl, hT, rfl, y⟩ := y
    obtain ⟨d, hd, rd⟩ := rv.get' (y vs (.of h))
    obtain ⟨q1, q2⟩ := pair_rep (d := .int (i : Nat)) (x := .int (i : Nat)) hT rfl rd
    refine ⟨_, enumL_at 0 xs i d hd, q1, ?_⟩
    rw [Int.zero_add]
    exact q2
theorem zip_at {xs ys : List PyData} {i : Nat} {d e : PyData} (h1 : xs[i]? = some d) (h2 : ys[i]? = some e) : ((xs.zip ys).map fun p => PyData.tuple [p.1, p.2])[i]? = some (.tuple [d, e]) := by
  have : (xs.zip ys)[i]? = some (d, e) := by
    rw [List.getElem?_zip_eq_some]
    exact ⟨h1, h2⟩
  simp [this]
theorem dsq_rep {t : Bool} {K : PySem.W.Frag} {H : Hp} {A : Addr → Prop} {xs : List PyData} {v : V} (r : DRep H A (mkSeq t xs) v) : ∃ a vs, v = .ref a ∧ ZM.Sqv t K H a vs ∧ DRepL H A xs vs := by
  cases t with
  | true => obtain ⟨a, vs, rfl, h, rv⟩ := r; exact ⟨a, vs, rfl, .of h, rv⟩
  | false => obtain ⟨a, vs, rfl, _, h, rv⟩ := r; exact ⟨a, vs, rfl, .of h, rv⟩
theorem src_mix {t1 t2 : Bool} {K : PySem.W.Frag} {a b : Addr} (xs ys : List PyData) : Src (ZM.ItM t1 t2 K a b) ((xs.zip ys).map fun p => PyData.tuple [p.1, p.2]) [(mkSeq t1 xs, .ref a), (mkSeq t2 ys, .ref b)] where
  go := fun i H A hi r => by
    rw [List.length_map, List.length_zip] at hi
    obtain ⟨_, vs, e, h, rv⟩ := dsq_rep (K := K) r.hd
    cases e
    obtain ⟨_, us, e, h2, ru⟩ := dsq_rep (K := K) r.tl.hd
    cases e
    have h3 : i < vs.length := by rw [rv.length]; omega
    have h4 : i < us.length := by rw [ru.length]; omega
    exact ⟨vs, us, vs[i], us[i], h, h2, by simp [h3], by simp [h4]⟩
  stop := fun H A r => by
    rw [List.length_map, List.length_zip]
    obtain ⟨_, vs, e, h, rv⟩ := dsq_rep (K := K) r.hd
    cases e
    obtain ⟨_, us, e, h2, ru⟩ := dsq_rep (K := K) r.tl.hd
    cases e
    exact ⟨vs, us, h, h2, by rw [rv.length, ru.length]; omega⟩
  yld := fun i H A x H' hi r y => by
    obtain ⟨_, vs, e, h, rv⟩ := dsq_rep (K := K) r.hd
    cases e
    obtain ⟨_, us, e, h2, ru⟩ := dsq_rep (K := K) r.tl.hd
    cases e
    obtain ⟨T, z, w, rfl, hT, rfl, y1, y2⟩ := y
    obtain ⟨d, hd, rd⟩ := rv.get' (y1 vs h)
    obtain ⟨e, he, re⟩ := ru.get' (y2 us h2)
    obtain ⟨q1, q2⟩ := pair_rep hT rd re
    exact ⟨_, zip_at hd he, q1, q2⟩
abbrev tI (w : Wo) (n : Nat) (W : WX) (V : List Nat) (f : Pv.Env → HS → R (List PyData)) : TI := tG w n W V RpI f
theorem _root_.L2.PI.imp {X : Cx} {tg e : Expr} {t t' : TI} (p : PI X tg e t) (h : ∀ σ H Q, t' σ H Q → t σ H Q) : PI X tg e t' := ⟨fun pins s σ H Q I q => p.run pins s σ H Q I (h σ H Q q)⟩
theorem _root_.L2.PI.or {X : Cx} {tg e : Expr} {t u : TI} (p : PI X tg e t) (q : PI X tg e u) : PI X tg e (fun σ H R => t σ H R ∨ u σ H R) := ⟨fun pins s σ H Q I h => h.elim (p.run pins s σ H Q I) (q.run pins s σ H Q I)⟩
abbrev Pm.evS (p : Pm) (x : Pv.X) : Pv.Env → HS → R (List PyData) := Pv.evSrc p.C p.th p.hot x
structure Ei (p : Pm) (X : Cx) (tg e : Expr) (x : Pv.X) : Prop where
  pi : ∀ V', Cov x V' → PI X tg e (tI p.w p.n p.W V' (p.evS x))
theorem rngOk_of {i : Int} (h : rngOk i = true) : -(2 ^ 62) ≤ i ∧ i < 2 ^ 62 := by
  unfold rngOk at h
  simp only [Bool.and_eq_true, decide_eq_true_eq] at h
  have : (2 : Int) ^ 62 = 4611686018427387904 := by decide
  omega
section
variable {p : Pm} {X : Cx} {tg : Expr}
theorem ei_no {e : Expr} {x : Pv.X} (h : ∀ env h, p.evS x env h = .no) : Ei p X tg e x := ⟨fun V' _ => ⟨fun pins s σ H R I ⟨A, env, h', _, _, _, s'⟩ => by rw [h] at s'; exact s'.elim⟩⟩
theorem ei_val {e : Expr} {xe : Pv.X} (he : Ev p X e xe) : Ei p X tg e (.sVal xe) :=
  ⟨fun V' c => ((pi_list (he.pe V' c)).or (pi_tup (he.pe V' c))).imp fun σ H R ⟨A, env, h, ln, rel, wd, s⟩ => by
    unfold Pm.evS evSrc at s
    revert s
    show SimG _ _ _ _ (Pv.R.bind (p.ev xe env h) _) σ H R → _
    have mk : ∀ {Q1 : VK}, SimG p.w p.W A (RpE p.w A) (p.ev xe env h) σ H Q1 → tE p.w p.n p.W V' (p.ev xe) σ H Q1 := fun s => ⟨A, env, h, ln, rel, wd, s⟩
    revert mk
    cases p.ev xe env h with
    | no => exact fun _ s => s.elim
    | ex c y h1 => exact fun mk s => .inl (mk s)
    | ok va h1 =>
      obtain ⟨v, fr⟩ := va
      cases v with
      | d d =>
        cases d with
        | list xs =>
          refine fun mk s => .inl (mk fun y H1 x1 w1 r1 => ?_)
          obtain ⟨a, vs, rfl, hn, ha, ra⟩ := r1.1
          exact ⟨a, rfl, ⟨vs, .of ha⟩, s _ H1 x1 w1 ⟨_, src_list xs, .one ⟨a, vs, rfl, hn, ha, ra⟩⟩⟩
        | tuple xs =>
          refine fun mk s => .inr (mk fun y H1 x1 w1 r1 => ?_)
          obtain ⟨a, vs, rfl, ha, ra⟩ := r1.1
          exact ⟨a, rfl, ⟨vs, .of ha⟩, s _ H1 x1 w1 ⟨_, src_tup xs, .one ⟨a, vs, rfl, ha, ra⟩⟩⟩
        | _ => exact fun _ s => s.elim
      | _ => exact fun _ s => s.elim⟩
theorem ei_rng1 {a : Expr} {xa : Pv.X} {q pos : Pos} (hg : Gl X "range") (hm : X.mg "range" = none) (hst : isStar a = false) (ha : Ev p X a xa) : Ei p X tg (.Call (.Name "range" q) [a] [] pos) (.sRng1 xa) :=
  ⟨fun V' c => (pi_range1 hg hm (pa_cons (ha.pe V' c) pa_nil (starEach_cons hst _ X.env)) (starEach_cons hst _ X.env)).imp fun σ H R ⟨A, env, h, ln, rel, wd, s⟩ => by
    unfold Pm.evS evSrc at s
    refine SimG.sub1 ln rel wd RpI.back s fun va h1 x H1 x1 w1 rel1 r1 _ s1 => ?_
    obtain ⟨v, fr⟩ := va
    cases v with
    | d d =>
      cases d with
      | int i =>
        cases hr : rngOk i with
        | false => simp only [hr] at s1; exact s1.elim
        | true =>
          simp only [hr] at s1
          obtain ⟨q1, q2⟩ := rngOk_of hr
          cases (show x = .int i from r1)
          refine ⟨i, rfl, q1, q2, s1 _ H1 (Ext.refl H1) w1 ⟨[], ?_, fun q m => nomatch m⟩⟩
          have := src_rng 0 i
          rw [Int.sub_zero] at this
          exact this
      | _ => exact s1.elim
    | _ => exact s1.elim⟩
theorem ei_rng2 {a b : Expr} {xa xb : Pv.X} {q pos : Pos} (hg : Gl X "range") (hm : X.mg "range" = none) (hst : isStar a = false) (hst2 : isStar b = false) (ha : Ev p X a xa) (hb : Ev p X b xb) : Ei p X tg (.Call (.Name "range" q) [a, b] [] pos) (.sRng2 xa xb) :=
  ⟨fun V' c => (pi_range2 hg hm (pa_cons (ha.pe V' (covL c)) (pa_cons (hb.pe V' (covR c)) pa_nil (starEach_cons hst2 _ X.env)) (starEach_cons hst _ X.env)) (by rw [starEach_cons hst, starEach_cons hst2]; rfl) (starEach_cons hst2 _ X.env)).imp fun σ H R ⟨A, env, h, ln, rel, wd, s⟩ => by
    unfold Pm.evS evSrc at s
    refine SimG.sub1 ln rel wd RpI.back s fun va h1 x H1 x1 w1 rel1 r1 _ s1 => SimG.sub1 ln rel1 w1 RpI.back s1 fun vb h2 y H2 x2 w2 rel2 r2 _ s2 => ?_
    obtain ⟨v, fr⟩ := va
    obtain ⟨u, fr2⟩ := vb
    cases v with
    | d d =>
      cases u with
      | d e =>
        cases d with
        | int i =>
          cases e with
          | int j =>
            cases hr : rngOk i && rngOk j with
            | false => simp only [hr] at s2; exact s2.elim
            | true =>
              simp only [hr] at s2
              obtain ⟨q1, q2⟩ := rngOk_of (Bool.and_eq_true_iff.mp hr).1
              obtain ⟨q3, q4⟩ := rngOk_of (Bool.and_eq_true_iff.mp hr).2
              cases (show x = .int i from r1)
              cases (show y = .int j from r2)
              exact ⟨i, j, rfl, ⟨q1, q2, q3, q4⟩, s2 _ H2 (Ext.refl H2) w2 ⟨[], src_rng i j, fun q m => nomatch m⟩⟩
          | _ => exact s2.elim
        | _ => cases e <;> exact s2.elim
      | _ => cases d <;> exact s2.elim
    | _ => cases u <;> exact s2.elim⟩
theorem ei_enum {e : Expr} {xe : Pv.X} {elts : List Expr} {k : Nat} {tp q pos : Pos} (hg : Gl X "enumerate") (hm : X.mg "enumerate" = none) (hst : isStar e = false) (he : Ev p X e xe) : Ei p X (.Tuple elts k tp) (.Call (.Name "enumerate" q) [e] [] pos) (.sEnum xe) :=
  ⟨fun V' c => (pi_enumB hg hm (pa_cons (he.pe V' c) pa_nil (starEach_cons hst _ X.env)) (starEach_cons hst _ X.env)).imp fun σ H R ⟨A, env, h, ln, rel, wd, s⟩ => by
    unfold Pm.evS evSrc at s
    refine SimG.sub1 ln rel wd RpI.back s fun va h1 x H1 x1 w1 rel1 r1 _ s1 => ?_
    obtain ⟨v, fr⟩ := va
    cases v with
    | d d =>
      cases d with
      | list xs =>
        obtain ⟨a, vs, rfl, hn, ha, ra⟩ := r1
        exact ⟨a, vs, rfl, .inl ⟨.of ha, s1 _ H1 (Ext.refl H1) w1 ⟨_, src_enum xs, .one ⟨a, vs, rfl, hn, ha, ra⟩⟩⟩⟩
      | tuple xs =>
        obtain ⟨a, vs, rfl, ha, ra⟩ := r1
        exact ⟨a, vs, rfl, .inr ⟨.of ha, s1 _ H1 (Ext.refl H1) w1 ⟨_, src_enumT xs, .one ⟨a, vs, rfl, ha, ra⟩⟩⟩⟩
      | _ => exact s1.elim
    | _ => exact s1.elim⟩
theorem ei_zip {e f : Expr} {xe xf : Pv.X} {elts : List Expr} {k : Nat} {tp q pos : Pos} (hg : Gl X "zip") (hm : X.mg "zip" = none) (hst : isStar e = false) (hst2 : isStar f = false) (he : Ev p X e xe) (hf : Ev p X f xf) : Ei p X (.Tuple elts k tp) (.Call (.Name "zip" q) [e, f] [] pos) (.sZip xe xf) :=
  ⟨fun V' c => (ZM.pi_mix hg hm (pa_cons (he.pe V' (covL c)) (pa_cons (hf.pe V' (covR c)) pa_nil (starEach_cons hst2 _ X.env)) (starEach_cons hst _ X.env)) (starEach_cons hst _ X.env) (by rw [starEach_cons hst2]; rfl)).imp fun σ H R ⟨A, env, h, ln, rel, wd, s⟩ => by
    unfold Pm.evS evSrc at s
    refine SimG.sub1 ln rel wd RpI.back s fun va h1 x H1 x1 w1 rel1 r1 _ s1 => SimG.sub1 ln rel1 w1 RpI.back s1 fun vb h2 y H2 x2 w2 rel2 r2 _ s2 => ?_
    obtain ⟨v, fr⟩ := va
    obtain ⟨u, fr2⟩ := vb
    have go : ∀ (t1 t2 : Bool) (xs ys : List PyData), DRep H2 A (mkSeq t1 xs) x → DRep H2 A (mkSeq t2 ys) y → SimG p.w p.W A (RpI A) (Pv.R.ok ((xs.zip ys).map fun q => PyData.tuple [q.1, q.2]) h2) σ H2 R →
        ∃ (t1 t2 : Bool) (a b : Addr) (vs us : List V), [x, y] = [V.ref a, .ref b] ∧ ZM.Sqv t1 X.K H2 a vs ∧ ZM.Sqv t2 X.K H2 b us ∧ R (ZM.ItM t1 t2 X.K a b) H2 := fun t1 t2 xs ys r1 r2 s2 => by
      obtain ⟨a, vs, rfl, ha, _⟩ := dsq_rep (K := X.K) r1
      obtain ⟨b, us, rfl, hb, _⟩ := dsq_rep (K := X.K) r2
      refine ⟨t1, t2, a, b, vs, us, rfl, ha, hb, s2 _ H2 (Ext.refl H2) w2 ⟨_, src_mix xs ys, fun q m => ?_⟩⟩
      rcases List.mem_cons.mp m with e | m
      · rw [e]; exact r1
      · rcases List.mem_cons.mp m with e | m
        · rw [e]; exact r2
        · cases m
    cases v with
    | d d =>
      cases u with
      | d e =>
        have r1 : DRep H2 A d x := DRep.ext' x2 w1 r1
        have r2 : DRep H2 A e y := r2
        cases d with
        | list xs =>
          cases e with
          | list ys => exact go false false xs ys r1 r2 s2
          | tuple ys => exact go false true xs ys r1 r2 s2
          | _ => exact s2.elim
        | tuple xs =>
          cases e with
          | tuple ys => exact go true true xs ys r1 r2 s2
          | list ys => exact go true false xs ys r1 r2 s2
          | _ => exact s2.elim
        | _ => cases e <;> exact s2.elim
      | _ => cases d <;> exact s2.elim
    | _ => cases u <;> exact s2.elim⟩
end
end Pv
/-! text S13 -/
set_option autoImplicit false
set_option Elab.async false
set_option linter.all false
set_option maxRecDepth 100000
set_option maxHeartbeats 1000000
namespace Pv
open PySem PySem.Spec PyProof.Rows L2
/-! ### targets -/
def tv : T → List Nat
  | .v i => [i]
  | .nil => []
  | .cons t r => tv t ++ tv r
  | .tup ts => tv ts
/-- from σ to σ' as bindT changes the slots -/
structure Bnd (t : T) (d : PyData) (R : (Addr → Prop) → Prop) (H : Hp) (σ σ' : L2.St) : Prop where
  len : σ'.length = σ.length
  out : ∀ i, i ∉ tv t → σ'[i]? = σ[i]?
  env : ∀ e e', bindT t d e = some e' → e'.length = e.length ∧ (∀ i, i ∉ tv t → e'[i]? = e[i]?) ∧ ∀ i, i ∈ tv t → i < e.length → ∃ d' x', e'[i]? = some (some (.d d', false)) ∧ σ'[i]? = some (some x') ∧ ∀ A, R A → DRep H A d' x'
def gT (t : T) : TG := fun x σ H Q => ∃ A d env env', DRep H A d x ∧ bindT t d env = some env' ∧ (∀ i ∈ tv t, i < σ.length) ∧ ∀ σ', Bnd t d (fun A => DRep H A d x) H σ σ' → Q σ' H
def gTs (t : T) : TGs := fun xs σ H Q => ∃ A ds env env', DRepL H A ds xs ∧ bindT t (.tuple ds) env = some env' ∧ (∀ i ∈ tv t, i < σ.length) ∧ ∀ σ', Bnd t (.tuple ds) (fun A => DRepL H A ds xs) H σ σ' → Q σ' H
theorem _root_.L2.PG.imp {X : Cx} {e : Expr} {t t' : TG} (p : PG X e t) (h : ∀ v σ H Q, t' v σ H Q → t v σ H Q) : PG X e t' := ⟨fun pins s σ H v u Q I r q => p.run pins s σ H v u Q I r (h v σ H Q q)⟩
theorem _root_.L2.PGs.imp {X : Cx} {e : List Expr} {t t' : TGs} (p : PGs X e t) (h : ∀ v σ H Q, t' v σ H Q → t v σ H Q) : PGs X e t' := ⟨fun pins s σ H v u Q I r q => p.run pins s σ H v u Q I r (h v σ H Q q)⟩
theorem bindT_len : ∀ (t : T) (d : PyData) (e e' : Pv.Env), bindT t d e = some e' → e'.length = e.length
  | .v i, d, e, e', h => by cases h; simp
  | .nil, .tuple [], e, e', h => by cases h; rfl
  | .cons t r, .tuple (x :: xs), e, e', h => by
    unfold bindT at h
    cases h1 : bindT t x e with
    | none => simp [h1] at h
    | some e1 =>
      simp [h1] at h
      rw [bindT_len r _ _ _ h, bindT_len t _ _ _ h1]
  | .tup ts, .tuple xs, e, e', h => bindT_len ts (.tuple xs) e e' (by unfold bindT at h; exact h)
  | .nil, .tuple (_ :: _), _, _, h | .nil, .none, _, _, h | .nil, .bool _, _, _, h | .nil, .int _, _, _, h | .nil, .str _, _, _, h | .nil, .list _, _, _, h | .nil, .dict _, _, _, h => by simp [bindT] at h
  | .cons _ _, .tuple [], _, _, h | .cons _ _, .none, _, _, h | .cons _ _, .bool _, _, _, h | .cons _ _, .int _, _, _, h | .cons _ _, .str _, _, _, h | .cons _ _, .list _, _, _, h | .cons _ _, .dict _, _, _, h => by simp [bindT] at h
  | .tup _, .none, _, _, h | .tup _, .bool _, _, _, h | .tup _, .int _, _, _, h | .tup _, .str _, _, _, h | .tup _, .list _, _, _, h | .tup _, .dict _, _, _, h => by simp [bindT] at h
/-- whether it binds does not hang on the slots -/
theorem bindT_any : ∀ (t : T) (d : PyData) (e e1 f : Pv.Env), bindT t d e = some e1 → ∃ f1, bindT t d f = some f1
  | .v i, d, e, e1, f, h => ⟨_, rfl⟩
  | .nil, .tuple [], e, e1, f, h => ⟨_, rfl⟩
  | .cons t r, .tuple (x :: xs), e, e1, f, h => by
    unfold bindT at h ⊢
    cases h1 : bindT t x e with
    | none => simp [h1] at h
    | some e2 =>
      simp [h1] at h
      obtain ⟨f2, q⟩ := bindT_any t x e e2 f h1
      obtain ⟨f3, q2⟩ := bindT_any r (.tuple xs) e2 e1 f2 h
      exact ⟨f3, by simp [q, q2]⟩
  | .tup ts, .tuple xs, e, e1, f, h => by
    unfold bindT at h ⊢
    exact bindT_any ts (.tuple xs) e e1 f h
  | .nil, .tuple (_ :: _), _, _, _, h | .nil, .none, _, _, _, h | .nil, .bool _, _, _, _, h | .nil, .int _, _, _, _, h | .nil, .str _, _, _, _, h | .nil, .list _, _, _, _, h | .nil, .dict _, _, _, _, h => by simp [bindT] at h
  | .cons _ _, .tuple [], _, _, _, h | .cons _ _, .none, _, _, _, h | .cons _ _, .bool _, _, _, _, h | .cons _ _, .int _, _, _, _, h | .cons _ _, .str _, _, _, _, h | .cons _ _, .list _, _, _, _, h | .cons _ _, .dict _, _, _, _, h => by simp [bindT] at h
  | .tup _, .none, _, _, _, h | .tup _, .bool _, _, _, _, h | .tup _, .int _, _, _, _, h | .tup _, .str _, _, _, _, h | .tup _, .list _, _, _, _, h | .tup _, .dict _, _, _, _, h => by simp [bindT] at h
structure Eg (X : Cx) (tg : Expr) (t : T) : Prop where
  pg : PG X tg (gT t)
structure Egs (X : Cx) (tg : List Expr) (t : T) : Prop where
  pgs : PGs X tg (gTs t)
section
variable {X : Cx}
theorem eg_v {i : Nat} {x : Str} {pos : Pos} (hN : X.N.Nodup) (hi : X.N[i]? = some x) (hx : Loc X.env.scope x) (hf : X.fn x = true ∨ X.env.scope.names.lookup x = some .local) : Eg X (.Name x pos) (.v i) :=
  ⟨(pg_name hN hi hx hf).imp fun v σ H Q ⟨A, d, env, env', rp, hb, hl, q⟩ => by
    have hlt : i < σ.length := hl i (by simp [tv])
    refine q _ ⟨by simp, fun j hj => ?_, fun e e' h => ?_⟩
    · have hj : j ≠ i := by simpa [tv] using hj
      exact List.getElem?_set_ne (Ne.symm hj)
    · cases h
      refine ⟨by simp, fun j hj => ?_, fun j hj hjl => ?_⟩
      · have hj : j ≠ i := by simpa [tv] using hj
        exact List.getElem?_set_ne (Ne.symm hj)
      · have hj : j = i := by simpa [tv] using hj
        subst hj
        exact ⟨d, v, by rw [List.getElem?_set_self hjl], by rw [List.getElem?_set_self hlt], fun A r => r⟩⟩
theorem egs_nil : Egs X [] .nil :=
  ⟨pgs_nil.imp fun v σ H Q ⟨A, ds, env, env', rp, hb, hl, q⟩ => by
    cases ds with
    | nil =>
      cases (show v = [] from rp)
      refine ⟨rfl, q _ ⟨rfl, fun _ _ => rfl, fun e e' h => ?_⟩⟩
      cases h
      exact ⟨rfl, fun _ _ => rfl, fun i hi => by simp [tv] at hi⟩
    | cons d ds => simp [bindT] at hb⟩
theorem assignEach_cons {e : Expr} (h : isStar e = false) (es : List Expr) (env : PySem.Env) : assignEach (e :: es) env = (false, assign e env) :: assignEach es env := by
  cases e <;> first | rfl | cases h
theorem assignEach_all : ∀ (es : List Expr) (env : PySem.Env), (∀ e ∈ es, isStar e = false) → (assignEach es env).length = es.length ∧ List.findIdx? (fun x => x.fst) (assignEach es env) = none
  | [], env, _ => ⟨rfl, rfl⟩
  | e :: es, env, h => by
    obtain ⟨h1, h2⟩ := assignEach_all es env fun a ha => h a (List.mem_cons_of_mem _ ha)
    rw [assignEach_cons (h e (List.mem_cons_self ..))]
    exact ⟨by simp [h1], by rw [List.findIdx?_cons, h2]; rfl⟩
theorem egs_cons {e : Expr} {es : List Expr} {t r : T} (hst : isStar e = false) (h1 : Eg X e t) (h2 : Egs X es r) : Egs X (e :: es) (.cons t r) :=
  ⟨(pgs_cons h1.pg h2.pgs (by rw [assignEach_cons hst]; rfl)).imp fun xs σ H Q ⟨A, ds, env, env', rp, hb, hl, q⟩ => by
    cases ds with
    | nil => simp [bindT] at hb
    | cons d ds =>
      obtain ⟨v, us, rfl, r1, r2⟩ := rp
      unfold bindT at hb
      cases hb1 : bindT t d env with
      | none => simp [hb1] at hb
      | some env1 =>
        simp [hb1] at hb
        refine ⟨v, us, rfl, A, d, env, env1, r1, hb1, fun i hi => hl i (by simp [tv, hi]), fun σ1 b1 => ?_⟩
        refine ⟨A, ds, env1, env', r2, hb, fun i hi => by rw [b1.len]; exact hl i (by simp [tv, hi]), fun σ2 b2 => q σ2 ⟨b2.len.trans b1.len, fun i hi => ?_, fun e0 e2 h => ?_⟩⟩
        · have hi' : i ∉ tv t ∧ i ∉ tv r := by simpa [tv] using hi
          rw [b2.out i hi'.2, b1.out i hi'.1]
        · unfold bindT at h
          cases hb2 : bindT t d e0 with
          | none => simp [hb2] at h
          | some e1 =>
            simp [hb2] at h
            obtain ⟨l1, o1, i1⟩ := b1.env e0 e1 hb2
            obtain ⟨l2, o2, i2⟩ := b2.env e1 e2 h
            refine ⟨l2.trans l1, fun i hi => ?_, fun i hi hil => ?_⟩
            · have hi' : i ∉ tv t ∧ i ∉ tv r := by simpa [tv] using hi
              rw [o2 i hi'.2, o1 i hi'.1]
            · by_cases hr : i ∈ tv r
              · obtain ⟨d', x', q1, q2, q3⟩ := i2 i hr (by omega)
                exact ⟨d', x', q1, q2, fun A rr => by
                  obtain ⟨v', us', e, _, rr2⟩ := rr
                  cases e
                  exact q3 A rr2⟩
              · have ht : i ∈ tv t := by
                  have : i ∈ tv t ∨ i ∈ tv r := by simpa [tv] using hi
                  exact this.resolve_right hr
                obtain ⟨d', x', q1, q2, q3⟩ := i1 i ht hil
                exact ⟨d', x', by rw [o2 i hr]; exact q1, by rw [b2.out i hr]; exact q2, fun A rr => by
                  obtain ⟨v', us', e, rr1, _⟩ := rr
                  cases e
                  exact q3 A rr1⟩⟩
def tlen : T → Nat
  | .cons _ r => tlen r + 1
  | _ => 0
def isL : T → Bool
  | .nil => true
  | .cons _ r => isL r
  | _ => false
theorem bindT_n : ∀ (t : T) (ds : List PyData) (e e' : Pv.Env), isL t = true → bindT t (.tuple ds) e = some e' → ds.length = tlen t
  | .nil, [], _, _, _, _ => rfl
  | .nil, _ :: _, _, _, _, h => by simp [bindT] at h
  | .cons t r, [], _, _, _, h => by simp [bindT] at h
  | .cons t r, d :: ds, e, e', hl, h => by
    unfold bindT at h
    cases h1 : bindT t d e with
    | none => simp [h1] at h
    | some e1 =>
      simp [h1] at h
      simp [tlen, bindT_n r ds e1 e' (by simpa [isL] using hl) h]
  | .v _, _, _, _, h, _ => by simp [isL] at h
  | .tup _, _, _, _, h, _ => by simp [isL] at h
theorem eg_tup {es : List Expr} {k : Nat} {t : T} {pos : Pos} (hst : ∀ e ∈ es, isStar e = false) (hc : X.calm = true) (hl : isL t = true) (hn : tlen t = es.length) (h : Egs X es t) : Eg X (.Tuple es k pos) (.tup t) :=
  ⟨(pg_tup (n := es.length) hc h.pgs (hn := (assignEach_all es X.env hst).1) (hst := (assignEach_all es X.env hst).2)).imp fun x σ H Q ⟨A, d, env, env', rp, hb, hlt, q⟩ => by
    cases d with
    | tuple ds =>
      have hb' : bindT t (.tuple ds) env = some env' := by unfold bindT at hb; exact hb
      obtain ⟨a, vs, rfl, ha, ra⟩ := rp
      refine ⟨a, vs, rfl, .of ha, by rw [ra.length, bindT_n t ds env env' hl hb', hn], A, ds, env, env', ra, hb', hlt, fun σ' b => q σ' ⟨b.len, b.out, fun e e' h => ?_⟩⟩
      unfold bindT at h
      obtain ⟨l1, o1, i1⟩ := b.env e e' h
      refine ⟨l1, o1, fun i hi hil => ?_⟩
      obtain ⟨d', x', q1, q2, q3⟩ := i1 i hi hil
      refine ⟨d', x', q1, q2, fun A rr => ?_⟩
      obtain ⟨a', vs', e, ha', rr⟩ := rr
      cases e
      rw [ha] at ha'
      cases ha'
      exact q3 A rr
    | _ => simp [bindT] at hb⟩
end
end Pv
/-! text S14 -/
set_option autoImplicit false
set_option Elab.async false
set_option linter.all false
set_option maxRecDepth 100000
set_option maxHeartbeats 1000000
namespace Pv
open PySem PySem.Spec PyProof.Rows L2
/-! ### comprehensions -/
def noW : WX := fun _ _ _ _ => False
abbrev Pm.nox (p : Pm) : Pm := { p with W := noW }
/-- the tests of a comprehension -/
structure Ec (p : Pm) (X : Cx) (ifs : List Expr) (x : Pv.X) : Prop where
  pts : ∀ V', Cov x V' → PTs X ifs (tG p.w p.n p.W V' (fun _ => RpB) fun env h => evC p.C p.th p.hot x env h)
theorem _root_.L2.PTs.imp {X : Cx} {e : List Expr} {t t' : TT} (p : PTs X e t) (h : ∀ σ H Q, t' σ H Q → t σ H Q) : PTs X e t' := ⟨fun pins s σ H Q I q => p.run pins s σ H Q I (h σ H Q q)⟩
theorem SimG.self {α β : Type} {w : Wo} {W : WX} {A : Addr → Prop} {Rp : α → β → Hp → Hp → Prop} {a : α} {b : β} {h : HS} {σ : L2.St} {H : Hp} {Q : β → Hp → Prop} (wd : Wd w A H h) (s : SimG w W A Rp (.ok a h) σ H Q) (r : Rp a b H H) : Q b H := s b H (Ext.refl H) wd r
theorem ec_nil {p : Pm} {X : Cx} : Ec p X [] .nil := ⟨fun V' _ => pts_nil.imp fun σ H Q ⟨A, env, h, ln, rel, wd, s⟩ => by
  unfold evC at s
  exact SimG.self wd s rfl⟩
theorem ec_one {p : Pm} {X : Cx} {c : Expr} {xc : Pv.X} (hc : Ev p X c xc) : Ec p X [c] (.cons xc .nil) := ⟨fun V' cv => (pts_one (hc.pt V' fun i hi => cv i (by simp [vars, hi]))).imp fun σ H Q ⟨A, env, h, ln, rel, wd, s⟩ => by
  unfold evC at s
  exact ⟨A, env, h, ln, rel, wd, s⟩⟩
theorem wipe_in {σ : L2.St} {i : Nat} : ∀ {vs : List Nat}, i ∈ vs → (wipe σ vs)[i]? = if i < σ.length then some none else none
  | v :: vs, h => by
    unfold wipe
    by_cases e : v = i
    · subst e
      by_cases hl : v < σ.length
      · rw [if_pos hl, List.getElem?_set_self (by rw [wipe_length]; exact hl)]
      · rw [if_neg hl, List.getElem?_eq_none (by rw [List.length_set, wipe_length]; omega)]
    · rw [List.getElem?_set_ne e]
      rcases List.mem_cons.mp h with q | q
      · exact absurd q.symm e
      · exact wipe_in q
theorem wipe_same {σ σ' : L2.St} {vs : List Nat} (hl : σ'.length = (wipe σ vs).length) (h : ∀ i, i ∉ vs → σ'[i]? = (wipe σ vs)[i]?) : wipe σ' vs = wipe σ vs := by
  apply List.ext_getElem?
  intro i
  rw [wipe_length] at hl
  by_cases hi : i ∈ vs
  · rw [wipe_in hi, wipe_in hi, hl]
  · rw [wipe_out hi, h i hi]
/-- at an address within the avoided ones something is written -/
theorem DRep.wr {H : Hp} {A : Addr → Prop} {a : Addr} {o : HO} (ha : A a) (hn : ∀ vs, H a ≠ some (.tup vs)) {d : PyData} {x : V} (r : DRep H A d x) : DRep (upd H a o) A d x :=
  DRep.mono (fun _ q => q) (fun b vs e => by rw [upd_ne (fun q => by rw [q] at e; exact hn _ e)]; exact e) (fun b u n e _ => by rw [upd_ne (fun q => by rw [q] at n; exact n ha)]; exact e) d x r
theorem DRepL.wr {H : Hp} {A : Addr → Prop} {a : Addr} {o : HO} (ha : A a) (hn : ∀ vs, H a ≠ some (.tup vs)) {d : List PyData} {x : List V} (r : DRepL H A d x) : DRepL (upd H a o) A d x :=
  DRepL.mono (fun _ q => q) (fun b vs e => by rw [upd_ne (fun q => by rw [q] at e; exact hn _ e)]; exact e) (fun b u n e _ => by rw [upd_ne (fun q => by rw [q] at n; exact n ha)]; exact e) d x r
theorem tabs_wr {T : List (Addr × Str)} {H : Hp} {a : Addr} {o u : HO} (hu : H a = some u) (h1 : ∀ ps, u ≠ .tbl ps) (h2 : ∀ c q, u ≠ LamX.CodeO c q) (t : LamX.Tabs T H) : LamX.Tabs T (upd H a o) := fun p hp => by
  obtain ⟨ps, q1, q2, q3⟩ := t p hp
  refine ⟨ps, ?_, q2, fun pos cv hc => ?_⟩
  · rw [upd_ne (fun e => by rw [e, hu] at q1; exact h1 ps (Option.some.inj q1))]; exact q1
  · obtain ⟨c, e1, e2⟩ := q3 pos cv hc
    exact ⟨c, e1, by rw [upd_ne (fun e => by rw [e, hu] at e2; exact h2 _ _ (Option.some.inj e2))]; exact e2⟩
theorem VRep.wide {w : Wo} {H : Hp} {A A' : Addr → Prop} (hA : ∀ b, NT H b → A' b → A b) : ∀ {v : PV} {u : V}, VRep w H A v u → VRep w H A' v u
  | .d d, _, r => DRep.wide hA d _ r
  | .hand, _, r => r
  | .fn, _, r => r
  | .scr ds, _, r => let ⟨a, vs, e, hs, hr⟩ := r; ⟨a, vs, e, hs.elim .inl fun z => .inr (z.elim (fun ⟨q1, q2, q3⟩ => .inl ⟨q1, fun q => q2 (hA a (.of q1 fun _ q => by cases q) q), q3⟩) .inr), DRepL.wide hA ds vs hr⟩
  | .exn c y, _, r => by
    obtain ⟨a, cls, d, e1, e2, C, h1, h2, h3⟩ := r
    refine ⟨a, cls, d, e1, e2, C, h1, h2, ?_⟩
    cases y with
    | none => exact h3
    | some y =>
      obtain ⟨dd, fs, v, q1, q2, q3, q4⟩ := h3
      exact ⟨dd, fs, v, q1, q2, q3, DRep.wide hA y v q4⟩
theorem VRep.mono' {w : Wo} {H : Hp} {A A' : Addr → Prop} (hA : ∀ b, A' b → A b) {v : PV} {u : V} (r : VRep w H A v u) : VRep w H A' v u := VRep.wide (fun b _ q => hA b q) r
/-- a block's slots -/
theorem rel_bnd {w : Wo} {A : Addr → Prop} {W W' : List Nat} {σ σ' : L2.St} {H' : Hp} {env env' : Pv.Env} {t : T} {d : PyData} {vs : List Nat} {R : (Addr → Prop) → Prop} (hvs : ∀ i, i ∈ vs ↔ i ∈ tv t) (rel : Rel w A W σ H' env) (hb : bindT t d env = some env') (b : Bnd t d R H' (wipe σ vs) σ') (hR : R A)
    (hW : ∀ i ∈ W', i ∈ W) (hlen : σ.length = env.length) : Rel w A W' σ' H' env' := fun i v o hi e => by
  obtain ⟨l1, o1, i1⟩ := b.env env env' hb
  by_cases ht : i ∈ tv t
  · have hlt : i < env.length := by
      have := (List.getElem?_eq_some_iff.mp e).1
      omega
    obtain ⟨d', x', q1, q2, q3⟩ := i1 i ht hlt
    rw [q1] at e
    cases e
    exact ⟨x', q2, q3 A hR⟩
  · rw [o1 i ht] at e
    obtain ⟨x, h1, h2⟩ := rel i v o (hW i hi) e
    exact ⟨x, by rw [b.out i ht, wipe_out (fun q => ht ((hvs i).mp q))]; exact h1, h2⟩
section
variable {p : Pm} {X : Cx}
/-- one turn of a comprehension, by the evaluator -/
def lcStep (p : Pm) (t : T) (xc xe : Pv.X) (env : Pv.Env) (x : PyData) (h : HS) : R (Option PyData) := match bindT t x env with
  | some env' => (evC p.C p.th p.hot xc env' h).bind fun b h => match b with
    | true => (evE p.C p.th p.hot xe env' h).bind fun y h => match y.1 with
      | .d y => .ok (some y) h
      | _ => .no
    | false => .ok none h
  | none => .no
/-- what is left to do -/
def LcK (w : Wo) (A : Addr → Prop) (H1 : Hp) (D : Addr) (Q : VK) (r : R (List PyData)) : Prop := match r with
  | .ok ys h' => ∀ H', Ext w.hd H1 H' → Wd w A H' h' → DRep H' A (.list ys) (.ref D) → Q (.ref D) H'
  | _ => False
structure LcI (p : Pm) (t : T) (xc xe : Pv.X) (A : Addr → Prop) (env : Pv.Env) (H1 : Hp) (D : Addr) (xs : List PyData) (Q : VK) (i : Nat) (H2 : Hp) : Prop where
  ext : Ext p.w.hd H1 H2
  run : ∃ h2 acc accV, Wd p.w (fun b => A b ∨ b = D) H2 h2 ∧ H2 D = some (.lst accV) ∧ DRepL H2 (fun b => A b ∨ b = D) acc.reverse accV ∧ acc.length ≤ i ∧ LcK p.w A H1 D Q (lcLoop (lcStep p t xc xe env) (xs.drop i) h2 acc)
theorem lc_core2 {A : Addr → Prop} {env : Pv.Env} {h1 : HS} {σ : L2.St} {H1 : Hp} {Q : VK} {xs : List PyData} {rt : List (PyData × V)} {J : It} {D : Addr} {t : T} {xc xe : Pv.X} {vs V' : List Nat} (sc : Src J xs rt) (hvs : ∀ i, i ∈ vs ↔ i ∈ tv t) (hV : ∀ i ∈ vars xc ++ vars xe, i ∈ V') (ht : ∀ i ∈ tv t, i < p.n)
    (ln : σ.length = p.n ∧ env.length = p.n) (rel : Rel p.w A V' σ H1 env) (wd : Wd p.w A H1 h1) (rts : Roots H1 A rt) (hD : H1 D = none) (hsz : xs.length ≤ lineN) (hk : LcK p.w A H1 D Q (lcLoop (lcStep p t xc xe env) xs h1 [])) :
    ∃ W : Nat → Nat → Hp → Prop, (∃ m, W 0 m (upd H1 D (.lst []))) ∧ ∀ i m H, W i m H →
      (J.stop i H ∧ Q (.ref D) H) ∨ (J.go i H ∧ ∃ Nx : Hp → Prop, (∀ H', Nx H' → ∃ m', m' < m ∧ W (i + 1) m' H') ∧ ∀ x H', J.yld i H x H' → gT t x (wipe σ vs) H' fun σ2 H2 => wipe σ2 vs = wipe σ vs ∧ tG p.w p.n noW (vars xc ++ vars xe) (fun _ => RpB) (fun env h => evC p.C p.th p.hot xc env h) σ2 H2 fun b H3 =>
        if b = true then tE p.w p.n noW (vars xc ++ vars xe) (p.ev xe) σ2 H3 fun y H4 => ∃ acc, H4 D = some (.lst acc) ∧ acc.length < sizeLine ∧ Nx (upd H4 D (.lst (acc ++ [y]))) else Nx H3) := by
  have hnt : ¬ NT H1 D := NT.non hD
  have hdD : ∀ b, p.w.hd = some b → b ≠ D := fun b e q => by
    subst q
    exact hnt (wd.dom b (wd.hand b e).1)
  have hin : HdIn p.w.hd (fun b => A b ∨ b = D) H1 := ⟨fun b e => ⟨.inl (wd.hand b e).1, (wd.in.hd b e).2⟩⟩
  have wide1 : ∀ {d x}, DRep H1 A d x → DRep H1 (fun b => A b ∨ b = D) d x := fun {d x} r => DRep.wide (fun b nb q => q.elim (fun q => q) fun q => absurd (q ▸ nb) hnt) d x r
  have wide2 : ∀ {H2}, Ext p.w.hd H1 H2 → Roots H2 (fun b => A b ∨ b = D) rt := fun {H2} x q hq => (wide1 (rts q hq)).ext x hin
  have relW : ∀ {H2}, Ext p.w.hd H1 H2 → Rel p.w (fun b => A b ∨ b = D) V' σ H2 env := fun {H2} x i v o hi e => by
    obtain ⟨y, q1, q2⟩ := rel i v o hi e
    exact ⟨y, q1, VRep.ext x hin (VRep.wide (fun b nb q => q.elim (fun q => q) fun q => absurd (q ▸ nb) hnt) q2)⟩
  have wk : Walk J xs.length (fun H => Roots H (fun b => A b ∨ b = D) rt) (fun i H x H' => ∃ d, xs[i]? = some d ∧ Same H H' ∧ DRep H' (fun b => A b ∨ b = D) d x) :=
    ⟨fun i H hi r => sc.go i H _ hi r, fun H r => sc.stop H _ r, fun i H x H' hi r y => sc.yld i H _ x H' hi r y⟩
  have extD : ∀ {H2 o}, Ext p.w.hd H1 H2 → Ext p.w.hd H1 (upd H2 D (.lst o)) := fun {H2 o} x => ⟨fun b u e n q => by
      rw [upd_ne (fun z => hnt (by subst z; exact ⟨u, e, n⟩))]
      exact x.keep b u e n q, fun b nb => by
      obtain ⟨u, e, n⟩ := x.dom b nb
      have hz : b ≠ D := fun z => hnt (by rw [← z]; exact nb)
      exact ⟨u, by rw [upd_ne hz]; exact e, n⟩⟩
  have wdW : ∀ {H2 h2 vs ws}, Ext p.w.hd H1 H2 → Wd p.w (fun b => A b ∨ b = D) H2 h2 → H2 D = some (.lst vs) → Wd p.w (fun b => A b ∨ b = D) (upd H2 D (.lst ws)) h2 := fun {H2 h2 vs ws} x2 w2 e => by
    have ntW : ∀ {b}, NT H2 b → NT (upd H2 D (.lst ws)) b := fun {b} ⟨o, q1, q2⟩ => by
      by_cases z : b = D
      · subst z; exact ⟨_, upd_same, fun _ q => by cases q⟩
      · exact ⟨o, by rw [upd_ne z]; exact q1, q2⟩
    refine ⟨fun a ea => ?_, w2.out, fun b hb => ntW (w2.ins b hb), fun b hb => ?_, tabs_wr e (fun _ q => by cases q) (fun _ _ q => by cases q) w2.tabs, w2.bs.fin fun B AB e => (wd.bs B AB e).1.trans (extD x2)⟩
    · obtain ⟨q1, q2, us, q3, q4⟩ := w2.hand a ea
      refine ⟨q1, q2, us, ?_, q4.wr (w2.out D (.inr rfl)) (fun _ q => by rw [e] at q; cases q)⟩
      rw [upd_ne (hdD a ea)]
      exact q3
    · by_cases z : b = D
      · subst z; exact ⟨_, upd_same, fun _ q => by cases q⟩
      · obtain ⟨o, q1, q2⟩ := w2.dom b hb
        exact ⟨o, by rw [upd_ne z]; exact q1, q2⟩
  refine lc_it wk (Qd := fun H => Q (.ref D) H) (LcI p t xc xe A env H1 D xs Q) ?_ (fun i H hi I => wide2 I.ext) (fun i x H H' hi I y => ?_) (fun H I => ?_)
  · refine ⟨Ext.upd hD, h1, [], [], ?_, upd_same, rfl, Nat.zero_le _, by simpa using hk⟩
    have wd' := wd.same (same_upd (o := .lst []) hD)
    refine ⟨fun a ea => let ⟨q1, q2, us, q3, q4⟩ := wd'.hand a ea; ⟨.inl q1, q2, us, q3, q4⟩, fun b hb => hb.elim (wd.out b) fun e q => hnt (by rw [← e]; exact wd.ins b q), wd'.ins, fun b hb => ?_, wd'.tabs, (wd.bs.wide fun b hb => hb.imp id fun e => by rw [e]; exact hnt).ext (Ext.upd hD)⟩
    rcases hb with hb | hb
    · exact wd'.dom b hb
    · rw [hb]; exact ⟨_, upd_same, fun _ q => by cases q⟩
  · obtain ⟨d, hd, sm, rd⟩ := y
    obtain ⟨x1, h2, acc, accV, w2, hv, ra, hl, hk2⟩ := I
    have hdr : xs.drop i = d :: xs.drop (i + 1) := by
      obtain ⟨q1, q2⟩ := List.getElem?_eq_some_iff.mp hd
      rw [List.drop_eq_getElem_cons q1, q2]
    rw [hdr] at hk2
    unfold lcLoop at hk2
    unfold lcStep at hk2
    cases hb : bindT t d env with
    | none => simp only [hb] at hk2; exact hk2.elim
    | some env' =>
      simp only [hb] at hk2
      have w3 : Wd p.w (fun b => A b ∨ b = D) H' h2 := w2.same sm
      have x3 : Ext p.w.hd H1 H' := x1.trans (Ext.of_same sm)
      have hv3 : H' D = some (.lst accV) := sm _ _ hv
      have ra3 := ra.same sm
      refine ⟨_, d, env, env', rd, hb, fun i hi => by rw [wipe_length, ln.1]; exact ht i hi, fun σ' bd => ⟨wipe_same bd.len fun i hi => bd.out i fun q => hi ((hvs i).mpr q), ?_⟩⟩
      have rel' : Rel p.w (fun b => A b ∨ b = D) (vars xc ++ vars xe) σ' H' env' := rel_bnd hvs (relW x3) hb bd rd hV (ln.1.trans ln.2.symm)
      have ln' : σ'.length = p.n ∧ env'.length = p.n := ⟨by rw [bd.len, wipe_length]; exact ln.1, by rw [bindT_len t d env env' hb]; exact ln.2⟩
      refine ⟨_, env', h2, ln', rel', w3, ?_⟩
      revert hk2
      show _ → SimG _ _ _ _ (evC p.C p.th p.hot xc env' h2) _ _ _
      cases evC p.C p.th p.hot xc env' h2 with
      | no => exact fun s => s.elim
      | ex c y h3 => exact fun s => s.elim
      | ok b h3 =>
        intro hk2 b' H4 x4 w4 hb'
        cases hb'
        have x14 := x3.trans x4
        have hv4 : H4 D = some (.lst accV) := x4.keep _ _ hv3 (fun _ q => by cases q) (fun q => hdD D q rfl)
        have ra4 := DRepL.ext' x4 w3 ra3
        cases b with
        | false => exact ⟨x14, h3, acc, accV, w4, hv4, ra4, by omega, hk2⟩
        | true =>
          refine ⟨_, env', h3, ln', rel'.ext x4 w3, w4, ?_⟩
          revert hk2
          show LcK p.w A H1 D Q (match (Pv.R.bind (p.ev xe env' h3) (fun y h => match y.1 with
              | .d y => R.ok (some y) h
              | _ => R.no) : R (Option PyData)) with
            | .ok (some y) h' => lcLoop (lcStep p t xc xe env) (xs.drop (i + 1)) h' (y :: acc)
            | .ok none h' => lcLoop (lcStep p t xc xe env) (xs.drop (i + 1)) h' acc
            | _ => R.no) → SimG _ _ _ _ (p.ev xe env' h3) _ _ _
          cases p.ev xe env' h3 with
          | no => exact fun s => s.elim
          | ex c y h5 => exact fun s => s.elim
          | ok v h5 =>
            obtain ⟨v, fr⟩ := v
            cases v with
            | d y =>
              intro hk2 yv H5 x5 w5 r5
              have hv5 : H5 D = some (.lst accV) := x5.keep _ _ hv4 (fun _ q => by cases q) (fun q => hdD D q rfl)
              have ra5 := DRepL.ext' x5 w4 ra4
              have hla : accV.length = acc.length := by rw [ra.length, List.length_reverse]
              refine ⟨accV, hv5, by rw [hla]; have := lineN_eq; omega, extD (x14.trans x5), h5, y :: acc, accV ++ [yv], wdW (x14.trans x5) w5 hv5, upd_same, ?_, by simp; omega, hk2⟩
              rw [List.reverse_cons]
              have ntup : ∀ vs, H5 D ≠ some (.tup vs) := fun _ q => by rw [hv5] at q; cases q
              exact (ra5.wr (.inr rfl) ntup).append ⟨yv, [], rfl, DRep.wr (.inr rfl) ntup r5.1, rfl⟩
            | _ => exact fun s => s.elim
  · obtain ⟨x1, h2, acc, accV, w2, hv, ra, hl, hk2⟩ := I
    rw [List.drop_length] at hk2
    unfold lcLoop at hk2
    refine hk2 H x1 (w2.other (fun b e q => (wd.hand b e).1) wd.out (fun b hb => w2.dom b (.inl hb)) (w2.bs.sub fun b hb => .inl hb)) ⟨D, accV, rfl, fun q => hnt (wd.dom D q), hv, ra.mono' fun b hb => .inl hb⟩
theorem ev_lc {elt tg iter : Expr} {ifs : List Expr} {scope : Scope} {own : List (Str × Nat)} {pos : Pos} {t : T} {xs xc xe : Pv.X} (hot : p.hot = false) (hc : X.calm = true) (hN : X.N.Nodup) (hi : Ei p X tg iter xs) (ok : BlkOk X.N X.env.scope scope own) (ho : ∀ i, i ∈ own.map (·.2) ↔ i ∈ tv t) (htn : ∀ i ∈ tv t, i < p.n)
    (hg : ∀ (s : Shared) (H : Hp) (C : Addr) (cl : List (Str × Addr)) (fp : List Addr), Eg (X.blk s H scope (compEnvC scope cl C X.env) fp) tg t)
    (ht : ∀ (s : Shared) (H : Hp) (C : Addr) (cl : List (Str × Addr)) (fp : List Addr), Ec p.nox (X.blk s H scope (compEnvC scope cl C X.env) fp) ifs xc)
    (he : ∀ (s : Shared) (H : Hp) (C : Addr) (cl : List (Str × Addr)) (fp : List Addr), Ev p.nox (X.blk s H scope (compEnvC scope cl C X.env) fp) elt xe) (hs : ∀ x, foldedSetIterable iter X.env x = pure x) :
    Ev p X (.ListComp elt [⟨tg, iter, ifs, 0⟩] scope pos) (.lc t xs xc xe) ∧ ∀ V', Cov (.lc t xs xc xe) V' → (∀ σ H (Q : VK), tE p.w p.n p.W V' (p.ev (.lc t xs xc xe)) σ H Q →
      tLc (tI p.w p.n p.W V' (p.evS xs)) (gT t) (tG p.w p.n noW (vars xc ++ vars xe) (fun _ => RpB) fun env h => evC p.C p.th p.hot xc env h) (tE p.w p.n noW (vars xc ++ vars xe) (p.ev xe)) (own.map (·.2)) σ H Q) ∧
      ∀ (i : Nat) (y : Str) (py spos : Pos), X.N[i]? = some y → X.env.scope.names.lookup y = some .local → swapsWith (.ListComp elt [⟨tg, iter, ifs, 0⟩] scope pos) (some (.Name y py)) spos.line X.env = pure true → PS X (.Assign [.Name y py] (.ListComp elt [⟨tg, iter, ifs, 0⟩] scope pos) spos)
        (tAsg (tLc (tI p.w p.n p.W V' (p.evS xs)) (gT t) (tG p.w p.n noW (vars xc ++ vars xe) (fun _ => RpB) fun env h => evC p.C p.th p.hot xc env h) (tE p.w p.n noW (vars xc ++ vars xe) (p.ev xe)) (own.map (·.2))) (gName i)) := by
  have key : ∀ V', Cov (.lc t xs xc xe) V' → ∀ σ H (Q : VK), tE p.w p.n p.W V' (p.ev (.lc t xs xc xe)) σ H Q →
      tLc (tI p.w p.n p.W V' (p.evS xs)) (gT t) (tG p.w p.n noW (vars xc ++ vars xe) (fun _ => RpB) fun env h => evC p.C p.th p.hot xc env h) (tE p.w p.n noW (vars xc ++ vars xe) (p.ev xe)) (own.map (·.2)) σ H Q := by
    intro V' c σ H Q ⟨A, env, h, ln, rel, wd, s⟩
    unfold Pm.ev evE at s
    rw [hot] at s
    refine ⟨A, env, h, ln, rel, wd, ?_⟩
    revert s
    have e0 : evSrc p.C p.th false xs env h = p.evS xs env h := by unfold Pm.evS; rw [hot]
    show SimG _ _ _ _ (Pv.R.bind (evSrc p.C p.th false xs env h) _) σ H Q → SimG _ _ _ _ (p.evS xs env h) σ H _
    rw [e0]
    cases p.evS xs env h with
    | no => exact fun s => s
    | ex c y h1 => exact fun s => s
    | ok ds h1 =>
      intro s J H1 x1 w1 r1 D hD
      obtain ⟨rt, sc, rts⟩ := r1
      have s : SimG p.w p.W A (RpE p.w A) (match decide (ds.length ≤ lineN) with
        | false => Pv.R.no
        | true => Pv.R.bind (lcLoop (lcStep p t xc xe env) ds h1 []) fun ys h => .ok (.d (.list ys), true) h) σ H Q := by
        unfold lcStep
        rw [hot]
        exact s
      cases hz : decide (ds.length ≤ lineN) with
      | false => rw [hz] at s; exact s.elim
      | true =>
        rw [hz] at s
        have s : SimG p.w p.W A (RpE p.w A) (Pv.R.bind (lcLoop (lcStep p t xc xe env) ds h1 []) fun ys h => .ok (.d (.list ys), true) h) σ H Q := s
        refine lc_core2 sc ho (fun i hi => ?_) htn ln (rel.ext x1 wd) w1 rts hD (of_decide_eq_true hz) ?_
        · exact c i (by simp only [vars, List.mem_append] at hi ⊢; rcases hi with hi | hi; exact .inl (.inr hi); exact .inr hi)
        · revert s
          have noex : ∀ (f : PyData → HS → R (Option PyData)) (l : List PyData) (h : HS) (acc : List PyData), (∃ ys h', lcLoop f l h acc = .ok ys h') ∨ lcLoop f l h acc = .no := by
            intro f l
            induction l with
            | nil => intro h acc; exact .inl ⟨_, _, rfl⟩
            | cons x l ih =>
              intro h acc
              unfold lcLoop
              cases f x h with
              | no => exact .inr rfl
              | ex c y h' => exact .inr rfl
              | ok o h' => cases o <;> exact ih _ _
          rcases noex (lcStep p t xc xe env) ds h1 [] with ⟨ys, h', e⟩ | e
          · rw [e]
            exact fun s H' x' w' r' => s _ H' (x1.trans x') w' ⟨r', fun _ a _ q => by
              cases q
              exact fun n => NT.non hD (x1.dom D n)⟩
          · rw [e]
            exact fun s => s
  exact ⟨.mk' (fun V' c => (pe_lc hc hN (hi.pi V' (covL (covL c))) ok (fun s H C cl fp => (hg s H C cl fp).pg) (fun s H C cl fp => (ht s H C cl fp).pts _ (fun i hi => List.mem_append_left _ hi)) (fun s H C cl fp => (he s H C cl fp).pe _ (fun i hi => List.mem_append_right _ hi)) hs).imp (key V' c)) (fun _ => rfl), fun V' c => ⟨key V' c, fun i y py spos h1 h2 h3 => ps_setLc hc hN h1 h2 h3 (hi.pi V' (covL (covL c))) ok (fun s H C cl fp => (hg s H C cl fp).pg) (fun s H C cl fp => (ht s H C cl fp).pts _ (fun i hi => List.mem_append_left _ hi)) (fun s H C cl fp => (he s H C cl fp).pe _ (fun i hi => List.mem_append_right _ hi)) hs⟩⟩
end
end Pv
/-! text S15 -/
set_option autoImplicit false
set_option Elab.async false
set_option linter.all false
set_option maxRecDepth 100000
set_option maxHeartbeats 1000000
namespace Pv
open PySem PySem.Spec PyProof.Rows L2
/-! ### list(range(..)), tuple(range(..)) -/
theorem rgV_rep {H : Hp} {A : Addr → Prop} (a b : Int) : DRepL H A (rangeL a b) (rgV a b) := by
  unfold rangeL rgV
  induction List.range (b - a).toNat with
  | nil => rfl
  | cons i l ih => exact ⟨_, _, rfl, rfl, ih⟩
theorem rgOk2 {i j : Int} (h1 : rngOk i = true) (h2 : rngOk j = true) : RgOk i j := by
  unfold rngOk at h1 h2
  simp only [Bool.and_eq_true, decide_eq_true_eq] at h1 h2
  have : (2 : Int) ^ 62 = 4611686018427387904 := by decide
  have e : (2 : Nat) ^ 24 = 16777216 := by decide
  exact ⟨by omega, by omega, by omega, by omega, by omega⟩
section
variable {p : Pm} {X : Cx}
def mkHO (tup : Bool) (xs : List V) : HO := match tup with
  | true => .tup xs
  | false => .lst xs
theorem rng_fin {A : Addr → Prop} {tup : Bool} {i j : Int} {h : HS} {σ : L2.St} {H : Hp} {Q : VK} (wd : Wd p.w A H h) (hi : rngOk i = true) (hj : rngOk j = true) (s : SimG p.w p.W A (RpE p.w A) (match decide ((rangeL i j).length ≤ lineN) with
    | true => .ok (.d (mkSeq tup (rangeL i j)), true) h
    | false => .no) σ H Q) : RgOk i j ∧ ∀ q, H q = none → Q (.ref q) (upd H q (mkHO tup (rgV i j))) := by
  have ok := rgOk2 hi hj
  refine ⟨ok, fun q hq => ?_⟩
  cases hd : decide ((rangeL i j).length ≤ lineN) with
  | false => rw [hd] at s; exact s.elim
  | true =>
    rw [hd] at s
    cases tup with
    | true => exact (SimG.fin1 wd s).tup (rgV_rep i j) hq
    | false => exact (SimG.fin1 wd s).lst wd.dom (rgV_rep i j) hq
theorem ev_rngL1 {tup : Bool} {x : Str} {a : Expr} {xa : Pv.X} {q1 q2 p1 p2 : Pos} (hot : p.hot = false) (hc : X.calm = true) (hx : x = if tup then "tuple" else "list") (hg : Gl X x) (hm : X.mg x = none) (hgr : Gl X "range") (hmr : X.mg "range" = none) (hst : isStar a = false) (ha : Ev p X a xa) :
    Ev p X (.Call (.Name x q1) [.Call (.Name "range" q2) [a] [] p1] [] p2) (.rngL tup (.sRng1 xa)) :=
  .mk' (fun V' c => by
    have hp := prg_1 (p := q2) (pos := p1) hgr hmr (ha.pe V' c) (starEach_cons hst _ X.env)
    have core : ∀ σ H (Q : VK), tE p.w p.n p.W V' (p.ev (.rngL tup (.sRng1 xa))) σ H Q → tRg1 (tE p.w p.n p.W V' (p.ev xa)) σ H fun i j H1 => RgOk i j ∧ ∀ q, H1 q = none → Q (.ref q) (upd H1 q (mkHO tup (rgV i j))) := by
      intro σ H Q ⟨A, env, h, ln, rel, wd, s⟩
      unfold Pm.ev evE at s
      rw [hot] at s
      simp only [evSrc, bind_assoc] at s
      have ee : evE p.C p.th false xa = p.ev xa := by unfold Pm.ev; rw [hot]
      rw [ee] at s
      refine SimG.sub1 ln rel wd RpE.back s fun va h1 y H1 x1 w1 rel1 r1 _ s1 => ?_
      obtain ⟨v, fr⟩ := va
      cases v with
      | d d =>
        cases d with
        | int i =>
          cases hr : rngOk i with
          | false => simp only [hr] at s1; exact s1.elim
          | true =>
            simp only [hr] at s1
            cases (show y = .int i from r1)
            exact ⟨i, rfl, rng_fin w1 (by decide) hr s1⟩
        | _ => exact s1.elim
      | _ => exact s1.elim
    cases tup with
    | true => subst hx; exact (pe_tupRg hc hg hm hp).imp core
    | false => subst hx; exact (pe_listRg hc hg hm hp).imp core) isTrue_call
theorem ev_rngL2 {tup : Bool} {x : Str} {a b : Expr} {xa xb : Pv.X} {q1 q2 p1 p2 : Pos} (hot : p.hot = false) (hc : X.calm = true) (hx : x = if tup then "tuple" else "list") (hg : Gl X x) (hm : X.mg x = none) (hgr : Gl X "range") (hmr : X.mg "range" = none) (hst : isStar a = false) (hst2 : isStar b = false) (ha : Ev p X a xa) (hb : Ev p X b xb) :
    Ev p X (.Call (.Name x q1) [.Call (.Name "range" q2) [a, b] [] p1] [] p2) (.rngL tup (.sRng2 xa xb)) :=
  .mk' (fun V' c => by
    have hp := prg_2 (p := q2) (pos := p1) hgr hmr (ha.pe V' (covL c)) (hb.pe V' (covR c)) (starEach_cons hst _ X.env) (starEach_cons hst2 _ X.env) (by rw [starEach_cons hst2]; rfl)
    have core : ∀ σ H (Q : VK), tE p.w p.n p.W V' (p.ev (.rngL tup (.sRng2 xa xb))) σ H Q → tRg2 (tE p.w p.n p.W V' (p.ev xa)) (tE p.w p.n p.W V' (p.ev xb)) σ H fun i j H1 => RgOk i j ∧ ∀ q, H1 q = none → Q (.ref q) (upd H1 q (mkHO tup (rgV i j))) := by
      intro σ H Q ⟨A, env, h, ln, rel, wd, s⟩
      unfold Pm.ev evE at s
      rw [hot] at s
      simp only [evSrc, bind_assoc] at s
      have ee : evE p.C p.th false xa = p.ev xa := by unfold Pm.ev; rw [hot]
      have eb : evE p.C p.th false xb = p.ev xb := by unfold Pm.ev; rw [hot]
      rw [ee, eb] at s
      refine SimG.sub1 ln rel wd RpE.back s fun va h1 y H1 x1 w1 rel1 r1 _ s1 => SimG.sub1 ln rel1 w1 RpE.back s1 fun vb h2 z H2 x2 w2 rel2 r2 _ s2 => ?_
      obtain ⟨v, fr⟩ := va
      obtain ⟨u, fr2⟩ := vb
      cases v with
      | d d =>
        cases u with
        | d e =>
          cases d with
          | int i =>
            cases e with
            | int j =>
              cases hr : rngOk i && rngOk j with
              | false => simp only [hr] at s2; exact s2.elim
              | true =>
                simp only [hr] at s2
                cases (show y = .int i from r1)
                cases (show z = .int j from r2)
                exact ⟨i, j, rfl, rfl, rng_fin w2 (Bool.and_eq_true_iff.mp hr).1 (Bool.and_eq_true_iff.mp hr).2 s2⟩
            | _ => exact s2.elim
          | _ => cases e <;> exact s2.elim
        | _ => cases d <;> exact s2.elim
      | _ => cases u <;> exact s2.elim
    cases tup with
    | true => subst hx; exact (pe_tupRg hc hg hm hp).imp core
    | false => subst hx; exact (pe_listRg hc hg hm hp).imp core) isTrue_call
/-! ### calls of defs -/
def RpV (w : Wo) (A : Addr → Prop) : List PV → List V → Hp → Prop
  | [], xs, _ => xs = []
  | a :: as, xs, H => ∃ x r, xs = x :: r ∧ VRep w H A a x ∧ RpV w A as r H
theorem RpL.toV {w : Wo} {A : Addr → Prop} {H H' : Hp} : ∀ {vs : List (PV × Bool)} {xs : List V}, RpL w A vs xs H H' → RpV w A (vs.map (·.1)) xs H'
  | [], xs, r => r
  | a :: as, xs, r => by
    obtain ⟨x, t, e, h1, h2⟩ := r
    exact ⟨x, t, e, h1.1, h2.toV⟩
/-- a def's world -/
abbrev Wo.fun (w : Wo) : Wo := { w with fnr := none, exr := none, bs := none }
/-- a def, by the evaluator -/
def spOf (w : Wo) (g : List PV → HS → Pv.Res) : Sp := fun xs H Q E => ∃ A h pvs, RpV w.fun A pvs xs H ∧ Wd w.fun A H h ∧ SimG w.fun (fun cls d _ H => E cls d H) A (RpE w.fun A) (g pvs h) [] H Q
theorem RpV.fun {w : Wo} {A : Addr → Prop} {H : Hp} : ∀ {vs : List PV} {xs : List V}, (vs.all plainV) = true → RpV w A vs xs H → RpV w.fun A vs xs H
  | [], xs, _, r => r
  | a :: as, xs, h, r => by
    obtain ⟨x, t, e, h1, h2⟩ := r
    have h' : plainV a = true ∧ as.all plainV = true := by simpa using h
    refine ⟨x, t, e, ?_, h2.fun h'.2⟩
    cases a with
    | d d => exact h1
    | hand => exact h1
    | scr xs => exact h1
    | fn => cases h'.1
    | exn c y => cases h'.1
theorem VRep.unfun {w : Wo} {A : Addr → Prop} {H : Hp} : ∀ {v : PV} {x : V}, VRep w.fun H A v x → VRep w H A v x
  | .d d, _, r => r
  | .hand, _, r => r
  | .scr _, _, r => r
  | .fn, _, ⟨_, _, _, e, _⟩ => nomatch e
  | .exn _ _, _, ⟨_, _, _, e, _⟩ => nomatch e
theorem Wd.fun {w : Wo} {A : Addr → Prop} {H : Hp} {h : HS} (x : Wd w A H h) : Wd w.fun A H h := ⟨x.hand, x.out, x.ins, x.dom, x.tabs, fun _ _ e => nomatch e⟩
theorem Wd.unfun {w : Wo} {A : Addr → Prop} {H : Hp} {h : HS} (x : Wd w.fun A H h) (bs : Bs w A H) : Wd w A H h := ⟨x.hand, x.out, x.ins, x.dom, x.tabs, bs⟩
theorem SimG.fun {w : Wo} {W : WX} {A : Addr → Prop} {r : Pv.Res} {σ : L2.St} {H : Hp} {Q : VK} (bs : Bs w A H) (s : SimG w W A (RpE w A) r σ H Q) : SimG w.fun (fun cls d _ H => W cls d σ H) A (RpE w.fun A) r [] H Q := by
  cases r with
  | ok a h' => exact fun y H' x wd rp => s y H' x (wd.unfun (bs.ext x)) ⟨rp.1.unfun, rp.2⟩
  | ex c y h' => exact fun _ cls d H' x wd xr => s σ cls d H' x (wd.unfun (bs.ext x)) xr
  | no => exact s
theorem back_any (env : PySem.Env) : ∀ (es : List Expr), (∀ a ∈ es, isStar a = false) → ∀ pos, (backTo pos (starEach es env)).any (·.1) = false
  | [], _, _ => rfl
  | a :: es, h, pos => by
    rw [starEach_cons (h a (List.mem_cons_self ..))]
    show (false || (backTo pos (starEach es env)).any (·.1)) = false
    rw [back_any env es (fun b hb => h b (List.mem_cons_of_mem _ hb)) pos]
    rfl
theorem sp_of {V' : List Nat} {f : Nat} {xs : Pv.X} {σ : L2.St} {H : Hp} {Q : VK} (t : tE p.w p.n p.W V' (p.ev (.call f xs)) σ H Q) : tCallS (spOf p.w fun pvs h => p.C f pvs (fun _ => .no) h) (WE p.W) (tA p.w p.n p.W V' (p.evL xs)) σ H Q := by
  obtain ⟨A, env, h, ln, rel, wd, s⟩ := t
  unfold Pm.ev evE at s
  split at s
  · exact s.elim
  · refine SimG.subL ln rel wd RpE.back s fun va h1 xs H1 e1 x1 w1 rel1 r1 s1 => ?_
    cases hp : va.all fun v => plainV v.1 with
    | false => simp only [hp] at s1; exact s1.elim
    | true =>
      simp only [hp] at s1
      have hp2 : (va.map (·.1)).all plainV = true := by
        rw [List.all_map]
        exact hp
      exact ⟨A, h1, va.map (·.1), r1.toV.fun hp2, w1.fun, SimG.fun w1.bs s1⟩
theorem pe_call0S {k : Nat} {fa : Addr} {fd : FuncData} {ps : List Str} {sp : Sp} {E : L2.St → XK} {x : Str} {q pos : Pos} (F : FnOk X.prog X.w X.K X.mg X.base (L2.CX X.prog X.w) k fa fd ps sp) (hr : Room k X.A) (hg : Gl X x) (hm : X.mg x = some (.ref fa)) (hk : PySem.W.keepIn X.K (.ref fa) = true) (hb : Binds X.K fd ps []) (hx : ∀ σ, PassesAt (L2.CX X.prog X.w) X σ (E σ))
    (hdb : (x == ("__debug__" : Str)) = false) : PE X (.Call (.Name x q) [] [] pos) (tCallS sp E tNil) := by
  refine ⟨fun pins s σ H Q I h => ?_⟩
  refine wpAny_Call_Name_kw (ld_glob I hg hm ?_ hdb)
  exact PySem.W.callWith_K0 I.kIn hk (run_fnS (us := []) F hr hb (hx σ) I .nil h)
theorem ev_call {f : Nat} {k : Nat} {fa : Addr} {fd : FuncData} {ps : List Str} {x : Str} {es : List Expr} {xs : Pv.X} {q pos : Pos} (F : FnOk X.prog X.w X.K X.mg X.base (L2.CX X.prog X.w) k fa fd ps (spOf p.w fun pvs h => p.C f pvs (fun _ => .no) h)) (hr : Room k X.A) (hg : Gl X x) (hm : X.mg x = some (.ref fa)) (hk : PySem.W.keepIn X.K (.ref fa) = true) (hb : Binds X.K fd ps []) (tk : Takes X p.W)
    (hst : ∀ a ∈ es, isStar a = false) (hdb : (x == ("__debug__" : Str)) = false) (h0 : es = [] → xs = .nil) (he : EvL p X es xs) : Ev p X (.Call (.Name x q) es [] pos) (.call f xs) :=
  .mk' (fun V' c => by
    cases es with
    | cons e es => exact (pe_callS F hr hg hm hk hb (passAt tk) (he.pa V' c) hdb (starEach_cons (hst e (List.mem_cons_self ..)) es X.env) (back_any X.env es (fun a ha => hst a (List.mem_cons_of_mem _ ha)) pos)).imp fun σ H Q t => sp_of t
    | nil =>
      have hx := h0 rfl
      subst hx
      refine (pe_call0S (q := q) (pos := pos) F hr hg hm hk hb (passAt tk) hdb).imp fun σ H Q t => ?_
      obtain ⟨A, env, h, ln, rel, wd, s⟩ := sp_of t
      unfold Pm.evL Pv.evL at s
      exact SimG.self wd s rfl) isTrue_call
end
end Pv
/-! text SM -/
set_option autoImplicit false
set_option Elab.async false
set_option linter.all false
set_option maxRecDepth 100000
set_option maxHeartbeats 1000000
namespace Pv
open PySem PySem.Spec PyProof.Rows L2
section
variable {p : Pm} {X : Cx}
/-! isinstance(x, (tuple, list)) -/
def tyD : PyData → Value
  | .none => .type "NoneType" | .bool _ => .type "bool" | .int _ => .type "int" | .str _ => .type "str" | .tuple _ => .type "tuple" | .list _ => .type "list" | .dict _ => .type "dict"
theorem tyx_rep {K : PySem.W.Frag} {H : Hp} {A : Addr → Prop} : ∀ {d : PyData} {x : V}, DRep H A d x → TyX K H x (tyD d)
  | .none, x, h => by cases (show x = .non from h); exact .base .non
  | .bool b, x, h => by cases (show x = .bl b from h); exact .base (.bl b)
  | .int b, x, h => by cases (show x = .int b from h); exact .base (.int b)
  | .str b, x, h => by cases (show x = .str b from h); exact .base (.str b)
  | .tuple _, x, h => by obtain ⟨a, vs, rfl, e, _⟩ := h; exact .base (.tup e)
  | .list _, x, h => by obtain ⟨a, vs, rfl, _, e, _⟩ := h; exact .base (.lst e)
  | .dict _, x, h => by
    obtain ⟨a, rfl, _, e⟩ := h
    rcases e with ⟨ks, e, _⟩ | ⟨ks, ⟨e, _⟩, _⟩
    · exact .base (.dK e)
    · exact .base (.dT e)
def isTLd : PyData → Bool
  | .list _ | .tuple _ => true
  | _ => false
theorem kit_TL {K : PySem.W.Frag} (d : PyData) : PySem.W.kitAny K (tyD d) [.type "tuple", .type "list"] = some (isTLd d) := by
  have k : ∀ {a b : String} {r : Bool}, kitB a b = some r → PySem.W.kitOne K (.type a) (.type b) = some r := fun h => kit_ty h
  have n : PySem.W.kitAny K (tyD d) [] = some false := by unfold PySem.W.kitAny; rfl
  cases d
  all_goals
    unfold tyD isTLd
    first
      | exact kitAny_cons (b := false) (r := false) (k (by decide +kernel)) (fun _ => kitAny_cons (b := false) (r := false) (k (by decide +kernel)) (fun _ => n) (fun z => by cases z)) (fun z => by cases z)
      | exact kitAny_cons (b := true) (r := true) (k (by decide +kernel)) (fun z => by cases z) (fun _ => rfl)
      | exact kitAny_cons (b := false) (r := true) (k (by decide +kernel)) (fun _ => kitAny_cons (b := true) (r := true) (k (by decide +kernel)) (fun z => by cases z) (fun _ => rfl)) (fun z => by cases z)
theorem ev_isTL {e : Expr} {xe : Pv.X} {t1 t2 : Str} {q p1 p2 p3 pos : Pos} {n : Nat} (hg : Gl X "isinstance") (hm : X.mg "isinstance" = none) (hg1 : Gl X t1) (hm1 : X.mg t1 = none) (hv1 : bootBuiltins t1 = some (.type "tuple")) (hn1 : t1 ≠ "__name__") (hd1 : (t1 == ("__debug__" : Str)) = false)
    (hg2 : Gl X t2) (hm2 : X.mg t2 = none) (hv2 : bootBuiltins t2 = some (.type "list")) (hn2 : t2 ≠ "__name__") (hd2 : (t2 == ("__debug__" : Str)) = false) (hst : isStar e = false) (he : Ev p X e xe) :
    Ev p X (.Call (.Name "isinstance" q) [e, .Tuple [.Name t1 p1, .Name t2 p2] n p3] [] pos) (.prim .isTL (.cons xe .nil)) :=
  .mk' (fun V' c => by
    have h1 : PE X (.Name t1 p1) (tC (V.ty "tuple")) := pe_bltn hg1 hm1 hv1 rfl hn1 hd1
    have h2 : PE X (.Name t2 p2) (tC (V.ty "list")) := pe_bltn hg2 hm2 hv2 rfl hn2 hd2
    have hT := pe_tup (pos := p3) (x1 := n) (pa_cons h1 (pa_cons h2 pa_nil (by rfl)) (by rfl))
    refine (pe_callB call_isiT hg hm (by rfl) (pa_cons (he.pe V' fun i hi => c i (by simpa [vars] using hi)) (pa_cons hT pa_nil (by rfl)) (starEach_cons hst _ X.env)) (by decide) (by decide) (starEach_cons hst _ X.env) (by rfl)).imp fun σ H Q t => ?_
    obtain ⟨A, env, h, ln, rel, wd, s⟩ := t
    unfold Pm.ev evE at s
    split at s
    · exact s.elim
    · unfold Pv.evL at s
      simp only [bind_assoc] at s
      refine SimG.sub1 ln rel wd RpE.back s fun va h1 x H1 x1 w1 rel1 r1 _ s1 => ?_
      unfold Pv.evL at s1
      obtain ⟨v, fr⟩ := va
      cases v with
      | d d =>
        have s1 : SimG p.w p.W A (RpE p.w A) (one (primD .isTL [d]) true h1) σ H1 Q := s1
        obtain ⟨d', e', f⟩ := SimG.one w1 s1
        have ed : d' = .bool (isTLd d) := by
          cases d <;> (cases e'; rfl)
        subst ed
        refine ⟨by show 2 ≤ sizeLine; decide, fun tp htp => ?_⟩
        refine ⟨x, tp, [.ty "tuple", .ty "list"], tyD d, [.type "tuple", .type "list"], isTLd d, rfl, upd_same, .cons (.ty _) (.cons (.ty _) .nil), tyx_rep (DRep.same (same_upd htp) r1), kit_TL d, ?_⟩
        exact f _ _ (same_upd htp) rfl (fun _ a z => by cases z)
      | _ => exact s1.elim) isTrue_call
/-! {k: v} -/
theorem new_avoid {w : Wo} {A : Addr → Prop} {H : Hp} {h : HS} {V' : List Nat} {σ : L2.St} {env : Pv.Env} {D : Addr} {o : HO} (wd : Wd w A H h) (rel : Rel w A V' σ H env) (hD : H D = none) (ho : ∀ ps, o ≠ .tbl ps) :
    Wd w (fun b => A b ∨ b = D) (upd H D o) h ∧ Rel w (fun b => A b ∨ b = D) V' σ (upd H D o) env := by
  have hnt := NT.non hD
  have wd' := wd.same (same_upd (o := o) hD)
  have hin : HdIn w.hd (fun b => A b ∨ b = D) H := ⟨fun b e => ⟨.inl (wd.hand b e).1, (wd.in.hd b e).2⟩⟩
  refine ⟨⟨fun a ea => let ⟨q1, q2, us, q3, q4⟩ := wd'.hand a ea; ⟨.inl q1, q2, us, q3, q4⟩, fun b hb => hb.elim (wd.out b) fun e q => hnt (by rw [← e]; exact wd.ins b q), wd'.ins, fun b hb => ?_, wd'.tabs, (wd.bs.wide fun b hb => hb.imp id fun e => by rw [e]; exact hnt).ext (Ext.upd hD)⟩, fun i v o' hi e => ?_⟩
  · rcases hb with hb | hb
    · exact wd'.dom b hb
    · rw [hb]; exact ⟨_, upd_same, ho⟩
  · obtain ⟨y, q1, q2⟩ := rel i v o' hi e
    exact ⟨y, q1, VRep.ext (Ext.upd hD) hin (VRep.wide (fun b nb q => q.elim (fun q => q) fun q => absurd (q ▸ nb) hnt) q2)⟩
/-! an entry put -/
theorem DRepK.any {H : Hp} {A : Addr → Prop} (j : Key) : ∀ {kvs : List (PyData × PyData)} {ks : List (Key × V)}, DRepK H A kvs ks → (kvs.any fun p => PyData.eqv p.1 (dK j)) = ks.any fun kv => decide (kv.1 = j)
  | [], ks, h => by cases (show ks = [] from h); rfl
  | (k, d) :: kvs, ks, h => by
    obtain ⟨i, v, t, rfl, rfl, h1, h2⟩ := h
    simp only [List.any_cons, eqv_dK, DRepK.any j h2]
theorem DRepT.any {H : Hp} {A : Addr → Prop} (j : List Key) : ∀ {kvs : List (PyData × PyData)} {ks : List (List Key × V)}, DRepT H A kvs ks → (kvs.any fun p => PyData.eqv p.1 (.tuple (j.map dK))) = ks.any fun kv => decide (kv.1 = j)
  | [], ks, h => by cases (show ks = [] from h); rfl
  | (k, d) :: kvs, ks, h => by
    obtain ⟨i, v, t, rfl, rfl, h1, h2⟩ := h
    simp only [List.any_cons, eqv_dT, DRepT.any j h2]
theorem DRepK.rpl {H : Hp} {A : Addr → Prop} {y : PyData} {u : V} (ry : DRep H A y u) (j : Key) : ∀ {kvs : List (PyData × PyData)} {ks : List (Key × V)}, DRepK H A kvs ks → DRepK H A (kvs.map fun p => (p.1, match PyData.eqv p.1 (dK j) with | true => y | false => p.2)) (ks.map fun kv => if kv.1 = j then (kv.1, u) else kv)
  | [], ks, h => by cases (show ks = [] from h); rfl
  | (k, d) :: kvs, ks, h => by
    obtain ⟨i, v, t, rfl, rfl, h1, h2⟩ := h
    have ih := DRepK.rpl ry j h2
    simp only [List.map_cons, eqv_dK]
    by_cases e : i = j
    · simp only [e, decide_true, if_true]
      exact ⟨j, u, _, rfl, rfl, ry, ih⟩
    · simp only [e, decide_false, if_false]
      exact ⟨i, v, _, rfl, rfl, h1, ih⟩
theorem DRepT.rpl {H : Hp} {A : Addr → Prop} {y : PyData} {u : V} (ry : DRep H A y u) (j : List Key) : ∀ {kvs : List (PyData × PyData)} {ks : List (List Key × V)}, DRepT H A kvs ks → DRepT H A (kvs.map fun p => (p.1, match PyData.eqv p.1 (.tuple (j.map dK)) with | true => y | false => p.2)) (ks.map fun kv => if kv.1 = j then (kv.1, u) else kv)
  | [], ks, h => by cases (show ks = [] from h); rfl
  | (k, d) :: kvs, ks, h => by
    obtain ⟨i, v, t, rfl, rfl, h1, h2⟩ := h
    have ih := DRepT.rpl ry j h2
    simp only [List.map_cons, eqv_dT]
    by_cases e : i = j
    · simp only [e, decide_true, if_true]
      exact ⟨j, u, _, rfl, rfl, ry, ih⟩
    · simp only [e, decide_false, if_false]
      exact ⟨i, v, _, rfl, rfl, h1, ih⟩
theorem DRepK.snoc {H : Hp} {A : Addr → Prop} {y : PyData} {u : V} (ry : DRep H A y u) (j : Key) : ∀ {kvs : List (PyData × PyData)} {ks : List (Key × V)}, DRepK H A kvs ks → DRepK H A (kvs ++ [(dK j, y)]) (ks ++ [(j, u)])
  | [], ks, h => by cases (show ks = [] from h); exact ⟨j, u, [], rfl, rfl, ry, rfl⟩
  | (k, d) :: kvs, ks, h => by
    obtain ⟨i, v, t, rfl, rfl, h1, h2⟩ := h
    exact ⟨i, v, _, rfl, rfl, h1, DRepK.snoc ry j h2⟩
theorem DRepT.snoc {H : Hp} {A : Addr → Prop} {y : PyData} {u : V} (ry : DRep H A y u) (j : List Key) : ∀ {kvs : List (PyData × PyData)} {ks : List (List Key × V)}, DRepT H A kvs ks → DRepT H A (kvs ++ [(.tuple (j.map dK), y)]) (ks ++ [(j, u)])
  | [], ks, h => by cases (show ks = [] from h); exact ⟨j, u, [], rfl, rfl, ry, rfl⟩
  | (k, d) :: kvs, ks, h => by
    obtain ⟨i, v, t, rfl, rfl, h1, h2⟩ := h
    exact ⟨i, v, _, rfl, rfl, h1, DRepT.snoc ry j h2⟩
theorem DRepK.put {H : Hp} {A : Addr → Prop} {y : PyData} {u : V} {kvs : List (PyData × PyData)} {ks : List (Key × V)} (r : DRepK H A kvs ks) (ry : DRep H A y u) (j : Key) : DRepK H A (dictPut kvs (dK j) y) (putK ks j u) := by
  unfold dictPut putK
  rw [r.any j]
  cases e : ks.any fun kv => decide (kv.1 = j) with
  | true => rw [if_pos rfl]; exact r.rpl ry j
  | false => rw [if_neg Bool.false_ne_true]; exact r.snoc ry j
theorem DRepT.put {H : Hp} {A : Addr → Prop} {y : PyData} {u : V} {kvs : List (PyData × PyData)} {ks : List (List Key × V)} (r : DRepT H A kvs ks) (ry : DRep H A y u) (j : List Key) : DRepT H A (dictPut kvs (.tuple (j.map dK)) y) (putK ks j u) := by
  unfold dictPut putK
  rw [r.any j]
  cases e : ks.any fun kv => decide (kv.1 = j) with
  | true => rw [if_pos rfl]; exact r.rpl ry j
  | false => rw [if_neg Bool.false_ne_true]; exact r.snoc ry j
theorem DRepK.len {H : Hp} {A : Addr → Prop} : ∀ {kvs : List (PyData × PyData)} {ks : List (Key × V)}, DRepK H A kvs ks → ks.length = kvs.length
  | [], ks, h => by cases (show ks = [] from h); rfl
  | (k, d) :: kvs, ks, h => by
    obtain ⟨i, v, t, rfl, rfl, h1, h2⟩ := h
    simp [h2.len]
theorem DRepT.len {H : Hp} {A : Addr → Prop} : ∀ {kvs : List (PyData × PyData)} {ks : List (List Key × V)}, DRepT H A kvs ks → ks.length = kvs.length
  | [], ks, h => by cases (show ks = [] from h); rfl
  | (k, d) :: kvs, ks, h => by
    obtain ⟨i, v, t, rfl, rfl, h1, h2⟩ := h
    simp [h2.len]
theorem DRepK.wr {H : Hp} {A : Addr → Prop} {a : Addr} {o : HO} (ha : A a) (hn : ∀ vs, H a ≠ some (.tup vs)) {d : List (PyData × PyData)} {x : List (Key × V)} (r : DRepK H A d x) : DRepK (upd H a o) A d x :=
  DRepK.mono (fun _ q => q) (fun b vs e => by rw [upd_ne (fun z => hn vs (by rw [← z]; exact e))]; exact e) (fun b u n e _ => by rw [upd_ne (fun z => n (by rw [z]; exact ha))]; exact e) d x r
theorem DRepT.wr {H : Hp} {A : Addr → Prop} {a : Addr} {o : HO} (ha : A a) (hn : ∀ vs, H a ≠ some (.tup vs)) {d : List (PyData × PyData)} {x : List (List Key × V)} (r : DRepT H A d x) : DRepT (upd H a o) A d x :=
  DRepT.mono (fun _ q => q) (fun b vs e => by rw [upd_ne (fun z => hn vs (by rw [← z]; exact e))]; exact e) (fun b u n e _ => by rw [upd_ne (fun z => n (by rw [z]; exact ha))]; exact e) d x r
theorem DRepK.mono' {H : Hp} {A A' : Addr → Prop} (hA : ∀ b, A' b → A b) {d : List (PyData × PyData)} {x : List (Key × V)} (r : DRepK H A d x) : DRepK H A' d x := DRepK.mono hA (fun _ _ e => e) (fun _ _ _ e _ => e) d x r
theorem DRepT.mono' {H : Hp} {A A' : Addr → Prop} (hA : ∀ b, A' b → A b) {d : List (PyData × PyData)} {x : List (List Key × V)} (r : DRepT H A d x) : DRepT H A' d x := DRepT.mono hA (fun _ _ e => e) (fun _ _ _ e _ => e) d x r
theorem DRepK.same {H H' : Hp} {A : Addr → Prop} (s : Same H H') {d : List (PyData × PyData)} {x : List (Key × V)} (r : DRepK H A d x) : DRepK H' A d x := DRepK.mono (fun _ q => q) (fun b vs e => s _ _ e) (fun b o _ e _ => s _ _ e) d x r
theorem nt_wr0 {H : Hp} {a b : Addr} {ks : List (Key × V)} (n : NT H b) : NT (upd H a (.dK ks)) b := by
  by_cases z : b = a
  · subst z; exact ⟨_, upd_same, fun _ q => by cases q⟩
  · obtain ⟨o, q1, q2⟩ := n
    exact ⟨o, by rw [upd_ne z]; exact q1, q2⟩
theorem SimG.av {α β γ δ : Type} {w : Wo} {W : WX} {A A' : Addr → Prop} {Rp : α → β → Hp → Hp → Prop} {Rp2 : γ → δ → Hp → Hp → Prop} {r : R α} {f : α → HS → R γ} {σ : L2.St} {H H2 : Hp} {Q : δ → Hp → Prop} {Q1 : β → Hp → Prop} (s : SimG w W A Rp2 (r.bind f) σ H Q) (x : Ext w.hd H H2)
    (hA : ∀ b, A b → A' b) (hh : ∀ b, w.hd = some b → A b)
    (k : ∀ a h1 y H1, r = .ok a h1 → Ext w.hd H2 H1 → Wd w A' H1 h1 → Rp a y H2 H1 → Q1 y H1) : SimG w W A' Rp r σ H2 Q1 := by
  cases r with
  | ok a h1 => exact fun y H1 e wd rp => k a h1 y H1 rfl e wd rp
  | ex c y h1 => exact fun τ cls d H' e w' xr => s τ cls d H' (x.trans e) (w'.other (fun b e _ => hh b e) (fun b q => w'.out b (hA b q)) (fun b q => w'.dom b (hA b q)) (w'.bs.sub hA)) (by
      obtain ⟨C, h1, h2, h3⟩ := xr
      refine ⟨C, h1, h2, ?_⟩
      cases y with
      | none => exact h3
      | some y =>
        obtain ⟨dd, fs, v, q1, q2, q3, q4⟩ := h3
        exact ⟨dd, fs, v, q1, q2, q3, DRep.mono' hA q4⟩)
  | no => exact s
theorem ev_dsp1 {k v : Expr} {xk xv : Pv.X} {pos : Pos} (hk : Ev p X k xk) (hv : Ev p X v xv) : Ev p X (.Dict [some k] [v] pos) (.dsp (.cons xk .nil) (.cons xv .nil)) :=
  .mk' (fun V' c => (pe_disp (pps_cons (hk.pe V' fun i hi => c i (by simp [vars]; exact .inl hi)) (hv.pe V' fun i hi => c i (by simp [vars]; exact .inr hi)) pps_nil) (by rfl) (by rfl) (fun z => by cases z) (by show 1 ≤ 15; decide)).imp fun σ H Q ⟨A, env, h, ln, rel, wd, s⟩ => by
    unfold Pm.ev evE at s
    have s : SimG p.w p.W A (RpE p.w A) ((p.ev xk env h).bind fun a h => (p.ev xv env h).bind fun b h => match a.1, b.1 with
      | .d k, .d v => match keyS k with
        | true => .ok (.d (.dict [(k, v)]), true) h
        | false => .no
      | _, _ => .no) σ H Q := s
    intro D hD
    have hnt : ¬ NT H D := NT.non hD
    have hdD : p.w.hd ≠ some D := fun e => hnt (wd.dom D (wd.hand D e).1)
    obtain ⟨wd1, rel1⟩ := new_avoid (o := .dK []) wd rel hD (fun _ q => by cases q)
    refine ⟨fun b => A b ∨ b = D, env, h, ln, rel1, wd1, SimG.av s (Ext.upd hD) (fun b q => .inl q) (fun b e => (wd.hand b e).1) fun a h1 y H1 e1 x1 w1 r1 => ?_⟩
    rw [e1] at s
    have s : SimG p.w p.W A (RpE p.w A) ((p.ev xv env h1).bind fun b h => match a.1, b.1 with
      | .d k, .d v => match keyS k with
        | true => .ok (.d (.dict [(k, v)]), true) h
        | false => .no
      | _, _ => .no) σ H Q := s
    refine ⟨fun b => A b ∨ b = D, env, h1, ln, rel1.ext x1 wd1, w1, SimG.av s ((Ext.upd hD).trans x1) (fun b q => .inl q) (fun b e => (wd.hand b e).1) fun b h2 z H2 e2 x2 w2 r2 => ?_⟩
    rw [e2] at s
    obtain ⟨v1, f1⟩ := a
    obtain ⟨v2, f2⟩ := b
    cases v1 with
    | d k =>
      cases v2 with
      | d v =>
        have s : SimG p.w p.W A (RpE p.w A) (match keyS k with
          | true => .ok (.d (.dict [(k, v)]), true) h2
          | false => .no) σ H Q := s
        cases hks : keyS k with
        | false => rw [hks] at s; exact s.elim
        | true =>
          rw [hks] at s
          obtain ⟨j, rfl⟩ := keyS_of hks
          have hD2 : H2 D = some (.dK []) := x2.keep _ _ (x1.keep _ _ upd_same (fun _ q => by cases q) hdD) (fun _ q => by cases q) hdD
          have ky : y = kV j := dK_v (show DRep H1 _ (dK j) y from r1.1)
          subst ky
          refine ⟨hD2, [(j, z)], rfl, by show 1 ≤ 15; decide, ?_⟩
          have x02 : Ext p.w.hd H H2 := ((Ext.upd hD).trans x1).trans x2
          have xF : Ext p.w.hd H (upd H2 D (.dK [(j, z)])) := ⟨fun b o q1 q2 q3 => by
              rw [upd_ne (fun q => hnt (by rw [← q]; exact ⟨o, q1, q2⟩))]
              exact x02.keep b o q1 q2 q3, fun b q => nt_wr0 (x02.dom b q)⟩
          have nt : ∀ vs, H2 D ≠ some (.tup vs) := fun _ q => by rw [hD2] at q; cases q
          refine s _ _ xF ?_ ⟨⟨D, rfl, fun q => hnt (wd.dom D q), .inl ⟨[(j, z)], upd_same, j, z, [], rfl, rfl, ?_, rfl⟩⟩, fun _ a _ q => by cases q; exact hnt⟩
          · refine ⟨fun a ea => ?_, wd.out, fun b hb => nt_wr0 (w2.ins b hb), fun b hb => nt_wr0 (w2.dom b (.inl hb)), tabs_wr hD2 (fun _ q => by cases q) (fun _ _ q => by cases q) w2.tabs, (wd.bs.ext xF)⟩
            obtain ⟨q1, q2, us, q3, q4⟩ := w2.hand a ea
            exact ⟨(wd.hand a ea).1, q2, us, by rw [upd_ne (fun q => hdD (by rw [← q]; exact ea))]; exact q3, q4.wr (w2.out D (.inr rfl)) nt⟩
          · exact DRep.mono' (fun b q => .inl q) (DRep.wr (o := .dK [(j, z)]) (.inr rfl) nt (show DRep H2 _ v z from r2.1))
      | _ => exact s.elim
    | _ => exact s.elim) fun _ => rfl
/-! dict([..]) -/
theorem pairs_rep {H : Hp} {A : Addr → Prop} : ∀ {xs : List PyData} {vs : List V} {acc out : List (PyData × PyData)}, DRepL H A xs vs → pairsS xs acc = some out →
    ∃ (ps : List Addr) (kvs : List (Key × V)), vs = ps.map V.ref ∧ Paired (fun p kv => SqT X.K H p [kV kv.1, kv.2]) ps kvs ∧ ∀ ks, DRepK H A acc ks → DRepK H A out (kvs.foldl (fun acc kv => putK acc kv.1 kv.2) ks)
  | [], vs, acc, out, r, e => by
    cases (show vs = [] from r)
    cases e
    exact ⟨[], [], rfl, .nil, fun ks h => h⟩
  | x :: xs, vs, acc, out, r, e => by
    obtain ⟨v, t, rfl, h1, h2⟩ := r
    cases x with
    | tuple l =>
      match l, e with
      | [k, y], e =>
        have e : (match keyS k with
          | true => pairsS xs (dictPut acc k y)
          | false => none) = some out := e
        cases hk : keyS k with
        | false => rw [hk] at e; cases e
        | true =>
          rw [hk] at e
          obtain ⟨j, rfl⟩ := keyS_of hk
          obtain ⟨a, ws, rfl, h3, h4⟩ := h1
          obtain ⟨u, z, rfl, h5, h6⟩ := h4.two
          have := dK_v h5
          subst this
          obtain ⟨ps, kvs, q1, q2, q3⟩ := pairs_rep h2 e
          exact ⟨a :: ps, (j, z) :: kvs, by rw [q1]; rfl, .cons (.of h3) q2, fun ks r => q3 _ (r.put h6 j)⟩
      | [], e => cases e
      | [_], e => cases e
      | _ :: _ :: _ :: _, e => cases e
    | _ => cases e
theorem c_dict (hc : X.calm = true) : CallR X (.type "dict") (rPrim .dict) := by
  intro pins s σ H xs us Q I rv ⟨A, ds, d, dm, r, e, q⟩
  obtain ⟨x, rfl⟩ := one_of rfl (fun x y r => by cases x <;> rfl) e
  obtain ⟨v, rfl, h⟩ := r.one
  cases x <;> simp only [primD, reduceCtorEq] at e
  rename_i zs
  obtain ⟨out, ho, rfl⟩ := map_some e
  obtain ⟨a, vs, rfl, _, ha, ra⟩ := h
  obtain ⟨ps, kvs, rfl, q2, q3⟩ := pairs_rep (X := X) ra ho
  refine call_dictP hc pins s σ H _ us Q I rv ⟨a, ps, kvs, rfl, .of ha, q2, fun p hp => ?_⟩
  have hnt : ¬ NT H p := NT.non hp
  refine q _ _ (same_upd hp) ⟨p, rfl, fun z => hnt (dm p z), .inl ⟨_, upd_same, ?_⟩⟩ fun _ a _ z => by cases z; exact hnt
  exact DRepK.same (same_upd hp) (q3 [] rfl)
/-! {k: v for ..} -/
theorem dc_it {J : It} {n : Nat} {G : Hp → Prop} {Y : Nat → Hp → V → Hp → Prop} (w : Walk J n G Y) {g : TG} {tt : TT} {tk tv : TE} {vs : List Nat} {σ : L2.St} {H1 : Hp} {D : Addr} {Qd : Hp → Prop} (Pv : Nat → Hp → Prop) (h0 : Pv 0 (upd H1 D (.dK []))) (hG : ∀ i H, i ≤ n → Pv i H → G H)
    (hs : ∀ i x H H', i < n → Pv i H → Y i H x H' → g x (wipe σ vs) H' fun σ2 H2 => wipe σ2 vs = wipe σ vs ∧ tt σ2 H2 fun b H3 =>
      if b = true then tk σ2 H3 fun y H4 => tv σ2 H4 fun z H5 => ∃ kvs k, y = kV k ∧ H5 D = some (.dK kvs) ∧ kvs.length < sizeLine ∧ Pv (i + 1) (upd H5 D (.dK (putK kvs k z))) else Pv (i + 1) H3) (hd : ∀ H, Pv n H → Qd H) :
    ∃ W : Nat → Nat → Hp → Prop, (∃ m, W 0 m (upd H1 D (.dK []))) ∧ ∀ i m H, W i m H →
      (J.stop i H ∧ Qd H) ∨ (J.go i H ∧ ∃ Nx : Hp → Prop, (∀ H', Nx H' → ∃ m', m' < m ∧ W (i + 1) m' H') ∧ ∀ x H', J.yld i H x H' → g x (wipe σ vs) H' fun σ2 H2 => wipe σ2 vs = wipe σ vs ∧ tt σ2 H2 fun b H3 =>
        if b = true then tk σ2 H3 fun y H4 => tv σ2 H4 fun z H5 => ∃ kvs k, y = kV k ∧ H5 D = some (.dK kvs) ∧ kvs.length < sizeLine ∧ Nx (upd H5 D (.dK (putK kvs k z))) else Nx H3) := by
  refine ⟨fun i m H => m = n - i ∧ i ≤ n ∧ Pv i H, ⟨n, by simp, Nat.zero_le _, h0⟩, ?_⟩
  rintro i m H ⟨rfl, hi, p⟩
  have q := hG i H hi p
  by_cases hlt : i < n
  · refine .inr ⟨w.goes i H hlt q, Pv (i + 1), fun H' p' => ⟨n - (i + 1), by omega, rfl, hlt, p'⟩, fun x H' y => hs i x H H' hlt p (w.yields i H x H' hlt q y)⟩
  · have e : i = n := by omega
    subst e
    exact .inl ⟨w.stops H q, hd H p⟩
def dcStep (p : Pm) (t : T) (xc xk xv : Pv.X) (env : Pv.Env) (x : PyData) (h : HS) : R (Option (PyData × PyData)) := match bindT t x env with
  | some env' => (evC p.C p.th p.hot xc env' h).bind fun b h => match b with
    | true => (p.ev xk env' h).bind fun a h => (p.ev xv env' h).bind fun y h => match a.1, y.1 with
      | .d a, .d y => .ok (some (a, y)) h
      | _, _ => .no
    | false => .ok none h
  | none => .no
def DcK (w : Wo) (A : Addr → Prop) (H1 : Hp) (D : Addr) (Q : VK) (r : R (List (PyData × PyData))) : Prop := match r with
  | .ok ys h' => ∀ H', Ext w.hd H1 H' → Wd w A H' h' → DRep H' A (.dict ys) (.ref D) → Q (.ref D) H'
  | _ => False
structure DcI (p : Pm) (t : T) (xc xk xv : Pv.X) (A : Addr → Prop) (env : Pv.Env) (H1 : Hp) (D : Addr) (xs : List PyData) (Q : VK) (i : Nat) (H2 : Hp) : Prop where
  ext : Ext p.w.hd H1 H2
  run : ∃ h2 acc accV, Wd p.w (fun b => A b ∨ b = D) H2 h2 ∧ H2 D = some (.dK accV) ∧ DRepK H2 (fun b => A b ∨ b = D) acc accV ∧ accV.length ≤ i ∧ DcK p.w A H1 D Q (dcLoop (dcStep p t xc xk xv env) (xs.drop i) h2 acc)
theorem dc_core2 {A : Addr → Prop} {env : Pv.Env} {h1 : HS} {σ : L2.St} {H1 : Hp} {Q : VK} {xs : List PyData} {rt : List (PyData × V)} {J : It} {D : Addr} {t : T} {xc xk xv : Pv.X} {vs V' : List Nat} (sc : Src J xs rt) (hvs : ∀ i, i ∈ vs ↔ i ∈ tv t) (hV : ∀ i ∈ vars xc ++ (vars xk ++ vars xv), i ∈ V') (ht : ∀ i ∈ tv t, i < p.n)
    (ln : σ.length = p.n ∧ env.length = p.n) (rel : Rel p.w A V' σ H1 env) (wd : Wd p.w A H1 h1) (rts : Roots H1 A rt) (hD : H1 D = none) (hsz : xs.length ≤ lineN) (hk : DcK p.w A H1 D Q (dcLoop (dcStep p t xc xk xv env) xs h1 [])) :
    ∃ W : Nat → Nat → Hp → Prop, (∃ m, W 0 m (upd H1 D (.dK []))) ∧ ∀ i m H, W i m H →
      (J.stop i H ∧ Q (.ref D) H) ∨ (J.go i H ∧ ∃ Nx : Hp → Prop, (∀ H', Nx H' → ∃ m', m' < m ∧ W (i + 1) m' H') ∧ ∀ x H', J.yld i H x H' → gT t x (wipe σ vs) H' fun σ2 H2 => wipe σ2 vs = wipe σ vs ∧ tG p.w p.n noW (vars xc ++ (vars xk ++ vars xv)) (fun _ => RpB) (fun env h => evC p.C p.th p.hot xc env h) σ2 H2 fun b H3 =>
        if b = true then tE p.w p.n noW (vars xc ++ (vars xk ++ vars xv)) (p.ev xk) σ2 H3 fun y H4 => tE p.w p.n noW (vars xc ++ (vars xk ++ vars xv)) (p.ev xv) σ2 H4 fun z H5 => ∃ kvs k, y = kV k ∧ H5 D = some (.dK kvs) ∧ kvs.length < sizeLine ∧ Nx (upd H5 D (.dK (putK kvs k z))) else Nx H3) := by
  have hnt : ¬ NT H1 D := NT.non hD
  have hdD : ∀ b, p.w.hd = some b → b ≠ D := fun b e q => by
    subst q
    exact hnt (wd.dom b (wd.hand b e).1)
  have hin : HdIn p.w.hd (fun b => A b ∨ b = D) H1 := ⟨fun b e => ⟨.inl (wd.hand b e).1, (wd.in.hd b e).2⟩⟩
  have wide1 : ∀ {d x}, DRep H1 A d x → DRep H1 (fun b => A b ∨ b = D) d x := fun {d x} r => DRep.wide (fun b nb q => q.elim (fun q => q) fun q => absurd (q ▸ nb) hnt) d x r
  have wide2 : ∀ {H2}, Ext p.w.hd H1 H2 → Roots H2 (fun b => A b ∨ b = D) rt := fun {H2} x q hq => (wide1 (rts q hq)).ext x hin
  have relW : ∀ {H2}, Ext p.w.hd H1 H2 → Rel p.w (fun b => A b ∨ b = D) V' σ H2 env := fun {H2} x i v o hi e => by
    obtain ⟨y, q1, q2⟩ := rel i v o hi e
    exact ⟨y, q1, VRep.ext x hin (VRep.wide (fun b nb q => q.elim (fun q => q) fun q => absurd (q ▸ nb) hnt) q2)⟩
  have wk : Walk J xs.length (fun H => Roots H (fun b => A b ∨ b = D) rt) (fun i H x H' => ∃ d, xs[i]? = some d ∧ Same H H' ∧ DRep H' (fun b => A b ∨ b = D) d x) :=
    ⟨fun i H hi r => sc.go i H _ hi r, fun H r => sc.stop H _ r, fun i H x H' hi r y => sc.yld i H _ x H' hi r y⟩
  have extD : ∀ {H2 o}, Ext p.w.hd H1 H2 → Ext p.w.hd H1 (upd H2 D (.dK o)) := fun {H2 o} x => ⟨fun b u e n q => by
      rw [upd_ne (fun z => hnt (by subst z; exact ⟨u, e, n⟩))]
      exact x.keep b u e n q, fun b nb => nt_wr0 (x.dom b nb)⟩
  have wdW : ∀ {H2 h2 vs ws}, Ext p.w.hd H1 H2 → Wd p.w (fun b => A b ∨ b = D) H2 h2 → H2 D = some (.dK vs) → Wd p.w (fun b => A b ∨ b = D) (upd H2 D (.dK ws)) h2 := fun {H2 h2 vs ws} x2 w2 e => by
    refine ⟨fun a ea => ?_, w2.out, fun b hb => nt_wr0 (w2.ins b hb), fun b hb => nt_wr0 (w2.dom b hb), tabs_wr e (fun _ q => by cases q) (fun _ _ q => by cases q) w2.tabs, w2.bs.fin fun B AB e => (wd.bs B AB e).1.trans (extD x2)⟩
    obtain ⟨q1, q2, us, q3, q4⟩ := w2.hand a ea
    refine ⟨q1, q2, us, ?_, q4.wr (w2.out D (.inr rfl)) (fun _ q => by rw [e] at q; cases q)⟩
    rw [upd_ne (hdD a ea)]
    exact q3
  refine dc_it wk (Qd := fun H => Q (.ref D) H) (DcI p t xc xk xv A env H1 D xs Q) ?_ (fun i H hi I => wide2 I.ext) (fun i x H H' hi I y => ?_) (fun H I => ?_)
  · refine ⟨Ext.upd hD, h1, [], [], ?_, upd_same, rfl, Nat.zero_le _, by simpa using hk⟩
    exact (new_avoid wd rel hD (fun _ q => by cases q)).1
  · obtain ⟨d, hd, sm, rd⟩ := y
    obtain ⟨x1, h2, acc, accV, w2, hv, ra, hl, hk2⟩ := I
    have hdr : xs.drop i = d :: xs.drop (i + 1) := by
      obtain ⟨q1, q2⟩ := List.getElem?_eq_some_iff.mp hd
      rw [List.drop_eq_getElem_cons q1, q2]
    rw [hdr] at hk2
    unfold dcLoop at hk2
    unfold dcStep at hk2
    cases hb : bindT t d env with
    | none => simp only [hb] at hk2; exact hk2.elim
    | some env' =>
      simp only [hb] at hk2
      have w3 : Wd p.w (fun b => A b ∨ b = D) H' h2 := w2.same sm
      have x3 : Ext p.w.hd H1 H' := x1.trans (Ext.of_same sm)
      have hv3 : H' D = some (.dK accV) := sm _ _ hv
      have ra3 := DRepK.same sm ra
      refine ⟨_, d, env, env', rd, hb, fun i hi => by rw [wipe_length, ln.1]; exact ht i hi, fun σ' bd => ⟨wipe_same bd.len fun i hi => bd.out i fun q => hi ((hvs i).mpr q), ?_⟩⟩
      have rel' : Rel p.w (fun b => A b ∨ b = D) (vars xc ++ (vars xk ++ vars xv)) σ' H' env' := rel_bnd hvs (relW x3) hb bd rd hV (ln.1.trans ln.2.symm)
      have ln' : σ'.length = p.n ∧ env'.length = p.n := ⟨by rw [bd.len, wipe_length]; exact ln.1, by rw [bindT_len t d env env' hb]; exact ln.2⟩
      refine ⟨_, env', h2, ln', rel', w3, ?_⟩
      revert hk2
      show _ → SimG _ _ _ _ (evC p.C p.th p.hot xc env' h2) _ _ _
      cases evC p.C p.th p.hot xc env' h2 with
      | no => exact fun s => s.elim
      | ex c y h3 => exact fun s => s.elim
      | ok b h3 =>
        intro hk2 b' H4 x4 w4 hb'
        cases hb'
        have x14 := x3.trans x4
        have hv4 : H4 D = some (.dK accV) := x4.keep _ _ hv3 (fun _ q => by cases q) (fun q => hdD D q rfl)
        have ra4 : DRepK H4 _ acc accV := DRepK.mono (fun _ q => q) (x4.tup w3.in) (x4.mut w3.in) _ _ ra3
        cases b with
        | false => exact ⟨x14, h3, acc, accV, w4, hv4, ra4, by omega, hk2⟩
        | true =>
          refine ⟨_, env', h3, ln', rel'.ext x4 w3, w4, ?_⟩
          revert hk2
          show DcK p.w A H1 D Q (match (Pv.R.bind (p.ev xk env' h3) (fun a h => Pv.R.bind (p.ev xv env' h) fun y h => match a.1, y.1 with
              | .d a, .d y => R.ok (some (a, y)) h
              | _, _ => R.no) : R (Option (PyData × PyData))) with
            | .ok (some (k, v)) h' => (match keyS k with
              | true => dcLoop (dcStep p t xc xk xv env) (xs.drop (i + 1)) h' (dictPut acc k v)
              | false => .no)
            | .ok none h' => dcLoop (dcStep p t xc xk xv env) (xs.drop (i + 1)) h' acc
            | _ => R.no) → SimG _ _ _ _ (p.ev xk env' h3) _ _ _
          cases p.ev xk env' h3 with
          | no => exact fun s => s.elim
          | ex c y h5 => exact fun s => s.elim
          | ok a h5 =>
            intro hk2 kv H5 x5 w5 r5
            have hv5 : H5 D = some (.dK accV) := x5.keep _ _ hv4 (fun _ q => by cases q) (fun q => hdD D q rfl)
            have ra5 : DRepK H5 _ acc accV := DRepK.mono (fun _ q => q) (x5.tup w4.in) (x5.mut w4.in) _ _ ra4
            refine ⟨_, env', h5, ln', (rel'.ext x4 w3).ext x5 w4, w5, ?_⟩
            revert hk2
            show DcK p.w A H1 D Q (match (Pv.R.bind (p.ev xv env' h5) fun y h => match a.1, y.1 with
                | .d a, .d y => R.ok (some (a, y)) h
                | _, _ => R.no : R (Option (PyData × PyData))) with
              | .ok (some (k, v)) h' => (match keyS k with
                | true => dcLoop (dcStep p t xc xk xv env) (xs.drop (i + 1)) h' (dictPut acc k v)
                | false => .no)
              | .ok none h' => dcLoop (dcStep p t xc xk xv env) (xs.drop (i + 1)) h' acc
              | _ => R.no) → SimG _ _ _ _ (p.ev xv env' h5) _ _ _
            cases p.ev xv env' h5 with
            | no => exact fun s => s.elim
            | ex c y h6 => exact fun s => s.elim
            | ok b h6 =>
              intro hk2 zv H6 x6 w6 r6
              obtain ⟨v1, f1⟩ := a
              obtain ⟨v2, f2⟩ := b
              cases v1 with
              | d k =>
                cases v2 with
                | d z =>
                  have hk2 : DcK p.w A H1 D Q (match keyS k with
                    | true => dcLoop (dcStep p t xc xk xv env) (xs.drop (i + 1)) h6 (dictPut acc k z)
                    | false => .no) := hk2
                  cases hks : keyS k with
                  | false => rw [hks] at hk2; exact hk2.elim
                  | true =>
                    rw [hks] at hk2
                    obtain ⟨j, rfl⟩ := keyS_of hks
                    have ky : kv = kV j := dK_v (show DRep H5 _ (dK j) kv from r5.1)
                    have hv6 : H6 D = some (.dK accV) := x6.keep _ _ hv5 (fun _ q => by cases q) (fun q => hdD D q rfl)
                    have ra6 : DRepK H6 _ acc accV := DRepK.mono (fun _ q => q) (x6.tup w5.in) (x6.mut w5.in) _ _ ra5
                    have x16 := (x14.trans x5).trans x6
                    have ntup : ∀ vs, H6 D ≠ some (.tup vs) := fun _ q => by rw [hv6] at q; cases q
                    refine ⟨accV, j, ky, hv6, by have := lineN_eq; omega, extD x16, h6, dictPut acc (dK j) z, putK accV j zv, wdW x16 w6 hv6, upd_same, ?_, by have := length_putK accV j zv; omega, hk2⟩
                    exact (ra6.put (show DRep H6 _ z zv from r6.1) j).wr (.inr rfl) ntup
                | _ => exact hk2.elim
              | _ => exact hk2.elim
  · obtain ⟨x1, h2, acc, accV, w2, hv, ra, hl, hk2⟩ := I
    rw [List.drop_length] at hk2
    unfold dcLoop at hk2
    exact hk2 H x1 (w2.other (fun b e q => (wd.hand b e).1) wd.out (fun b hb => w2.dom b (.inl hb)) (w2.bs.sub fun b hb => .inl hb)) ⟨D, rfl, fun q => hnt (wd.dom D q), .inl ⟨accV, hv, DRepK.mono' (fun b hb => .inl hb) ra⟩⟩
theorem ev_dc {kx vx tg iter : Expr} {ifs : List Expr} {scope : Scope} {own : List (Str × Nat)} {pos : Pos} {t : T} {xs xc xk xv : Pv.X} (hot : p.hot = false) (hc : X.calm = true) (hN : X.N.Nodup) (hi : Ei p X tg iter xs) (ok : BlkOk X.N X.env.scope scope own) (ho : ∀ i, i ∈ own.map (·.2) ↔ i ∈ tv t) (htn : ∀ i ∈ tv t, i < p.n)
    (hg : ∀ (s : Shared) (H : Hp) (C : Addr) (cl : List (Str × Addr)) (fp : List Addr), Eg (X.blk s H scope (compEnvC scope cl C X.env) fp) tg t)
    (ht : ∀ (s : Shared) (H : Hp) (C : Addr) (cl : List (Str × Addr)) (fp : List Addr), Ec p.nox (X.blk s H scope (compEnvC scope cl C X.env) fp) ifs xc)
    (hk : ∀ (s : Shared) (H : Hp) (C : Addr) (cl : List (Str × Addr)) (fp : List Addr), Ev p.nox (X.blk s H scope (compEnvC scope cl C X.env) fp) kx xk)
    (he : ∀ (s : Shared) (H : Hp) (C : Addr) (cl : List (Str × Addr)) (fp : List Addr), Ev p.nox (X.blk s H scope (compEnvC scope cl C X.env) fp) vx xv) (hs : ∀ x, foldedSetIterable iter X.env x = pure x) :
    Ev p X (.DictComp kx vx [⟨tg, iter, ifs, 0⟩] scope pos) (.dc t xs xc xk xv) := by
  have key : ∀ V', Cov (.dc t xs xc xk xv) V' → ∀ σ H (Q : VK), tE p.w p.n p.W V' (p.ev (.dc t xs xc xk xv)) σ H Q →
      tDc (tI p.w p.n p.W V' (p.evS xs)) (gT t) (tG p.w p.n noW (vars xc ++ (vars xk ++ vars xv)) (fun _ => RpB) fun env h => evC p.C p.th p.hot xc env h) (tE p.w p.n noW (vars xc ++ (vars xk ++ vars xv)) (p.ev xk)) (tE p.w p.n noW (vars xc ++ (vars xk ++ vars xv)) (p.ev xv)) (own.map (·.2)) σ H Q := by
    intro V' c σ H Q ⟨A, env, h, ln, rel, wd, s⟩
    unfold Pm.ev evE at s
    rw [hot] at s
    refine ⟨A, env, h, ln, rel, wd, ?_⟩
    revert s
    have e0 : evSrc p.C p.th false xs env h = p.evS xs env h := by unfold Pm.evS; rw [hot]
    show SimG _ _ _ _ (Pv.R.bind (evSrc p.C p.th false xs env h) _) σ H Q → SimG _ _ _ _ (p.evS xs env h) σ H _
    rw [e0]
    cases p.evS xs env h with
    | no => exact fun s => s
    | ex c y h1 => exact fun s => s
    | ok ds h1 =>
      intro s J H1 x1 w1 r1 D hD
      obtain ⟨rt, sc, rts⟩ := r1
      have s : SimG p.w p.W A (RpE p.w A) (match decide (ds.length ≤ lineN) with
        | false => Pv.R.no
        | true => Pv.R.bind (dcLoop (dcStep p t xc xk xv env) ds h1 []) fun ys h => .ok (.d (.dict ys), true) h) σ H Q := by
        unfold dcStep
        rw [hot]
        have ek : p.ev xk = evE p.C p.th false xk := by unfold Pm.ev; rw [hot]
        have ev : p.ev xv = evE p.C p.th false xv := by unfold Pm.ev; rw [hot]
        rw [ek, ev]
        exact s
      cases hz : decide (ds.length ≤ lineN) with
      | false => rw [hz] at s; exact s.elim
      | true =>
        rw [hz] at s
        have s : SimG p.w p.W A (RpE p.w A) (Pv.R.bind (dcLoop (dcStep p t xc xk xv env) ds h1 []) fun ys h => .ok (.d (.dict ys), true) h) σ H Q := s
        refine dc_core2 sc ho (fun i hi => ?_) htn ln (rel.ext x1 wd) w1 rts hD (of_decide_eq_true hz) ?_
        · exact c i (by simp only [vars, List.mem_append] at hi ⊢; rcases hi with hi | hi | hi; exact .inl (.inl (.inr hi)); exact .inl (.inr hi); exact .inr hi)
        · revert s
          have noex : ∀ (f : PyData → HS → R (Option (PyData × PyData))) (l : List PyData) (h : HS) (acc : List (PyData × PyData)), (∃ ys h', dcLoop f l h acc = .ok ys h') ∨ dcLoop f l h acc = .no := by
            intro f l
            induction l with
            | nil => intro h acc; exact .inl ⟨_, _, rfl⟩
            | cons x l ih =>
              intro h acc
              unfold dcLoop
              cases f x h with
              | no => exact .inr rfl
              | ex c y h' => exact .inr rfl
              | ok o h' =>
                cases o with
                | none => exact ih _ _
                | some kv =>
                  obtain ⟨k, v⟩ := kv
                  show (∃ ys h'', (match keyS k with | true => dcLoop f l h' (dictPut acc k v) | false => .no) = .ok ys h'') ∨ (match keyS k with | true => dcLoop f l h' (dictPut acc k v) | false => .no) = .no
                  cases keyS k with
                  | true => exact ih _ _
                  | false => exact .inr rfl
          rcases noex (dcStep p t xc xk xv env) ds h1 [] with ⟨ys, h', e⟩ | e
          · rw [e]
            exact fun s H' x' w' r' => s _ H' (x1.trans x') w' ⟨r', fun _ a _ q => by
              cases q
              exact fun n => NT.non hD (x1.dom D n)⟩
          · rw [e]
            exact fun s => s
  exact .mk' (fun V' c => (pe_dc hc hN (hi.pi V' (fun i q => c i (by simp only [vars, List.mem_append]; exact .inl (.inl (.inl q))))) ok (fun s H C cl fp => (hg s H C cl fp).pg) (fun s H C cl fp => (ht s H C cl fp).pts _ (fun i hi => List.mem_append_left _ hi)) (fun s H C cl fp => (hk s H C cl fp).pe _ (fun i hi => List.mem_append_right _ (List.mem_append_left _ hi))) (fun s H C cl fp => (he s H C cl fp).pe _ (fun i hi => List.mem_append_right _ (List.mem_append_right _ hi))) hs).imp (key V' c)) (fun _ => rfl)
end
end Pv
/-! text S16 -/
set_option autoImplicit false
set_option Elab.async false
set_option linter.all false
set_option maxRecDepth 100000
set_option maxHeartbeats 2000000
namespace Pv
open PySem PySem.Spec PyProof.Rows L2
/-! ### the scope that is written and the one that runs -/
structure ScA (sc rs : Scope) : Prop where
  loc : ∀ x, sc.names.lookup x = some .local → rs.names.lookup x = some .local
  cell : ∀ x, sc.names.lookup x = some .cell → rs.names.lookup x = some .cell
  free : ∀ x, sc.names.lookup x = some .free → rs.names.lookup x = some .cell ∨ rs.names.lookup x = some .free
  glob : ∀ x, sc.names.lookup x = some .globalImplicit → rs.names.lookup x = some .globalImplicit
theorem ScA.refl (sc : Scope) : ScA sc sc := ⟨fun _ h => h, fun _ h => h, fun _ h => .inr h, fun _ h => h⟩
theorem lookup_relS_free {sc : Scope} : ∀ {names : List (Str × NameKind)} {x : Str}, names.lookup x = some .free →
    (names.map fun (n, k) => if (k == NameKind.free && sc.kind == .function && sc.names.lookup n == some .cell) then (n, NameKind.cell) else (n, k)).lookup x = some .cell ∨ (names.map fun (n, k) => if (k == NameKind.free && sc.kind == .function && sc.names.lookup n == some .cell) then (n, NameKind.cell) else (n, k)).lookup x = some .free
  | [], _, h => by simp at h
  | (n, k) :: r, x, h => by
    rw [List.map_cons]
    by_cases e : (x == n) = true
    · rw [List.lookup_cons, e] at h
      have h : k = .free := Option.some.inj h
      subst h
      by_cases q : (NameKind.free == NameKind.free && sc.kind == .function && sc.names.lookup n == some .cell) = true
      · left; simp only [q, if_true, List.lookup_cons, e]
      · right; simp only [q, Bool.false_eq_true, if_false, List.lookup_cons, e]
    · have e : (x == n) = false := by simpa using e
      rw [List.lookup_cons, e] at h
      have := lookup_relS_free (sc := sc) (names := r) h
      by_cases q : (k == NameKind.free && sc.kind == .function && sc.names.lookup n == some .cell) = true
      · simp only [q, if_true, List.lookup_cons, e]; exact this
      · simp only [q, Bool.false_eq_true, if_false, List.lookup_cons, e]; exact this
theorem ScA.rel (scope sc : Scope) : ScA scope (relS scope sc) :=
  ⟨fun x h => lookup_relS_keep (by decide) h, fun x h => lookup_relS_keep (by decide) h, fun x h => lookup_relS_free h, fun x h => lookup_relS_keep (by decide) h⟩
theorem find_at : ∀ {l : List Str} {x : Str} {i : Nat}, find l x = some i → l[i]? = some x ∧ i < l.length := by
  intro l x i h
  unfold find at h
  obtain ⟨h1, h2, _⟩ := List.findIdx?_eq_some_iff_getElem.mp h
  have h2 : l[i] = x := by simpa using h2
  exact ⟨by rw [List.getElem?_eq_getElem h1, h2], h1⟩
/-- where a lambda is handed to: the def's object and what it makes of it -/
def TTof (w : Wo) (g : Thunk → HS → Pv.Res) : (XK → Hp → VK → Prop) → Hp → VK → Prop := fun tl H Q => ∃ A h th, Wd w.fun A H h ∧
  (∀ (E : XK) (H1 : Hp) (h1 : HS) (Q1 : VK) (A1 : Addr → Prop), Ext w.hd H H1 → (∀ b, NT H b → A1 b → A b) → Wd w.fun A1 H1 h1 → SimG w.fun (fun cls d _ H => E cls d H) A1 (RpE w.fun A1) (th h1) [] H1 Q1 → tl E H1 Q1) ∧
  SimG w.fun noW A (RpE w.fun A) (lamEnd (g th h)) [] H Q
def LamTo (w : Wo) (k : Nat) (X : Cx) (x : Str) (g : Thunk → HS → Pv.Res) : Prop :=
  ∃ (a : Str) (ga c P : Addr) (pg : Arguments) (bg : List Stmt) (sg : Scope) (dV kV doc pm cdv ct oc : Value) (an od : Option Addr) (osl : Array (Option Value)) (Ng : List Str),
    X.mg x = some (.ref ga) ∧ PySem.W.keepIn X.K (.ref ga) = true ∧ X.K.lookup ga = some ⟨oc, od, .func (PySem.W.fnOf x x pg bg sg dV kV doc pm an cdv ct), osl⟩ ∧ PySem.W.codeIn X.K cdv x = true ∧
    L2.Binds X.K (PySem.W.fnOf x x pg bg sg dV kV doc pm an cdv ct) [a] [] ∧ FnScope Ng [a] sg ∧ Ng[0]? = some a ∧ Vis sg a ∧ LamX.GivesTo X Ng x sg ga cdv bg a (X.env.qual ++ "<lambda>") (TTof w g) ∧
    LamX.TabB X.base X.mg c P ∧ X.env.code = .ref c ∧ (P, X.env.qual ++ "<lambda>") ∈ w.T ∧ (∀ p ∈ w.T, p.1 = P → p.2 = X.env.qual ++ "<lambda>") ∧ (a == ("__debug__" : Str)) = false ∧ (a == ("__classdict__" : Str)) = false
def bltNames : List Str := ["len", "all", "any", "int", "tuple", "list", "sorted", "min", "max", "abs", "sum", "repr", "isinstance", "bool", "str", "dict", "range", "zip", "enumerate", "ValueError"]
def veMro : List Value := [.type "ValueError", .type "Exception", .type "BaseException", .type "object"]
/-- the error classes, as the written part has them -/
structure ErrOk (G : Top) (w : Wo) (K : PySem.W.Frag) (mg : Str → Option Value) : Prop where
  ad : ∀ x k, find G.cls x = some k → ∃ C, mg x = some (.ref C) ∧ w.cl k = some C
  keep : ∀ k C, w.cl k = some C → PySem.W.keepIn K (.ref C) = true ∧ PySem.W.subIn K (.ref C) (.type "BaseException") = some true ∧ PySem.W.typeIn K (.ref C) = some (.type "type")
  exc : ∀ k C, w.cl k = some C → G.ini.getD k true = false → PySem.W.excIn K C veMro "ValueError.__new__" = true
  exm : ∀ k C j D, w.cl k = some C → w.cl j = some D → PySem.W.exmOne K (.ref C) (.ref D) = some (isErr k (some j))
  exmV : ∀ k C, w.cl k = some C → PySem.W.exmOne K (.ref C) (.type "ValueError") = some true
  kit : ∀ k C j D, w.cl k = some C → w.cl j = some D → PySem.W.kitOne K (.ref C) (.ref D) = some (isErr k (some j))
  kitV : ∀ k C, w.cl k = some C → PySem.W.kitOne K (.ref C) (.type "ValueError") = some true
  isC : ∀ k C, w.cl k = some C → ExcC K C
  xf : ∀ k C f, w.cl k = some C → G.fld = some f → XfC K C ∧ PySem.W.findIn K (.ref C) f = some none
  fl : ∀ k f, G.fld = some f → w.fl k = f
/-- a context in which compiled code runs -/
structure Ctx (c : Cc) (p : Pm) (k : Nat) (X : Cx) : Prop where
  K : X.K = p.w.K
  N : X.N = c.N
  n : p.n = c.N.length
  nd : c.N.Nodup
  sc : ScA c.sc X.env.scope
  fnc : ∀ x, c.sc.names.lookup x = some .cell → X.fn x = true
  hot : p.hot = c.hot
  calm : c.hot = false → X.calm = true
  tk : Takes X p.W
  room : c.hot = false → Room k X.A
  lroom : c.lam = true → c.hot = false → Room (k + 2) X.A
  lamw : c.lam = true → c.hot = false → p.w.fun = p.w
  units : X.A.units + 200 < cLine
  fns : ∀ x f, find c.G.fns x = some f → ∃ fa fd ps, X.mg x = some (.ref fa) ∧ PySem.W.keepIn X.K (.ref fa) = true ∧ Binds X.K fd ps [] ∧ FnOk X.prog X.w X.K X.mg X.base (L2.CX X.prog X.w) k fa fd ps (spOf p.w fun pvs h => p.C f pvs (fun _ => .no) h)
  cst : ∀ x d, c.G.cst.lookup x = some d → ∃ u, X.mg x = some u ∧ RelV (vOf d) u ∧ isTop d = false ∧ ∀ H A, DRep H A d (vOf d)
  nob : ∀ x, bltNames.contains x = true → find c.G.fns x = none → find c.G.cls x = none → c.G.cst.lookup x = none → X.mg x = none
  er : ErrOk c.G p.w X.K X.mg
  thk : ∀ a, c.par = some a → ∀ (p1 p2 : Pos) (V' : List Nat), 0 ∈ V' → PE X (.Call (.Name a p1) [] [] p2) (tE p.w p.n p.W V' (p.ev .thunk))
  lam : c.lam = true → c.hot = false → ∀ x f, find c.G.fns x = some f → isLam x = false → LamTo p.w k X x (fun th h => p.C f [.fn] th h) ∨ ∀ th h, p.C f [.fn] th h = .no
  exF : c.hot = true → ∀ (f : Str) (a : Expr) (xa : Pv.X) (pos : Pos), c.G.fld = some f → isCallE a = false → Ev p X a xa → Ev p X (.Attribute a f pos) (.fld xa)
  exI : c.hot = true → ∀ (t : Str) (k : Option Nat) (a : Expr) (xa : Pv.X) (p1 p2 p3 : Pos), errOf c t = some k → c.cal "isinstance" = .blt → isStarE a = false → Ev p X a xa → Ev p X (.Call (.Name "isinstance" p1) [a, .Name t p2] [] p3) (.isE xa [k])
end Pv
/-! text S17 -/
set_option autoImplicit false
set_option Elab.async false
set_option linter.all false
set_option maxRecDepth 100000
set_option maxHeartbeats 2000000
namespace Pv
open PySem PySem.Spec PyProof.Rows L2
theorem okName_of {x : Str} (h : okName x = true) : (x == ("__debug__" : Str)) = false ∧ (x == ("__classdict__" : Str)) = false ∧ x ≠ "__name__" := by
  unfold okName at h
  simp only [Bool.and_eq_true, Bool.not_eq_true'] at h
  exact ⟨h.1.1, h.1.2, fun e => by rw [e] at h; have := h.2; simp at this⟩
section
variable {c : Cc} {p : Pm} {k : Nat} {X : Cx}
theorem vis_of (ctx : Ctx c p k X) {x : Str} (h : isVis (kindOf c.sc x) = true) : Vis X.env.scope x := by
  unfold kindOf at h
  cases e : c.sc.names.lookup x with
  | none => rw [e] at h; cases h
  | some q =>
    cases q with
    | «local» => exact .inl (ctx.sc.loc x e)
    | cell => exact .inr (.inl (ctx.sc.cell x e))
    | free => exact (ctx.sc.free x e).elim (fun z => .inr (.inl z)) fun z => .inr (.inr z)
    | _ => rw [e] at h; cases h
theorem slot_ok (ctx : Ctx c p k X) {x : Str} {i : Nat} (h : c.slot x = some i) : Vis X.env.scope x ∧ X.N[i]? = some x ∧ (x == ("__debug__" : Str)) = false ∧ (x == ("__classdict__" : Str)) = false := by
  unfold Cc.slot at h
  split at h
  · rename_i q
    simp only [Bool.and_eq_true] at q
    obtain ⟨n1, n2, _⟩ := okName_of q.2
    rw [ctx.N]
    exact ⟨vis_of ctx q.1, (find_at h).1, n1, n2⟩
  · cases h
theorem lslot_ok (ctx : Ctx c p k X) {x : Str} {i : Nat} (h : c.lslot x = some i) : Loc X.env.scope x ∧ X.N[i]? = some x ∧ (X.fn x = true ∨ X.env.scope.names.lookup x = some .local) ∧ i < p.n := by
  unfold Cc.lslot at h
  split at h
  · rename_i q
    simp only [Bool.and_eq_true, Bool.or_eq_true, beq_iff_eq] at q
    rw [ctx.N, ctx.n]
    refine ⟨?_, (find_at h).1, ?_, (find_at h).2⟩
    · rcases q.1 with e | e
      · exact .inl (ctx.sc.loc x e)
      · exact .inr (ctx.sc.cell x e)
    · rcases q.1 with e | e
      · exact .inr (ctx.sc.loc x e)
      · exact .inl (ctx.fnc x e)
  · cases h
theorem glob_ok (ctx : Ctx c p k X) {x : Str} (h : c.glob x = true) : Gl X x ∧ (x == ("__debug__" : Str)) = false ∧ x ≠ "__name__" := by
  unfold Cc.glob at h
  simp only [Bool.and_eq_true, beq_iff_eq] at h
  obtain ⟨n1, n2, n3⟩ := okName_of h.2
  exact ⟨ctx.sc.glob x h.1, n1, n3⟩
theorem blt_ok (ctx : Ctx c p k X) {x : Str} (h : blt c x = true) (hx : bltNames.contains x = true) : Gl X x ∧ X.mg x = none ∧ (x == ("__debug__" : Str)) = false ∧ x ≠ "__name__" := by
  unfold blt at h
  simp only [Bool.and_eq_true, Option.isNone_iff_eq_none] at h
  obtain ⟨q1, q2, q3⟩ := glob_ok ctx h.1.1.1
  exact ⟨q1, ctx.nob x hx h.1.1.2 h.1.2 h.2, q2, q3⟩
theorem hot_no {q : Prim} {e : Expr} {xs : Pv.X} (h : (p.hot && !primCalm q) = true) : Ev p X e (.prim q xs) := Ev.no fun env h' => by
  unfold Pm.ev evE
  rw [h]
theorem calm_of (ctx : Ctx c p k X) {q : Prim} (h : (p.hot && !primCalm q) = false) (hq : primCalm q = false) : X.calm = true := by
  rw [hq] at h
  have : p.hot = false := by simpa using h
  exact ctx.calm (by rw [← ctx.hot]; exact this)
theorem ite_cases {α : Type} {b : Bool} {x y : Option α} {q : α} (h : (if b = true then x else y) = some q) : (b = true ∧ x = some q) ∨ (b = false ∧ y = some q) := by
  cases b with
  | true => exact .inl ⟨rfl, h⟩
  | false => exact .inr ⟨rfl, h⟩
theorem prim_ok (ctx : Ctx c p k X) {x : Str} {es : List Expr} {q : Prim} {xs : Pv.X} {p1 p2 : Pos} (hb : blt c x = true) (h : primOf x es.length = some q) (hst : ∀ a ∈ es, isStar a = false) (he : EvL p X es xs) : Ev p X (.Call (.Name x p1) es [] p2) (.prim q xs) := by
  cases es with
  | nil => simp [primOf] at h
  | cons e es =>
    cases hh : (p.hot && !primCalm q) with
    | true => exact hot_no hh
    | false =>
      unfold primOf at h
      have go : ∀ {y : Str} {id : String}, (x == y) = true → bltNames.contains y = true → bootBuiltins y = some (.builtin id) → CallR X (.builtin id) (rPrim q) → Ev p X (.Call (.Name x p1) (e :: es) [] p2) (.prim q xs) := fun {y id} e1 hy hv hc => by
        have e1 : x = y := by simpa using e1
        subst e1
        obtain ⟨g1, g2, g3, g4⟩ := blt_ok ctx hb hy
        exact ev_primB hc g1 g2 hv g4 g3 hst he
      have goT : ∀ {y : Str} {id : String}, (x == y) = true → bltNames.contains y = true → bootBuiltins y = some (.type id) → CallR X (.type id) (rPrim q) → Ev p X (.Call (.Name x p1) (e :: es) [] p2) (.prim q xs) := fun {y id} e1 hy hv hc => by
        have e1 : x = y := by simpa using e1
        subst e1
        obtain ⟨g1, g2, g3, g4⟩ := blt_ok ctx hb hy
        exact ev_primT hc g1 g2 hv g4 g3 hst he
      rcases ite_cases h with ⟨z, h⟩ | ⟨_, h⟩
      · cases h; exact go (Bool.and_eq_true_iff.mp z).1 (by rfl) (by rfl) c_len
      rcases ite_cases h with ⟨z, h⟩ | ⟨_, h⟩
      · cases h; exact go (Bool.and_eq_true_iff.mp z).1 (by rfl) (by rfl) (c_all (calm_of ctx hh rfl))
      rcases ite_cases h with ⟨z, h⟩ | ⟨_, h⟩
      · cases h; exact go (Bool.and_eq_true_iff.mp z).1 (by rfl) (by rfl) (c_any (calm_of ctx hh rfl))
      rcases ite_cases h with ⟨z, h⟩ | ⟨_, h⟩
      · cases h; exact goT (Bool.and_eq_true_iff.mp z).1 (by rfl) (by rfl) c_int
      rcases ite_cases h with ⟨z, h⟩ | ⟨_, h⟩
      · cases h; exact goT (Bool.and_eq_true_iff.mp z).1 (by rfl) (by rfl) c_tuple
      rcases ite_cases h with ⟨z, h⟩ | ⟨_, h⟩
      · cases h; exact goT (Bool.and_eq_true_iff.mp z).1 (by rfl) (by rfl) (c_list (calm_of ctx hh rfl))
      rcases ite_cases h with ⟨z, h⟩ | ⟨_, h⟩
      · cases h; exact go (Bool.and_eq_true_iff.mp z).1 (by rfl) (by rfl) (c_sorted (calm_of ctx hh rfl) ctx.units)
      rcases ite_cases h with ⟨z, h⟩ | ⟨_, h⟩
      · cases h; exact go (Bool.and_eq_true_iff.mp z).1 (by rfl) (by rfl) (c_min1 (calm_of ctx hh rfl) ctx.units)
      rcases ite_cases h with ⟨z, h⟩ | ⟨_, h⟩
      · cases h; exact go (Bool.and_eq_true_iff.mp z).1 (by rfl) (by rfl) (c_max1 (calm_of ctx hh rfl) ctx.units)
      rcases ite_cases h with ⟨z, h⟩ | ⟨_, h⟩
      · cases h; exact go (Bool.and_eq_true_iff.mp z).1 (by rfl) (by rfl) (c_min2 (calm_of ctx hh rfl))
      rcases ite_cases h with ⟨z, h⟩ | ⟨_, h⟩
      · cases h; exact go (Bool.and_eq_true_iff.mp z).1 (by rfl) (by rfl) (c_max2 (calm_of ctx hh rfl))
      rcases ite_cases h with ⟨z, h⟩ | ⟨_, h⟩
      · cases h; exact go (Bool.and_eq_true_iff.mp z).1 (by rfl) (by rfl) c_abs
      rcases ite_cases h with ⟨z, h⟩ | ⟨_, h⟩
      · cases h; exact go (Bool.and_eq_true_iff.mp z).1 (by rfl) (by rfl) (c_sum (calm_of ctx hh rfl))
      rcases ite_cases h with ⟨z, h⟩ | ⟨_, h⟩
      · cases h; exact goT (Bool.and_eq_true_iff.mp z).1 (by rfl) (by rfl) (c_dict (calm_of ctx hh rfl))
      rcases ite_cases h with ⟨z, h⟩ | ⟨_, h⟩
      · cases h; exact go (Bool.and_eq_true_iff.mp z).1 (by rfl) (by rfl) c_repr
      · cases h
theorem isa_ok (ctx : Ctx c p k X) {t : Str} {e : Expr} {q : Prim} {xe : Pv.X} {p1 p2 p3 : Pos} (hb : blt c "isinstance" = true) (h : isaOf c t = some q) (hst : isStar e = false) (he : Ev p X e xe) : Ev p X (.Call (.Name "isinstance" p1) [e, .Name t p2] [] p3) (.prim q (.cons xe .nil)) := by
  obtain ⟨g1, g2, _, _⟩ := blt_ok ctx hb (by rfl)
  unfold isaOf at h
  split at h
  · rename_i ht
    unfold isiOf at h
    have go : ∀ {y : Str} {T : String}, (t == y) = true → bltNames.contains y = true → bootBuiltins y = some (.type T) → CallR X (.builtin "isinstance") (rIsa q T) → (∀ d d', primD q [d] = some d' → ∃ b, d' = .bool b) → Ev p X (.Call (.Name "isinstance" p1) [e, .Name t p2] [] p3) (.prim q (.cons xe .nil)) := fun {y T} e1 hy hv hc hp => by
      have e1 : t = y := by simpa using e1
      subst e1
      obtain ⟨f1, f2, f3, f4⟩ := blt_ok ctx ht hy
      exact ev_isa hp hc g1 g2 f1 f2 hv f4 f3 hst he
    rcases ite_cases h with ⟨z, h⟩ | ⟨_, h⟩
    · cases h; exact go z (by rfl) (by rfl) c_isInt fun d d' e => by cases e; exact ⟨_, rfl⟩
    rcases ite_cases h with ⟨z, h⟩ | ⟨_, h⟩
    · cases h; exact go z (by rfl) (by rfl) c_isBool fun d d' e => by cases e; exact ⟨_, rfl⟩
    rcases ite_cases h with ⟨z, h⟩ | ⟨_, h⟩
    · cases h; exact go z (by rfl) (by rfl) c_isStr fun d d' e => by cases e; exact ⟨_, rfl⟩
    rcases ite_cases h with ⟨z, h⟩ | ⟨_, h⟩
    · cases h; exact go z (by rfl) (by rfl) c_isTuple fun d d' e => by cases e; exact ⟨_, rfl⟩
    rcases ite_cases h with ⟨z, h⟩ | ⟨_, h⟩
    · cases h; exact go z (by rfl) (by rfl) c_isList fun d d' e => by cases e; exact ⟨_, rfl⟩
    rcases ite_cases h with ⟨z, h⟩ | ⟨_, h⟩
    · cases h; exact go z (by rfl) (by rfl) c_isDict fun d d' e => by cases e; exact ⟨_, rfl⟩
    · cases h
  · cases h
theorem mth_ok (ctx : Ctx c p k X) {m : Str} {q : Mth} {o e : Expr} {xo xe : Pv.X} {p1 p2 : Pos} (h : mthOf m 1 = some q) (hc : isCallE o = false) (hl : (p1.endLine == p2.line) = true) (hst : isStar e = false) (ho : Ev p X o xo) (he : Ev p X e xe) : Ev p X (.Call (.Attribute o m p1) [e] [] p2) (.mth q xo (.cons xe .nil)) := by
  unfold mthOf at h
  have hbase : ∀ nm, attributeBase o nm X.env (eval o X.env) = eval o X.env := fun nm => attr_base fun f as kw pos e => by rw [e] at hc; cases hc
  split at h
  · rename_i z; cases h
    have e1 : m = ("count" : Str) := by simpa using (Bool.and_eq_true_iff.mp z).1
    subst e1
    exact ev_mth (.inl rfl) PySem.F.slot_list_count (by rfl) (mt_cnt ctx.units) (hbase _) hl hst ho he
  split at h
  · rename_i z; cases h
    have e1 : m = ("index" : Str) := by simpa using (Bool.and_eq_true_iff.mp z).1
    subst e1
    exact ev_mth (.inr rfl) PySem.F.slot_list_index (by rfl) (mt_idx ctx.units) (hbase _) hl hst ho he
  split at h
  · rename_i z; cases h
    have e1 : m = ("get" : Str) := by simpa using (Bool.and_eq_true_iff.mp z).1
    subst e1
    exact ev_get1 ctx.units (hbase _) hl hst ho he
  split at h
  · rename_i z; simp at z
  · cases h
theorem mth_ok2 (ctx : Ctx c p k X) {m : Str} {q : Mth} {o e f : Expr} {xo xe xf : Pv.X} {p1 p2 : Pos} (h : mthOf m 2 = some q) (hc : isCallE o = false) (hl : (p1.endLine == p2.line) = true) (hst : isStar e = false) (hst2 : isStar f = false) (ho : Ev p X o xo) (he : Ev p X e xe) (hf : Ev p X f xf) : Ev p X (.Call (.Attribute o m p1) [e, f] [] p2) (.mth q xo (.cons xe (.cons xf .nil))) := by
  unfold mthOf at h
  have hbase : ∀ nm, attributeBase o nm X.env (eval o X.env) = eval o X.env := fun nm => attr_base fun f as kw pos e => by rw [e] at hc; cases hc
  split at h
  · rename_i z; simp at z
  split at h
  · rename_i z; simp at z
  split at h
  · rename_i z; simp at z
  split at h
  · rename_i z; cases h
    have e1 : m = ("get" : Str) := by simpa using (Bool.and_eq_true_iff.mp z).1
    subst e1
    exact ev_get2 ctx.units (hbase _) hl hst hst2 ho he hf
  · cases h
end
end Pv
/-! text SL -/
set_option autoImplicit false
set_option Elab.async false
set_option linter.all false
set_option maxRecDepth 100000
set_option maxHeartbeats 2000000
/-! a lambda with one parameter `again` that has a default -/
namespace Pv
open PySem PySem.Spec PyProof.Rows L2
/-- what is looked at of the names: the one parameter is its only own name, and no name of the def around -/
structure LamD (N : List Str) (sc scope : Scope) : Prop where
  fun_ : scope.kind = .function
  noco : scope.isCoroutine = false
  nogen : scope.isGenerator = false
  nocell : ∀ y ∈ scope.names, y.2 ≠ .cell
  alone : ∀ y ∈ scope.names, y.2 = .local → y.1 = ("again" : Str)
  par : scope.names.lookup ("again" : Str) = some .local
  out : ("again" : Str) ∉ N
  caps : ∀ y ∈ scope.names, y.2 = .free → sc.names.lookup y.1 = some .cell ∨ sc.names.lookup y.1 = some .free
theorem LamD.has {X : Cx} {N : List Str} {scope : Scope} (L : LamD N X.env.scope scope) (ok : X.Ok) : ∀ y ∈ scope.names, y.2 = .free → ∃ b, X.env.cells.lookup y.1 = some b := by
  intro y hy e
  have z := L.caps y hy e
  exact ok.has _ z
/-- its parameters -/
abbrev agP (pa pd : Pos) (j : Nat) : Arguments := ⟨[], [⟨("again" : Str), none, pa⟩], none, [], [], none, [.Constant (.int 0) j pd]⟩
abbrev agF (q : Str) (ps : Arguments) (body : Expr) (scope : Scope) (cl : List (Str × Addr)) (pm cv ct dv : Value) : FuncData :=
  { PySem.W.kla_fn "<lambda>" q ps body scope cl pm cv ct with defaults := dv }
abbrev agO (q : Str) (ps : Arguments) (body : Expr) (scope : Scope) (cl : List (Str × Addr)) (pm cv ct dv : Value) : Obj :=
  { cls := .type "function", data := .func (agF q ps body scope cl pm cv ct dv) }
section
variable {M : Model} {A : Around} {E : Value → Shared → Prop} {Q : Value → Shared → Prop} {s : Shared}
/-- a function is made, whatever its defaults are: fc tells of its code object -/
theorem tail_any {q : Str} {ps : Arguments} {body : Expr} {scope : Scope} {env : PySem.Env} {P : Addr} {pos : Pos} {ln : Nat} {mg : Str → Option Value} {cl : List (Str × Addr)} {dv : Value} {G : Value → Heap → Prop}
    (e1 : closureFor scope env = pure cl) (e2 : env.globals = mainGlobals) (gs : s.heap.Ns mainGlobals mg) (gP : mainGlobals ≠ P) (bm : s.heap.BuiltinsAt mg P)
    (fc : ∀ (s1 : Shared) (K : Value → Shared → Prop), (∀ b o, s.heap.get? b = some o → s1.heap.get? b = some o) → s.heap.objs.size ≤ s1.heap.objs.size →
      (∀ cv h1 t1, Heap.ExtBut P s1.heap h1 → s1.heap.objs.size ≤ h1.objs.size → G cv h1 → K cv { s1 with heap := h1, toks := t1 }) → wpAny M A (functionCode env pos ln "<lambda>" q ps scope (.expr body)) K E s1)
    (h : ∀ cv ct h1 t1, Heap.ExtBut P s.heap h1 → s.heap.objs.size ≤ h1.objs.size → G cv h1 → Q (.ref h1.objs.size) { s with heap := h1.push (agO q ps body scope cl ((mg "__name__").getD .none) cv ct dv), toks := t1 }) :
    wpAny M A (makeTail "<lambda>" q ps (.expr body) scope env dv .none none pos ln) Q E s := by
  obtain ⟨m, o, k1, k2, k3, k4, k5, k6, k7, k8⟩ := bm
  have rest : ∀ (s1 : Shared) (ct : Value), (∀ b o, s.heap.get? b = some o → s1.heap.get? b = some o) → s.heap.objs.size ≤ s1.heap.objs.size → s1 = { s with heap := s1.heap, toks := s1.toks } →
      wpAny M A (functionCode env pos ln "<lambda>" q ps scope (.expr body)) (fun cv s2 => ∃ h1 t1, s2 = { s with heap := h1, toks := t1 } ∧ Heap.ExtBut P s.heap h1 ∧ s.heap.objs.size ≤ h1.objs.size ∧ G cv h1) E s1 := by
    intro s1 ct ks zs es
    refine fc s1 _ ks zs fun cv h1 t1 x le g => ⟨h1, t1, by rw [es], fun b o hb e => x b o hb (ks b o e), Nat.le_trans zs le, g⟩
  unfold makeTail
  rw [e1, e2]
  refine wpAny_bind (wpAny_pure ?_)
  have last : ∀ (ct cv : Value) (s2 : Shared), (∃ h1 t1, s2 = { s with heap := h1, toks := t1 } ∧ Heap.ExtBut P s.heap h1 ∧ s.heap.objs.size ≤ h1.objs.size ∧ G cv h1) → wpAny M A (do
      let bs ← builtinsFor mainGlobals env.builtins
      let pm := (← nsGet mainGlobals "__name__").getD .none
      let doc ← pure Value.none
      newObj (.type "function") (.func { name := "<lambda>", qualname := q, params := ps, body := .expr body, scope, globals := mainGlobals, closure := cl, closureTuple := ct, code := cv, builtins := bs, defaults := dv, kwdefaults := .none, annotations := none, pyModule := pm, doc })) Q E s2 := by
    rintro ct cv s2 ⟨h1, t1, rfl, x, le, g⟩
    have gs1 := gs.extBut x gP
    refine wpAny_bind (wpAny_builtinsFor gs1 k1 k2 (x _ _ k4 k5) k6 k7 k8 (wpAny_bind (wpAny_nsGet gs1 (wpAny_bind (wpAny_pure ?_)))))
    exact wpAny_newObj_type (h cv ct h1 t1 x le g) (by size_fits)
  cases cl with
  | nil =>
    simp only [List.isEmpty_nil, if_true]
    refine wpAny_bind (wpAny_pure ?_)
    exact wpAny_bind (wpAny_mono (rest s .none (fun _ _ e => e) (Nat.le_refl _) rfl) (fun cv s2 z => last .none cv s2 z) fun _ _ z => z)
  | cons p r =>
    simp only [List.isEmpty_cons, Bool.false_eq_true, if_false]
    refine wpAny_bind (wpAny_newTextTuple ?_)
    exact wpAny_bind (wpAny_mono (rest _ .none (fun b o e => Heap.get?_push_of_some _ e) (by show _ ≤ (s.heap.push _).objs.size; rw [Heap.size_push]; omega) rfl) (fun cv s2 z => last _ cv s2 z) fun _ _ z => z)
end
section
variable {X : Cx} {pins : List (Addr × Obj)} {σ : L2.St} {H : Hp} {s : Shared} {E : Value → Shared → Prop} {Q : Value → Shared → Prop}
theorem nofr_of (I : Inv X pins σ H s) {f : Addr} (hf : s.heap.objs.size ≤ f) : f ∉ frs X.stack := fun z => by
  cases List.mem_cons.mp (I.stkSub _ z) with
  | inl e => exact absurd (e ▸ I.lt) (Nat.not_lt.mpr hf)
  | inr e => exact I.nofs hf e
open LamX in
/-- what stands behind the making of the lambda -/
structure AgMade (X : Cx) (pins : List (Addr × Obj)) (σ : L2.St) (H : Hp) (T : List (Addr × Str)) (ps : Arguments) (body : Expr) (scope : Scope) (f c D : Addr) (H1 : Hp) (s1 : Shared) : Prop where
  inv : Inv X pins σ H1 s1
  ext : ExtN H H1
  tabs : Tabs T H1
  fo : ∃ pm ct, s1.heap.get? f = some (agO (X.env.qual ++ "<lambda>") ps body scope (cloFrom X.env.cells scope.names []) pm (.ref c) ct (.ref D))
  ff : H1 f = none
  fr : f ∉ frs X.stack
  co : H1 c = some (CodeO c (X.env.qual ++ "<lambda>"))
  dobj : ∃ t, s1.heap.get? D = some { cls := .type "tuple", data := .seq #[.int 0 t] }
  df : H1 D = none
  dr : D ∉ frs X.stack
open LamX in
theorem ag_make {T : List (Addr × Str)} {c P : Addr} {pa pd : Pos} {j : Nat} {body : Expr} {scope : Scope} {pos : Pos} (I0 : Inv X pins σ H s) (TB : TabB X.base X.mg c P) (hcode : X.env.code = .ref c)
    (hm : (P, X.env.qual ++ "<lambda>") ∈ T) (hu : ∀ p ∈ T, p.1 = P → p.2 = X.env.qual ++ "<lambda>") (hT : Tabs T H) (hfree : ∀ y ∈ scope.names, y.2 = .free → ∃ b, X.env.cells.lookup y.1 = some b)
    (h : ∀ f c' D H1 s1, AgMade X pins σ H T (agP pa pd j) body scope f c' D H1 s1 → Q (.ref f) s1) : wpAny (model X.prog X.w) X.A (eval (.Lambda (agP pa pd j) body scope pos) X.env) Q E s := by
  rw [arm_eval_Lambda]
  show wpAny _ _ (do let dv ← evalAll [eval (.Constant (.int 0) j pd) X.env]; let kdv ← holding dv (evalAllOpt []); makeFunction "<lambda>" (X.env.qual ++ "<lambda>") (agP pa pd j) (.expr body) scope X.env dv kdv [] pos pos.line) Q E s
  have one : wpAny (model X.prog X.w) X.A (evalAll [eval (.Constant (.int 0) j pd) X.env]) (fun l s1 => ∃ t, l = [.int 0 t] ∧ Inv X pins σ H s1) E s := by
    refine wpAny_bind (wpAny_Constant_int (wpAny_bind (wpAny_holding (wpAny_pure (wpAny_pure ⟨_, rfl, I0.tok _⟩)))))
  refine wpAny_bind (wpAny_mono one ?_ fun _ _ z => z)
  rintro l s0 ⟨t, rfl, I1⟩
  refine wpAny_bind (wpAny_holding (wpAny_pure ?_))
  rw [makeFunction_eq]
  simp only [List.zip_nil_right, List.filterMap_nil, List.isEmpty_nil, List.isEmpty_cons, if_true, Bool.false_eq_true, if_false, pure_bind]
  refine wpAny_bind (wpAny_newTextTuple ?_)
  generalize hD : s0.heap.objs.size = D
  have nD : H D = none := I1.hok.fresh (Nat.le_of_eq hD)
  have rD : D ∉ frs X.stack := nofr_of I1 (Nat.le_of_eq hD)
  have oD : (s0.heap.push { cls := .type "tuple", data := .seq [Value.int 0 t].toArray }).get? D = some { cls := .type "tuple", data := .seq #[.int 0 t] } := by
    rw [← hD]
    exact Heap.get?_push_size _ rfl
  have key : ∀ s2 : Shared, s2.heap.get? D = some { cls := .type "tuple", data := .seq #[.int 0 t] } → Inv X pins σ H s2 → wpAny (model X.prog X.w) X.A (makeTail "<lambda>" (X.env.qual ++ "<lambda>") (agP pa pd j) (.expr body) scope X.env (.ref D) .none none pos pos.line) Q E s2 := by
    intro s2 oD I
    obtain ⟨tb, hP, ht, ha⟩ := hT _ hm
    have hP2 : s2.heap.get? P = some { cls := .none, data := .fields tb } := I.hok P _ hP
    have nP : ∀ b, H b = none → b ≠ P := fun b e z => by
      rw [z, hP] at e
      cases e
    have cdK : ∀ s1 : Shared, (∀ b o, s2.heap.get? b = some o → s1.heap.get? b = some o) → PySem.W.CodeHd s1.heap c P := fun s1 ks => TB.code.keeps fun b o e => ks b o (I.bk b o e)
    cases hc : codeAmong pos tb.toList with
    | some cv =>
      obtain ⟨c', rfl, hco⟩ := ha pos cv hc
      refine tail_any (G := fun w h1 => w = .ref c' ∧ ∀ b o, s2.heap.get? b = some o → h1.get? b = some o) (closure_ok hfree) I.ok.glob (I.mod.glob.keeps I.bk) TB.gP (TB.bm.keeps I.bk) (fun s1 K ks zs go => ?_) fun w ct h1 t1 x le g => ?_
      · exact wpAny_functionCode_hit hcode ((cdK s1 ks).code (ks _ _ hP2) ht) hc (go _ s1.heap s1.toks (fun _ _ _ e => e) (Nat.le_refl _) ⟨rfl, ks⟩)
      · obtain ⟨rfl, kp⟩ := g
        exact h _ c' D H _ {
          inv := I.kept (t' := t1) fun b o e => Heap.get?_push_of_some _ (kp b o e)
          ext := ExtN.refl H
          tabs := hT
          fo := ⟨_, ct, Heap.get?_push_size _ rfl⟩
          ff := I.hok.fresh le
          fr := nofr_of I le
          co := hco
          dobj := ⟨t, Heap.get?_push_of_some _ (kp D _ oD)⟩
          df := nD
          dr := rD }
    | none =>
      refine tail_any (G := fun w h1 => ∃ c', w = .ref c' ∧ s2.heap.objs.size ≤ c' ∧ c' < h1.objs.size ∧ h1.CodeRec (.ref c') (X.env.qual ++ "<lambda>") ∧ h1.get? P = some (PySem.W.tabObj (tb ++ #[rawInt pos.line, rawInt pos.col, .ref c']))) (closure_ok hfree) I.ok.glob (I.mod.glob.keeps I.bk) TB.gP (TB.bm.keeps I.bk) (fun s1 K ks zs go => ?_) fun w ct h1 t1 x le g => ?_
      · exact wpAny_functionCodeX hcode ((cdK s1 ks).code (ks _ _ hP2) ht) ((cdK s1 ks).tab (ks _ _ hP2)) hc fun c' h1 t1 hx hge hlt _ hrec htb _ => go _ h1 t1 hx (Nat.le_trans hge (Nat.le_of_lt hlt)) ⟨c', rfl, Nat.le_trans zs hge, hlt, hrec, htb.2⟩
      · obtain ⟨c', rfl, hge, hlt, ⟨c2, oc, vs, tq, ec, hoc, hd, hv⟩, hm1⟩ := g
        cases ec
        have nC : H c' = none := I.hok.fresh hge
        have I2 := inv_table (t' := t1) (more := #[rawInt pos.line, rawInt pos.col, .ref c']) (h' := h1.push (agO (X.env.qual ++ "<lambda>") (agP pa pd j) body scope (cloFrom X.env.cells scope.names []) ((X.mg "__name__").getD .none) (.ref c') ct (.ref D))) I hP
          (fun b o hb e => Heap.get?_push_of_some _ (x b o hb e)) (Heap.get?_push_of_some _ hm1) hge ⟨oc, vs, tq, Heap.get?_push_of_some _ hoc, hd, hv⟩
        have hx : ExtN H (upd (upd H P (.tbl (tb ++ #[rawInt pos.line, rawInt pos.col, .ref c']))) c' (CodeO c' (X.env.qual ++ "<lambda>"))) := by
          intro b o e n
          have hb : b ≠ P := fun z => by
            rw [z, hP] at e
            exact n tb (Option.some.inj e).symm
          rw [upd_ne (ne_of_none e nC), upd_ne hb]
          exact e
        refine h _ c' D _ _ {
          inv := I2
          ext := hx
          tabs := fun p hp => ?_
          fo := ⟨_, ct, Heap.get?_push_size _ rfl⟩
          ff := ?_
          fr := nofr_of I le
          co := upd_same
          dobj := ⟨t, Heap.get?_push_of_some _ (x D _ (nP D nD) oD)⟩
          df := ?_
          dr := rD }
        · by_cases hb : p.1 = P
          · rw [hu p hp hb, hb]
            refine ⟨_, by rw [upd_ne (ne_of_none hP nC), upd_same], ?_, fun p' cv hcv => ?_⟩
            · rw [Array.toList_append]
              exact PySem.TriplesOk_snoc _ _ _ _ ht
            · rw [Array.toList_append] at hcv
              cases among_app _ ht hcv with
              | inr z => exact ⟨c', z, upd_same⟩
              | inl z =>
                obtain ⟨c0, z1, z2⟩ := ha p' cv z
                exact ⟨c0, z1, hx _ _ z2 codeO_ne⟩
          · obtain ⟨us, a1, a2, a3⟩ := hT p hp
            refine ⟨us, by rw [upd_ne (ne_of_none a1 nC), upd_ne hb]; exact a1, a2, fun p' cv hcv => ?_⟩
            obtain ⟨c0, z1, z2⟩ := a3 p' cv hcv
            exact ⟨c0, z1, hx _ _ z2 codeO_ne⟩
        · have n1 : h1.objs.size ≠ c' := Nat.ne_of_gt hlt
          rw [upd_ne n1, upd_ne (nP _ (I.hok.fresh le))]
          exact I.hok.fresh le
        · have lD : D < s2.heap.objs.size := Heap.lt_size oD
          rw [upd_ne (Nat.ne_of_lt (Nat.lt_of_lt_of_le lD hge)), upd_ne (nP D nD)]
          exact nD
  have I : Inv X pins σ H { s0 with heap := s0.heap.push { cls := .type "tuple", data := .seq [Value.int 0 t].toArray } } := I1.kept (t' := s0.toks) fun b o e => Heap.get?_push_of_some _ e
  exact key _ oD I
end
section
variable {X : Cx} {pins : List (Addr × Obj)} {σ : L2.St} {H HZ : Hp} {s sz : Shared}
theorem Un.cellOf {fs : List Addr} {H H1 : Hp} {h h1 h2 : Heap} (u : Un fs [] H H1 h h1) (kp : ∀ b o, h1.get? b = some o → h2.get? b = some o) {b : Addr} {v : Option Value} (n : H b = none) (c : h.IsCell b v) : h2.IsCell b v := by
  obtain ⟨o, e, d⟩ := c
  obtain ⟨sl, q⟩ := u.any e n List.not_mem_nil
  exact ⟨_, kp b _ q, d⟩
open LamX in
theorem ag_start {A : Around} {outer : List PySem.Env} {E : XK} {scope : Scope} {f c' : Addr} {u : Value} {hh : Heap} {tk : Nat} (I : Inv X pins σ H s) (L : LamD X.N X.env.scope scope) (e0 : Env0 X.prog X.w X.K X.mg X.base A outer sz HZ) (ha : A.handled = none)
    (un : Un (frs X.stack) [] H HZ s.heap sz.heap) (ns : hh.Ns sz.heap.objs.size fun y => [(("again" : Str), u)].reverse.lookup y) (kp : ∀ b o, sz.heap.get? b = some o → hh.get? b = some o) : Inv (lamCx X A outer sz HZ E scope f c') [] σ HZ { sz with heap := hh, toks := tk } := by
  have caps := L.has I.ok
  have back : ∀ {y b}, (cloFrom X.env.cells scope.names []).lookup y = some b → X.env.cells.lookup y = some b := by
    intro y b e
    cases cloFrom_mem (PySem.mem_of_lookup e) with
    | inl m => cases m
    | inr m =>
      obtain ⟨m1, m2⟩ := m
      obtain ⟨b1, hb⟩ := caps _ m1 rfl
      have hb : X.env.cells.lookup y = some b1 := hb
      rw [m2, hb]
      rfl
  have fwd : ∀ {y}, scope.names.lookup y = some .free → ∃ b, (cloFrom X.env.cells scope.names []).lookup y = some b := by
    intro y e
    exact mem_lookup (cloFrom_has (cells := X.env.cells) (acc := []) (PySem.mem_of_lookup e))
  have noex : ∀ b : Addr, b ∉ (lamCx X A outer sz HZ E scope f c').ex := fun b z => List.not_mem_nil (show b ∈ ([] : List Addr) from z)
  have nocell : ∀ {y}, scope.names.lookup y = some .cell → False := fun e => L.nocell _ (PySem.mem_of_lookup e) rfl
  have okZ : (lamCx X A outer sz HZ E scope f c').Ok := {
    mod := e0.mod
    kind := L.fun_
    glob := rfl
    blt := rfl
    above := Nat.le_refl _
    inj := fun y z b e1 e2 => I.ok.inj y z b (back e1) (back e2)
    has := fun y hy => by
      have hy : scope.names.lookup y = some .cell ∨ scope.names.lookup y = some .free := hy
      cases hy with
      | inl z => exact (nocell z).elim
      | inr z => exact fwd z
    cab := fun y b z _ => by
      have z : false = true := z
      cases z
    hd := fun _ => ha
    frames := Around.frames_deeper e0.frames
    stk := .inr ⟨rfl, rfl⟩
    exf := fun b z => (noex b z).elim
    bs := e0.bs
    bsz := e0.bsz
    noex := fun b _ _ => noex b
    exfs := fun b z => (noex b z).elim
    funs := e0.funs
    frf := e0.frf }
  exact {
    ok := okZ
    os := rfl
    bare := e0.bare
    base := Un.kept kp
    loc := by
      refine ⟨_, ns, fun i y v n sv vis => ?_⟩
      have vis : Vis scope y := vis
      rcases vis with k | k | k
      · have e : y = ("again" : Str) := L.alone _ (PySem.mem_of_lookup k) rfl
        rw [e] at n
        exact (L.out (List.mem_of_getElem? n)).elim
      · exact (nocell k).elim
      · obtain ⟨m, hn, hl⟩ := I.loc
        have visX : Vis X.env.scope y := by
          cases L.caps _ (PySem.mem_of_lookup k) rfl with
          | inl q => exact .inr (.inl q)
          | inr q => exact .inr (.inr q)
        obtain ⟨w', r, q⟩ := hl i y v n sv visX
        obtain ⟨b, hb⟩ := fwd k
        have hb1 := back hb
        refine ⟨w', r, .inr ⟨.inr k, b, hb, ?_⟩⟩
        rcases q with ⟨q1, _⟩ | ⟨_, b1, q2, q3⟩
        · have q1 : X.env.scope.names.lookup y = some .local := q1
          cases L.caps _ (PySem.mem_of_lookup k) rfl with
          | inl q =>
            rw [show X.env.scope.names.lookup y = _ from q] at q1
            cases q1
          | inr q =>
            rw [show X.env.scope.names.lookup y = _ from q] at q1
            cases q1
        · rw [hb1] at q2
          cases q2
          exact Un.cellOf un kp (I.freeC y _ hb1) q3
    cell := fun y b e => by
      obtain ⟨w', z⟩ := I.cell y b (back e)
      exact ⟨w', Un.cellOf un kp (I.freeC y b (back e)) z⟩
    free := e0.hok.fresh (Nat.le_refl _)
    freeC := fun y b e => by
      obtain ⟨v, o, ho, _⟩ := I.cell y b (back e)
      exact un.free b o ho (I.freeC y b (back e)) List.not_mem_nil
    pin := fun q hq => (List.not_mem_nil (show q ∈ ([] : List (Addr × Obj)) ++ [] from hq)).elim
    hok := e0.hok.kept kp
    len := I.len }
end
theorem ag_bind {M : Model} {A : Around} {E : Value → Shared → Prop} {Q : List (Str × Value) → Shared → Prop} {s : Shared} {q : Str} {pa pd : Pos} {j : Nat} {body : Expr} {scope : Scope} {cl : List (Str × Addr)} {pm cv ct u : Value} {D : Addr}
    (hD : s.heap.get? D = some { cls := .type "tuple", data := .seq #[u] }) (h : Q [(("again" : Str), u)] s) : wpAny M A (bindArgs (agF q (agP pa pd j) body scope cl pm cv ct (.ref D)) ⟨[], []⟩) Q E s := by
  have form : ∃ k, bindArgs (agF q (agP pa pd j) body scope cl pm cv ct (.ref D)) ⟨[], []⟩ = seqItems? (.ref D) >>= k ∧ k (some #[u]) = pure [(("again" : Str), u)] := ⟨_, rfl, rfl⟩
  obtain ⟨k, e1, e2⟩ := form
  rw [e1]
  refine wpAny_bind (wpAny_seqItems hD rfl ?_)
  rw [e2]
  exact wpAny_pure h
section
variable {X : Cx} {pins : List (Addr × Obj)} {σ : L2.St} {H : Hp} {s : Shared}
open LamX in
/-- a(), in the def that got the lambda -/
theorem ag_act {T : List (Addr × Str)} {H0 : Hp} {Eg : XK} {CXg : CXT} {Ng : List Str} {qg : Str} {sg : Scope} {g f c' D : Addr} {cdg : Value} {pa pd : Pos} {j : Nat} {body : Expr} {scope : Scope} {k i : Nat} {a : Str} {pn : List (Addr × Obj)} {xe : Value → Shared → Prop} {W : WX} {E : XK} {tb : TE} {p1 p2 : Pos}
    (mk : AgMade X pins σ H0 T (agP pa pd j) body scope f c' D H s) (L : LamD X.N X.env.scope scope)
    (tk : Takes ((cxOf CXg X.prog X.w X.K X.mg X.base Ng qg sg g cdg X.A X.stack s H Eg).tr pn xe) W) (hW : ∀ cls d σ' H', E cls d H' → W cls d σ' H') (hr : Room (k + 1) (X.A.deeper (envOfC qg sg s.heap.objs.size g cdg)))
    (hbody : ∀ (A : Around) (outer : List PySem.Env) (s : Shared) (H : Hp), Room k (A.deeper (lamEnv X scope s.heap.objs.size f c')) → PE (lamCx X A outer s H E scope f c') body tb)
    (hN : Ng[i]? = some a) (hv : Vis sg a) (hd : (a == ("__debug__" : Str)) = false) (hcd : (a == ("__classdict__" : Str)) = false) :
    PE ((cxOf CXg X.prog X.w X.K X.mg X.base Ng qg sg g cdg X.A X.stack s H Eg).tr pn xe) (.Call (.Name a p1) [] [] p2)
      (fun τ HZ Q => τ[i]? = some (some (.ref f)) ∧ HZ c' = some (CodeO c' (X.env.qual ++ "<lambda>")) ∧ tb σ HZ Q) := by
  refine ⟨fun pinsZ sZ τ HZ Q IZ ⟨hs, hc, ht⟩ => ?_⟩
  have named := (pe_var (pos := p1) (i := i) hN hv hd hcd).run pinsZ sZ τ HZ (fun v H1 => v = .ref f ∧ H1 = HZ) IZ ⟨.ref f, hs, rfl, rfl⟩
  refine wpAny_Call_Name_kw (thn named fun u s1 ⟨v, H1, I1, r1, ev, eH⟩ => ?_)
  subst ev eH
  obtain rfl : u = Value.ref f := r1
  have un : Un (frs X.stack) [] H H1 s.heap s1.heap := I1.base
  obtain ⟨pm, ct, fo⟩ := mk.fo
  obtain ⟨t, dobj⟩ := mk.dobj
  have fo1 := un.keep f _ fo mk.ff mk.fr List.not_mem_nil
  have do1 := un.keep D _ dobj mk.df mk.dr List.not_mem_nil
  refine PySem.W.callWith_F0 ⟨_, _, _, _, fo1⟩ ?_
  obtain ⟨⟨oc, vs, tq, hoc, hdc, hvc⟩, _, _⟩ := I1.hok c' _ hc
  have inner : codeAny (model X.prog X.w) (X.A.deeper (envOfC qg sg s.heap.objs.size g cdg)) (.call (.ref f) ⟨[], []⟩) (CR (L2.CX X.prog X.w) (envOfC qg sg s.heap.objs.size g cdg :: X.stack) X.prog X.w H1 s1 Q E) s1 := by
    refine PySem.W.kla_callFunE hr.depth fo1 rfl L.noco L.nogen rfl ⟨c', oc, vs, tq, rfl, hoc, hdc, hvc⟩ (ag_bind do1 ?_)
    refine wpAny_newFunctionEnv (fun y hy => L.nocell y hy) (fun y hy => ?_) (fun hh ns sb => ⟨I1.nolimit.fresh _ sb, ?_⟩) L.fun_
    · rw [List.mem_singleton] at hy
      rw [hy]
      exact L.par
    · show codeAny _ _ (.expr body (lamEnv X scope s1.heap.objs.size f c')) _ _
      have kp : ∀ b o, s1.heap.get? b = some o → hh.get? b = some o := fun b o e => sb.extBut b o (Nat.ne_of_lt (Heap.lt_size e)) (Heap.get?_push_of_some _ e)
      have J := ag_start (outer := envOfC qg sg s.heap.objs.size g cdg :: X.stack) (E := E) (f := f) (c' := c') (tk := s1.toks + [(("again" : Str), Value.int 0 t)].length) mk.inv L I1.env0 hr.hd un ns kp
      refine PySem.W.kla_codeExpr (wpAny_mono ((hbody _ _ s1 H1 (hr.deeper _)).run [] _ _ H1 Q J ht) (fun v s2 q2 => ?_) fun e s2 q2 => q2)
      obtain ⟨y, H2, J2, rv, q⟩ := q2
      exact ⟨y, H2, J2.os, J2.bare, J2.base, J2.hok, rv, q⟩
  refine wpAny_call (codeAny_mono inner fun r s2 q2 => ?_)
  cases r with
  | error e => exact passes_call tk hW pinsZ τ H1 s1 e s2 I1 q2
  | ok fl =>
    cases fl with
    | ret u => exact I1.after q2
    | next => exact q2.elim
    | brk => exact q2.elim
    | cont => exact q2.elim
end
section
variable {X : Cx}
open LamX in
/-- x(lambda again=0: body) -/
theorem pe_again {T : List (Addr × Str)} {TT : (XK → Hp → VK → Prop) → Hp → VK → Prop} {x a : Str} {g c P : Addr} {k : Nat} {pg : Arguments} {bg : List Stmt} {sg : Scope} {dV kV doc pm cdv ct oc : Value} {an od : Option Addr} {osl : Array (Option Value)} {Ng : List Str} {pa pd : Pos} {j : Nat} {body : Expr} {scope : Scope} {t : XK → TE} {p lpos pos : Pos}
    (hg : Gl X x) (h1 : X.mg x = some (.ref g)) (h2 : PySem.W.keepIn X.K (.ref g) = true) (h3 : X.K.lookup g = some ⟨oc, od, .func (PySem.W.fnOf x x pg bg sg dV kV doc pm an cdv ct), osl⟩) (h4 : PySem.W.codeIn X.K cdv x = true)
    (h5 : L2.Binds X.K (PySem.W.fnOf x x pg bg sg dV kV doc pm an cdv ct) [a] []) (h6 : FnScope Ng [a] sg) (h7 : Ng[0]? = some a) (h8 : Vis sg a) (h9 : GivesTo X Ng x sg g cdv bg a (X.env.qual ++ "<lambda>") TT) (TB : TabB X.base X.mg c P) (hcode : X.env.code = .ref c)
    (hm : (P, X.env.qual ++ "<lambda>") ∈ T) (hu : ∀ p ∈ T, p.1 = P → p.2 = X.env.qual ++ "<lambda>") (hr : Room (k + 2) X.A) (L : LamD X.N X.env.scope scope)
    (hbody : ∀ (A : Around) (outer : List PySem.Env) (s : Shared) (H : Hp) (E : XK) (f c' : Addr), Room k (A.deeper (lamEnv X scope s.heap.objs.size f c')) → PE (lamCx X A outer s H E scope f c') body (t E))
    (hdb : (x == ("__debug__" : Str)) = false) (hd : (a == ("__debug__" : Str)) = false) (hcd : (a == ("__classdict__" : Str)) = false) : PE X (.Call (.Name x p) [.Lambda (agP pa pd j) body scope lpos] [] pos) (tLam T TT t) := by
  refine ⟨fun pins s σ H Q I ⟨hT, h⟩ => ?_⟩
  refine wpAny_Call_Name_kw (ld_glob I hg h1 ?_ hdb)
  refine PySem.W.callWith_K (h₀ := X.base) I.ok.mod.kin h2 ?_ (by rfl) (by rfl)
  show wpAny _ _ (spliced ((false, eval (.Lambda (agP pa pd j) body scope lpos) X.env) :: backTo pos (starEach [] X.env))) _ _ s
  refine Calls.spliced_cons (ag_make I TB hcode hm hu hT (L.has I.ok) fun f c' D H1 s1 mk => Calls.spliced_nil ⟨mk.inv.kIn, ?_⟩)
  have told : codeAny (model X.prog X.w) X.A (.call (.ref g) ⟨[.ref f], []⟩) (CR C8.CX0 X.stack X.prog X.w H1 s1 Q C8.E0) s1 := by
    refine run_ofS (N := Ng) (ps := [a]) (us := [.ref f]) (vs := [.ref f]) h3 h4 h6 hr mk.inv.env0 (h5 s1 [.ref f] mk.inv.kIn rfl) (.cons rfl .nil) rfl fun hr1 => ?_
    have act := fun (W : WX) (pn : List (Addr × Obj)) (xe : Value → Shared → Prop) (E : XK) (p1 p2 : Pos) tk hW => ag_act (Eg := C8.E0) (CXg := C8.CX0) (i := 0) (p1 := p1) (p2 := p2) (pn := pn) (xe := xe) (W := W) (E := E) mk L tk hW hr1 (fun A outer s H r => hbody A outer s H E f c' r) h7 h8 hd hcd
    obtain ⟨tt, z1, z2⟩ := h9 f c' s1 H1 Q (fun E H' Q' => t E σ H' Q') act mk.co (h H1 mk.ext mk.tabs)
    exact ⟨tt, z1.nox, z2⟩
  refine wpAny_call (codeAny_mono told fun r s2 q2 => ?_)
  cases r with
  | error e => exact False.elim q2
  | ok fl =>
    cases fl with
    | ret u => exact mk.inv.after q2
    | next => exact q2.elim
    | brk => exact q2.elim
    | cont => exact q2.elim
end
end Pv
/-! text S18 -/
set_option autoImplicit false
set_option Elab.async false
set_option linter.all false
set_option maxRecDepth 100000
set_option maxHeartbeats 2000000
namespace Pv
open PySem PySem.Spec PyProof.Rows L2
section
variable {c : Cc} {p : Pm} {k : Nat} {X : Cx}
/-- the context of a comprehension's block -/
theorem Ctx.blk (ctx : Ctx c p k X) (hot : c.hot = false) (scope : Scope) (s : Shared) (H : Hp) (C : Addr) (cl : List (Str × Addr)) (fp : List Addr) : Ctx { c with sc := scope, par := none } p.nox k (X.blk s H scope (compEnvC scope cl C X.env) fp) where
  K := ctx.K
  N := ctx.N
  n := ctx.n
  nd := ctx.nd
  sc := ScA.rel scope X.env.scope
  fnc := fun x h => by
    show (scope.names.lookup x == some .cell) = true
    rw [show scope.names.lookup x = some .cell from h]
    rfl
  hot := ctx.hot
  calm := ctx.calm
  tk := takes_none5
  room := ctx.room
  lroom := ctx.lroom
  lamw := ctx.lamw
  units := ctx.units
  fns := ctx.fns
  cst := ctx.cst
  nob := ctx.nob
  er := ctx.er
  thk := fun a e => by cases e
  lam := ctx.lam
  exF := fun h => by rw [show c.hot = true from h] at hot; cases hot
  exI := fun h => by rw [show c.hot = true from h] at hot; cases hot
/-- the context of a lambda's body -/
theorem Ctx.lamb (ctx : Ctx c p k X) (hot : c.hot = false) {scope : Scope} (L : LamX.LamS X.env.scope scope) {A : Around} {outer : List PySem.Env} {s : Shared} {H : Hp} {E : XK} {f c' : Addr} (hr : Room k (A.deeper (LamX.lamEnv X scope s.heap.objs.size f c'))) :
    Ctx { c with sc := scope, par := none, lam := false } { p with W := fun cls d _ H => E cls d H, th := fun _ => .no } k (LamX.lamCx X A outer s H E scope f c') where
  K := ctx.K
  N := ctx.N
  n := ctx.n
  nd := ctx.nd
  sc := ScA.refl scope
  fnc := fun x h => absurd rfl (L.own _ (PySem.mem_of_lookup (show scope.names.lookup x = some .cell from h))).2
  hot := ctx.hot
  calm := fun _ => rfl
  tk := takes_of (X := LamX.lamCx X A outer s H E scope f c') rfl rfl rfl rfl
  room := fun _ => hr
  lroom := fun h => by cases h
  lamw := fun h => by cases h
  units := by
    have := hr.un
    show (A.deeper (LamX.lamEnv X scope s.heap.objs.size f c')).units + 200 < cLine
    omega
  fns := ctx.fns
  cst := ctx.cst
  nob := ctx.nob
  er := ctx.er
  thk := fun a e => by cases e
  lam := fun h => by cases h
  exF := fun h => by rw [show c.hot = true from h] at hot; cases hot
  exI := fun h => by rw [show c.hot = true from h] at hot; cases hot
theorem Ctx.again (ctx : Ctx c p k X) (hot : c.hot = false) {scope : Scope} (L : LamD X.N X.env.scope scope) {A : Around} {outer : List PySem.Env} {s : Shared} {H : Hp} {E : XK} {f c' : Addr} (hr : Room k (A.deeper (LamX.lamEnv X scope s.heap.objs.size f c'))) :
    Ctx { c with sc := scope, par := none, lam := false } { p with W := fun cls d _ H => E cls d H, th := fun _ => .no } k (LamX.lamCx X A outer s H E scope f c') where
  K := ctx.K
  N := ctx.N
  n := ctx.n
  nd := ctx.nd
  sc := ScA.refl scope
  fnc := fun x h => absurd rfl (L.nocell _ (PySem.mem_of_lookup (show scope.names.lookup x = some .cell from h)))
  hot := ctx.hot
  calm := fun _ => rfl
  tk := takes_of (X := LamX.lamCx X A outer s H E scope f c') rfl rfl rfl rfl
  room := fun _ => hr
  lroom := fun h => by cases h
  lamw := fun h => by cases h
  units := by
    have := hr.un
    show (A.deeper (LamX.lamEnv X scope s.heap.objs.size f c')).units + 200 < cLine
    omega
  fns := ctx.fns
  cst := ctx.cst
  nob := ctx.nob
  er := ctx.er
  thk := fun a e => by cases e
  lam := fun h => by cases h
  exF := fun h => by rw [show c.hot = true from h] at hot; cases hot
  exI := fun h => by rw [show c.hot = true from h] at hot; cases hot
theorem SimG.noσ {α β : Type} {w : Wo} {E : XK} {A : Addr → Prop} {Rp : α → β → Hp → Hp → Prop} {r : R α} {σ τ : L2.St} {H : Hp} {Q : β → Hp → Prop} (s : SimG w (fun cls d _ H => E cls d H) A Rp r σ H Q) : SimG w (fun cls d _ H => E cls d H) A Rp r τ H Q := by
  cases r with
  | ok a h => exact s
  | ex c y h => exact s
  | no => exact s
theorem ext_of_N {w : Wo} {H H1 : Hp} (x : LamX.ExtN H H1) : Ext w.hd H H1 := ⟨fun b o e n _ => x b o e n, fun b ⟨o, e, n⟩ => ⟨o, x b o e n, n⟩⟩
theorem lamEnd_ends (r : Pv.Res) : lamEnd r = .no ∨ ∃ v h, plainV v.1 = true ∧ lamEnd r = .ok v h ∧ r = .ok v h := by
  cases r with
  | ok v h =>
    unfold lamEnd
    cases e : plainV v.1 with
    | true => exact .inr ⟨v, h, e, by simp only [e], rfl⟩
    | false => exact .inl (by simp only [e])
  | ex c y h => exact .inl rfl
  | no => exact .inl rfl
theorem ev_lam {f : Nat} {x : Str} {params : Arguments} {body : Expr} {scope : Scope} {xb : Pv.X} {q lpos pos : Pos} (hw : p.w.fun = p.w) (hot : p.hot = false) (hL : LamTo p.w k X x (fun th h => p.C f [.fn] th h) ∨ ∀ th h, p.C f [.fn] th h = .no) (hr : Room (k + 2) X.A) (hg : Gl X x) (hdb : (x == ("__debug__" : Str)) = false)
    (L : (LamX.LamS X.env.scope scope ∧ params = ⟨[], [], none, [], [], none, []⟩) ∨ (LamD X.N X.env.scope scope ∧ ∃ pa pd j, params = agP pa pd j))
    (hbody : ∀ (A : Around) (outer : List PySem.Env) (s : Shared) (H : Hp) (E : XK) (f' c' : Addr), Room k (A.deeper (LamX.lamEnv X scope s.heap.objs.size f' c')) → PE (LamX.lamCx X A outer s H E scope f' c') body (tE p.w p.n (fun cls d _ H => E cls d H) (vars xb) (evE p.C (fun _ => .no) false xb))) :
    Ev p X (.Call (.Name x q) [.Lambda params body scope lpos] [] pos) (.lam f xb) := by
  rcases hL with hL | hL
  · obtain ⟨a, ga, cc, P, pg, bg, sg, dV, kV, doc, pm, cdv, ct, oc, an, od, osl, Ng, h1, h2, h3, h4, h5, h6, h7, h8, h9, h10, h11, h12, h13, h14, h15⟩ := hL
    have form : PE X (.Call (.Name x q) [.Lambda params body scope lpos] [] pos) (LamX.tLam p.w.T (TTof p.w (fun th h => p.C f [.fn] th h)) (fun E => tE p.w p.n (fun cls d _ H => E cls d H) (vars xb) (evE p.C (fun _ => .no) false xb))) := by
      rcases L with ⟨L, rfl⟩ | ⟨L, pa, pd, j, rfl⟩
      · exact LamX.pe_lamcall hg h1 h2 h3 h4 h5 h6 h7 h8 h9 h10 h11 h12 h13 hr L rfl (fun _ _ _ _ _ => rfl) hbody hdb h14 h15
      · exact pe_again hg h1 h2 h3 h4 h5 h6 h7 h8 h9 h10 h11 h12 h13 hr L hbody hdb h14 h15
    refine .mk' (fun V' c => form.imp fun σ H Q ⟨A, env, h, ln, rel, wd, s⟩ => ?_) isTrue_call
    unfold Pm.ev evE at s
    rw [hot] at s
    have s : SimG p.w p.W A (RpE p.w A) (lamEnd (p.C f [.fn] (fun h => evE p.C (fun _ => .no) false xb env h) h)) σ H Q := s
    refine ⟨wd.tabs, fun H1 xN tb1 => ?_⟩
    have x1 : Ext p.w.hd H H1 := ext_of_N xN
    have wd1 : Wd p.w A H1 h := ⟨fun b e => let ⟨q1, q2, vs, q3, q4⟩ := wd.hand b e; ⟨q1, q2, vs, xN _ _ q3 (fun _ q => by cases q), DRepL.mono (fun _ z => z) (fun b us z => xN _ _ z (fun _ q => by cases q)) (fun b o _ z n => xN _ _ z n) _ _ q4⟩, wd.out, fun b hb => x1.dom b (wd.ins b hb), fun b hb => x1.dom b (wd.dom b hb), tb1, wd.bs.ext x1⟩
    refine ⟨A, h, fun h => evE p.C (fun _ => .no) false xb env h, wd1.fun, fun E H2 h2 Q1 A1 x2 hA1 w2 s2 => ⟨A1, env, h2, ln, fun i v o hi e => let ⟨y, q1, q2⟩ := rel.sub c i v o hi e; ⟨y, q1, VRep.ext (x1.trans x2) ⟨fun b e => ⟨(w2.hand b e).1, (wd.in.hd b e).2⟩⟩ (VRep.wide (fun b nb q => hA1 b (x1.dom b nb) q) q2)⟩, w2.unfun (fun B AB e => by rw [← hw] at e; cases e), ?_⟩, ?_⟩
    · rw [hw] at s2
      exact SimG.noσ s2
    · rw [hw]
      revert s
      show _ → SimG p.w noW A (RpE p.w A) (lamEnd (p.C f [.fn] (fun h => evE p.C (fun _ => .no) false xb env h) h)) [] H1 Q
      cases lamEnd_ends (p.C f [.fn] (fun h => evE p.C (fun _ => .no) false xb env h) h) with
      | inl e => rw [e]; exact fun s => s.elim
      | inr e =>
        obtain ⟨v, h1, _, e1, _⟩ := e
        rw [e1]
        exact fun s => SimG.from (W := noW) x1 RpE.back (fun y H' e w r => s y H' e w r)
  · refine Ev.no fun env h => ?_
    unfold Pm.ev evE
    rw [hot]
    simp only [hL, lamEnd]
end
end Pv
/-! text S19 -/
set_option autoImplicit false
set_option Elab.async false
set_option linter.all false
set_option maxRecDepth 100000
set_option maxHeartbeats 4000000
namespace Pv
open PySem PySem.Spec PyProof.Rows L2
theorem tvs_eq : ∀ t : T, tvs t = tv t
  | .v _ => rfl
  | .nil => rfl
  | .cons t r => by simp [tvs, tv, tvs_eq t, tvs_eq r]
  | .tup ts => by simp [tvs, tv, tvs_eq ts]
theorem star_eq (e : Expr) : isStar e = isStarE e := by cases e <;> rfl
section
variable {c : Cc} {p : Pm} {k : Nat} {X : Cx}
/-- targets -/
theorem cT_ok : ∀ (n : Nat) (c : Cc) (p : Pm) (X : Cx), Ctx c p k X → X.calm = true → (∀ (e : Expr) (t : T), cT n c e = some t → Eg X e t ∧ (∀ i ∈ tv t, i < p.n) ∧ isStar e = false) ∧
    (∀ (es : List Expr) (t : T), cTs n c es = some t → Egs X es t ∧ (∀ i ∈ tv t, i < p.n) ∧ (∀ e ∈ es, isStar e = false) ∧ isL t = true ∧ tlen t = es.length)
  | 0, c, p, X, ctx, hc => ⟨fun e t h => (by unfold cT at h; cases h), fun es t h => (by unfold cTs at h; cases h)⟩
  | n + 1, c, p, X, ctx, hc => by
    have ih := cT_ok n c p X ctx hc
    refine ⟨fun e t h => ?_, fun es t h => ?_⟩
    · unfold cT at h
      split at h
      · rename_i x pos
        obtain ⟨i, hi, rfl⟩ := map_some h
        obtain ⟨q1, q2, q3, q4⟩ := lslot_ok ctx hi
        exact ⟨eg_v (by rw [ctx.N]; exact ctx.nd) q2 q1 q3, fun j hj => by simp [tv] at hj; rw [hj]; exact q4, rfl⟩
      · obtain ⟨ts, hts, rfl⟩ := map_some h
        obtain ⟨q1, q2, q3, q4, q5⟩ := ih.2 _ _ hts
        exact ⟨eg_tup q3 hc q4 q5 q1, fun j hj => q2 j (by simpa [tv] using hj), rfl⟩
      · cases h
    · cases es with
      | nil =>
        unfold cTs at h
        cases h
        exact ⟨egs_nil, fun i hi => by simp [tv] at hi, fun e he => (nomatch he), rfl, rfl⟩
      | cons e r =>
        unfold cTs at h
        cases h1 : cT n c e with
        | none => simp [h1] at h
        | some t1 =>
          cases h2 : cTs n c r with
          | none => simp [h1, h2] at h
          | some t2 =>
            simp [h1, h2] at h
            subst h
            obtain ⟨a1, a2, a3⟩ := ih.1 _ _ h1
            obtain ⟨b1, b2, b3, b4, b5⟩ := ih.2 _ _ h2
            refine ⟨egs_cons a3 a1 b1, fun i hi => ?_, fun x hx => ?_, by simpa [isL] using b4, by simp [tlen, b5]⟩
            · have : i ∈ tv t1 ∨ i ∈ tv t2 := by simpa [tv] using hi
              exact this.elim (a2 i) (b2 i)
            · rcases List.mem_cons.mp hx with q | q
              · rw [q]; exact a3
              · exact b3 x q
theorem blkOk_of (ctx : Ctx c p k X) {scope : Scope} {vs : List Nat} (h : blkOkB c.N c.sc scope vs = true) : ∃ own : List (Str × Nat), own.map (·.2) = vs ∧ BlkOk X.N X.env.scope scope own := by
  unfold blkOkB at h
  simp only [Bool.and_eq_true] at h
  obtain ⟨⟨⟨h1, h2⟩, h3⟩, h4⟩ := h
  refine ⟨vs.map fun i => (c.N.getD i "", i), by simp [Function.comp_def], ?_, fun y hy => ?_, fun q hq => ?_, fun y hy e => ?_, fun y hy e => ?_⟩
  · split at h1
    · assumption
    · cases h1
  · exact of_decide_eq_true (List.all_eq_true.mp h2 y hy)
  · obtain ⟨i, hi, rfl⟩ := List.mem_map.mp hq
    have hlt : i < c.N.length := of_decide_eq_true (List.all_eq_true.mp h3 i hi)
    rw [ctx.N]
    simp [List.getD_eq_getElem?_getD, List.getElem?_eq_getElem hlt]
  · have q := List.all_eq_true.mp h4 y hy
    simp only [e] at q
    split at q
    · rename_i z; exact .inl (ctx.sc.cell _ z)
    · rename_i z; exact (ctx.sc.free _ z)
    · cases q
  · have q := List.all_eq_true.mp h4 y hy
    have q : ((vs.any fun i => c.N[i]? == some y.1) || !(c.N.contains y.1)) = true := by
      rcases e with e | e <;> (simp only [e] at q; exact q)
    rw [ctx.N]
    rcases Bool.or_eq_true_iff.mp q with z | z
    · obtain ⟨i, hi, hz⟩ := List.any_eq_true.mp z
      have hz : c.N[i]? = some y.1 := by simpa using hz
      refine .inl (List.mem_map.mpr ⟨(c.N.getD i "", i), List.mem_map.mpr ⟨i, hi, rfl⟩, ?_⟩)
      simp [List.getD_eq_getElem?_getD, hz]
    · refine .inr fun m => ?_
      have : c.N.contains y.1 = true := List.contains_iff_mem.mpr m
      rw [this] at z
      cases z
theorem lamS_of (ctx : Ctx c p k X) {scope : Scope} {ps : Arguments} (h : lamOkB c.sc scope ps = true) : LamX.LamS X.env.scope scope ∧ ps = ⟨[], [], none, [], [], none, []⟩ := by
  unfold lamOkB at h
  simp only [Bool.and_eq_true, Bool.not_eq_true'] at h
  obtain ⟨⟨⟨⟨h0, h1⟩, h2⟩, h3⟩, h4⟩ := h
  refine ⟨⟨?_, h2, h3, fun y hy => ?_, fun y hy e => ?_⟩, ?_⟩
  · split at h1
    · assumption
    · cases h1
  · have q := List.all_eq_true.mp h4 y hy
    refine ⟨fun e => ?_, fun e => ?_⟩ <;> (simp only [e] at q; cases q)
  · have q := List.all_eq_true.mp h4 y hy
    simp only [e] at q
    split at q
    · rename_i z; exact .inl (ctx.sc.cell _ z)
    · rename_i z; exact ctx.sc.free _ z
    · cases q
  · split at h0
    · rfl
    · cases h0
theorem agPs_of {a : Arguments} (h : agPs a = true) : ∃ pa pd j, a = agP pa pd j := by
  unfold agPs at h
  split at h
  · rename_i x pa j pd
    have e : x = ("again" : Str) := by simpa using h
    subst e
    exact ⟨pa, pd, j, rfl⟩
  · cases h
theorem lamD_of (ctx : Ctx c p k X) {scope : Scope} {ps : Arguments} (h : lamOkD c.N c.sc scope ps = true) : LamD X.N X.env.scope scope ∧ ∃ pa pd j, ps = agP pa pd j := by
  unfold lamOkD at h
  simp only [Bool.and_eq_true, Bool.not_eq_true'] at h
  obtain ⟨⟨⟨⟨⟨⟨h0, h1⟩, h2⟩, h3⟩, h4⟩, h5⟩, h6⟩ := h
  have at_ := fun y hy => List.all_eq_true.mp h4 y hy
  refine ⟨⟨?_, h2, h3, fun y hy e => ?_, fun y hy e => ?_, ?_, ?_, fun y hy e => ?_⟩, agPs_of h0⟩
  · split at h1
    · assumption
    · cases h1
  · have q := at_ y hy
    simp only [e] at q
    cases q
  · have q := at_ y hy
    simp only [e] at q
    simpa using q
  · split at h5
    · assumption
    · cases h5
  · rw [ctx.N]
    intro m
    rw [List.contains_iff_mem.mpr m] at h6
    cases h6
  · have q := at_ y hy
    simp only [e] at q
    split at q
    · rename_i z; exact .inl (ctx.sc.cell _ z)
    · rename_i z; exact ctx.sc.free _ z
    · cases q
theorem folded_of {e : Expr} (h : isSetE e = false) (env : PySem.Env) : ∀ x, foldedSetIterable e env x = pure x := fun x => by
  cases e <;> first | rfl | cases h
theorem behind_of {e : Expr} (h : isSetE e = false) (o : CmpOp) : behindInMarks o e = false := by
  cases e <;> first | rfl | cases h
theorem plain_of {e : Expr} (h : isSl e = false) : PlainIx e := fun o i => by
  cases e <;> first | rfl | cases h
theorem copOf_op (o : CmpOp) : (copOf o).op = o := by cases o <;> rfl
theorem bopOf_op {o : Operator} {b : Bop} (h : bopOf o = some b) : b.op = o := by
  cases o <;> simp [bopOf] at h <;> subst h <;> rfl
theorem ev_glob (ctx : Ctx c p k X) {x : Str} {d : PyData} {pos : Pos} (hg : c.glob x = true) (h : c.G.cst.lookup x = some d) : Ev p X (.Name x pos) (.cst d) := by
  obtain ⟨u, h1, h2, h3, h4⟩ := ctx.cst x d h
  obtain ⟨g1, g2, _⟩ := glob_ok ctx hg
  exact ev_const (pe_glob g1 h1 h2 g2) h4 h3 (fun _ => rfl)
theorem ev_bad {e : Expr} : Ev p X e .bad := Ev.no fun env h => by unfold Pm.ev evE; rfl
theorem evl_bad {e : List Expr} : EvL p X e .bad := EvL.no fun env h => by unfold Pm.evL Pv.evL; rfl
theorem ei_bad {tg e : Expr} : Ei p X tg e .bad := ei_no fun env h => by unfold Pm.evS evSrc; rfl
theorem po_bad {o : Option Expr} {V' : List Nat} : PO X o (poOf p V' .bad) := ⟨fun pins s σ H Q I ⟨A, env, h, _, _, _, s'⟩ => by
  have : p.ev .bad env h = .no := by unfold Pm.ev evE; rfl
  rw [this] at s'
  exact s'.elim⟩
theorem evL_len : ∀ (n : Nat) (c : Cc) (es : List Expr) (C : Callee) (th : Thunk) (hot : Bool) (env : Pv.Env) (h : HS) (vs : List (PV × Bool)) (h' : HS), Pv.evL C th hot (cEs n c es) env h = .ok vs h' → vs.length ≤ n
  | 0, c, es, C, th, hot, env, h, vs, h', e => by unfold cEs Pv.evL at e; cases e
  | n + 1, c, [], C, th, hot, env, h, vs, h', e => by unfold cEs Pv.evL at e; cases e; simp
  | n + 1, c, x :: r, C, th, hot, env, h, vs, h', e => by
    unfold cEs at e
    split at e
    · unfold Pv.evL at e; cases e
    · unfold Pv.evL at e
      obtain ⟨a, h1, _, e⟩ := bind_ok e
      obtain ⟨b, h2, e2, e⟩ := bind_ok e
      cases e
      have := evL_len n c r C th hot env h1 b _ e2
      simp; omega
theorem cEs_nil_of {n : Nat} (hn : n ≠ 0) : cEs n c [] = .nil := by cases n with
  | zero => exact absurd rfl hn
  | succ n => rfl
theorem ec_of {ifs : List Expr} {n : Nat} (hn : n ≠ 0) (h : ∀ e, Ev p X e (cE (n - 1) c e)) : Ec p X ifs (cEs n c ifs) := by
  cases n with
  | zero => exact absurd rfl hn
  | succ n =>
    cases ifs with
    | nil => exact ec_nil
    | cons a r =>
      unfold cEs
      split
      · exact ⟨fun V' _ => ⟨fun pins s σ H Q I ⟨A, env, h', _, _, _, s'⟩ => by
          have s' : SimG p.w p.W A RpB (evC p.C p.th p.hot .bad env h') σ H Q := s'
          unfold evC at s'
          exact s'.elim⟩⟩
      · cases r with
        | nil =>
          have : cEs n c [] = .nil ∨ cEs n c [] = .bad := by cases n with
            | zero => exact .inr rfl
            | succ n => exact .inl rfl
          rcases this with e | e
          · rw [e]; exact ec_one (h a)
          · rw [e]
            exact ⟨fun V' _ => ⟨fun pins s σ H Q I ⟨A, env, h', _, _, _, s'⟩ => by
              have s' : SimG p.w p.W A RpB (evC p.C p.th p.hot (.cons (cE n c a) .bad) env h') σ H Q := s'
              unfold evC at s'
              exact s'.elim⟩⟩
        | cons b r =>
          have : ∃ y z, cEs n c (b :: r) = .cons y z ∨ cEs n c (b :: r) = .bad := by
            cases n with
            | zero => exact ⟨.bad, .bad, .inr rfl⟩
            | succ n =>
              unfold cEs
              split
              · exact ⟨.bad, .bad, .inr rfl⟩
              · exact ⟨_, _, .inl rfl⟩
          obtain ⟨y, z, e | e⟩ := this
          all_goals
            rw [e]
            exact ⟨fun V' _ => ⟨fun pins s σ H Q I ⟨A, env, h', _, _, _, s'⟩ => by
              have s' : SimG p.w p.W A RpB (evC p.C p.th p.hot _ env h') σ H Q := s'
              unfold evC at s'
              exact s'.elim⟩⟩
end
end Pv
/-! text S20 -/
set_option autoImplicit false
set_option Elab.async false
set_option linter.all false
set_option maxRecDepth 100000
set_option maxHeartbeats 4000000
namespace Pv
open PySem PySem.Spec PyProof.Rows L2
structure Oks (n k : Nat) (c : Cc) (p : Pm) (X : Cx) : Prop where
  e : ∀ e, Ev p X e (cE n c e)
  es : ∀ es, EvL p X es (cEs n c es)
  and : ∀ es pos, Ev p X (.BoolOp .And es pos) (cAnd n c es)
  or : ∀ es pos, Ev p X (.BoolOp .Or es pos) (cOr n c es)
  src : ∀ tg tp e, (tp = true → isTupE tg = true) → Ei p X tg e (cSrc n c tp e)
  o : ∀ o V', Cov (cO n c o) V' → PO X o (poOf p V' (cO n c o))
  ec : ∀ ifs, Ec p X ifs (cEs n c ifs)
theorem any_star {as : List Expr} (h : as.any isStarE = false) : ∀ a ∈ as, isStar a = false := fun a ha => by
  rw [star_eq]
  cases e : isStarE a with
  | false => rfl
  | true => rw [List.any_eq_true.mpr ⟨a, ha, e⟩] at h; cases h
section
variable {c : Cc} {p : Pm} {k : Nat} {X : Cx}
theorem cal_blt {x : Str} (h : c.cal x = .blt) : blt c x = true := by
  unfold Cc.cal at h
  split at h
  · cases h
  · split at h
    · cases h
    · split at h
      · assumption
      · cases h
theorem cal_fn {x : Str} {f : Nat} (h : c.cal x = .fn f) : c.glob x = true ∧ find c.G.fns x = some f := by
  unfold Cc.cal at h
  split at h
  · cases h
  · split at h
    · rename_i z
      cases h
      split at z
      · exact ⟨by assumption, z⟩
      · cases z
    · split at h <;> cases h
theorem cal_thunk {x : Str} (h : c.cal x = .thunk) : c.par = some x := by
  unfold Cc.cal at h
  split at h
  · rename_i z
    exact (by simpa using z : some x = c.par).symm
  · split at h
    · cases h
    · split at h <;> cases h
theorem src_ok {n : Nat} (ctx : Ctx c p k X) (ih : Oks n k c p X) : ∀ tg tp e, (tp = true → isTupE tg = true) → Ei p X tg e (cSrc (n + 1) c tp e) := by
  intro tg tp e htp
  have val : Ei p X tg e (.sVal (cE n c e)) := ei_val (ih.e e)
  unfold cSrc
  split
  · rename_i x q as pos
    split
    · rename_i hcal hst
      have hb := cal_blt hcal
      split
      · rename_i a
        have sa := any_star hst a (List.mem_cons_self ..)
        split
        · rename_i hx
          have hx : x = ("range" : Str) := by simpa using hx
          subst hx
          obtain ⟨g1, g2, _, _⟩ := blt_ok ctx hb (by rfl)
          exact ei_rng1 g1 g2 sa (ih.e a)
        · split
          · rename_i hx
            have hx := Bool.and_eq_true_iff.mp hx
            have hx2 : x = ("enumerate" : Str) := by simpa using hx.2
            subst hx2
            obtain ⟨g1, g2, _, _⟩ := blt_ok ctx hb (by rfl)
            have ht := htp hx.1
            cases tg <;> first | (cases ht; done) | skip
            exact ei_enum g1 g2 sa (ih.e a)
          · exact val
      · rename_i a b
        have sa := any_star hst a (List.mem_cons_self ..)
        have sb := any_star hst b (List.mem_cons_of_mem _ (List.mem_cons_self ..))
        split
        · rename_i hx
          have hx : x = ("range" : Str) := by simpa using hx
          subst hx
          obtain ⟨g1, g2, _, _⟩ := blt_ok ctx hb (by rfl)
          exact ei_rng2 g1 g2 sa sb (ih.e a) (ih.e b)
        · split
          · rename_i hx
            have hx := Bool.and_eq_true_iff.mp hx
            have hx2 : x = ("zip" : Str) := by simpa using hx.2
            subst hx2
            obtain ⟨g1, g2, _, _⟩ := blt_ok ctx hb (by rfl)
            have ht := htp hx.1
            cases tg <;> first | (cases ht; done) | skip
            exact ei_zip g1 g2 sa sb (ih.e a) (ih.e b)
          · exact val
      · exact val
    · exact val
  · exact val
theorem call_ok {n : Nat} (hn : n ≤ 1000) (ctx : Ctx c p k X) (ih : Oks n k c p X) (ihA : ∀ (c : Cc) (p : Pm) (X : Cx), Ctx c p k X → Oks n k c p X) (f : Expr) (as : List Expr) (pos : Pos) : Ev p X (.Call f as [] pos) (cE (n + 1) c (.Call f as [] pos)) := by
  unfold cE
  simp only
  split
  · exact ev_bad
  · rename_i hst
    have sts := any_star hst
    split
    · rename_i x q
      split
      · rename_i hcal
        split
        · exact ⟨fun V' cv => ctx.thk x (cal_thunk hcal) q pos V' (cv 0 (by simp [vars])), fun V' cv => isTrue_rep (ctx.thk x (cal_thunk hcal) q pos V' (cv 0 (by simp [vars]))) isTrue_call⟩
        · exact ev_bad
      · rename_i f hcal
        obtain ⟨hg, hf⟩ := cal_fn hcal
        obtain ⟨g1, g2, g3⟩ := glob_ok ctx hg
        split
        · rename_i ps body sc lp
          split
          · rename_i hl
            have hl0 := Bool.and_eq_true_iff.mp hl
            have hl := Bool.and_eq_true_iff.mp hl0.1
            cases hh : c.hot with
            | true => exact Ev.no fun env h => by unfold Pm.ev evE; rw [ctx.hot, hh]
            | false =>
              have L := (Bool.or_eq_true_iff.mp hl.2).imp (fun z => lamS_of ctx z) fun z => lamD_of ctx z
              refine ev_lam (ctx.lamw hl.1 hh) (ctx.hot.trans hh) (ctx.lam hl.1 hh x f hf (by have q := hl0.2; simpa using q)) (ctx.lroom hl.1 hh) g1 g2 L fun A outer s H E f' c' hr => ?_
              have o := ihA _ _ _ (L.elim (fun L => ctx.lamb (E := E) (outer := outer) (H := H) hh L.1 hr) fun L => ctx.again (E := E) (outer := outer) (H := H) hh L.1 hr)
              have z := (o.e body).pe _ (fun i hi => hi)
              unfold Pm.ev at z
              rw [show ({ p with W := fun cls d _ H => E cls d H, th := fun _ => .no } : Pm).hot = false from ctx.hot.trans hh, hh] at z
              exact z
          · exact ev_bad
        · cases hh : c.hot with
          | true => exact Ev.no fun env h => by unfold Pm.ev evE; rw [ctx.hot, hh]
          | false =>
            obtain ⟨fa, fd, ps, h1, h2, h3, h4⟩ := ctx.fns x f hf
            cases n with
            | zero =>
              refine Ev.no fun env h => ?_
              unfold Pm.ev evE
              rw [ctx.hot, hh]
              rfl
            | succ n => exact ev_call h4 (ctx.room hh) g1 h1 h2 h3 ctx.tk sts g2 (fun e => by rw [e]; rfl) (ih.es as)
      · rename_i hcal
        have hb := cal_blt hcal
        split
        · rename_i a t q2
          have sa := sts a (List.mem_cons_self ..)
          split
          · rename_i hx
            have hx : x = ("isinstance" : Str) := by simpa using hx
            subst hx
            split
            · rename_i pr hpr
              exact isa_ok ctx hb hpr sa (ih.e a)
            · split
              · rename_i hk
                split at hk
                · rename_i hh
                  exact ctx.exI hh t _ a _ q q2 pos hk hcal (by rw [← star_eq]; exact sa) (ih.e a)
                · cases hk
              · exact ev_bad
          · split
            · rename_i pr hpr
              exact prim_ok ctx hb hpr sts (ih.es _)
            · exact ev_bad
        · rename_i a t1 q1 t2 q2 j q3
          have sa := sts a (List.mem_cons_self ..)
          split
          · rename_i hx
            simp only [Bool.and_eq_true] at hx
            obtain ⟨⟨⟨⟨hx1, hx2⟩, hx3⟩, hx4⟩, hx5⟩ := hx
            have hx : x = ("isinstance" : Str) := by simpa using hx1
            have h1 : t1 = ("tuple" : Str) := by simpa using hx3
            have h2 : t2 = ("list" : Str) := by simpa using hx5
            subst hx h1 h2
            obtain ⟨a1, a2, _, _⟩ := blt_ok ctx hb (by rfl)
            obtain ⟨b1, b2, b3, b4⟩ := blt_ok ctx hx2 (by rfl)
            obtain ⟨c1, c2, c3, c4⟩ := blt_ok ctx hx4 (by rfl)
            exact ev_isTL a1 a2 b1 b2 (by rfl) b4 b3 c1 c2 (by rfl) c4 c3 sa (ih.e a)
          · split
            · rename_i pr hpr
              exact prim_ok ctx hb hpr sts (ih.es _)
            · exact ev_bad
        · rename_i y q2 bs q3
          split
          · rename_i hx
            simp only [Bool.and_eq_true, Bool.not_eq_true'] at hx
            obtain ⟨⟨⟨hx1, hx2⟩, hx3⟩, hx4⟩ := hx
            have hy : y = ("range" : Str) := by simpa using hx3
            subst hy
            obtain ⟨r1, r2, _, _⟩ := blt_ok ctx hx2 (by rfl)
            have hxx : x = if (x == ("tuple" : Str)) = true then "tuple" else "list" := by
              cases ht : (x == ("tuple" : Str)) with
              | true => simpa using ht
              | false =>
                rw [ht, Bool.or_false] at hx1
                simpa using hx1
            have hin : bltNames.contains x = true := by
              rcases Bool.or_eq_true_iff.mp hx1 with z | z <;> (have z := eq_of_beq z; rw [z]; rfl)
            obtain ⟨l1, l2, _, _⟩ := blt_ok ctx hb hin
            cases hh : c.hot with
            | true =>
              split
              · exact Ev.no fun env h => by unfold Pm.ev evE; rw [ctx.hot, hh]
              · exact Ev.no fun env h => by unfold Pm.ev evE; rw [ctx.hot, hh]
              · exact ev_bad
            | false =>
              have bst := any_star hx4
              split
              · rename_i b
                exact ev_rngL1 (ctx.hot.trans hh) (ctx.calm hh) hxx l1 l2 r1 r2 (bst b (List.mem_cons_self ..)) (ih.e b)
              · rename_i b d
                exact ev_rngL2 (ctx.hot.trans hh) (ctx.calm hh) hxx l1 l2 r1 r2 (bst b (List.mem_cons_self ..)) (bst d (List.mem_cons_of_mem _ (List.mem_cons_self ..))) (ih.e b) (ih.e d)
              · exact ev_bad
          · split
            · rename_i pr hpr
              exact prim_ok ctx hb hpr sts (ih.es _)
            · exact ev_bad
        · split
          · rename_i pr hpr
            exact prim_ok ctx hb hpr sts (ih.es _)
          · exact ev_bad
      · exact ev_bad
    · rename_i o m q
      split
      · exact ev_bad
      · rename_i hq
        have hq := Bool.or_eq_false_iff.mp hq
        split
        · rename_i a
          split
          · rename_i mm hm
            exact mth_ok ctx hm hq.1 (by simpa using hq.2) (sts a (List.mem_cons_self ..)) (ih.e o) (ih.e a)
          · exact ev_bad
        · rename_i a b
          split
          · rename_i mm hm
            exact mth_ok2 ctx hm hq.1 (by simpa using hq.2) (sts a (List.mem_cons_self ..)) (sts b (List.mem_cons_of_mem _ (List.mem_cons_self ..))) (ih.e o) (ih.e a) (ih.e b)
          · exact ev_bad
        · exact ev_bad
    · exact ev_bad
end
end Pv
/-! text S21 -/
set_option autoImplicit false
set_option Elab.async false
set_option linter.all false
set_option maxRecDepth 100000
set_option maxHeartbeats 4000000
namespace Pv
open PySem PySem.Spec PyProof.Rows L2
section
variable {k : Nat}
theorem e_ok {n : Nat} {c : Cc} {p : Pm} {X : Cx} (hn : n ≤ 1000) (ctx : Ctx c p k X) (ih : Oks n k c p X) (ihA : ∀ (c : Cc) (p : Pm) (X : Cx), Ctx c p k X → Oks n k c p X) (e : Expr) : Ev p X e (cE (n + 1) c e) := by
  have hlen : ∀ es env h vs h', p.evL (cEs n c es) env h = .ok vs h' → vs.length ≤ sizeLine := fun es env h vs h' q => by
    have := evL_len n c es _ _ _ _ _ _ _ q
    have z := lineN_eq
    unfold lineN at z
    omega
  cases e with
  | Constant kk j pos =>
    unfold cE
    simp only
    split
    · rename_i d h; exact ev_cst h
    · exact ev_bad
  | Name x pos =>
    unfold cE
    simp only
    split
    · rename_i i h
      obtain ⟨h1, h2, h3, h4⟩ := slot_ok ctx h
      exact ev_var h2 h1 h3 h4
    · split
      · rename_i h
        split at h
        · exact ev_glob ctx (by assumption) h
        · cases h
      · exact ev_bad
  | BinOp a o b pos =>
    unfold cE
    simp only
    split
    · rename_i o' h
      have := ev_bin (pos := pos) (o := o') (ih.e a) (ih.e b)
      rw [bopOf_op h] at this
      exact this
    · exact ev_bad
  | UnaryOp o a pos =>
    cases o with
    | USub => exact ev_neg (ih.e a)
    | Not => exact ev_not (ih.e a)
    | _ => exact ev_bad
  | BoolOp o es pos =>
    cases o with
    | And => exact ih.and es pos
    | Or => exact ih.or es pos
  | Compare a os bs pos =>
    rcases os with _ | ⟨o, _ | ⟨q, _ | ⟨r, os⟩⟩⟩
    · exact ev_bad
    · rcases bs with _ | ⟨b, _ | ⟨d, bs⟩⟩
      · exact ev_bad
      · unfold cE
        simp only
        split
        · exact ev_bad
        · rename_i hs
          have := ev_cmp (pos := pos) (o := copOf o) (a := a) ctx.units (behind_of hs _) (ih.e a) (ih.e b)
          rw [copOf_op] at this
          exact this
      · exact ev_bad
    · rcases bs with _ | ⟨b, _ | ⟨d, _ | ⟨e, bs⟩⟩⟩
      · exact ev_bad
      · exact ev_bad
      · unfold cE
        simp only
        split
        · exact ev_bad
        · rename_i hs
          have := ev_chain (pos := pos) (o := copOf o) (q := copOf q) (a := a) (b := b) (c := d) ctx.units (by
            show behindInMarks _ d = false
            exact behind_of hs _) (ih.e a) (ih.e b) (ih.e d)
          rw [copOf_op, copOf_op] at this
          exact this
      · exact ev_bad
    · exact ev_bad
  | IfExp t a b pos => exact ev_ite (ih.e t) (ih.e a) (ih.e b)
  | Tuple es j pos => exact ev_tup (hlen es) (ih.es es)
  | List es pos => exact ev_lst (hlen es) (ih.es es)
  | Dict ks vs pos =>
    cases ks with
    | nil => cases vs with
      | nil => exact ev_dsp0
      | cons v vs => exact ev_bad
    | cons k ks =>
      cases k with
      | none => cases ks <;> exact ev_bad
      | some k => cases ks with
        | cons k2 ks => exact ev_bad
        | nil => rcases vs with _ | ⟨v, _ | ⟨v2, vs⟩⟩
                 · exact ev_bad
                 · exact ev_dsp1 (ih.e k) (ih.e v)
                 · exact ev_bad
  | Subscript a b pos =>
    unfold cE
    simp only
    split
    · exact ev_rev (ih.e a)
    · exact ev_slice ctx.K (ih.e a) (ih.o _) (ih.o _)
    · exact ev_bad
    · rename_i h1 h2 h3
      refine ev_idx ctx.units (plain_of ?_) (ih.e a) (ih.e b)
      cases b <;> first | rfl | skip
      exact absurd rfl (h3 _ _ _ _)
  | Attribute a f pos =>
    unfold cE
    simp only
    split
    · rename_i h
      simp only [Bool.and_eq_true, Bool.not_eq_true', beq_iff_eq] at h
      exact ctx.exF h.1.1 f a _ pos h.1.2.symm h.2 (ih.e a)
    · exact ev_bad
  | ListComp elt gs sc pos =>
    rcases gs with _ | ⟨⟨tg, src, ifs, ia⟩, _ | ⟨g2, gs⟩⟩
    · exact ev_bad
    · by_cases hia : ia = 0
      · subst hia
        unfold cE
        simp only
        split
        · rename_i t ht
          split
          · rename_i hb
            have hb := Bool.and_eq_true_iff.mp hb
            have hsrc : isSetE src = false := by simpa using hb.2
            cases hh : c.hot with
            | true => exact Ev.no fun env h => by unfold Pm.ev evE; rw [ctx.hot, hh]
            | false =>
              obtain ⟨own, ho, bo⟩ := blkOk_of ctx hb.1
              have hot : p.hot = false := ctx.hot.trans hh
              have hcl := ctx.calm hh
              have cb := fun s H C cl fp => ctx.blk hh sc s H C cl fp
              have key : ∀ s H C cl fp, Eg (X.blk s H sc (compEnvC sc cl C X.env) fp) tg t ∧ (∀ i ∈ tv t, i < p.n) ∧ isStar tg = false := fun s H C cl fp => (cT_ok n _ p.nox _ (cb s H C cl fp) hcl).1 tg t ht
              have hvs : ∀ i, i ∈ own.map (·.2) ↔ i ∈ tv t := fun i => by rw [ho, tvs_eq]
              rw [← hh]
              cases n with
              | zero => unfold cT at ht; cases ht
              | succ m =>
                have hE : ∀ s H C cl fp, Oks (m + 1) k _ p.nox (X.blk s H sc (compEnvC sc cl C X.env) fp) := fun s H C cl fp => ihA _ p.nox _ (cb s H C cl fp)
                refine (ev_lc hot hcl (by rw [ctx.N]; exact ctx.nd) (ih.src tg _ src fun z => z) bo hvs (key X.s_0 X.H_0 0 [] []).2.1 (fun s H C cl fp => (key s H C cl fp).1) (fun s H C cl fp => ?_) (fun s H C cl fp => (hE s H C cl fp).e elt) (folded_of hsrc X.env)).1
                exact (hE s H C cl fp).ec ifs
          · exact ev_bad
        · exact ev_bad
      · unfold cE
        split <;> first | exact ev_bad | (rename_i heq; cases heq; done) | (rename_i heq; cases heq; exact absurd rfl hia)
    · unfold cE
      split <;> first | exact ev_bad | (rename_i heq; cases heq)
  | DictComp ke ve gs sc pos =>
    rcases gs with _ | ⟨⟨tg, src, ifs, ia⟩, _ | ⟨g2, gs⟩⟩
    · exact ev_bad
    · by_cases hia : ia = 0
      · subst hia
        unfold cE
        simp only
        split
        · rename_i t ht
          split
          · rename_i hb
            have hb := Bool.and_eq_true_iff.mp hb
            have hsrc : isSetE src = false := by simpa using hb.2
            cases hh : c.hot with
            | true => exact Ev.no fun env h => by unfold Pm.ev evE; rw [ctx.hot, hh]
            | false =>
              obtain ⟨own, ho, bo⟩ := blkOk_of ctx hb.1
              have hot : p.hot = false := ctx.hot.trans hh
              have hcl := ctx.calm hh
              have cb := fun s H C cl fp => ctx.blk hh sc s H C cl fp
              have key : ∀ s H C cl fp, Eg (X.blk s H sc (compEnvC sc cl C X.env) fp) tg t ∧ (∀ i ∈ tv t, i < p.n) ∧ isStar tg = false := fun s H C cl fp => (cT_ok n _ p.nox _ (cb s H C cl fp) hcl).1 tg t ht
              have hvs : ∀ i, i ∈ own.map (·.2) ↔ i ∈ tv t := fun i => by rw [ho, tvs_eq]
              rw [← hh]
              cases n with
              | zero => unfold cT at ht; cases ht
              | succ m =>
                have hE : ∀ s H C cl fp, Oks (m + 1) k _ p.nox (X.blk s H sc (compEnvC sc cl C X.env) fp) := fun s H C cl fp => ihA _ p.nox _ (cb s H C cl fp)
                refine (ev_dc hot hcl (by rw [ctx.N]; exact ctx.nd) (ih.src tg _ src fun z => z) bo hvs (key X.s_0 X.H_0 0 [] []).2.1 (fun s H C cl fp => (key s H C cl fp).1) (fun s H C cl fp => ?_) (fun s H C cl fp => (hE s H C cl fp).e ke) (fun s H C cl fp => (hE s H C cl fp).e ve) (folded_of hsrc X.env))
                exact (hE s H C cl fp).ec ifs
          · exact ev_bad
        · exact ev_bad
      · unfold cE
        split <;> first | exact ev_bad | (rename_i heq; cases heq; done) | (rename_i heq; cases heq; exact absurd rfl hia)
    · unfold cE
      split <;> first | exact ev_bad | (rename_i heq; cases heq)
  | Call f as kw pos =>
    cases kw with
    | nil => exact call_ok hn ctx ih ihA f as pos
    | cons a b => exact ev_bad
  | _ => exact ev_bad
theorem oks : ∀ n, n ≤ 1000 → ∀ (c : Cc) (p : Pm) (X : Cx), Ctx c p k X → Oks n k c p X
  | 0, _, c, p, X, ctx => by
    refine ⟨fun e => ?_, fun es => ?_, fun es pos => ?_, fun es pos => ?_, fun tg tp e _ => ?_, fun o V' _ => ?_, fun ifs => ?_⟩
    · unfold cE; exact ev_bad
    · unfold cEs; exact evl_bad
    · unfold cAnd; exact ev_bad
    · unfold cOr; exact ev_bad
    · unfold cSrc; exact ei_bad
    · unfold cO; exact po_bad
    · unfold cEs
      exact ⟨fun V' _ => ⟨fun pins s σ H Q I ⟨A, env, h', _, _, _, s'⟩ => by
        have s' : SimG p.w p.W A RpB (evC p.C p.th p.hot .bad env h') σ H Q := s'
        unfold evC at s'
        exact s'.elim⟩⟩
  | n + 1, hn, c, p, X, ctx => by
    have hn' : n ≤ 1000 := by omega
    have ihA : ∀ (c : Cc) (p : Pm) (X : Cx), Ctx c p k X → Oks n k c p X := oks n hn'
    have ih := ihA c p X ctx
    refine ⟨e_ok hn' ctx ih ihA, fun es => ?_, fun es pos => ?_, fun es pos => ?_, src_ok ctx ih, fun o V' cv => ?_, fun ifs => ec_of (n := n + 1) (by omega) ih.e⟩
    · cases es with
      | nil => unfold cEs; exact evl_nil
      | cons e es =>
        unfold cEs
        split
        · exact evl_bad
        · rename_i hs
          exact evl_cons (by rw [star_eq]; exact hs) (ih.e e) (ih.es es)
    · rcases es with _ | ⟨a, _ | ⟨b, es⟩⟩
      · unfold cAnd; exact ev_bad
      · unfold cAnd; exact ev_one (ih.e a)
      · unfold cAnd; exact ev_and (ih.e a) (ih.and (b :: es) pos)
    · rcases es with _ | ⟨a, _ | ⟨b, es⟩⟩
      · unfold cOr; exact ev_bad
      · unfold cOr; exact ev_one (ih.e a)
      · unfold cOr; exact ev_or (ih.e a) (ih.or (b :: es) pos)
    · cases o with
      | none => unfold cO; exact po_non
      | some e => 
        unfold cO at cv ⊢
        exact po_of ((ih.e e).pe V' cv)
end
end Pv
/-! text S22 -/
set_option autoImplicit false
set_option Elab.async false
set_option linter.all false
set_option maxRecDepth 100000
set_option maxHeartbeats 1000000
namespace Pv
open PySem PySem.Spec PyProof.Rows L2
/-! ### slots that own their list -/
def ownA (σ : L2.St) (env : Pv.Env) (i : Nat) : Option Addr := match env[i]?, σ[i]? with
  | some (some (_, true)), some (some (.ref a)) => some a
  | _, _ => none
def AO (A0 : Addr → Prop) (σ : L2.St) (env : Pv.Env) : Addr → Prop := fun b => A0 b ∨ ∃ i, ownA σ env i = some b
def AE (A0 : Addr → Prop) (σ : L2.St) (env : Pv.Env) (V : List Nat) : Addr → Prop := fun b => A0 b ∨ ∃ i, i ∉ V ∧ ownA σ env i = some b
theorem AE_AO {A0 : Addr → Prop} {σ : L2.St} {env : Pv.Env} {V : List Nat} : ∀ b, AE A0 σ env V b → AO A0 σ env b := fun b h => h.imp id fun ⟨i, _, e⟩ => ⟨i, e⟩
theorem ownA_of {σ : L2.St} {env : Pv.Env} {i : Nat} {a : Addr} (h : ownA σ env i = some a) : ∃ v, env[i]? = some (some (v, true)) ∧ σ[i]? = some (some (.ref a)) := by
  unfold ownA at h
  split at h
  · rename_i v b h1 h2
    cases h
    exact ⟨v, h1, h2⟩
  · cases h
theorem ownA_mk {σ : L2.St} {env : Pv.Env} {i : Nat} {a : Addr} {v : PV} (h1 : env[i]? = some (some (v, true))) (h2 : σ[i]? = some (some (.ref a))) : ownA σ env i = some a := by
  unfold ownA
  rw [h1, h2]
/-- what a slot owns, at its address -/
def OwnRep (H : Hp) (A : Addr → Prop) : PyData → Addr → Prop
  | .list xs, a => ∃ vs, H a = some (.lst vs) ∧ DRepL H A xs vs
  | .dict kvs, a => (∃ ks, H a = some (.dK ks) ∧ DRepK H A kvs ks) ∨ ∃ ks, (H a = some (.dT ks) ∧ ks ≠ []) ∧ DRepT H A kvs ks
  | _, _ => False
theorem OwnRep.mono' {H : Hp} {A A' : Addr → Prop} (hA : ∀ b, A' b → A b) : ∀ {d : PyData} {a : Addr}, OwnRep H A d a → OwnRep H A' d a
  | .list _, _, ⟨vs, e, r⟩ => ⟨vs, e, r.mono' hA⟩
  | .dict _, _, .inl ⟨ks, e, r⟩ => .inl ⟨ks, e, r.mono' hA⟩
  | .dict _, _, .inr ⟨ks, e, r⟩ => .inr ⟨ks, e, r.mono' hA⟩
theorem OwnRep.ext {hd : Option Addr} {H H' : Hp} {A : Addr → Prop} (x : Ext hd H H') (w : HdIn hd A H) : ∀ {d : PyData} {a : Addr}, hd ≠ some a → OwnRep H A d a → OwnRep H' A d a
  | .list _, _, n, ⟨vs, e, r⟩ => ⟨vs, x.keep _ _ e (fun _ z => by cases z) n, r.ext x w⟩
  | .dict _, _, n, .inl ⟨ks, e, r⟩ => .inl ⟨ks, x.keep _ _ e (fun _ z => by cases z) n, DRepK.mono (fun _ q => q) (x.tup w) (x.mut w) _ _ r⟩
  | .dict _, _, n, .inr ⟨ks, e, r⟩ => .inr ⟨ks, ⟨x.keep _ _ e.1 (fun _ z => by cases z) n, e.2⟩, DRepT.mono (fun _ q => q) (x.tup w) (x.mut w) _ _ r⟩
theorem OwnRep.wide {H : Hp} {A A' : Addr → Prop} (hA : ∀ b, NT H b → A' b → A b) : ∀ {d : PyData} {a : Addr}, OwnRep H A d a → OwnRep H A' d a
  | .list _, _, ⟨vs, e, r⟩ => ⟨vs, e, DRepL.wide hA _ _ r⟩
  | .dict _, _, .inl ⟨ks, e, r⟩ => .inl ⟨ks, e, DRepK.wide hA _ _ r⟩
  | .dict _, _, .inr ⟨ks, e, r⟩ => .inr ⟨ks, e, DRepT.wide hA _ _ r⟩
theorem OwnRep.rep {H : Hp} {A : Addr → Prop} : ∀ {d : PyData} {a : Addr}, ¬ A a → OwnRep H A d a → DRep H A d (.ref a)
  | .list _, a, n, ⟨vs, e, r⟩ => ⟨a, vs, rfl, n, e, r⟩
  | .dict _, a, n, r => ⟨a, rfl, n, r⟩
theorem OwnRep.nt {H : Hp} {A : Addr → Prop} : ∀ {d : PyData} {a : Addr}, OwnRep H A d a → NT H a
  | .list _, _, ⟨_, e, _⟩ => ⟨_, e, fun _ z => by cases z⟩
  | .dict _, _, .inl ⟨_, e, _⟩ => ⟨_, e, fun _ z => by cases z⟩
  | .dict _, _, .inr ⟨_, e, _⟩ => ⟨_, e.1, fun _ z => by cases z⟩
structure RelS (w : Wo) (n : Nat) (A0 : Addr → Prop) (H0 : Hp) (Kp : List (PyData × V)) (σ : L2.St) (H : Hp) (env : Pv.Env) (h : HS) : Prop where
  len : σ.length = n ∧ env.length = n
  a0 : ∀ b, A0 b → NT H0 b
  c0 : ∀ b, w.hc b → NT H0 b
  h0 : ∀ a, w.hd = some a → A0 a
  ext : Ext w.hd H0 H
  wd : Wd w (AO A0 σ env) H h
  slot : ∀ (i : Nat) (v : PV), env[i]? = some (some (v, false)) → ∃ x, σ[i]? = some (some x) ∧ VRep w H (AO A0 σ env) v x
  ownd : ∀ (i : Nat) (v : PV), env[i]? = some (some (v, true)) → ∃ a d, v = .d d ∧ σ[i]? = some (some (.ref a)) ∧ ¬ NT H0 a ∧ OwnRep H (AO A0 σ env) d a
  inj : ∀ (i j : Nat) (a : Addr), ownA σ env i = some a → ownA σ env j = some a → i = j
  kp : Roots H (AO A0 σ env) Kp
  b0 : Bs w A0 H0
section
variable {w : Wo} {n : Nat} {A0 : Addr → Prop} {H0 H H1 : Hp} {Kp : List (PyData × V)} {σ : L2.St} {env : Pv.Env} {h h1 : HS}
theorem RelS.owndL (r : RelS w n A0 H0 Kp σ H env h) (i : Nat) (v : PV) {zs : List PyData} (e : env[i]? = some (some (v, true))) (hv : v = .d (.list zs)) : ∃ a xs vs, v = .d (.list xs) ∧ σ[i]? = some (some (.ref a)) ∧ ¬ NT H0 a ∧ H a = some (.lst vs) ∧ DRepL H (AO A0 σ env) xs vs := by
  subst hv
  obtain ⟨a, d, e0, q1, q2, q3⟩ := r.ownd i _ e
  cases e0
  obtain ⟨vs, q3, q4⟩ := q3
  exact ⟨a, zs, vs, rfl, q1, q2, q3, q4⟩
theorem RelS.ownNT (r : RelS w n A0 H0 Kp σ H env h) {i : Nat} {a : Addr} (e : ownA σ env i = some a) : ¬ NT H0 a ∧ ∃ d, env[i]? = some (some (.d d, true)) ∧ OwnRep H (AO A0 σ env) d a := by
  obtain ⟨v, e1, e2⟩ := ownA_of e
  obtain ⟨a', d, rfl, q1, q2, q3⟩ := r.ownd i v e1
  rw [q1] at e2
  cases e2
  exact ⟨q2, d, e1, q3⟩
theorem RelS.relE (r : RelS w n A0 H0 Kp σ H env h) (V : List Nat) : Rel w (AE A0 σ env V) V σ H env := fun i v o hi e => by
  cases o with
  | false =>
    obtain ⟨x, q1, q2⟩ := r.slot i v e
    exact ⟨x, q1, VRep.mono' AE_AO q2⟩
  | true =>
    obtain ⟨a, d, rfl, q1, q2, q3⟩ := r.ownd i v e
    refine ⟨_, q1, OwnRep.rep (fun z => ?_) (q3.mono' AE_AO)⟩
    rcases z with z | ⟨j, hj, ej⟩
    · exact q2 (r.a0 a z)
    · exact hj (by rw [← r.inj i j a (ownA_mk e q1) ej]; exact hi)
theorem RelS.outs (r : RelS w n A0 H0 Kp σ H env h) {A' : Addr → Prop} (hA : ∀ b, A' b → AO A0 σ env b) : ∀ b, A' b → ¬ w.hc b := fun b q => r.wd.out b (hA b q)
theorem RelS.wdE (r : RelS w n A0 H0 Kp σ H env h) (V : List Nat) : Wd w (AE A0 σ env V) H h := r.wd.other (fun b e _ => .inl (r.h0 b e)) (fun b q => r.wd.out b (AE_AO b q)) (fun b q => r.wd.dom b (AE_AO b q)) (r.wd.bs.sub AE_AO)
theorem RelS.after (r : RelS w n A0 H0 Kp σ H env h) {V : List Nat} (x : Ext w.hd H H1) (wd : Wd w (AE A0 σ env V) H1 h1) : RelS w n A0 H0 Kp σ H1 env h1 :=
  ⟨r.len, r.a0, r.c0, r.h0, r.ext.trans x, wd.other (fun b e _ => .inl (r.h0 b e)) r.wd.out (fun b q => x.dom b (r.wd.dom b q)) (r.wd.bs.ext x),
    fun i v e => let ⟨y, q1, q2⟩ := r.slot i v e; ⟨y, q1, q2.ext x r.wd.in⟩,
    fun i v e => let ⟨a, d, q0, q1, q2, q3⟩ := r.ownd i v e; ⟨a, d, q0, q1, q2, q3.ext x r.wd.in (fun z => q2 (r.a0 a (r.h0 a z)))⟩,
    r.inj, fun q hq => (r.kp q hq).ext x r.wd.in, r.b0⟩
/-- slots change, fewer own -/
theorem RelS.slots {σ' : L2.St} {env' : Pv.Env} (r : RelS w n A0 H0 Kp σ H env h) (hl : σ'.length = n ∧ env'.length = n) (ho : ∀ (i : Nat) (a : Addr), ownA σ' env' i = some a → ownA σ env i = some a)
    (hs : ∀ (i : Nat) (v : PV), env'[i]? = some (some (v, false)) → ∃ x, σ'[i]? = some (some x) ∧ VRep w H (AO A0 σ' env') v x) (hw : ∀ (i : Nat) (v : PV), env'[i]? = some (some (v, true)) → env[i]? = some (some (v, true)) ∧ σ'[i]? = σ[i]?) : RelS w n A0 H0 Kp σ' H env' h := by
  have hA : ∀ b, AO A0 σ' env' b → AO A0 σ env b := fun b q => q.imp id fun ⟨i, e⟩ => ⟨i, ho i b e⟩
  exact ⟨hl, r.a0, r.c0, r.h0, r.ext, r.wd.other (fun b e _ => .inl (r.h0 b e)) (r.outs hA) (fun b q => r.wd.dom b (hA b q)) (r.wd.bs.sub hA), hs,
    fun i v e => let ⟨e1, e2⟩ := hw i v e; let ⟨a, d, q0, q1, q2, q3⟩ := r.ownd i v e1; ⟨a, d, q0, e2.trans q1, q2, q3.mono' hA⟩,
    fun i j a e1 e2 => r.inj i j a (ho i a e1) (ho j a e2), fun q hq => (r.kp q hq).mono' hA, r.b0⟩
theorem get_disown (env : Pv.Env) (j i : Nat) : (disown env j)[i]? = if i = j then (env[i]?).map (Option.map fun q => (q.1, false)) else env[i]? := by
  unfold disown
  by_cases hij : i = j
  · subst hij
    rw [if_pos rfl]
    split
    · rename_i v e
      have hlt := (List.getElem?_eq_some_iff.mp e).1
      rw [List.getElem?_set_self hlt, e]
      rfl
    · rename_i hne
      cases e : env[i]? with
      | none => rfl
      | some q =>
        cases q with
        | none => rfl
        | some q =>
          obtain ⟨v, o⟩ := q
          cases o with
          | false => rfl
          | true => exact absurd e (hne v)
  · rw [if_neg hij]
    split
    · exact List.getElem?_set_ne (Ne.symm hij)
    · rfl
theorem get_disownAll : ∀ (V : List Nat) (env : Pv.Env) (i : Nat), (disownAll env V)[i]? = if i ∈ V then (env[i]?).map (Option.map fun q => (q.1, false)) else env[i]?
  | [], env, i => by simp [disownAll]
  | j :: V, env, i => by
    have ih := get_disownAll V (disown env j) i
    show (disownAll (disown env j) V)[i]? = _
    rw [ih, get_disown]
    by_cases h1 : i ∈ V
    · rw [if_pos h1, if_pos (List.mem_cons_of_mem _ h1)]
      by_cases h2 : i = j
      · rw [if_pos h2]
        cases env[i]? with
        | none => rfl
        | some q => cases q <;> rfl
      · rw [if_neg h2]
    · rw [if_neg h1]
      by_cases h2 : i = j
      · rw [if_pos h2, if_pos (by rw [h2]; exact List.mem_cons_self ..)]
      · rw [if_neg h2, if_neg (fun q => (List.mem_cons.mp q).elim h2 h1)]
theorem disownAll_len : ∀ (V : List Nat) (env : Pv.Env), (disownAll env V).length = env.length
  | [], env => rfl
  | j :: V, env => by
    show (disownAll (disown env j) V).length = _
    rw [disownAll_len V]
    unfold disown
    split <;> simp
theorem ownA_dis {V : List Nat} {i : Nat} {a : Addr} (e : ownA σ (disownAll env V) i = some a) : i ∉ V ∧ ownA σ env i = some a := by
  obtain ⟨v, e1, e2⟩ := ownA_of e
  rw [get_disownAll] at e1
  by_cases hi : i ∈ V
  · rw [if_pos hi] at e1
    cases q : env[i]? with
    | none => rw [q] at e1; cases e1
    | some q' =>
      rw [q] at e1
      cases q' <;> cases e1
  · rw [if_neg hi] at e1
    exact ⟨hi, ownA_mk e1 e2⟩
theorem AO_dis {V : List Nat} : ∀ b, AO A0 σ (disownAll env V) b → AE A0 σ env V b := fun b q => q.imp id fun ⟨i, e⟩ => ⟨i, ownA_dis e⟩
theorem RelS.dis (r : RelS w n A0 H0 Kp σ H env h) (V : List Nat) : RelS w n A0 H0 Kp σ H (disownAll env V) h := by
  refine r.slots ⟨r.len.1, by rw [disownAll_len]; exact r.len.2⟩ (fun i a e => (ownA_dis e).2) (fun i v e => ?_) (fun i v e => ?_)
  · rw [get_disownAll] at e
    by_cases hi : i ∈ V
    · rw [if_pos hi] at e
      cases q : env[i]? with
      | none => rw [q] at e; cases e
      | some q' =>
        cases q' with
        | none => rw [q] at e; cases e
        | some q' =>
          obtain ⟨v', o⟩ := q'
          rw [q] at e
          cases e
          obtain ⟨x, q1, q2⟩ := r.relE V i _ o hi q
          exact ⟨x, q1, VRep.mono' AO_dis q2⟩
    · rw [if_neg hi] at e
      obtain ⟨x, q1, q2⟩ := r.slot i v e
      exact ⟨x, q1, VRep.mono' (fun b q => AE_AO b (AO_dis b q)) q2⟩
  · rw [get_disownAll] at e
    by_cases hi : i ∈ V
    · rw [if_pos hi] at e
      cases q : env[i]? with
      | none => rw [q] at e; cases e
      | some q' =>
        rw [q] at e
        cases q' <;> cases e
    · rw [if_neg hi] at e
      exact ⟨e, rfl⟩
theorem DRepK.imm {H : Hp} {A A' : Addr → Prop} : ∀ (kvs : List (PyData × PyData)) (ks : List (Key × V)), immKv kvs = true → DRepK H A kvs ks → DRepK H A' kvs ks
  | [], _, _, r => r
  | (_, v) :: kvs, _, h, ⟨j, u, t, e1, e2, r1, r2⟩ => by
    have h := Bool.and_eq_true_iff.mp (show (Pv.imm v && immKv kvs) = true from h)
    exact ⟨j, u, t, e1, e2, DRep.imm v u h.1 r1, DRepK.imm kvs t h.2 r2⟩
theorem DRepT.imm {H : Hp} {A A' : Addr → Prop} : ∀ (kvs : List (PyData × PyData)) (ks : List (List Key × V)), immKv kvs = true → DRepT H A kvs ks → DRepT H A' kvs ks
  | [], _, _, r => r
  | (_, v) :: kvs, _, h, ⟨j, u, t, e1, e2, r1, r2⟩ => by
    have h := Bool.and_eq_true_iff.mp (show (Pv.imm v && immKv kvs) = true from h)
    exact ⟨j, u, t, e1, e2, DRep.imm v u h.1 r1, DRepT.imm kvs t h.2 r2⟩
/-- a value that names nothing that stood avoids all that stood -/
theorem noalias {A A' : Addr → Prop} {d : PyData} {x : V} {fr : Bool} (ha : aliasD d fr = false) (r : DRep H1 A d x) (t : fr = true → TopNew H d x) (dm : Dom A' H) : DRep H1 A' d x := by
  cases fr with
  | false =>
    have : imm d = true := by simpa [aliasD] using ha
    exact DRep.imm d x this r
  | true =>
    cases d with
    | list xs =>
      have hi : immAll xs = true := by simpa [aliasD] using ha
      obtain ⟨a, vs, rfl, q1, q2, q3⟩ := r
      exact ⟨a, vs, rfl, fun z => t rfl a rfl rfl (dm a z), q2, DRepL.imm xs vs hi q3⟩
    | tuple xs => exact DRep.imm _ x (by simpa [aliasD, imm] using ha) r
    | dict kvs =>
      have hi : immKv kvs = true := by simpa [aliasD] using ha
      obtain ⟨a, rfl, q1, q2⟩ := r
      refine ⟨a, rfl, fun z => t rfl a rfl rfl (dm a z), ?_⟩
      rcases q2 with ⟨ks, q2, q3⟩ | ⟨ks, q2, q3⟩
      · exact .inl ⟨ks, q2, DRepK.imm kvs ks hi q3⟩
      · exact .inr ⟨ks, q2, DRepT.imm kvs ks hi q3⟩
    | _ => exact r
theorem RelS.leak (r : RelS w n A0 H0 Kp σ H env h) {U : List Nat} {v : PV} {fr : Bool} {x : V} (y : Ext w.hd H H1) (wd : Wd w (AE A0 σ env U) H1 h1) (rv : VRep w H1 (AE A0 σ env U) v x) (t : fr = true → TopN H v x) :
    RelS w n A0 H0 Kp σ H1 (leak v fr U env) h1 ∧ VRep w H1 (AO A0 σ (leak v fr U env)) v x := by
  have ra := r.after y wd
  have dis := ra.dis U
  cases v with
  | d d =>
    cases ha : aliasD d fr with
    | true =>
      have e : Pv.leak (.d d) fr U env = disownAll env U := by simp [Pv.leak, ha]
      rw [e]
      exact ⟨dis, VRep.mono' AO_dis rv⟩
    | false =>
      have e : Pv.leak (.d d) fr U env = env := by simp [Pv.leak, ha]
      rw [e]
      exact ⟨ra, noalias (H := H) ha rv t fun b q => r.wd.dom b q⟩
  | hand => exact ⟨ra, rv⟩
  | fn => exact ⟨dis, VRep.mono' AO_dis rv⟩
  | scr xs => exact ⟨dis, VRep.mono' AO_dis rv⟩
  | exn c z => exact ⟨dis, VRep.mono' AO_dis rv⟩
end
end Pv
/-! text S23 -/
set_option autoImplicit false
set_option Elab.async false
set_option linter.all false
set_option maxRecDepth 100000
set_option maxHeartbeats 2000000
namespace Pv
open PySem PySem.Spec PyProof.Rows L2
mutual
/-- what is read off a value is one thing -/
theorem DRep.det {H : Hp} {A A' : Addr → Prop} : ∀ (d d' : PyData) (x : V), DRep H A d x → DRep H A' d' x → d = d'
  | .none, d', x, h, k => by
    have h : x = .non := h
    subst h
    cases d' with
    | none => rfl
    | tuple _ | list _ | dict _ => obtain ⟨_, z⟩ := k; first | (obtain ⟨_, z, _⟩ := z; cases z) | (obtain ⟨z, _⟩ := z; cases z)
    | _ => cases (show V.non = _ from k)
  | .bool b, d', x, h, k => by
    have h : x = .bl b := h
    subst h
    cases d' with
    | bool c => cases (show V.bl b = V.bl c from k); rfl
    | tuple _ | list _ | dict _ => obtain ⟨_, z⟩ := k; first | (obtain ⟨_, z, _⟩ := z; cases z) | (obtain ⟨z, _⟩ := z; cases z)
    | _ => cases (show V.bl b = _ from k)
  | .int b, d', x, h, k => by
    have h : x = .int b := h
    subst h
    cases d' with
    | int c => cases (show V.int b = V.int c from k); rfl
    | tuple _ | list _ | dict _ => obtain ⟨_, z⟩ := k; first | (obtain ⟨_, z, _⟩ := z; cases z) | (obtain ⟨z, _⟩ := z; cases z)
    | _ => cases (show V.int b = _ from k)
  | .str b, d', x, h, k => by
    have h : x = .str b := h
    subst h
    cases d' with
    | str c => cases (show V.str b = V.str c from k); rfl
    | tuple _ | list _ | dict _ => obtain ⟨_, z⟩ := k; first | (obtain ⟨_, z, _⟩ := z; cases z) | (obtain ⟨z, _⟩ := z; cases z)
    | _ => cases (show V.str b = _ from k)
  | .tuple ds, d', x, h, k => by
    obtain ⟨a, vs, rfl, e, q⟩ := h
    cases d' with
    | tuple es =>
      obtain ⟨a', vs', z, e', q'⟩ := k
      cases z; rw [e] at e'; cases e'
      rw [DRepL.det ds es _ q q']
    | list es => obtain ⟨a', vs', z, _, e', q'⟩ := k; cases z; rw [e] at e'; cases e'
    | dict es => obtain ⟨a', z, _, ⟨_, e', _⟩ | ⟨_, ⟨e', _⟩, _⟩⟩ := k <;> (cases z; rw [e] at e'; cases e')
    | _ => cases (show V.ref a = _ from k)
  | .list ds, d', x, h, k => by
    obtain ⟨a, vs, rfl, _, e, q⟩ := h
    cases d' with
    | list es =>
      obtain ⟨a', vs', z, _, e', q'⟩ := k
      cases z; rw [e] at e'; cases e'
      rw [DRepL.det ds es _ q q']
    | tuple es => obtain ⟨a', vs', z, e', q'⟩ := k; cases z; rw [e] at e'; cases e'
    | dict es => obtain ⟨a', z, _, ⟨_, e', _⟩ | ⟨_, ⟨e', _⟩, _⟩⟩ := k <;> (cases z; rw [e] at e'; cases e')
    | _ => cases (show V.ref a = _ from k)
  | .dict ds, d', x, h, k => by
    obtain ⟨a, rfl, _, q⟩ := h
    cases d' with
    | dict es =>
      obtain ⟨a', z, _, k⟩ := k
      cases z
      rcases q with ⟨ks, e, q⟩ | ⟨ks, ⟨e, _⟩, q⟩ <;> rcases k with ⟨ks', e', q'⟩ | ⟨ks', ⟨e', _⟩, q'⟩ <;> (rw [e] at e'; cases e')
      · rw [DRepK.det ds es _ q q']
      · rw [DRepT.det ds es _ q q']
    | tuple es => obtain ⟨a', vs', z, e', q'⟩ := k; cases z; rcases q with ⟨ks, e, q⟩ | ⟨ks, ⟨e, _⟩, q⟩ <;> (rw [e] at e'; cases e')
    | list es => obtain ⟨a', vs', z, _, e', q'⟩ := k; cases z; rcases q with ⟨ks, e, q⟩ | ⟨ks, ⟨e, _⟩, q⟩ <;> (rw [e] at e'; cases e')
    | _ => cases (show V.ref a = _ from k)
theorem DRepL.det {H : Hp} {A A' : Addr → Prop} : ∀ (ds es : List PyData) (vs : List V), DRepL H A ds vs → DRepL H A' es vs → ds = es
  | [], es, vs, h, k => by
    have h : vs = [] := h
    subst h
    cases es with
    | nil => rfl
    | cons e es => obtain ⟨_, _, z, _⟩ := k; cases z
  | d :: ds, es, vs, h, k => by
    obtain ⟨v, r, rfl, h1, h2⟩ := h
    cases es with
    | nil => cases (show v :: r = [] from k)
    | cons e es =>
      obtain ⟨_, _, z, k1, k2⟩ := k
      cases z
      rw [DRep.det d e v h1 k1, DRepL.det ds es r h2 k2]
theorem DRepK.det {H : Hp} {A A' : Addr → Prop} : ∀ (ds es : List (PyData × PyData)) (vs : List (Key × V)), DRepK H A ds vs → DRepK H A' es vs → ds = es
  | [], es, vs, h, k => by
    have h : vs = [] := h
    subst h
    cases es with
    | nil => rfl
    | cons e es => obtain ⟨_, _⟩ := e; obtain ⟨_, _, _, z, _⟩ := k; cases z
  | (x, d) :: ds, es, vs, h, k => by
    obtain ⟨j, v, r, rfl, h0, h1, h2⟩ := h
    cases es with
    | nil => cases (show (j, v) :: r = [] from k)
    | cons e es =>
      obtain ⟨y, e⟩ := e
      obtain ⟨_, _, _, z, k0, k1, k2⟩ := k
      cases z
      rw [DRep.det d e v h1 k1, DRepK.det ds es r h2 k2, h0, k0]
theorem DRepT.det {H : Hp} {A A' : Addr → Prop} : ∀ (ds es : List (PyData × PyData)) (vs : List (List Key × V)), DRepT H A ds vs → DRepT H A' es vs → ds = es
  | [], es, vs, h, k => by
    have h : vs = [] := h
    subst h
    cases es with
    | nil => rfl
    | cons e es => obtain ⟨_, _⟩ := e; obtain ⟨_, _, _, z, _⟩ := k; cases z
  | (x, d) :: ds, es, vs, h, k => by
    obtain ⟨j, v, r, rfl, h0, h1, h2⟩ := h
    cases es with
    | nil => cases (show (j, v) :: r = [] from k)
    | cons e es =>
      obtain ⟨y, e⟩ := e
      obtain ⟨_, _, _, z, k0, k1, k2⟩ := k
      cases z
      rw [DRep.det d e v h1 k1, DRepT.det ds es r h2 k2, h0, k0]
end
mutual
/-- no list reads off itself -/
theorem DRep.off {H : Hp} {A A' : Addr → Prop} {b : Addr} {xs : List PyData} {vs : List V} (hb : H b = some (.lst vs)) (hx : DRepL H A' xs vs) : ∀ (d : PyData) (x : V), sizeOf d ≤ sizeOf xs → DRep H A d x → DRep H (fun c => A c ∨ c = b) d x
  | .none, _, _, h => h
  | .bool _, _, _, h => h
  | .int _, _, _, h => h
  | .str _, _, _, h => h
  | .tuple ds, x, l, h => by
    obtain ⟨a, us, rfl, e, q⟩ := h
    exact ⟨a, us, rfl, e, DRepL.off hb hx ds us (by simp at l; omega) q⟩
  | .list ds, x, l, h => by
    obtain ⟨a, us, rfl, n, e, q⟩ := h
    refine ⟨a, us, rfl, fun z => z.elim n fun z => ?_, e, DRepL.off hb hx ds us (by simp at l; omega) q⟩
    subst z
    rw [hb] at e
    cases e
    have := DRepL.det ds xs _ q hx
    subst this
    simp at l
    omega
  | .dict ds, x, l, h => by
    obtain ⟨a, rfl, n, q⟩ := h
    refine ⟨a, rfl, fun z => z.elim n fun z => ?_, ?_⟩
    · subst z
      rcases q with ⟨ks, e, q⟩ | ⟨ks, ⟨e, _⟩, q⟩ <;> (rw [hb] at e; cases e)
    · rcases q with ⟨ks, e, q⟩ | ⟨ks, e, q⟩
      · exact .inl ⟨ks, e, DRepK.off hb hx ds ks (by simp at l; omega) q⟩
      · exact .inr ⟨ks, e, DRepT.off hb hx ds ks (by simp at l; omega) q⟩
theorem DRepL.off {H : Hp} {A A' : Addr → Prop} {b : Addr} {xs : List PyData} {vs : List V} (hb : H b = some (.lst vs)) (hx : DRepL H A' xs vs) : ∀ (ds : List PyData) (us : List V), sizeOf ds ≤ sizeOf xs → DRepL H A ds us → DRepL H (fun c => A c ∨ c = b) ds us
  | [], _, _, h => h
  | d :: ds, us, l, h => by
    obtain ⟨v, r, rfl, h1, h2⟩ := h
    exact ⟨v, r, rfl, DRep.off hb hx d v (by simp at l; omega) h1, DRepL.off hb hx ds r (by simp at l; omega) h2⟩
theorem DRepK.off {H : Hp} {A A' : Addr → Prop} {b : Addr} {xs : List PyData} {vs : List V} (hb : H b = some (.lst vs)) (hx : DRepL H A' xs vs) : ∀ (ds : List (PyData × PyData)) (us : List (Key × V)), sizeOf ds ≤ sizeOf xs → DRepK H A ds us → DRepK H (fun c => A c ∨ c = b) ds us
  | [], _, _, h => h
  | (k, d) :: ds, us, l, h => by
    obtain ⟨j, v, r, rfl, h0, h1, h2⟩ := h
    exact ⟨j, v, r, rfl, h0, DRep.off hb hx d v (by simp at l; omega) h1, DRepK.off hb hx ds r (by simp at l; omega) h2⟩
theorem DRepT.off {H : Hp} {A A' : Addr → Prop} {b : Addr} {xs : List PyData} {vs : List V} (hb : H b = some (.lst vs)) (hx : DRepL H A' xs vs) : ∀ (ds : List (PyData × PyData)) (us : List (List Key × V)), sizeOf ds ≤ sizeOf xs → DRepT H A ds us → DRepT H (fun c => A c ∨ c = b) ds us
  | [], _, _, h => h
  | (k, d) :: ds, us, l, h => by
    obtain ⟨j, v, r, rfl, h0, h1, h2⟩ := h
    exact ⟨j, v, r, rfl, h0, DRep.off hb hx d v (by simp at l; omega) h1, DRepT.off hb hx ds r (by simp at l; omega) h2⟩
end
/-! ### statements -/
def SimS (p : Pm) (A0 : Addr → Prop) (H0 : Hp) (Kp : List (PyData × V)) (r : ResS) (D : Ends) : Prop := match r with
  | .ok (.nx, env') h' => ∀ σ' H', RelS p.w p.n A0 H0 Kp σ' H' env' h' → D.nx σ' H'
  | .ok (.bk, env') h' => ∀ σ' H', RelS p.w p.n A0 H0 Kp σ' H' env' h' → D.bk σ' H'
  | .ok (.ct, env') h' => ∀ σ' H', RelS p.w p.n A0 H0 Kp σ' H' env' h' → D.ct σ' H'
  | .ok (.rt v fr, _) h' => ∀ x H', Ext p.w.hd H0 H' → Wd p.w A0 H' h' → VRep p.w H' A0 v x → (fr = true → TopN H0 v x) → D.rt x H'
  | .ex c y h' => ∀ σ' cls d H', Ext p.w.hd H0 H' → Wd p.w A0 H' h' → Roots H' A0 Kp → XRep p.w H' A0 c y cls d → p.W cls d σ' H'
  | .no => False
def tS (p : Pm) (f : Pv.Env → HS → ResS) : TS := fun D σ H => ∃ A0 H0 Kp env h, RelS p.w p.n A0 H0 Kp σ H env h ∧ SimS p A0 H0 Kp (f env h) D
theorem _root_.L2.PS.imp {X : Cx} {e : Stmt} {t t' : TS} (p : PS X e t) (h : ∀ D σ H, t' D σ H → t D σ H) : PS X e t' := ⟨fun pins s σ H D I q => p.run pins s σ H D I (h D σ H q)⟩
theorem _root_.L2.PSs.imp {X : Cx} {e : List Stmt} {t t' : TS} (p : PSs X e t) (h : ∀ D σ H, t' D σ H → t D σ H) : PSs X e t' := ⟨fun pins s σ H D I q => p.run pins s σ H D I (h D σ H q)⟩
theorem XRep.mono' {w : Wo} {H : Hp} {A A' : Addr → Prop} {c : Nat} {y : Option PyData} {cls : Value} {d : Option Addr} (hA : ∀ b, A' b → A b) (r : XRep w H A c y cls d) : XRep w H A' c y cls d := by
  obtain ⟨C, h1, h2, h3⟩ := r
  refine ⟨C, h1, h2, ?_⟩
  cases y with
  | none => exact h3
  | some y =>
    obtain ⟨dd, fs, v, e1, e2, e3, e4⟩ := h3
    exact ⟨dd, fs, v, e1, e2, e3, e4.mono' hA⟩
section
variable {p : Pm} {A0 : Addr → Prop} {H0 H H1 : Hp} {Kp : List (PyData × V)} {σ : L2.St} {env : Pv.Env} {h h1 : HS} {D : Ends}
theorem RelS.wd0 (r : RelS p.w p.n A0 H0 Kp σ H env h) {A' : Addr → Prop} (x : Ext p.w.hd H0 H1) (wd : Wd p.w A' H1 h1) : Wd p.w A0 H1 h1 :=
  wd.other (fun b e _ => r.h0 b e) (fun b q => r.wd.out b (.inl q)) (fun b q => x.dom b (r.a0 b q)) (r.b0.ext x)
theorem RelS.useG {α β : Type} {Rp : (Addr → Prop) → α → β → Hp → Hp → Prop} {rd : Pv.Env → HS → R α} {f : α → HS → ResS} {Q : β → Hp → Prop} (U : List Nat) (r : RelS p.w p.n A0 H0 Kp σ H env h) (s : SimS p A0 H0 Kp ((rd env h).bind f) D)
    (k : ∀ a h1 y H1, rd env h = .ok a h1 → Ext p.w.hd H H1 → Wd p.w (AE A0 σ env U) H1 h1 → Rp (AE A0 σ env U) a y H H1 → RelS p.w p.n A0 H0 Kp σ H1 env h1 → SimS p A0 H0 Kp (f a h1) D → Q y H1) : tG p.w p.n p.W U Rp rd σ H Q := by
  refine ⟨_, env, h, r.len, r.relE U, r.wdE U, ?_⟩
  revert s k
  cases rd env h with
  | no => exact fun s _ => s
  | ex c y h' => exact fun s _ τ cls d H' x wd xr => s τ cls d H' (r.ext.trans x) (r.wd0 (r.ext.trans x) wd) (fun q hq => ((r.kp q hq).ext x r.wd.in).mono' fun b z => .inl z) (xr.mono' fun b q => .inl q)
  | ok a h' => exact fun s k y H' x wd rp => k a h' y H' rfl x wd rp (r.after x wd) s
/-- a value, read for a statement -/
theorem RelS.use {x : Pv.X} {f : PV × Bool → HS → ResS} {Q : VK} (r : RelS p.w p.n A0 H0 Kp σ H env h) (s : SimS p A0 H0 Kp ((p.ev x env h).bind f) D)
    (k : ∀ a h1 y H1, p.ev x env h = .ok a h1 → Ext p.w.hd H H1 → Wd p.w (AE A0 σ env (vars x)) H1 h1 → VRep p.w H1 (AE A0 σ env (vars x)) a.1 y → (a.2 = true → TopN H a.1 y) → RelS p.w p.n A0 H0 Kp σ H1 env h1 → SimS p A0 H0 Kp (f a h1) D → Q y H1) : tE p.w p.n p.W (vars x) (p.ev x) σ H Q :=
  RelS.useG (vars x) r s fun a h1 y H1 e x wd rp r1 s1 => k a h1 y H1 e x wd rp.1 rp.2 r1 s1
theorem bind_tru {x : Pv.X} {f g : Pv.Env → HS → ResS} (env : Pv.Env) (h : HS) : ((p.ev x env h).bind fun v h => match truth v.1 with
    | some true => f env h
    | some false => g env h
    | none => .no) = (((p.ev x env h).bind tru).bind fun b h => match b with
    | true => f env h
    | false => g env h) := by
  cases p.ev x env h with
  | ok v h1 =>
    show (match truth v.1 with | some true => f env h1 | some false => g env h1 | none => .no) = Pv.R.bind (tru v h1) _
    unfold tru
    cases truth v.1 with
    | none => rfl
    | some b => cases b <;> rfl
  | ex c y h1 => rfl
  | no => rfl
theorem RelS.setN (r : RelS p.w p.n A0 H0 Kp σ H env h) {i : Nat} {v : PV} {y : V} (rv : VRep p.w H (AO A0 σ env) v y) (hi : i < p.n) : RelS p.w p.n A0 H0 Kp (σ.set i (some y)) H (env.set i (some (v, false))) h := by
  have hσ : i < σ.length := by rw [r.len.1]; exact hi
  have he : i < env.length := by rw [r.len.2]; exact hi
  have ho : ∀ (j : Nat) (a : Addr), ownA (σ.set i (some y)) (env.set i (some (v, false))) j = some a → ownA σ env j = some a := fun j a e => by
    obtain ⟨u, e1, e2⟩ := ownA_of e
    by_cases hj : j = i
    · subst hj
      rw [List.getElem?_set_self he] at e1
      cases e1
    · rw [List.getElem?_set_ne (Ne.symm hj)] at e1 e2
      exact ownA_mk e1 e2
  have hA : ∀ b, AO A0 (σ.set i (some y)) (env.set i (some (v, false))) b → AO A0 σ env b := fun b q => q.imp id fun ⟨j, e⟩ => ⟨j, ho j b e⟩
  refine r.slots ⟨by simpa using r.len.1, by simpa using r.len.2⟩ ho (fun j u e => ?_) (fun j u e => ?_)
  · by_cases hj : j = i
    · subst hj
      rw [List.getElem?_set_self he] at e
      cases e
      exact ⟨y, by rw [List.getElem?_set_self hσ], VRep.mono' hA rv⟩
    · rw [List.getElem?_set_ne (Ne.symm hj)] at e ⊢
      obtain ⟨x, q1, q2⟩ := r.slot j u e
      exact ⟨x, q1, VRep.mono' hA q2⟩
  · by_cases hj : j = i
    · subst hj
      rw [List.getElem?_set_self he] at e
      cases e
    · rw [List.getElem?_set_ne (Ne.symm hj)] at e ⊢
      exact ⟨e, rfl⟩
theorem RelS.setO (r : RelS p.w p.n A0 H0 Kp σ H env h) {i : Nat} {d : PyData} {b : Addr} {A2 : Addr → Prop} (x : Ext p.w.hd H H1) (wd : Wd p.w A2 H1 h1) (hda : ∀ c, p.w.hd = some c → A2 c → A0 c) (hb : ¬ NT H b) (hl : OwnRep H1 (fun c => AO A0 σ env c ∨ c = b) d b) (hi : i < p.n) :
    RelS p.w p.n A0 H0 Kp (σ.set i (some (.ref b))) H1 (env.set i (some (.d d, true))) h1 := by
  have hσ : i < σ.length := by rw [r.len.1]; exact hi
  have he : i < env.length := by rw [r.len.2]; exact hi
  have own' : ∀ (j : Nat) (a : Addr), ownA (σ.set i (some (.ref b))) (env.set i (some (.d d, true))) j = some a → (j = i ∧ a = b) ∨ (j ≠ i ∧ ownA σ env j = some a) := fun j a e => by
    obtain ⟨u, e1, e2⟩ := ownA_of e
    by_cases hj : j = i
    · subst hj
      rw [List.getElem?_set_self hσ] at e2
      cases e2
      exact .inl ⟨rfl, rfl⟩
    · rw [List.getElem?_set_ne (Ne.symm hj)] at e1 e2
      exact .inr ⟨hj, ownA_mk e1 e2⟩
  have hA : ∀ c, AO A0 (σ.set i (some (.ref b))) (env.set i (some (.d d, true))) c → AO A0 σ env c ∨ c = b := fun c q => by
    rcases q with q | ⟨j, e⟩
    · exact .inl (.inl q)
    · rcases own' j c e with ⟨_, e⟩ | ⟨_, e⟩
      · exact .inr e
      · exact .inl (.inr ⟨j, e⟩)
  have hNT : ∀ c, AO A0 σ env c → NT H c := fun c q => r.wd.dom c q
  have hcb : ¬ p.w.hc b := fun q => hb (r.ext.dom b (r.c0 b q))
  have hin : HdIn p.w.hd (fun c => AO A0 σ env c ∨ c = b) H := ⟨fun c e => ⟨.inl (.inl (r.h0 c e)), (r.wd.in.hd c e).2⟩⟩
  have wide : ∀ c, NT H c → (AO A0 σ env c ∨ c = b) → AO A0 σ env c := fun c nc q => q.elim id fun e => absurd (e ▸ nc) hb
  have go : ∀ {v u}, VRep p.w H (AO A0 σ env) v u → VRep p.w H1 (AO A0 (σ.set i (some (.ref b))) (env.set i (some (.d d, true)))) v u := fun {v u} q => VRep.mono' hA ((VRep.wide wide q).ext x hin)
  refine ⟨⟨by simpa using r.len.1, by simpa using r.len.2⟩, r.a0, r.c0, r.h0, r.ext.trans x, wd.other (fun c e _ => .inl (r.h0 c e)) (fun c q => ?_) (fun c q => ?_) ((r.wd.bs.wide fun c q => (hA c q).imp id fun e => by rw [e]; exact hb).ext x), fun j v e => ?_, fun j v e => ?_, fun j k a e1 e2 => ?_, fun q hq => DRep.mono' hA ((DRep.wide wide _ _ (r.kp q hq)).ext x hin), r.b0⟩
  · rcases hA c q with q | q
    · exact r.wd.out c q
    · rw [q]; exact hcb
  · rcases hA c q with q | q
    · exact x.dom c (hNT c q)
    · rw [q]; exact hl.nt
  · by_cases hj : j = i
    · subst hj
      rw [List.getElem?_set_self he] at e
      cases e
    · rw [List.getElem?_set_ne (Ne.symm hj)] at e ⊢
      obtain ⟨u, q1, q2⟩ := r.slot j v e
      exact ⟨u, q1, go q2⟩
  · by_cases hj : j = i
    · subst hj
      rw [List.getElem?_set_self he] at e
      cases e
      exact ⟨b, d, rfl, by rw [List.getElem?_set_self hσ], fun z => hb (r.ext.dom b z), OwnRep.mono' hA hl⟩
    · rw [List.getElem?_set_ne (Ne.symm hj)] at e ⊢
      obtain ⟨a, d2, q0, q1, q2, q3⟩ := r.ownd j v e
      exact ⟨a, d2, q0, q1, q2, OwnRep.mono' hA ((OwnRep.wide wide q3).ext x hin (fun z => q2 (r.a0 a (r.h0 a z))))⟩
  · rcases own' j a e1 with ⟨h1, h2⟩ | ⟨h1, h2⟩
    · rcases own' k a e2 with ⟨h3, h4⟩ | ⟨h3, h4⟩
      · rw [h1, h3]
      · exact absurd (hNT a (.inr ⟨k, h4⟩)) (by rw [h2]; exact hb)
    · rcases own' k a e2 with ⟨h3, h4⟩ | ⟨h3, h4⟩
      · exact absurd (hNT a (.inr ⟨j, h2⟩)) (by rw [h4]; exact hb)
      · exact r.inj j k a h2 h4
/-- a value told is stored at a slot -/
theorem RelS.set (r : RelS p.w p.n A0 H0 Kp σ H env h) {i : Nat} {v : PV} {fr : Bool} {y : V} {U : List Nat} (x : Ext p.w.hd H H1) (wd : Wd p.w (AE A0 σ env U) H1 h1) (rv : VRep p.w H1 (AE A0 σ env U) v y) (t : fr = true → TopN H v y) (hi : i < p.n) :
    RelS p.w p.n A0 H0 Kp (σ.set i (some y)) H1 ((Pv.leak v fr U env).set i (some (v, ownOf v fr))) h1 := by
  cases ho : ownOf v fr with
  | false =>
    obtain ⟨r1, r2⟩ := r.leak x wd rv t
    exact r1.setN r2 hi
  | true =>
    cases v with
    | d d =>
      cases d with
      | list xs =>
        have ho : fr = true := ho
        obtain ⟨b, vs, rfl, q1, q2, q3⟩ := rv
        have tb := t ho b rfl rfl
        cases im : immAll xs with
        | true =>
          have e : Pv.leak (.d (.list xs)) fr U env = env := by simp [Pv.leak, aliasD, ho, im]
          rw [e]
          exact r.setO x wd (fun c e _ => r.h0 c e) tb (d := .list xs) ⟨vs, q2, DRepL.imm xs vs im q3⟩ hi
        | false =>
          have e : Pv.leak (.d (.list xs)) fr U env = disownAll env U := by simp [Pv.leak, aliasD, ho, im]
          rw [e]
          have q4 := DRepL.off (A := AE A0 σ env U) q2 q3 xs vs (Nat.le_refl _) q3
          exact (r.dis U).setO x wd (fun c e _ => r.h0 c e) tb (d := .list xs) ⟨vs, q2, DRepL.mono' (fun c q => q.imp (AO_dis c) id) q4⟩ hi
      | dict kvs =>
        have ho : (fr && immKv kvs) = true := ho
        obtain ⟨hf, im⟩ := Bool.and_eq_true_iff.mp ho
        obtain ⟨b, rfl, q1, q2⟩ := rv
        have tb := t hf b rfl rfl
        have e : Pv.leak (.d (.dict kvs)) fr U env = env := by simp [Pv.leak, aliasD, hf, im]
        rw [e]
        refine r.setO x wd (fun c e _ => r.h0 c e) tb (d := .dict kvs) ?_ hi
        rcases q2 with ⟨ks, q2, q3⟩ | ⟨ks, q2, q3⟩
        · exact .inl ⟨ks, q2, DRepK.imm kvs ks im q3⟩
        · exact .inr ⟨ks, q2, DRepT.imm kvs ks im q3⟩
      | _ => cases ho
    | _ => cases ho
theorem RelS.setH {hot : Bool} (r : RelS p.w p.n A0 H0 Kp σ H env h) {i : Nat} {v : PV} {fr : Bool} {y : V} {U : List Nat} (x : Ext p.w.hd H H1) (wd : Wd p.w (AE A0 σ env U) H1 h1) (rv : VRep p.w H1 (AE A0 σ env U) v y) (t : fr = true → TopN H v y) (hi : i < p.n) :
    RelS p.w p.n A0 H0 Kp (σ.set i (some y)) H1 ((Pv.leak v fr U env).set i (some (v, !hot && ownOf v fr))) h1 := by
  cases hot with
  | false => exact r.set x wd rv t hi
  | true =>
    obtain ⟨r1, r2⟩ := r.leak x wd rv t
    exact r1.setN r2 hi
/-- several slots -/
theorem RelS.bnd (r : RelS p.w p.n A0 H0 Kp σ H env h) {t : T} {d : PyData} {env' : Pv.Env} {σ' : L2.St} {R : (Addr → Prop) → Prop} (hb : bindT t d env = some env') (b : Bnd t d R H σ σ') (hR : R (AO A0 σ env)) : RelS p.w p.n A0 H0 Kp σ' H env' h := by
  obtain ⟨l1, o1, i1⟩ := b.env env env' hb
  have hlt : ∀ {i : Nat} {q : Option (PV × Bool)}, env'[i]? = some q → i < env.length := fun {i q} e => by
    have := (List.getElem?_eq_some_iff.mp e).1
    omega
  have ho : ∀ (j : Nat) (a : Addr), ownA σ' env' j = some a → ownA σ env j = some a := fun j a e => by
    obtain ⟨u, e1, e2⟩ := ownA_of e
    by_cases ht : j ∈ tv t
    · obtain ⟨d', x', q1, q2, q3⟩ := i1 j ht (hlt e1)
      rw [q1] at e1
      cases e1
    · rw [o1 j ht] at e1
      rw [b.out j ht] at e2
      exact ownA_mk e1 e2
  have hA : ∀ c, AO A0 σ' env' c → AO A0 σ env c := fun c q => q.imp id fun ⟨j, e⟩ => ⟨j, ho j c e⟩
  refine r.slots ⟨b.len.trans r.len.1, l1.trans r.len.2⟩ ho (fun j u e => ?_) (fun j u e => ?_)
  · by_cases ht : j ∈ tv t
    · obtain ⟨d', x', q1, q2, q3⟩ := i1 j ht (hlt e)
      rw [q1] at e
      cases e
      exact ⟨x', q2, (q3 _ hR).mono' hA⟩
    · rw [o1 j ht] at e
      rw [b.out j ht]
      obtain ⟨x, q1, q2⟩ := r.slot j u e
      exact ⟨x, q1, VRep.mono' hA q2⟩
  · by_cases ht : j ∈ tv t
    · obtain ⟨d', x', q1, q2, q3⟩ := i1 j ht (hlt e)
      rw [q1] at e
      cases e
    · rw [o1 j ht] at e
      exact ⟨e, b.out j ht⟩
theorem RelS.kpSub (r : RelS p.w p.n A0 H0 Kp σ H env h) {K' : List (PyData × V)} (hs : ∀ q ∈ K', q ∈ Kp) : RelS p.w p.n A0 H0 K' σ H env h :=
  ⟨r.len, r.a0, r.c0, r.h0, r.ext, r.wd, r.slot, r.ownd, r.inj, fun q hq => r.kp q (hs q hq), r.b0⟩
theorem RelS.kpAdd (r : RelS p.w p.n A0 H0 Kp σ H env h) {K' : List (PyData × V)} (hs : Roots H (AO A0 σ env) K') : RelS p.w p.n A0 H0 (Kp ++ K') σ H env h :=
  ⟨r.len, r.a0, r.c0, r.h0, r.ext, r.wd, r.slot, r.ownd, r.inj, fun q hq => (List.mem_append.mp hq).elim (r.kp q) (hs q), r.b0⟩
theorem RelS.same (r : RelS p.w p.n A0 H0 Kp σ H env h) (sm : Same H H1) : RelS p.w p.n A0 H0 Kp σ H1 env h := by
  have wd := (r.wdE []).same sm
  exact r.after (Ext.of_same sm) wd
end
end Pv
/-! text S24 -/
set_option autoImplicit false
set_option Elab.async false
set_option linter.all false
set_option maxRecDepth 100000
set_option maxHeartbeats 2000000
namespace Pv
open PySem PySem.Spec PyProof.Rows L2
abbrev Pm.st (p : Pm) (fu : Nat) (s : S) : Pv.Env → HS → ResS := Pv.evS p.C p.th p.hot fu s
section
variable {p : Pm} {X : Cx} {fu : Nat}
theorem st_no {st : Stmt} {s : S} (h : ∀ env h, p.st fu s env h = .no) : PS X st (tS p (p.st fu s)) := ⟨fun pins s' σ H D I ⟨A0, H0, Kp, env, h', r, sm⟩ => by rw [h] at sm; exact sm.elim⟩
theorem sts_no {st : List Stmt} {s : S} (h : ∀ env h, p.st fu s env h = .no) : PSs X st (tS p (p.st fu s)) := ⟨fun pins s' σ H D I ⟨A0, H0, Kp, env, h', r, sm⟩ => by rw [h] at sm; exact sm.elim⟩
theorem SimS.nxt {A0 : Addr → Prop} {H0 H : Hp} {Kp : List (PyData × V)} {σ : L2.St} {env : Pv.Env} {h : HS} {D : Ends} (s : SimS p A0 H0 Kp (.ok (.nx, env) h) D) (r : RelS p.w p.n A0 H0 Kp σ H env h) : D.nx σ H := s σ H r
theorem st_skip {pos : Pos} : PS X (.Pass pos) (tS p (p.st fu .skip)) := ps_pass.imp fun D σ H ⟨A0, H0, Kp, env, h, r, s⟩ => by
  unfold Pm.st evS at s
  exact SimS.nxt s r
theorem st_brk {pos : Pos} : PS X (.Break pos) (tS p (p.st fu .brk)) := ps_break.imp fun D σ H ⟨A0, H0, Kp, env, h, r, s⟩ => by
  unfold Pm.st evS at s
  exact s σ H r
theorem st_cnt {pos : Pos} : PS X (.Continue pos) (tS p (p.st fu .cnt)) := ps_continue.imp fun D σ H ⟨A0, H0, Kp, env, h, r, s⟩ => by
  unfold Pm.st evS at s
  exact s σ H r
theorem sts_nil : PSs X [] (tS p (p.st fu .skip)) := pss_nil.imp fun D σ H ⟨A0, H0, Kp, env, h, r, s⟩ => by
  unfold Pm.st evS at s
  exact SimS.nxt s r
theorem sts_one {st : Stmt} {s : S} (h : PS X st (tS p (p.st fu s))) : PSs X [st] (tS p (p.st fu s)) := pss_one h
theorem sts_cons {st : Stmt} {rest : List Stmt} {a b : S} (ha : PS X st (tS p (p.st fu a))) (hb : PSs X rest (tS p (p.st fu b))) : PSs X (st :: rest) (tS p (p.st fu (.seq a b))) :=
  (pss_cons ha hb).imp fun D σ H ⟨A0, H0, Kp, env, h, r, s⟩ => by
    refine ⟨A0, H0, Kp, env, h, r, ?_⟩
    unfold Pm.st evS at s
    revert s
    show SimS p A0 H0 Kp (match evS p.C p.th p.hot fu a env h with
      | .ok (.nx, env') h' => evS p.C p.th p.hot fu b env' h'
      | r => r) D → SimS p A0 H0 Kp (evS p.C p.th p.hot fu a env h) _
    cases evS p.C p.th p.hot fu a env h with
    | no => exact fun s => s
    | ex c y h1 => exact fun s => s
    | ok o h1 =>
      obtain ⟨o, e1⟩ := o
      cases o with
      | nx => exact fun s σ' H' r' => ⟨A0, H0, Kp, e1, h1, r', s⟩
      | bk => exact fun s => s
      | ct => exact fun s => s
      | rt v fr => exact fun s => s
/-! expressions as statements, return, names -/
def isComp : Expr → Bool
  | .ListComp .. | .SetComp .. | .DictComp .. => true
  | _ => false
theorem swaps_no {e : Expr} (h : isComp e = false) (t : Option Expr) (l : Nat) (env : PySem.Env) : swapsWith e t l env = pure false := by
  cases e <;> first | rfl | cases h
theorem st_expr {e : Expr} {xe : Pv.X} {pos : Pos} (hc : isComp e = false) (he : Ev p X e xe) : PS X (.Expr e pos) (tS p (p.st fu (.expr xe))) :=
  (ps_expr (he.pe _ fun i hi => hi) (swaps_no hc _ _ _)).imp fun D σ H ⟨A0, H0, Kp, env, h, r, s⟩ => by
    unfold Pm.st evS at s
    exact r.use s fun a h1 y H1 e1 x wd rv t r1 s1 => SimS.nxt s1 r1
theorem RelS.retv {A0 : Addr → Prop} {H0 H H1 : Hp} {Kp : List (PyData × V)} {σ : L2.St} {env : Pv.Env} {h h1 : HS} {D : Ends} {U : List Nat} {v : PV} {fr : Bool} {y : V} {e' : Pv.Env} (r : RelS p.w p.n A0 H0 Kp σ H env h) (x : Ext p.w.hd H H1) (wd : Wd p.w (AE A0 σ env U) H1 h1) (rv : VRep p.w H1 (AE A0 σ env U) v y) (t : fr = true → TopN H0 v y)
    (s : SimS p A0 H0 Kp (.ok (.rt v fr, e') h1) D) : D.rt y H1 := s y H1 (r.ext.trans x) (r.wd0 (r.ext.trans x) wd) (rv.mono' fun b q => .inl q) t
theorem st_ret {e : Expr} {xe : Pv.X} {pos : Pos} (he : Ev p X e xe) : PS X (.Return (some e) pos) (tS p (p.st fu (.ret xe))) :=
  (ps_ret (he.pe _ fun i hi => hi)).imp fun D σ H ⟨A0, H0, Kp, env, h, r, s⟩ => by
    unfold Pm.st evS at s
    exact r.use s fun a h1 y H1 e1 x wd rv t r1 s1 => r.retv x wd rv (fun q => TopN.back r.ext (t q)) s1
theorem st_retV {i : Nat} {x : Str} {p1 pos : Pos} (hN : X.N[i]? = some x) (hv : Vis X.env.scope x) (hd : (x == ("__debug__" : Str)) = false) (hcd : (x == ("__classdict__" : Str)) = false) : PS X (.Return (some (.Name x p1)) pos) (tS p (p.st fu (.retV i))) :=
  (ps_ret (pe_var hN hv hd hcd)).imp fun D σ H ⟨A0, H0, Kp, env, h, r, s⟩ => by
    unfold Pm.st evS at s
    cases e : env[i]? with
    | none => simp only [e] at s; exact s.elim
    | some q =>
      cases q with
      | none => simp only [e] at s; exact s.elim
      | some q =>
        obtain ⟨v, o⟩ := q
        simp only [e] at s
        obtain ⟨y, q1, q2⟩ := r.relE [i] i v o (List.mem_cons_self ..) e
        refine ⟨y, q1, r.retv (Ext.refl H) (r.wdE [i]) q2 (fun z => ?_) s⟩
        subst z
        obtain ⟨b, d, rfl, q3, q4, q5⟩ := r.ownd i v e
        rw [q1] at q3
        cases q3
        intro a _ e3
        cases e3
        exact q4
/-- return of nothing -/
theorem st_retN {pos : Pos} : PS X (.Return none pos) (tS p (p.st fu (.ret (.cst .none)))) :=
  ps_retN.imp fun D σ H ⟨A0, H0, Kp, env, h, r, s⟩ => by
    unfold Pm.st evS at s
    unfold evE at s
    exact s .non H r.ext (r.wd0 r.ext (r.wdE [])) rfl fun _ _ z => by cases z
theorem st_set {i : Nat} {x : Str} {e : Expr} {xe : Pv.X} {p1 pos : Pos} (hN : X.N.Nodup) (hi : X.N[i]? = some x) (hx : Loc X.env.scope x) (hf : X.fn x = true ∨ X.env.scope.names.lookup x = some .local) (hn : i < p.n) (hs : swapsWith e (some (.Name x p1)) pos.line X.env = pure false) (he : Ev p X e xe) :
    PS X (.Assign [.Name x p1] e pos) (tS p (p.st fu (.set (.v i) xe))) :=
  (ps_set hN hi hx (he.pe _ fun i hi => hi) hs hf).imp fun D σ H ⟨A0, H0, Kp, env, h, r, s⟩ => by
    unfold Pm.st evS at s
    exact r.use s fun a h1 y H1 e1 x wd rv t r1 s1 => SimS.nxt s1 (r.setH x wd rv t hn)
end
end Pv
/-! text S25 -/
set_option autoImplicit false
set_option Elab.async false
set_option linter.all false
set_option maxRecDepth 100000
set_option maxHeartbeats 2000000
namespace Pv
open PySem PySem.Spec PyProof.Rows L2
/-! ### writing -/
/-- d[k] = v; a dict without entries may take either kind of keys -/
def rSetM : TSet := fun o i v H Q => ∃ a, o = .ref a ∧ ((∃ H', DPut H a i v H' ∧ Q H') ∨ (H a = some (.dK []) ∧ ∃ H', DPut (upd H a (.dT [])) a i v H' ∧ Q H') ∨ (H a = some (.dT []) ∧ ∃ H', DPut (upd H a (.dK [])) a i v H' ∧ Q H'))
theorem set_mapD {X : Cx} (hu : X.A.units + 1 < cLine) : PSet X rSetM := by
  intro pins s σ H o i v ov iv u Q I ro ri rv h
  obtain ⟨a, rfl, h⟩ := h
  cases ro
  rcases h with ⟨H', g, q⟩ | ⟨e, H', g, q⟩ | ⟨e, H', g, q⟩
  · exact d_setItem hu I g ri rv fun s' I' => ⟨H', I', q⟩
  · exact d_setItem hu (Inv.toT I e) g ri rv fun s' I' => ⟨H', I', q⟩
  · exact d_setItem hu (Inv.toK I e) g ri rv fun s' I' => ⟨H', I', q⟩
theorem set_orD {X : Cx} {t1 t2 : TSet} (h1 : PSet X t1) (h2 : PSet X t2) : PSet X (fun o i v H Q => t1 o i v H Q ∨ t2 o i v H Q) := by
  intro pins s σ H o i v ov iv u Q I ro ri rv h
  rcases h with h | h
  · exact h1 pins s σ H o i v ov iv u Q I ro ri rv h
  · exact h2 pins s σ H o i v ov iv u Q I ro ri rv h
/-- what may be written: a list, a dict -/
def Mut3 : HO → Prop
  | .lst _ | .dK _ | .dT _ => True
  | _ => False
theorem Mut3.ntup {H : Hp} {a : Addr} {u : HO} (hl : H a = some u) (m : Mut3 u) : ∀ vs, H a ≠ some (.tup vs) := fun vs q => by
  rw [hl] at q; cases q; exact m
theorem VRep.wr {w : Wo} {H : Hp} {A : Addr → Prop} {a : Addr} {u0 o : HO} (ha : A a) (hl : H a = some u0) (m : Mut3 u0) : ∀ {v : PV} {x : V}, VRep w H A v x → VRep w (upd H a o) A v x := by
  have ntup := Mut3.ntup hl m
  have ne : ∀ {b : Addr} {u : HO}, H b = some u → (Mut3 u → False) → upd H a o b = some u := fun {b u} e n => by
    rw [upd_ne (fun z => by rw [z, hl] at e; cases e; exact n m)]; exact e
  intro v x r
  cases v with
  | d d => exact DRep.wr ha ntup r
  | hand => exact r
  | fn => exact let ⟨f, c, q, e1, e2, e3⟩ := r; ⟨f, c, q, e1, e2, ne e3 (fun z => z)⟩
  | scr ds =>
    obtain ⟨b, vs, e, hs, hr⟩ := r
    refine ⟨b, vs, e, ?_, DRepL.wr ha ntup hr⟩
    rcases hs with ⟨o', hs⟩ | ⟨hs, h1, h2⟩ | hs
    · exact .inl ⟨o', ne hs (fun z => z)⟩
    · exact .inr (.inl ⟨by rw [upd_ne (fun z => h1 (by rw [z]; exact ha))]; exact hs, h1, h2⟩)
    · exact .inr (.inr hs)
  | exn c y =>
    obtain ⟨b, cls, d, e1, e2, C, h1, h2, h3⟩ := r
    refine ⟨b, cls, d, e1, e2, C, h1, h2, ?_⟩
    cases y with
    | none => exact h3
    | some y =>
      obtain ⟨dd, fs, v, q1, q2, q3, q4⟩ := h3
      exact ⟨dd, fs, v, q1, ne q2 (fun z => z), q3, DRep.wr ha ntup q4⟩
theorem nt_wrG {H : Hp} {a b : Addr} {u : HO} (hu : ∀ ps, u ≠ .tbl ps) (n : NT H b) : NT (upd H a u) b := by
  by_cases z : b = a
  · subst z; exact ⟨_, upd_same, hu⟩
  · obtain ⟨o, q1, q2⟩ := n
    exact ⟨o, by rw [upd_ne z]; exact q1, q2⟩
theorem Mut3.notbl {u : HO} (m : Mut3 u) : ∀ ps, u ≠ .tbl ps := fun ps q => by subst q; exact m
theorem Mut3.nocode {u : HO} (m : Mut3 u) : ∀ c q, u ≠ LamX.CodeO c q := fun c q z => by subst z; exact m
theorem OwnRep.wr {H : Hp} {A : Addr → Prop} {a b : Addr} {o : HO} (ha : A a) (hn : ∀ vs, H a ≠ some (.tup vs)) (ne : b ≠ a) : ∀ {d : PyData}, OwnRep H A d b → OwnRep (upd H a o) A d b
  | .list _, ⟨vs, e, r⟩ => ⟨vs, by rw [upd_ne ne]; exact e, r.wr ha hn⟩
  | .dict _, .inl ⟨ks, e, r⟩ => .inl ⟨ks, by rw [upd_ne ne]; exact e, r.wr ha hn⟩
  | .dict _, .inr ⟨ks, e, r⟩ => .inr ⟨ks, ⟨by rw [upd_ne ne]; exact e.1, e.2⟩, r.wr ha hn⟩
theorem putK_ne {κ : Type} [DecidableEq κ] {ks : List (κ × V)} {k : κ} {u : V} : putK ks k u ≠ [] := fun z => by
  unfold putK at z
  split at z
  · rename_i h
    have := List.map_eq_nil_iff.mp z
    subst this
    simp at h
  · simp at z
theorem setAt_rep {H : Hp} {A : Addr → Prop} {xs xs' : List PyData} {vs : List V} {j : Int} {y : PyData} {u : V} (r : DRepL H A xs vs) (ry : DRep H A y u) (e : setAt xs j y = some xs') : ∃ k, ixN vs.length j = some k ∧ DRepL H A xs' (vs.set k u) := by
  have hl := r.length
  have key : ∀ (xs : List PyData) (vs : List V) (k : Nat), DRepL H A xs vs → DRepL H A (xs.set k y) (vs.set k u) := by
    intro xs
    induction xs with
    | nil => intro vs k r; cases (show vs = [] from r); rfl
    | cons d ds ih =>
      intro vs k r
      obtain ⟨v, t, rfl, h1, h2⟩ := r
      cases k with
      | zero => exact ⟨u, t, rfl, ry, h2⟩
      | succ k => exact ⟨v, t.set k u, rfl, h1, ih t k h2⟩
  unfold setAt at e
  unfold ixN
  split at e
  · rename_i h0
    split at e
    · rename_i h1
      cases e
      refine ⟨j.toNat, ?_, key xs vs _ r⟩
      rw [if_pos h0, if_pos (by rw [hl]; omega)]
    · cases e
  · split at e
    · rename_i h0 h1
      cases e
      refine ⟨(j + xs.length).toNat, ?_, key xs vs _ r⟩
      rw [if_neg h0, hl, if_pos (by omega)]
    · cases e
section
variable {p : Pm} {A0 : Addr → Prop} {H0 H H1 : Hp} {Kp : List (PyData × V)} {σ : L2.St} {env : Pv.Env} {h h1 : HS} {D : Ends}
theorem RelS.wrG (r : RelS p.w p.n A0 H0 Kp σ H env h) {i : Nat} {a : Addr} {d d' : PyData} {u u' : HO} (e : env[i]? = some (some (.d d, true))) (eσ : σ[i]? = some (some (.ref a))) (ha : H a = some u) (m : Mut3 u) (m' : Mut3 u') (hr : OwnRep (upd H a u') (AO A0 σ env) d' a) :
    RelS p.w p.n A0 H0 Kp σ (upd H a u') (env.set i (some (.d d', true))) h := by
  have he : i < env.length := (List.getElem?_eq_some_iff.mp e).1
  have oi : ownA σ env i = some a := ownA_mk e eσ
  obtain ⟨hn0, _⟩ := r.ownNT oi
  have own' : ∀ j, ownA σ (env.set i (some (.d d', true))) j = ownA σ env j := fun j => by
    by_cases hj : j = i
    · subst hj
      rw [oi]
      exact ownA_mk (by rw [List.getElem?_set_self he]) eσ
    · unfold ownA
      rw [List.getElem?_set_ne (Ne.symm hj)]
  have hA : AO A0 σ (env.set i (some (.d d', true))) = AO A0 σ env := by
    funext b
    unfold AO
    simp only [own']
  have aA : AO A0 σ env a := .inr ⟨i, oi⟩
  have ntup := Mut3.ntup ha m
  have hna : ∀ b, p.w.hd = some b → b ≠ a := fun b q z => hn0 (r.a0 a (by rw [← z]; exact r.h0 b q))
  have exA : Ext p.w.hd H0 (upd H a u') := ⟨fun b o q1 q2 q3 => by
      rw [upd_ne (fun z => hn0 (by rw [← z]; exact ⟨o, q1, q2⟩))]
      exact r.ext.keep b o q1 q2 q3, fun b q => nt_wrG m'.notbl (r.ext.dom b q)⟩
  refine ⟨⟨r.len.1, by simpa using r.len.2⟩, r.a0, r.c0, r.h0, exA, ?_, fun j v ej => ?_, fun j v ej => ?_, fun j k b e1 e2 => ?_, fun q hq => ?_, r.b0⟩
  · rw [hA]
    refine ⟨fun b eb => ?_, r.wd.out, fun b q => nt_wrG m'.notbl (r.wd.ins b q), fun b q => nt_wrG m'.notbl (r.wd.dom b q), tabs_wr ha m.notbl m.nocode r.wd.tabs, r.wd.bs.fin fun B AB e => (r.b0 B AB e).1.trans exA⟩
    obtain ⟨q1, q2, us, q3, q4⟩ := r.wd.hand b eb
    exact ⟨q1, q2, us, by rw [upd_ne (hna b eb)]; exact q3, q4.wr (r.wd.out a aA) ntup⟩
  · rw [hA]
    by_cases hj : j = i
    · subst hj
      rw [List.getElem?_set_self he] at ej
      cases ej
    · rw [List.getElem?_set_ne (Ne.symm hj)] at ej
      obtain ⟨x, q1, q2⟩ := r.slot j v ej
      exact ⟨x, q1, q2.wr aA ha m⟩
  · rw [hA]
    by_cases hj : j = i
    · subst hj
      rw [List.getElem?_set_self he] at ej
      cases ej
      exact ⟨a, d', rfl, eσ, hn0, hr⟩
    · rw [List.getElem?_set_ne (Ne.symm hj)] at ej
      obtain ⟨b, d2, q0, q1, q2, q3⟩ := r.ownd j v ej
      exact ⟨b, d2, q0, q1, q2, q3.wr aA ntup (fun z => hj (r.inj j i a (by rw [← z]; exact ownA_mk ej q1) oi))⟩
  · rw [own'] at e1 e2
    exact r.inj j k b e1 e2
  · rw [hA]
    exact (r.kp q hq).wr aA ntup
theorem RelS.wr (r : RelS p.w p.n A0 H0 Kp σ H env h) {i : Nat} {a : Addr} {xs xs' : List PyData} {vs vs' : List V} (e : env[i]? = some (some (.d (.list xs), true))) (eσ : σ[i]? = some (some (.ref a))) (ha : H a = some (.lst vs)) (hr : DRepL H (AO A0 σ env) xs' vs') :
    RelS p.w p.n A0 H0 Kp σ (upd H a (.lst vs')) (env.set i (some (.d (.list xs'), true))) h :=
  r.wrG e eσ ha True.intro True.intro ⟨vs', upd_same, hr.wr (.inr ⟨i, ownA_mk e eσ⟩) (Mut3.ntup ha True.intro)⟩
theorem RelS.wrH (r : RelS p.w p.n A0 H0 Kp σ H env h) {a : Addr} {h' : HS} {vs vs' : List V} (e : p.w.hd = some a) (ha : H a = some (.lst vs)) (hr : DRepL H (fun b => ¬ p.w.hc b) h' vs') : RelS p.w p.n A0 H0 Kp σ (upd H a (.lst vs')) env h' := by
  have aA : AO A0 σ env a := .inl (r.h0 a e)
  have ntup : ∀ vs, H a ≠ some (.tup vs) := fun _ q => by rw [ha] at q; cases q
  have exA : Ext p.w.hd H0 (upd H a (.lst vs')) := ⟨fun b o q1 q2 q3 => by
      rw [upd_ne (fun z => q3 (by rw [z]; exact e))]
      exact r.ext.keep b o q1 q2 q3, fun b q => nt_wrG (fun _ q => by cases q) (r.ext.dom b q)⟩
  refine ⟨r.len, r.a0, r.c0, r.h0, exA, ?_, fun j v ej => ?_, fun j v ej => ?_, r.inj, fun q hq => (r.kp q hq).wr aA ntup, r.b0⟩
  · refine ⟨fun b eb => ?_, r.wd.out, fun b q => nt_wrG (fun _ q => by cases q) (r.wd.ins b q), fun b q => nt_wrG (fun _ q => by cases q) (r.wd.dom b q), tabs_wr ha (fun _ q => by cases q) (fun _ _ q => by cases q) r.wd.tabs, r.wd.bs.fin fun B AB e => (r.b0 B AB e).1.trans exA⟩
    rw [e] at eb
    cases eb
    exact ⟨aA, r.wd.out a aA, vs', upd_same, hr.wr (r.wd.out a aA) ntup⟩
  · obtain ⟨x, q1, q2⟩ := r.slot j v ej
    exact ⟨x, q1, q2.wr aA ha True.intro⟩
  · obtain ⟨b, d2, q0, q1, q2, q3⟩ := r.ownd j v ej
    exact ⟨b, d2, q0, q1, q2, q3.wr aA ntup (fun z => q2 (by rw [z]; exact r.a0 a (r.h0 a e)))⟩
end
end Pv
/-! text S26 -/
set_option autoImplicit false
set_option Elab.async false
set_option linter.all false
set_option maxRecDepth 100000
set_option maxHeartbeats 2000000
namespace Pv
open PySem PySem.Spec PyProof.Rows L2
section
variable {p : Pm} {X : Cx} {fu : Nat}
theorem RelS.mid {A0 : Addr → Prop} {H0 H H1 : Hp} {Kp : List (PyData × V)} {σ : L2.St} {env : Pv.Env} {h h1 : HS} {U : List Nat} (r : RelS p.w p.n A0 H0 Kp σ H env h) (r1 : RelS p.w p.n A0 H0 Kp σ H1 env h1) : Wd p.w (AE A0 σ env U) H1 h1 := r1.wdE U
/-- name = e, by another reading of e -/
theorem st_setG {i : Nat} {e : Expr} {xe : Pv.X} {tg : Expr} {pos : Pos} {t0 : TE} (hP : PS X (.Assign [tg] e pos) (tAsg t0 (gName i))) (core : ∀ σ H (Q : VK), tE p.w p.n p.W (vars xe) (p.ev xe) σ H Q → t0 σ H Q) (hn : i < p.n) : PS X (.Assign [tg] e pos) (tS p (p.st fu (.set (.v i) xe))) :=
  hP.imp fun D σ H ⟨A0, H0, Kp, env, h, r, s⟩ => by
    unfold Pm.st evS at s
    exact core σ H _ (r.use s fun a h1 y H1 e1 x wd rv t r1 s1 => SimS.nxt s1 (r.setH x wd rv t hn))
theorem st_setT {tg e : Expr} {t : T} {xe : Pv.X} {pos : Pos} (hot : p.hot = false) (hg : Eg X tg (.tup t)) (hn : ∀ i ∈ tv t, i < p.n) (he : Ev p X e xe) (hs : swapsWithSole [tg] e pos.line X.env = pure false) (hw : swappedStores [tg] e X.env = pure none)
    (h1 : (assignEach [tg] X.env).map (·.2) = [assign tg X.env]) : PS X (.Assign [tg] e pos) (tS p (p.st fu (.set (.tup t) xe))) :=
  (ps_asg (he.pe _ fun i hi => hi) hg.pg hs hw h1).imp fun D σ H ⟨A0, H0, Kp, env, h, r, s⟩ => by
    unfold Pm.st evS at s
    rw [hot] at s
    have ee : evE p.C p.th false xe = p.ev xe := by unfold Pm.ev; rw [hot]
    rw [ee] at s
    refine r.use s fun a h1 y H1 e1 x wd rv tn r1 s1 => ?_
    obtain ⟨r2, rv2⟩ := r.leak x wd rv tn
    obtain ⟨v, fr⟩ := a
    cases v with
    | d d =>
      have s1 : SimS p A0 H0 Kp (match bindT (.tup t) d (leak (.d d) fr (vars xe) env) with
        | some env' => .ok (.nx, env') h1
        | none => .no) D := s1
      cases hb : bindT (.tup t) d (leak (.d d) fr (vars xe) env) with
      | none => rw [hb] at s1; exact s1.elim
      | some env' =>
        rw [hb] at s1
        exact ⟨_, d, _, env', rv2, hb, fun i hi => by rw [r.len.1]; exact hn i hi, fun σ' bd => SimS.nxt s1 (r2.bnd hb bd rv2)⟩
    | _ => exact s1.elim
/-! x op= e -/
theorem ip_ok (o : Bop) : PIp X o.op (fun x y H Q => ∃ i j z, x = .int i ∧ y = .int j ∧ augD o i j = some z ∧ Q (.int z) H) := by
  intro pins s σ H x y v u Q I rx ry ⟨i, j, z, ex, ey, e, q⟩
  subst ex ey
  cases o <;> simp only [augD, reduceCtorEq] at e
  · cases e
    exact iop_add pins s σ H _ _ v u Q I rx ry ⟨i, j, rfl, rfl, q⟩
  · cases e
    exact iop_sub pins s σ H _ _ v u Q I rx ry ⟨i, j, rfl, rfl, q⟩
  · split at e
    · rename_i hs
      cases e
      refine iop_mul pins s σ H _ _ v u Q I rx ry ⟨i, j, rfl, rfl, ?_, q⟩
      rcases Bool.or_eq_true_iff.mp hs with k | k
      · exact .inl (small_of k)
      · exact .inr (small_of k)
    · cases e
  · split at e
    · cases e
      exact iop_mod pins s σ H _ _ v u Q I rx ry ⟨i, j, rfl, rfl, by assumption, q⟩
    · cases e
  · split at e
    · rename_i hs
      cases e
      have hs' := hs
      simp only [Bool.and_eq_true, decide_eq_true_eq] at hs'
      exact iop_fdiv pins s σ H _ _ v u Q I rx ry ⟨i, j, rfl, rfl, hs', q⟩
    · cases e
theorem st_aug {i : Nat} {x : Str} {o : Bop} {e : Expr} {xe : Pv.X} {p1 pos : Pos} (hN : X.N.Nodup) (hi : X.N[i]? = some x) (hx : Loc X.env.scope x) (hf : X.fn x = true ∨ X.env.scope.names.lookup x = some .local) (hn : i < p.n) (he : Ev p X e xe) : PS X (.AugAssign (.Name x p1) o.op e pos) (tS p (p.st fu (.aug i o xe))) :=
  (ps_aug hN hi hx (he.pe _ fun i hi => hi) (ip_ok o) hf).imp fun D σ H ⟨A0, H0, Kp, env, h, r, s⟩ => by
    unfold Pm.st evS at s
    unfold envD at s
    cases e0 : env[i]? with
    | none => simp only [e0] at s; exact s.elim
    | some q =>
      cases q with
      | none => simp only [e0] at s; exact s.elim
      | some q =>
        obtain ⟨v, ow⟩ := q
        simp only [e0] at s
        cases v with
        | d d =>
          cases d with
          | int k =>
            obtain ⟨y, q1, q2⟩ := r.relE [i] i _ ow (List.mem_cons_self ..) e0
            cases (show y = .int k from q2)
            refine ⟨_, q1, r.use s fun a h1 z H1 e1 x wd rv t r1 s1 => ?_⟩
            obtain ⟨v, fr⟩ := a
            cases v with
            | d d =>
              cases d with
              | int j =>
                have s1 : SimS p A0 H0 Kp (match augD o k j with
                  | some z => .ok (.nx, env.set i (some (.d (.int z), false))) h1
                  | none => .no) D := s1
                cases ha : augD o k j with
                | none => rw [ha] at s1; exact s1.elim
                | some w =>
                  rw [ha] at s1
                  cases (show z = .int j from rv)
                  exact ⟨k, j, w, rfl, rfl, ha, SimS.nxt s1 (r1.setN rfl hn)⟩
              | _ => exact s1.elim
            | _ => exact s1.elim
          | _ => exact s.elim
        | _ => exact s.elim
/-! x[k] = e -/
/-- an entry put into an own dict: what is to be shown, what it is then -/
def PutTo (H : Hp) (A : Addr → Prop) (kvs : List (PyData × PyData)) (a : Addr) (k y : PyData) (x u : V) : Prop :=
  ∃ u0 o' : HO, H a = some u0 ∧ Mut3 u0 ∧ Mut3 o' ∧ (DPut H a x u (upd H a o') ∨ (H a = some (.dK []) ∧ DPut (upd H a (.dT [])) a x u (upd H a o')) ∨ (H a = some (.dT []) ∧ DPut (upd H a (.dK [])) a x u (upd H a o'))) ∧ OwnRep (upd H a o') A (.dict (dictPut kvs k y)) a
theorem put_cases {H : Hp} {A A' : Addr → Prop} {kvs : List (PyData × PyData)} {a : Addr} {k y : PyData} {x u : V} (hd : OwnRep H A (.dict kvs) a) (hk : DRep H A' k x) (ry : DRep H A y u) (hf : keyFor kvs k = true) (hl : kvs.length < sizeLine) (ha : A a) : PutTo H A kvs a k y x u := by
  have toK : keyS k = true → ∃ j, k = dK j ∧ x = kV j := fun q => by
    obtain ⟨j, e⟩ := keyS_of q
    subst e
    exact ⟨j, rfl, dK_v hk⟩
  have toT : keyTS k = true → ∃ (b : Addr) (js : List Key), k = .tuple (js.map dK) ∧ x = .ref b ∧ H b = some (.tup (js.map kV)) := fun q => by
    obtain ⟨js, e⟩ := keyTS_of q
    subst e
    obtain ⟨b, vs, e1, h1, h2⟩ := hk
    rw [dKs_v h2] at h1
    exact ⟨b, js, rfl, e1, h1⟩
  rcases hd with ⟨ks, e, r⟩ | ⟨ks, ⟨e, ne0⟩, r⟩
  · have nt : ∀ vs, H a ≠ some (.tup vs) := Mut3.ntup e True.intro
    have goK : keyS k = true → PutTo H A kvs a k y x u := fun q => by
      obtain ⟨j, rfl, rfl⟩ := toK q
      exact ⟨_, .dK (putK ks j u), e, True.intro, True.intro, .inl (DPut.k e (by rw [r.len]; exact hl)), .inl ⟨_, upd_same, (r.put ry j).wr ha nt⟩⟩
    cases kvs with
    | nil =>
      have r' : ks = [] := r
      subst r'
      rcases Bool.or_eq_true_iff.mp hf with q | q
      · exact goK q
      · obtain ⟨b, js, rfl, rfl, hb⟩ := toT q
        have ne : b ≠ a := fun z => nt _ (by rw [← z]; exact hb)
        have pt : DPut (upd H a (.dT [])) a (.ref b) u (upd H a (.dT (putK [] js u))) := by
          have := DPut.t (H := upd H a (.dT [])) (a := a) (b := b) (kvs := []) (k := js) (v := u) upd_same (by rw [upd_ne ne]; exact hb) (by show 0 < sizeLine; decide)
          rw [upd_upd] at this
          exact this
        have r2 : DRepT H A [] [] := rfl
        exact ⟨_, .dT (putK [] js u), e, True.intro, True.intro, .inr (.inl ⟨e, pt⟩), .inr ⟨_, ⟨upd_same, putK_ne⟩, (r2.put ry js).wr ha nt⟩⟩
    | cons p kvs =>
      obtain ⟨k0, d0⟩ := p
      obtain ⟨j0, v, t, e1, e2, _⟩ := id r
      rcases Bool.or_eq_true_iff.mp hf with q | q
      · exact goK (Bool.and_eq_true_iff.mp q).2
      · have q1 := (Bool.and_eq_true_iff.mp q).1
        rw [e2] at q1
        cases j0 <;> simp [dK, keyTS] at q1
  · have nt : ∀ vs, H a ≠ some (.tup vs) := Mut3.ntup e True.intro
    have goT : keyTS k = true → PutTo H A kvs a k y x u := fun q => by
      obtain ⟨b, js, rfl, rfl, hb⟩ := toT q
      exact ⟨_, .dT (putK ks js u), e, True.intro, True.intro, .inl (DPut.t e hb (by rw [r.len]; exact hl)), .inr ⟨_, ⟨upd_same, putK_ne⟩, (r.put ry js).wr ha nt⟩⟩
    cases kvs with
    | nil =>
      have r' : ks = [] := r
      subst r'
      rcases Bool.or_eq_true_iff.mp hf with q | q
      · obtain ⟨j, rfl, rfl⟩ := toK q
        have pt : DPut (upd H a (.dK [])) a (kV j) u (upd H a (.dK (putK [] j u))) := by
          have := DPut.k (H := upd H a (.dK [])) (a := a) (kvs := []) (k := j) (v := u) upd_same (by show 0 < sizeLine; decide)
          rw [upd_upd] at this
          exact this
        have r2 : DRepK H A [] [] := rfl
        exact ⟨_, .dK (putK [] j u), e, True.intro, True.intro, .inr (.inr ⟨e, pt⟩), .inl ⟨_, upd_same, (r2.put ry j).wr ha nt⟩⟩
      · exact goT q
    | cons p kvs =>
      obtain ⟨k0, d0⟩ := p
      obtain ⟨j0, v, t, e1, e2, _⟩ := id r
      rcases Bool.or_eq_true_iff.mp hf with q | q
      · have q1 := (Bool.and_eq_true_iff.mp q).1
        rw [e2] at q1
        simp [keyS] at q1
      · exact goT (Bool.and_eq_true_iff.mp q).2
theorem ownD_of {env : Pv.Env} {i : Nat} {d : PyData} (h : ownD env i = some d) : env[i]? = some (some (.d d, true)) := by
  unfold ownD at h
  split at h
  · rename_i x e; cases h; exact e
  · cases h
theorem reown_of {env : Pv.Env} {i : Nat} {d x : PyData} {o : Bool} (h : env[i]? = some (some (.d d, o))) : reown env i x = env.set i (some (.d x, o)) := by
  unfold reown
  rw [h]
theorem st_sto {i : Nat} {x : Str} {k e : Expr} {xk xe : Pv.X} {p1 p2 pos : Pos} (hu : X.A.units + 1 < cLine) (hot : p.hot = false) (hN : X.N[i]? = some x) (hv : Vis X.env.scope x) (hd : (x == ("__debug__" : Str)) = false) (hcd : (x == ("__classdict__" : Str)) = false) (hk : Ev p X k xk) (he : Ev p X e xe) (hs : swapsWithSole [.Subscript (.Name x p1) k p2] e pos.line X.env = pure false)
    (hw : swappedStores [.Subscript (.Name x p1) k p2] e X.env = pure none) (h1 : (assignEach [.Subscript (.Name x p1) k p2] X.env).map (·.2) = [assign (.Subscript (.Name x p1) k p2) X.env])
    (ha : ∀ v, assign (.Subscript (.Name x p1) k p2) X.env v = (do
      let ov ← holding [v] (eval (.Name x p1) X.env)
      let iv ← holding [v, ov] (eval k X.env)
      standAt p2
      holding [v, ov, iv] (setItem ov iv v)
      release [v, ov, iv] [])) : PS X (.Assign [.Subscript (.Name x p1) k p2] e pos) (tS p (p.st fu (.sto i xk xe))) :=
  (ps_asg (he.pe _ fun i hi => hi) (pg_sub (pe_var hN hv hd hcd) (hk.pe _ fun i hi => hi) (set_orD set_list (set_mapD hu)) ha) hs hw h1).imp fun D σ H ⟨A0, H0, Kp, env, h, r, s⟩ => by
    unfold Pm.st evS at s
    rw [hot] at s
    have ee : evE p.C p.th false xe = p.ev xe := by unfold Pm.ev; rw [hot]
    have ek : evE p.C p.th false xk = p.ev xk := by unfold Pm.ev; rw [hot]
    unfold envD at s
    cases e0 : env[i]? with
    | none => simp only [e0] at s; exact s.elim
    | some q =>
      cases q with
      | none => simp only [e0] at s; exact s.elim
      | some q =>
        obtain ⟨v0, ow⟩ := q
        simp only [e0] at s
        obtain ⟨xo, so, ro⟩ := r.relE [i] i v0 ow (List.mem_cons_self ..) e0
        cases v0 with
        | hand =>
          have s : SimS p A0 H0 Kp ((p.ev xe env h).bind fun v h => (p.ev xk env h).bind fun w h => match v.1, w.1 with
            | .d y, .d (.int j) => match imm y with
              | true => match setAt h j y with
                | some h' => .ok (.nx, env) h'
                | none => .no
              | false => .no
            | _, _ => .no) D := by rw [← ee, ← ek]; exact s
          refine r.use s fun a h1 y H1 e1 x1 w1 rv t r1 s1 => ⟨xo, so, r1.use s1 fun b h2 z H2 e2 x2 w2 rw2 t2 r2 s2 => ?_⟩
          obtain ⟨v, fr⟩ := a
          obtain ⟨u, fr2⟩ := b
          cases v with
          | d y' =>
            cases u with
            | d k' =>
              cases k' with
              | int j =>
                have s2 : SimS p A0 H0 Kp (match imm y' with
                  | true => match setAt h2 j y' with
                    | some h' => .ok (.nx, env) h'
                    | none => .no
                  | false => .no) D := s2
                cases hi : imm y' with
                | false => rw [hi] at s2; exact s2.elim
                | true =>
                  rw [hi] at s2
                  cases hs2 : setAt h2 j y' with
                  | none => rw [hs2] at s2; exact s2.elim
                  | some h' =>
                    rw [hs2] at s2
                    obtain ⟨b, eb, rfl⟩ := ro
                    obtain ⟨q1, q2, vs, q3, q4⟩ := r2.wd.hand b eb
                    cases (show z = .int j from rw2)
                    have ry : DRep H2 (fun c => ¬ p.w.hc c) y' y := DRep.imm y' y hi (DRep.ext' x2 w1 rv)
                    obtain ⟨kk, k1, k2⟩ := setAt_rep q4 ry hs2
                    exact .inl ⟨b, vs, j, kk, rfl, rfl, q3, k1, SimS.nxt s2 (r2.wrH eb q3 k2)⟩
              | _ => exact s2.elim
            | _ => exact s2.elim
          | _ => exact s2.elim
        | d d0 =>
          have s : SimS p A0 H0 Kp ((p.ev xe env h).bind fun v h => (p.ev xk env h).bind fun w h => match v.1, w.1 with
            | .d y, .d j => match ownD (leak v.1 v.2 (vars xe) env) i with
              | some x => match storeD x j y with
                | some x' => .ok (.nx, reown (leak v.1 v.2 (vars xe) env) i x') h
                | none => .no
              | none => .no
            | _, _ => .no) D := by rw [← ee, ← ek]; exact s
          refine r.use s fun a h1 y H1 e1 x1 w1 rv t r1 s1 => ⟨xo, so, r1.use s1 fun b h2 z H2 e2 x2 w2 rw2 t2 r2 s2 => ?_⟩
          obtain ⟨v, fr⟩ := a
          obtain ⟨u, fr2⟩ := b
          cases v with
          | d y' =>
            cases u with
            | d k' =>
              have s2 : SimS p A0 H0 Kp (match ownD (leak (.d y') fr (vars xe) env) i with
                | some x => match storeD x k' y' with
                  | some x' => .ok (.nx, reown (leak (.d y') fr (vars xe) env) i x') h2
                  | none => .no
                | none => .no) D := s2
              cases ho : ownD (leak (.d y') fr (vars xe) env) i with
              | none => rw [ho] at s2; exact s2.elim
              | some l =>
                rw [ho] at s2
                have s2 : SimS p A0 H0 Kp (match storeD l k' y' with
                  | some x' => .ok (.nx, reown (leak (.d y') fr (vars xe) env) i x') h2
                  | none => .no) D := s2
                cases hs2 : storeD l k' y' with
                | none => rw [hs2] at s2; exact s2.elim
                | some x' =>
                  rw [hs2] at s2
                  have eo := ownD_of ho
                  obtain ⟨r3, rv3⟩ := r.leak (x1.trans x2) (r2.wdE (vars xe)) (VRep.ext x2 w1.in (v := .d y') rv) t
                  obtain ⟨b, d4, e4, q1, q2, q3⟩ := r3.ownd i _ eo
                  cases e4
                  rw [so] at q1
                  cases q1
                  have s2 : SimS p A0 H0 Kp (.ok (.nx, reown (leak (.d y') fr (vars xe) env) i x') h2) D := s2
                  rw [reown_of eo] at s2
                  cases l with
                  | list xs =>
                    cases k' with
                    | int j =>
                      obtain ⟨xs', e5, e6⟩ := Option.map_eq_some_iff.mp (show (setAt xs j y').map PyData.list = some x' from hs2)
                      subst e6
                      obtain ⟨vs, q3, q4⟩ := q3
                      cases (show z = .int j from rw2)
                      obtain ⟨kk, k1, k2⟩ := setAt_rep q4 rv3 e5
                      exact .inl ⟨b, vs, j, kk, rfl, rfl, q3, k1, SimS.nxt s2 (r3.wr eo so q3 k2)⟩
                    | _ => cases hs2
                  | dict kvs =>
                    have hs2 : (if keyFor kvs k' && decide (kvs.length < lineN) then some (PyData.dict (dictPut kvs k' y')) else none) = some x' := hs2
                    split at hs2
                    · rename_i hc
                      cases hs2
                      obtain ⟨hf, hl⟩ := Bool.and_eq_true_iff.mp hc
                      have hl := of_decide_eq_true hl
                      obtain ⟨u0, o', g1, g2, g3, g4, g5⟩ := put_cases q3 (show DRep H2 _ k' z from rw2) rv3 hf (by rw [← lineN_eq]; exact hl) (.inr ⟨i, ownA_mk eo so⟩)
                      have fin := SimS.nxt s2 (r3.wrG eo so g1 g2 g3 g5)
                      refine .inr ⟨b, rfl, ?_⟩
                      rcases g4 with g | ⟨g0, g⟩ | ⟨g0, g⟩
                      · exact .inl ⟨_, g, fin⟩
                      · exact .inr (.inl ⟨g0, _, g, fin⟩)
                      · exact .inr (.inr ⟨g0, _, g, fin⟩)
                    · cases hs2
                  | _ => exact q3.elim
            | _ => exact s2.elim
          | _ => exact s2.elim
        | _ => exact s.elim
/-! xs.append(e) -/
theorem st_app {i : Nat} {x : Str} {e : Expr} {xe : Pv.X} {p1 p2 p3 pos : Pos} (hot : p.hot = false) (hN : X.N[i]? = some x) (hv : Vis X.env.scope x) (hd : (x == ("__debug__" : Str)) = false) (hcd : (x == ("__classdict__" : Str)) = false) (hl : (p2.endLine == p3.line) = true) (hst : isStar e = false) (he : Ev p X e xe) :
    PS X (.Expr (.Call (.Attribute (.Name x p1) "append" p2) [e] [] p3) pos) (tS p (p.st fu (.app i xe))) :=
  (ps_expr (pe_bm F.plainAttrs_list PySem.F.slot_list_append (by rfl) mt_append (pe_var (pos := p1) hN hv hd hcd) (pa_cons (he.pe _ fun i hi => hi) pa_nil (starEach_cons hst _ X.env)) (by rfl) (by rw [starEach_cons hst]; rfl) hl (starEach_cons hst _ X.env) (by rfl)) (by rfl)).imp fun D σ H ⟨A0, H0, Kp, env, h, r, s⟩ => by
    unfold Pm.st evS at s
    rw [hot] at s
    have ee : evE p.C p.th false xe = p.ev xe := by unfold Pm.ev; rw [hot]
    rw [ee] at s
    cases ho0 : ownD env i with
    | none => rw [ho0] at s; exact s.elim
    | some l0 =>
      rw [ho0] at s
      cases l0 with
      | list xs0 =>
        have eo0 := ownD_of ho0
        obtain ⟨b, ys, vs, e4, q1, q2, q3, q4⟩ := r.owndL i _ eo0 rfl
        refine ⟨_, q1, .inl ⟨rfl, vs, .of q3⟩, r.use s fun a h1 y H1 e1 x1 w1 rv t r1 s1 => ?_⟩
        obtain ⟨v, fr⟩ := a
        cases v with
        | d y' =>
          have s2 : SimS p A0 H0 Kp (match ownD (leak (.d y') fr (vars xe) env) i with
            | some (.list xs) => match decide (xs.length < lineN) with
              | true => .ok (.nx, reown (leak (.d y') fr (vars xe) env) i (.list (xs ++ [y']))) h1
              | false => .no
            | _ => .no) D := s1
          cases ho : ownD (leak (.d y') fr (vars xe) env) i with
          | none => rw [ho] at s2; exact s2.elim
          | some l =>
            rw [ho] at s2
            cases l with
            | list xs =>
              have s2 : SimS p A0 H0 Kp (match decide (xs.length < lineN) with
                | true => .ok (.nx, reown (leak (.d y') fr (vars xe) env) i (.list (xs ++ [y']))) h1
                | false => .no) D := s2
              cases hz : decide (xs.length < lineN) with
              | false => rw [hz] at s2; exact s2.elim
              | true =>
                rw [hz] at s2
                have eo := ownD_of ho
                obtain ⟨r3, rv3⟩ := r.leak x1 w1 (v := .d y') rv t
                obtain ⟨b3, ys3, vs3, e5, q5, q6, q7, q8⟩ := r3.owndL i _ eo rfl
                cases e5
                rw [q1] at q5
                cases q5
                have s2 : SimS p A0 H0 Kp (.ok (.nx, reown (leak (.d y') fr (vars xe) env) i (.list (xs ++ [y']))) h1) D := s2
                rw [reown_of eo] at s2
                have hz := of_decide_eq_true hz
                exact ⟨b, vs3, y, rfl, rfl, q7, by rw [q8.length, ← lineN_eq]; exact hz, SimS.nxt s2 (r3.wr eo q1 q7 (q8.append ⟨y, [], rfl, rv3, rfl⟩))⟩
            | _ => exact s2.elim
        | _ => exact s1.elim
      | _ => exact s.elim
/-! xs.extend(e) -/
theorem st_ext {i : Nat} {x : Str} {e : Expr} {xe : Pv.X} {p1 p2 p3 pos : Pos} (hot : p.hot = false) (hN : X.N[i]? = some x) (hv : Vis X.env.scope x) (hd : (x == ("__debug__" : Str)) = false) (hcd : (x == ("__classdict__" : Str)) = false) (hl : (p2.endLine == p3.line) = true) (hst : isStar e = false) (he : Ev p X e xe) :
    PS X (.Expr (.Call (.Attribute (.Name x p1) "extend" p2) [e] [] p3) pos) (tS p (p.st fu (.ext i xe))) :=
  (ps_expr (pe_bm F.plainAttrs_list PySem.F.slot_list_extend (by rfl) mt_extend (pe_var (pos := p1) hN hv hd hcd) (pa_cons (he.pe _ fun i hi => hi) pa_nil (starEach_cons hst _ X.env)) (by rfl) (by rw [starEach_cons hst]; rfl) hl (starEach_cons hst _ X.env) (by rfl)) (by rfl)).imp fun D σ H ⟨A0, H0, Kp, env, h, r, s⟩ => by
    unfold Pm.st evS at s
    rw [hot] at s
    have ee : evE p.C p.th false xe = p.ev xe := by unfold Pm.ev; rw [hot]
    rw [ee] at s
    cases ho0 : ownD env i with
    | none => rw [ho0] at s; exact s.elim
    | some l0 =>
      rw [ho0] at s
      cases l0 with
      | list xs0 =>
        have eo0 := ownD_of ho0
        obtain ⟨b, ys, vs, e4, q1, q2, q3, q4⟩ := r.owndL i _ eo0 rfl
        refine ⟨_, q1, .inl ⟨rfl, vs, .of q3⟩, r.use s fun a h1 y H1 e1 x1 w1 rv t r1 s1 => ?_⟩
        obtain ⟨v, fr⟩ := a
        cases v with
        | d w0 => cases w0 with
         | list ys' =>
          have s2 : SimS p A0 H0 Kp (match ownD (leak (.d (.list ys')) fr (vars xe) env) i with
            | some (.list xs) => match decide (xs.length + ys'.length ≤ lineN) with
              | true => .ok (.nx, reown (leak (.d (.list ys')) fr (vars xe) env) i (.list (xs ++ ys'))) h1
              | false => .no
            | _ => .no) D := s1
          cases ho : ownD (leak (.d (.list ys')) fr (vars xe) env) i with
          | none => rw [ho] at s2; exact s2.elim
          | some l =>
            rw [ho] at s2
            cases l with
            | list xs =>
              have s2 : SimS p A0 H0 Kp (match decide (xs.length + ys'.length ≤ lineN) with
                | true => .ok (.nx, reown (leak (.d (.list ys')) fr (vars xe) env) i (.list (xs ++ ys'))) h1
                | false => .no) D := s2
              cases hz : decide (xs.length + ys'.length ≤ lineN) with
              | false => rw [hz] at s2; exact s2.elim
              | true =>
                rw [hz] at s2
                have eo := ownD_of ho
                obtain ⟨r3, rv3⟩ := r.leak x1 w1 (v := .d (.list ys')) rv t
                obtain ⟨b3, ys3, vs3, e5, q5, q6, q7, q8⟩ := r3.owndL i _ eo rfl
                cases e5
                rw [q1] at q5
                cases q5
                have s2 : SimS p A0 H0 Kp (.ok (.nx, reown (leak (.d (.list ys')) fr (vars xe) env) i (.list (xs ++ ys'))) h1) D := s2
                rw [reown_of eo] at s2
                have hz := of_decide_eq_true hz
                obtain ⟨b4, zs, e6, _, hb4, rl⟩ := (show DRep _ _ (.list ys') y from rv3)
                subst e6
                exact ⟨b, b4, vs3, zs, rfl, rfl, q7, hb4, by rw [q8.length, rl.length, ← lineN_eq]; exact hz, SimS.nxt s2 (r3.wr eo q1 q7 (q8.append rl))⟩
            | _ => exact s2.elim
         | _ => exact s1.elim
        | _ => exact s1.elim
      | _ => exact s.elim
end
end Pv
/-! text S27 -/
set_option autoImplicit false
set_option Elab.async false
set_option linter.all false
set_option maxRecDepth 100000
set_option maxHeartbeats 2000000
namespace Pv
open PySem PySem.Spec PyProof.Rows L2
section
variable {p : Pm} {X : Cx} {fu : Nat}
/-- a test, read for a statement -/
theorem RelS.useT {A0 : Addr → Prop} {H0 H : Hp} {Kp : List (PyData × V)} {σ : L2.St} {env : Pv.Env} {h : HS} {D : Ends} {x : Pv.X} {f g : HS → ResS} {Q : Bool → Hp → Prop} (r : RelS p.w p.n A0 H0 Kp σ H env h) (s : SimS p A0 H0 Kp ((p.ev x env h).bind fun v h => match truth v.1 with
      | some true => f h
      | some false => g h
      | none => .no) D)
    (k : ∀ (b : Bool) h1 H1, RelS p.w p.n A0 H0 Kp σ H1 env h1 → SimS p A0 H0 Kp (if b = true then f h1 else g h1) D → Q b H1) : tT p.w p.n p.W (vars x) (p.ev x) σ H Q := by
  have e : ((p.ev x env h).bind fun v h => match truth v.1 with
      | some true => f h
      | some false => g h
      | none => .no) = ((fun env h => (p.ev x env h).bind tru) env h).bind fun b h => if b = true then f h else g h := by
    show _ = ((p.ev x env h).bind tru).bind fun b h => if b = true then f h else g h
    cases p.ev x env h with
    | ok v h1 =>
      show (match truth v.1 with | some true => f h1 | some false => g h1 | none => .no) = (tru v h1).bind fun b h => if b = true then f h else g h
      unfold tru
      cases truth v.1 with
      | none => rfl
      | some b => cases b <;> rfl
    | ex c y h1 => rfl
    | no => rfl
  rw [e] at s
  exact RelS.useG (rd := fun env h => (p.ev x env h).bind tru) (Rp := fun _ => RpB) (vars x) r s fun a h1 y H1 _ _ _ rp r1 s1 => by
    cases rp
    exact k _ h1 H1 r1 s1
theorem st_ite {c : Expr} {a b : List Stmt} {xc : Pv.X} {sa sb : S} {pos : Pos} (hc : Ev p X c xc) (ha : PSs X a (tS p (p.st fu sa))) (hb : PSs X b (tS p (p.st fu sb))) : PS X (.If c a b pos) (tS p (p.st fu (.ite xc sa sb))) :=
  (ps_if (hc.pt _ fun i hi => hi) ha hb).imp fun D σ H ⟨A0, H0, Kp, env, h, r, s⟩ => by
    unfold Pm.st evS at s
    refine RelS.useT r s fun b h1 H1 r1 s1 => ?_
    cases b with
    | true => exact ⟨A0, H0, Kp, env, h1, r1, s1⟩
    | false => exact ⟨A0, H0, Kp, env, h1, r1, s1⟩
/-- behind a turn of a while -/
def whTail (k : Pv.Env → HS → ResS) (env : Pv.Env) (r : R (Option (Out × Pv.Env))) : ResS := match r with
  | .ok none h' => .ok (.nx, env) h'
  | .ok (some (.nx, env')) h' => k env' h'
  | .ok (some (.ct, env')) h' => k env' h'
  | .ok (some (.bk, env')) h' => .ok (.nx, env') h'
  | .ok (some (.rt v fr, env')) h' => .ok (.rt v fr, env') h'
  | .ex c x h' => .ex c x h'
  | .no => .no
def loTail (k : Pv.Env → HS → ResS) (r : ResS) : ResS := match r with
  | .ok (.nx, env') h' => k env' h'
  | .ok (.ct, env') h' => k env' h'
  | .ok (.bk, env') h' => .ok (.nx, env') h'
  | .ok (.rt v fr, env') h' => .ok (.rt v fr, env') h'
  | .ex c x h' => .ex c x h'
  | .no => .no
theorem while_succ (step : Pv.Env → HS → R (Option (Out × Pv.Env))) (m : Nat) (env : Pv.Env) (h : HS) : whileLoop step (m + 1) env h = whTail (whileLoop step m) env (step env h) := rfl
theorem for_cons (step : PyData → Pv.Env → HS → ResS) (x : PyData) (r : List PyData) (env : Pv.Env) (h : HS) : forLoop step (x :: r) env h = loTail (forLoop step r) (step x env h) := by
  unfold forLoop loTail
  cases step x env h with
  | no => rfl
  | ex c y h2 => rfl
  | ok o h2 =>
    obtain ⟨o, e2⟩ := o
    cases o <;> rfl
theorem wh_eq (k : Pv.Env → HS → ResS) (env : Pv.Env) (r : Pv.Res) (f : Pv.Env → HS → ResS) : whTail k env (r.bind fun v h => match truth v.1 with
    | some true => (f env h).bind fun r h => .ok (some r) h
    | some false => .ok none h
    | none => .no) = r.bind fun v h => match truth v.1 with
    | some true => loTail k (f env h)
    | some false => .ok (.nx, env) h
    | none => .no := by
  cases r with
  | no => rfl
  | ex c y h1 => rfl
  | ok v h1 =>
    show whTail k env (match truth v.1 with
      | some true => (f env h1).bind fun r h => .ok (some r) h
      | some false => .ok none h1
      | none => .no) = (match truth v.1 with
      | some true => loTail k (f env h1)
      | some false => .ok (.nx, env) h1
      | none => .no)
    cases truth v.1 with
    | none => rfl
    | some b =>
      cases b with
      | false => rfl
      | true =>
        show whTail k env ((f env h1).bind fun r h => .ok (some r) h) = loTail k (f env h1)
        cases f env h1 with
        | no => rfl
        | ex c y h2 => rfl
        | ok o h2 =>
          obtain ⟨o, e2⟩ := o
          cases o <;> rfl
/-- a loop's body leads on -/
theorem SimS.lo {A0 : Addr → Prop} {H0 : Hp} {Kp K2 : List (PyData × V)} {D : Ends} {k : Pv.Env → HS → ResS} {r : ResS} (hK : ∀ q ∈ Kp, q ∈ K2) (s : SimS p A0 H0 Kp (loTail k r) D) {N : L2.St → Hp → Prop} (hN : ∀ σ H env h, RelS p.w p.n A0 H0 K2 σ H env h → SimS p A0 H0 Kp (k env h) D → N σ H) : SimS p A0 H0 K2 r { D with nx := N, ct := N, bk := D.nx } := by
  revert s
  cases r with
  | no => exact fun s => s
  | ex c y h2 => exact fun s σ' cls d H' x wd rt xr => s σ' cls d H' x wd (fun q hq => rt q (hK q hq)) xr
  | ok o h2 =>
    obtain ⟨o, e2⟩ := o
    cases o with
    | nx => exact fun s σ' H' r' => hN _ _ _ _ r' s
    | ct => exact fun s σ' H' r' => hN _ _ _ _ r' s
    | bk => exact fun s σ' H' r' => s σ' H' (r'.kpSub hK)
    | rt v fr => exact fun s => s
theorem st_whl {c : Expr} {b : List Stmt} {xc : Pv.X} {sb : S} {pos : Pos} (hp : PassesOwn (model X.prog X.w) X.A X.env X.xe) (hc : Ev p X c xc) (hb : PSs X b (tS p (p.st fu sb))) : PS X (.While c b [] pos) (tS p (p.st fu (.whl xc sb))) :=
  (ps_while hp (hc.pt _ fun i hi => hi) hb).imp fun D σ H ⟨A0, H0, Kp, env, h, r, s⟩ => by
    unfold Pm.st evS at s
    split at s
    · exact s.elim
    · refine ⟨fun m σ H => ∃ env h, RelS p.w p.n A0 H0 Kp σ H env h ∧ SimS p A0 H0 Kp (whileLoop (fun env h => (p.ev xc env h).bind fun v h => match truth v.1 with
          | some true => (p.st fu sb env h).bind fun r h => .ok (some r) h
          | some false => .ok none h
          | none => .no) m env h) D, ⟨fu, env, h, r, s⟩, ?_⟩
      rintro m σ H ⟨env, h, r, s⟩
      cases m with
      | zero => exact s.elim
      | succ m =>
        rw [while_succ, wh_eq] at s
        refine RelS.useT r s fun b h1 H1 r1 s1 => ?_
        cases b with
        | false => exact SimS.nxt s1 r1
        | true =>
          rw [if_pos rfl] at s1 ⊢
          exact ⟨fun σ H => ∃ env h, RelS p.w p.n A0 H0 Kp σ H env h ∧ SimS p A0 H0 Kp (whileLoop (fun env h => (p.ev xc env h).bind fun v h => match truth v.1 with
            | some true => (p.st fu sb env h).bind fun r h => .ok (some r) h
            | some false => .ok none h
            | none => .no) m env h) D, fun σ' H' q => ⟨m, Nat.lt_succ_self m, q⟩, A0, H0, Kp, env, h1, r1, SimS.lo (fun q hq => hq) s1 fun σ H env h r s => ⟨env, h, r, s⟩⟩
/-- one turn of a for -/
def forStep (p : Pm) (fu : Nat) (t : T) (b : S) (x : PyData) (env : Pv.Env) (h : HS) : ResS := match bindT t x env with
  | some env' => Pv.evS p.C p.th p.hot fu b env' h
  | none => .no
theorem st_frr {tg iter : Expr} {b : List Stmt} {t : T} {xs : Pv.X} {sb : S} {pos : Pos} (hot : p.hot = false) (hc : X.calm = true) (hp : PassesOwn (model X.prog X.w) X.A X.env X.xe) (hi : Ei p X tg iter xs) (hg : Eg X tg t) (hn : ∀ i ∈ tv t, i < p.n) (hb : PSs X b (tS p (p.st fu sb))) (hs : ∀ x, foldedSetIterable iter X.env x = pure x) :
    PS X (.For tg iter b [] pos) (tS p (p.st fu (.frr t xs sb))) := by
  refine (ps_for hp hc (hi.pi _ fun i hi => hi) hg.pg hb hs).imp fun D σ H ⟨A0, H0, Kp, env, h, r, s⟩ => ?_
  unfold Pm.st evS at s
  rw [hot] at s
  have ee : evSrc p.C p.th false xs = p.evS xs := by unfold Pm.evS; rw [hot]
  rw [ee] at s
  have s : SimS p A0 H0 Kp ((p.evS xs env h).bind fun ds h => forLoop (forStep p fu t sb) ds (disownAll env (vars xs)) h) D := by
    unfold forStep
    rw [hot]
    exact s
  refine RelS.useG (vars xs) r s fun ds h1 J H1 e1 x1 w1 rp r1 s1 => ?_
  obtain ⟨rt, sc, rts⟩ := rp
  have r2 := (r1.dis (vars xs)).kpAdd (K' := rt) fun q hq => (rts q hq).mono' AO_dis
  have wk : Walk J ds.length (fun H => ∃ A, Roots H A rt) (fun i H x H' => ∀ A, Roots H A rt → ∃ d, ds[i]? = some d ∧ Same H H' ∧ DRep H' A d x) :=
    ⟨fun i H hi ⟨A, r⟩ => sc.go i H A hi r, fun H ⟨A, r⟩ => sc.stop H A r, fun i H x H' hi _ y A r => sc.yld i H A x H' hi r y⟩
  refine for_it wk (fun i σ H => ∃ env h, RelS p.w p.n A0 H0 (Kp ++ rt) σ H env h ∧ SimS p A0 H0 Kp (forLoop (forStep p fu t sb) (ds.drop i) env h) D) ⟨_, h1, r2, by simpa using s1⟩ (fun i σ H hi ⟨env, h, r, _⟩ => ⟨_, fun q hq => r.kp q (List.mem_append_right _ hq)⟩) (fun i x σ H H' hi ⟨env, h, r, s⟩ y => ?_) (fun σ H ⟨env, h, r, s⟩ => ?_)
  · obtain ⟨d, hd, sm, rd⟩ := y _ fun q hq => r.kp q (List.mem_append_right _ hq)
    have hdr : ds.drop i = d :: ds.drop (i + 1) := by
      obtain ⟨q1, q2⟩ := List.getElem?_eq_some_iff.mp hd
      rw [List.drop_eq_getElem_cons q1, q2]
    rw [hdr, for_cons] at s
    unfold forStep at s
    cases hbd : bindT t d env with
    | none => simp only [hbd] at s; exact s.elim
    | some env' =>
      simp only [hbd] at s
      have r3 := r.same sm
      exact ⟨_, d, env, env', rd, hbd, fun i hi => by rw [r.len.1]; exact hn i hi, fun σ' bd => ⟨A0, H0, Kp ++ rt, env', h, r3.bnd hbd bd rd, SimS.lo (fun q hq => List.mem_append_left _ hq) s fun σ H env h r s => ⟨env, h, r, s⟩⟩⟩
  · rw [List.drop_length] at s
    exact SimS.nxt s (r.kpSub fun q hq => List.mem_append_left _ hq)
end
end Pv
/-! text S28 -/
set_option autoImplicit false
set_option Elab.async false
set_option linter.all false
set_option maxRecDepth 100000
set_option maxHeartbeats 2000000
namespace Pv
open PySem PySem.Spec PyProof.Rows L2
/-! ### try, several clauses, each with a name -/
abbrev Clause := Value × Nat × (Addr → Value → Option Addr → TS)
def undo (D : Ends) (i : Nat) : Ends := ⟨fun τ G => D.nx (τ.set i none) G, D.rt, fun τ G => D.bk (τ.set i none) G, fun τ G => D.ct (τ.set i none) G⟩
def wCl (K : PySem.W.Frag) (Wo : WX) (D : Ends) : List Clause → WX
  | [] => Wo
  | cl :: r => fun cls d τ G => ∃ yes, PySem.W.exmOne K cls cl.1 = some yes ∧ (yes = true → ∀ a, G a = none → cl.2.2 a cls d (undo D cl.2.1) (τ.set cl.2.1 (some (.ref a))) G) ∧ (yes = false → wCl K Wo D r cls d τ G)
inductive HdA (X : Cx) : List ExceptHandler → List Clause → Prop
  | nil : HdA X [] []
  | cons {x n : Str} {c : Value} {i : Nat} {ts : Addr → Value → Option Addr → TS} {b0 : Stmt} {bs : List Stmt} {q1 q2 : Pos} {hs : List ExceptHandler} {l : List Clause} (nm : Names X x c) (hi : X.N[i]? = some n) (hn : X.env.kindOf n = some .local)
      (su : ∀ (a : Addr) (oe : Obj) (cls : Value) (d : Option Addr) (pn : List (Addr × Obj)), Zc cls d oe → (∃ vs, oe.data = .fields vs) → PSs (X.suite a ((a, oe) :: pn)) (b0 :: bs) (ts a cls d)) (r : HdA X hs l) :
      HdA X (.ExceptHandler (some (.Name x q1)) (some n) (b0 :: bs) q2 :: hs) ((c, i, ts) :: l)
theorem ps_tryA {X : Cx} {body : List Stmt} {hd0 : ExceptHandler} {hds : List ExceptHandler} {l : List Clause} {pos : Pos} {tb : WX → TS} {Wo : WX} (stk : X.stack = X.env :: X.outer) (frm : X.env.frame = some X.env.locals) (nd : X.N.Nodup) (tk : Takes X Wo)
    (hb : ∀ (W : WX) (pn : List (Addr × Obj)) (xe : Value → Shared → Prop), Takes (X.tr pn xe) W → PassesOwn (model X.prog X.w) X.A X.env xe → PSs (X.tr pn xe) body (tb W)) (hh : HdA X (hd0 :: hds) l) :
    PS X (.Try body (hd0 :: hds) [] [] pos) (fun D σ H => tb (wCl X.K Wo D l) D σ H) := by
  refine ⟨fun pins s σ H D I wish => ?_⟩
  have xok := I.ok
  have frames : X.A.frames = some (X.env :: X.outer) := by rw [xok.frames, stk]
  have back : ∀ {f : Flow} {t : Shared} {xe : Value → Shared → Prop}, SP (X.tr (X.pn ++ pins) xe) [] D f t → SP X pins D f t := fun {f t xe} z => by
    cases f with
    | ret u => obtain ⟨v, τ, G, J, r, q⟩ := z; exact ⟨v, τ, G, J.ofTry xok, r, q⟩
    | next => obtain ⟨τ, G, J, q⟩ := z; exact ⟨τ, G, J.ofTry xok, q⟩
    | brk => obtain ⟨τ, G, J, q⟩ := z; exact ⟨τ, G, J.ofTry xok, q⟩
    | cont => obtain ⟨τ, G, J, q⟩ := z; exact ⟨τ, G, J.ofTry xok, q⟩
  refine wpAny_Try_except (wpAny_mono ((hb (wCl X.K Wo D l) (X.pn ++ pins) (fun ev t1 => wpAny (model X.prog X.w) X.A (noteFrame ev X.env) (fun _ t2 => wpAny (model X.prog X.w) X.A (setFlight ev none)
    (fun _ t3 => wpAny (model X.prog X.w) X.A (handleBy ev X.env (hd0 :: hds)) (SP X pins D) X.xe t3) X.xe t2) X.xe t1) (fun ev t air => ?_) PassesOwn.looking).run [] s σ H D (I.toTry _) wish) (fun f t z => ?_) fun _ _ z => z)
  · obtain ⟨a, B, t0, pins0, τ, G, cls, d, rfl, J0, nb, up, sky, na, eos, bare, wsh⟩ := air
    have J : Inv X pins τ G t0 := J0.ofTry xok
    show wpAny (model X.prog X.w) X.A (noteFrame (.ref a) X.env) _ _ _
    refine Sky.land Zc.steady frames frm (show Sky B (X.env :: X.outer) a (Zc cls d) X.env.locals t.heap by rw [← stk]; exact sky) fun g fl upg => ?_
    have Jg : Inv X pins τ G { t with heap := g } := J.landed nb fl.1 (up.trans upg) eos bare
    obtain ⟨ob, fv, hob, hz, hfv⟩ := fl.there
    have noFrame : a ∉ frs (X.env :: X.outer) := fun m => by
      obtain ⟨_, ob', e', nf⟩ := Heap.FunFrames.mem fl.2.2.1 m
      have := hob.symm.trans e'
      cases this
      exact nf _ hfv
    have nL : a ≠ X.env.locals := fun z => noFrame (List.mem_filterMap.mpr ⟨X.env, List.mem_cons_self, by rw [frm, z]⟩)
    have nF : a ∉ X.fs := fun m => let ⟨e, he, q⟩ := List.mem_filterMap.mp m; noFrame (List.mem_filterMap.mpr ⟨e, List.mem_cons_of_mem _ he, q⟩)
    have Sg := Jg.suite hob hfv na nL nF
    suffices go : ∀ {hs' : List ExceptHandler} {l' : List Clause}, HdA X hs' l' → wCl X.K Wo D l' cls d τ G → wpAny (model X.prog X.w) X.A (handleBy (.ref a) X.env hs') (SP X pins D) X.xe { t with heap := g } from go hh wsh
    intro hs' l' hk
    induction hk with
    | nil =>
      refine fun wl => wpAny_handleBy_nil ?_
      obtain ⟨_, _, _, oe, vs, T, _, _, he, _, hd, h1, _⟩ := id fl
      unfold PySem.passOn
      refine wpAny_bind (wpAny_field he hd h1 ?_)
      rw [if_neg (show ¬ (Value.ref T == Value.none) = true by simp)]
      have last : wpAny (model X.prog X.w) X.A (setFlight (.ref a) X.env.frame) (fun _ t4 => wpAny (model X.prog X.w) X.A (throw (.ref a) : Sem Flow) (SP X pins D) X.xe t4) X.xe { t with heap := g } := by
        rw [frm]
        refine HandSPX.setFlight_upZ fl fun g4 held up4 => wpAny_throw (tk _ _ ?_)
        exact ⟨a, B, t0, pins, τ, G, cls, d, rfl, J, nb, (up.trans upg).trans up4, .inr (.inr (by rw [stk]; exact held)), na, eos, bare, wl⟩
      first
        | exact wpAny_bind last
        | exact wpAny_bind (wpAny_pure (wpAny_bind last))
    | @cons x n c i ts b0 bs q1 q2 hs2 l2 nm hi hn su r ih =>
      rintro ⟨yes, e1, h1, h2⟩
      refine wpAny_handleBy_cons (codeAny_handlers_test ?_) fun z => nomatch z
      have look := PySem.W.exm_one (M := model X.prog X.w) Jg.kIn (show PySem.W.Looks (model X.prog X.w) g (typeOf (.ref a)) cls from fun A Q E s k q => wpAny_typeOf_ref (k _ _ hob) (by rw [hz.1]; exact q)) e1
      have read : ∀ {Q E : Value → Shared → Prop}, Q c { t with heap := g } → wpAny (model X.prog X.w) (X.A.mark (some (.ref a))) (eval (.Name x q1) X.env) Q E { t with heap := g } := fun {Q E} q => by
        rcases nm with ⟨gl, db, mg | ⟨mg, bo, nn⟩⟩
        · exact ld_glob (X := X.suite a ((a, ob) :: (X.pn ++ pins))) Sg gl mg q db
        · exact ld_blt (X := X.suite a ((a, ob) :: (X.pn ++ pins))) Sg gl mg bo q nn db
      refine read (look.here ?_)
      cases yes with
      | false => exact ih (h2 rfl)
      | true =>
        refine codeAny_handlers_suite_as (HandSPX.lands_againZ fl fun g4 fl4 up4 => ?_)
        have J4 : Inv X pins τ G { t with heap := g4 } := J.landed nb fl4.1 ((up.trans upg).trans up4) eos bare
        obtain ⟨ob4, fv4, hob4, hz4, hfv4⟩ := fl4.there
        refine store_ok (X := X.suite a ((a, ob4) :: (X.pn ++ pins))) (v := .ref a) (J4.suite hob4 hfv4 na nL nF) nd hi (.inl hn) rfl (fun t5 S5 => ?_) (.inr hn)
        have fin : ∀ {τ6 : L2.St} {G6 : Hp} {t6 : Shared} {Q : Shared → Prop}, Inv (X.suite a ((a, ob4) :: (X.pn ++ pins))) [] τ6 G6 t6 → (∀ t7, Inv X pins (τ6.set i none) G6 t7 → Q t7) →
            wpAny (model X.prog X.w) X.A (do bindName X.env n .none; unbindBehindTheSuite X.env n q2) (fun _ t7 => Q t7) X.xe t6 := fun z q => gone_ok (z.unsuite xok) nd hi hn q
        refine wpAny_mono ((su a ob4 cls d (X.pn ++ pins) hz4 ⟨_, hfv4⟩).run [] t5 _ G _ S5 (h1 rfl a na)) (fun f t6 z => ?_) fun _ _ z => z.elim
        cases f with
        | ret u => obtain ⟨v, τ6, G6, S6, r6, q6⟩ := z; exact fin S6 fun t7 J7 => ⟨v, _, G6, J7, r6, q6⟩
        | next => obtain ⟨τ6, G6, S6, q6⟩ := z; exact fin S6 fun t7 J7 => ⟨_, G6, J7, q6⟩
        | brk => obtain ⟨τ6, G6, S6, q6⟩ := z; exact fin S6 fun t7 J7 => ⟨_, G6, J7, q6⟩
        | cont => obtain ⟨τ6, G6, S6, q6⟩ := z; exact fin S6 fun t7 J7 => ⟨_, G6, J7, q6⟩
  · cases f with
    | next => obtain ⟨τ, G, J, q⟩ := z; exact wpAny_execs_nil ⟨τ, G, J.ofTry xok, q⟩
    | _ => exact back z
end Pv
/-! text S29 -/
set_option autoImplicit false
set_option Elab.async false
set_option linter.all false
set_option maxRecDepth 100000
set_option maxHeartbeats 2000000
namespace Pv
open PySem PySem.Spec PyProof.Rows L2
section
variable {c : Cc} {p : Pm} {k : Nat} {X : Cx}
/-! ### raise -/
theorem pmk0 {x : Str} {j : Nat} {C : Addr} {q pos : Pos} (er : ErrOk c.G p.w X.K X.mg) (hm : X.mg x = some (.ref C)) (hC : p.w.cl j = some C) (hi : c.G.ini.getD j true = false) (hg : Gl X x) (hd : (x == ("__debug__" : Str)) = false) : PMk X (.Call (.Name x q) [] [] pos) (fun _ H Q => Q (.ref C) none H) := by
  intro pins s σ H Q I h
  obtain ⟨k1, k2, k3⟩ := er.keep j C hC
  refine wpAny_Call_Name_kw (ld_glob I hg hm (PySem.W.callWith_K0 I.kIn k1 ?_) hd)
  obtain ⟨bm, N, nm, qn, bs, hdct, sn, sub, ab, col, dd, k0, k1', k2', k3', k5, mN, h1, h2, h3, T⟩ := exc_obj I.kIn (er.exc j C hC hi)
  show wpAny _ _ (call (.ref C) []) _ _ _
  exact wpAny_call_exc_subT PySem.F.excBase_ValueError T h1 h2 h3 (fun h' e hm => mk_of I hm (raises_own k2 k3) h (I.hok.gone hm.new)) (by show 0 ≤ sizeLine; exact Nat.zero_le _)
theorem st_raise {x : Str} {j : Nat} {q p2 pos : Pos} {fu : Nat} (hot : p.hot = false) (hc : X.calm = true) (tk : Takes X p.W) (er : ErrOk c.G p.w X.K X.mg) (hx : find c.G.cls x = some j) (hi : c.G.ini.getD j true = false) (hg : Gl X x) (hd : (x == ("__debug__" : Str)) = false) :
    PS X (.Raise (some (.Call (.Name x q) [] [] p2)) none pos) (tS p (p.st fu (.raise j .nil))) := by
  obtain ⟨C, h1, h2⟩ := er.ad x j hx
  refine (ps_raise hc tk (pmk0 (c := c) (p := p) (q := q) (pos := p2) er h1 h2 hi hg hd)).imp fun D σ H ⟨A0, H0, Kp, env, h, r, s⟩ => ?_
  unfold Pm.st evS at s
  rw [hot] at s
  exact s σ _ _ H r.ext (r.wd0 r.ext (r.wdE [])) (fun q hq => (r.kp q hq).mono' fun b z => .inl z) ⟨C, h2, rfl, rfl⟩
/-! ### a suite of except -/
abbrev suiteP (p : Pm) (a : Addr) (cls : Value) (d : Option Addr) : Pm := { p with W := noW, hot := true, w := { p.w with exr := some (a, cls, d) } }
theorem exn_of {w : Wo} {H : Hp} {A : Addr → Prop} {a : Addr} {cls : Value} {d : Option Addr} {j : Nat} {y : Option PyData} {x : V} (r : VRep { w with exr := some (a, cls, d) } H A (.exn j y) x) : x = .ref a ∧ XRep w H A j y cls d := by
  obtain ⟨a', cls', d', e1, e2, h⟩ := r
  cases e1
  exact ⟨e2, h⟩
theorem exF_ok {a0 : Addr} {oe : Obj} {cls : Value} {d : Option Addr} {pn : List (Addr × Obj)} (er : ErrOk c.G p.w X.K X.mg) (hz : Zc cls d oe) (hf : ∃ vs, oe.data = .fields vs) (f : Str) (a : Expr) (xa : Pv.X) (pos : Pos) (hfl : c.G.fld = some f) (hca : isCallE a = false)
    (ha : Ev (suiteP p a0 cls d) (X.suite a0 ((a0, oe) :: pn)) a xa) : Ev (suiteP p a0 cls d) (X.suite a0 ((a0, oe) :: pn)) (.Attribute a f pos) (.fld xa) := by
  have hb : ∀ env, attributeBase a f env (eval a env) = eval a env := fun env => attr_base fun f as kw pos e => by rw [e] at hca; cases hca
  refine .mk' (fun V' cv => ?_) (fun _ => rfl)
  have core : ∀ σ H (Q : VK), tE (suiteP p a0 cls d).w p.n noW V' ((suiteP p a0 cls d).ev (.fld xa)) σ H Q → tE (suiteP p a0 cls d).w p.n noW V' ((suiteP p a0 cls d).ev xa) σ H fun x H1 => x = .ref a0 ∧ ∃ j z A, XRep p.w H1 A j (some z) cls d ∧ ∀ v, DRep H1 A z v → Q v H1 := by
    intro σ H Q ⟨A, env, h, ln, rel, wd, s⟩
    unfold Pm.ev evE at s
    refine SimG.sub1 (p := suiteP p a0 cls d) ln rel wd RpE.back s fun va h1 x H1 x1 w1 rel1 r1 _ s1 => ?_
    obtain ⟨v, fr⟩ := va
    cases v with
    | exn j y =>
      cases y with
      | none => exact s1.elim
      | some z =>
        obtain ⟨e, xr⟩ := exn_of r1
        exact ⟨e, j, z, A, xr, fun v rv => s1 v H1 (Ext.refl H1) w1 ⟨rv, fun q => by cases q⟩⟩
    | _ => exact s1.elim
  by_cases hC : ∃ j C, p.w.cl j = some C ∧ cls = .ref C
  · obtain ⟨j, C, h1, rfl⟩ := hC
    obtain ⟨q1, q2⟩ := er.xf j C f h1 hfl
    refine (pe_xf q1 q2 hz hf (ha.pe V' cv) (hb _)).imp fun σ H Q t => ?_
    obtain ⟨A, env, h, ln, rel, wd, s⟩ := core σ H Q t
    refine ⟨A, env, h, ln, rel, wd, SimG.mono s fun x H1 ⟨e, i, z, A1, xr, q⟩ => ⟨e, rfl, ?_⟩⟩
    obtain ⟨C', e1, e2, dd, fs, v, e3, e4, e5, e6⟩ := xr
    rw [er.fl i f hfl] at e5
    exact ⟨dd, fs, v, e3, e4, e5, q v e6⟩
  · refine ⟨fun pins s σ H Q I t => attr_of (hb _) (thn ((ha.pe V' cv).run pins s σ H _ I (core σ H Q t)) fun u s1 ⟨x, H1, I1, rx, e, i, z, A1, xr, q⟩ => ?_)⟩
    obtain ⟨C', e1, e2, _⟩ := xr
    exact absurd ⟨i, C', e1, e2⟩ hC
theorem exI_ok {a0 : Addr} {oe : Obj} {cls : Value} {d : Option Addr} {pn : List (Addr × Obj)} (ctx : Ctx c p k X) (hz : Zc cls d oe) (hf : ∃ vs, oe.data = .fields vs) (t : Str) (kc : Option Nat) (a : Expr) (xa : Pv.X) (p1 p2 p3 : Pos) (ht : errOf c t = some kc) (hcal : blt c "isinstance" = true) (hst : isStarE a = false)
    (ha : Ev (suiteP p a0 cls d) (X.suite a0 ((a0, oe) :: pn)) a xa) : Ev (suiteP p a0 cls d) (X.suite a0 ((a0, oe) :: pn)) (.Call (.Name "isinstance" p1) [a, .Name t p2] [] p3) (.isE xa [kc]) := by
  refine .mk' (fun V' cv => ?_) isTrue_call
  have hst : isStar a = false := by rw [star_eq]; exact hst
  obtain ⟨g1, g2, _, _⟩ := blt_ok ctx hcal (by rfl)
  -- the class that is asked for
  obtain ⟨vt, ut, hT, hut, hkit⟩ : ∃ (vt : V) (ut : Value), PE (X.suite a0 ((a0, oe) :: pn)) (.Name t p2) (tC vt) ∧ (∀ u, RelV vt u → u = ut) ∧ ∀ j C, p.w.cl j = some C → PySem.W.kitOne X.K (.ref C) ut = some (isErr j kc) := by
    unfold errOf isInit at ht
    cases hg : c.glob t with
    | true =>
      rw [hg] at ht
      obtain ⟨q1, q2, q3⟩ := glob_ok ctx hg
      cases hf2 : find c.G.cls t with
      | some j =>
        simp only [hf2, if_true] at ht
        cases ht
        obtain ⟨D, e1, e2⟩ := ctx.er.ad t j hf2
        exact ⟨.ref D, .ref D, pe_glob (X := X.suite a0 ((a0, oe) :: pn)) q1 e1 rfl q2, fun u r => r, fun i C e => ctx.er.kit i C j D e e2⟩
      | none =>
        simp only [hf2, if_true] at ht
        split at ht
        · rename_i hb
          cases ht
          have hb := Bool.and_eq_true_iff.mp hb
          have e : t = ("ValueError" : Str) := by simpa using hb.2
          subst e
          obtain ⟨b1, b2, b3, b4⟩ := blt_ok ctx hb.1 (by rfl)
          exact ⟨.ty "ValueError", .type "ValueError", pe_bltn (X := X.suite a0 ((a0, oe) :: pn)) b1 b2 (by rfl) rfl b4 b3, fun u r => r, fun i C e => ctx.er.kitV i C e⟩
        · cases ht
    | false =>
      rw [hg] at ht
      simp only [Bool.false_eq_true, if_false] at ht
      split at ht
      · rename_i hb
        have hb := (Bool.and_eq_true_iff.mp hb).1
        unfold blt at hb
        rw [hg] at hb
        cases hb
      · cases ht
  have core : ∀ σ H (Q : VK), tE (suiteP p a0 cls d).w p.n noW V' ((suiteP p a0 cls d).ev (.isE xa [kc])) σ H Q → tE (suiteP p a0 cls d).w p.n noW V' ((suiteP p a0 cls d).ev xa) σ H fun x H1 => x = .ref a0 ∧ ∃ j C, p.w.cl j = some C ∧ cls = .ref C ∧ d = none ∧ Q (.bl (isErr j kc)) H1 := by
    intro σ H Q ⟨A, env, h, ln, rel, wd, s⟩
    unfold Pm.ev evE at s
    refine SimG.sub1 (p := suiteP p a0 cls d) ln rel wd RpE.back s fun va h1 x H1 x1 w1 rel1 r1 _ s1 => ?_
    obtain ⟨v, fr⟩ := va
    cases v with
    | exn j y =>
      cases y with
      | some z => exact s1.elim
      | none =>
        obtain ⟨e, C, e1, e2, e3⟩ := exn_of r1
        refine ⟨e, j, C, e1, e2, e3, ?_⟩
        have := s1 (.bl (isErr j kc)) H1 (Ext.refl H1) w1 ⟨by show V.bl _ = V.bl _; simp, fun _ b q => by cases q⟩
        exact this
    | _ => exact s1.elim
  have hargs : PA (X.suite a0 ((a0, oe) :: pn)) [a, .Name t p2] (tCons (tE (suiteP p a0 cls d).w p.n noW V' ((suiteP p a0 cls d).ev xa)) (tCons (tC vt) tNil)) := pa_cons (ha.pe V' fun i hi => cv i hi) (pa_cons hT pa_nil (by rfl)) (starEach_cons hst _ _)
  by_cases hC : (∃ j C, p.w.cl j = some C ∧ cls = .ref C) ∧ d = none
  · obtain ⟨⟨j, C, h1, rfl⟩, rfl⟩ := hC
    refine (pe_callB (X := X.suite a0 ((a0, oe) :: pn)) (call_isE (ctx.er.isC j C h1) hz hf) g1 g2 (by rfl) hargs (by decide) (by decide) (starEach_cons hst _ _) (by rfl)).imp fun σ H Q t => ?_
    obtain ⟨A, env, h, ln, rel, wd, s⟩ := core σ H Q t
    refine ⟨A, env, h, ln, rel, wd, SimG.mono s fun x H1 ⟨e, i, C', e1, e2, e3, q⟩ => ?_⟩
    cases e2
    subst e
    exact ⟨vt, ut, _, rfl, hut, hkit i C e1, q⟩
  · refine (pe_callB (X := X.suite a0 ((a0, oe) :: pn)) (id := "isinstance") (r := fun _ _ _ => False) (fun _ _ _ _ _ _ _ _ _ z => z.elim) g1 g2 (by rfl) hargs (by decide) (by decide) (starEach_cons hst _ _) (by rfl)).imp fun σ H Q t => ?_
    obtain ⟨A, env, h, ln, rel, wd, s⟩ := core σ H Q t
    refine ⟨A, env, h, ln, rel, wd, SimG.mono s fun x H1 ⟨e, i, C', e1, e2, e3, q⟩ => ?_⟩
    exact absurd ⟨⟨i, C', e1, e2⟩, e3⟩ hC
end
end Pv
/-! text S30 -/
set_option autoImplicit false
set_option Elab.async false
set_option linter.all false
set_option maxRecDepth 100000
set_option maxHeartbeats 2000000
namespace Pv
open PySem PySem.Spec PyProof.Rows L2
section
variable {c : Cc} {p : Pm} {k : Nat} {X : Cx}
theorem Ctx.suite (ctx : Ctx c p k X) {a : Addr} {oe : Obj} {cls : Value} {d : Option Addr} {pn : List (Addr × Obj)} (hz : Zc cls d oe) (hf : ∃ vs, oe.data = .fields vs) : Ctx { c with hot := true, par := none } (suiteP p a cls d) k (X.suite a ((a, oe) :: pn)) where
  K := ctx.K
  N := ctx.N
  n := ctx.n
  nd := ctx.nd
  sc := ctx.sc
  fnc := ctx.fnc
  hot := rfl
  calm := fun h => by cases h
  tk := takes_none5
  room := fun h => by cases h
  lroom := fun _ h => by cases h
  lamw := fun _ h => by cases h
  units := ctx.units
  fns := ctx.fns
  cst := ctx.cst
  nob := ctx.nob
  er := ⟨ctx.er.ad, ctx.er.keep, ctx.er.exc, ctx.er.exm, ctx.er.exmV, ctx.er.kit, ctx.er.kitV, ctx.er.isC, ctx.er.xf, ctx.er.fl⟩
  thk := fun _ e => by cases e
  lam := fun _ h => by cases h
  exF := fun _ f b xb pos h1 h2 h3 => exF_ok (c := c) ctx.er hz hf f b xb pos h1 h2 h3
  exI := fun _ t kc b xb p1 p2 p3 h1 h2 h3 h4 => exI_ok ctx hz hf t kc b xb p1 p2 p3 h1 (cal_blt (c := { c with hot := true, par := none }) h2) h3 h4
/-- the body of a try -/
theorem Ctx.tr (ctx : Ctx c p k X) (hot : c.hot = false) {W : WX} {pn : List (Addr × Obj)} {xe : Value → Shared → Prop} (tk : Takes (X.tr pn xe) W) (thk : ∀ a, c.par = some a → ∀ (p1 p2 : Pos) (V' : List Nat), 0 ∈ V' → PE (X.tr pn xe) (.Call (.Name a p1) [] [] p2) (tE p.w p.n W V' (p.ev .thunk))) : Ctx c { p with W := W } k (X.tr pn xe) where
  K := ctx.K
  N := ctx.N
  n := ctx.n
  nd := ctx.nd
  sc := ctx.sc
  fnc := ctx.fnc
  hot := ctx.hot
  calm := ctx.calm
  tk := tk
  room := ctx.room
  lroom := ctx.lroom
  lamw := ctx.lamw
  units := ctx.units
  fns := ctx.fns
  cst := ctx.cst
  nob := ctx.nob
  er := ctx.er
  thk := thk
  lam := ctx.lam
  exF := fun h => by rw [h] at hot; cases hot
  exI := fun h => by rw [h] at hot; cases hot
end
/-! ### try -/
theorem forget_get (env : Pv.Env) (i : Nat) (q : PV × Bool) : (forget env)[i]? ≠ some (some q) := fun e => by
  unfold forget at e
  rw [List.getElem?_replicate] at e
  split at e <;> cases e
theorem VRep.unexr {w : Wo} {H : Hp} {A : Addr → Prop} {e : Option (Addr × Value × Option Addr)} {v : PV} {x : V} (hv : plainV v = true) (r : VRep { w with exr := e } H A v x) : VRep w H A v x := by
  cases v with
  | d d => exact r
  | hand => exact r
  | scr xs => exact r
  | fn => cases hv
  | exn c y => cases hv
section
variable {p : Pm} {A0 : Addr → Prop} {H0 H : Hp} {Kp : List (PyData × V)} {σ : L2.St} {env : Pv.Env} {h : HS} {D : Ends}
/-- behind a suite -/
theorem RelS.unsuite {e : Option (Addr × Value × Option Addr)} {i : Nat} (r : RelS { p.w with exr := e } p.n A0 H0 Kp σ H env h) (ok : (env.set i none).all okSlot = true) : RelS p.w p.n A0 H0 Kp (σ.set i none) H (env.set i none) h := by
  have hno : ∀ (j : Nat) (v : PV) (o : Bool), (env.set i none)[j]? = some (some (v, o)) → plainV v = true ∧ o = false ∧ j ≠ i ∧ env[j]? = some (some (v, o)) := fun j v o ej => by
    have q := List.all_eq_true.mp ok _ (List.mem_of_getElem? ej)
    have q' : plainV v = true ∧ o = false := by simpa [okSlot] using q
    have hj : j ≠ i := fun z => by
      subst z
      by_cases hl : j < env.length
      · rw [List.getElem?_set_self hl] at ej; cases ej
      · rw [List.getElem?_eq_none (by simpa using hl)] at ej; cases ej
    exact ⟨q'.1, q'.2, hj, by rw [List.getElem?_set_ne (Ne.symm hj)] at ej; exact ej⟩
  have own0 : ∀ (j : Nat) (a : Addr), ownA (σ.set i none) (env.set i none) j = some a → False := fun j a z => by
    obtain ⟨v, e1, _⟩ := ownA_of z
    cases (hno j v true e1).2.1
  have hA : ∀ b, AO A0 (σ.set i none) (env.set i none) b → AO A0 σ env b := fun b q => q.elim .inl fun ⟨j, z⟩ => (own0 j b z).elim
  refine ⟨⟨by simpa using r.len.1, by simpa using r.len.2⟩, r.a0, r.c0, r.h0, r.ext, ?_, fun j v ej => ?_, fun j v ej => ?_, fun j _ a z _ => (own0 j a z).elim, fun q hq => (r.kp q hq).mono' hA, r.b0⟩
  · exact (⟨r.wd.hand, r.wd.out, r.wd.ins, r.wd.dom, r.wd.tabs, r.wd.bs⟩ : Wd p.w (AO A0 σ env) H h).other (fun b e _ => .inl (r.h0 b e)) (fun b q => r.wd.out b (hA b q)) (fun b q => r.wd.dom b (hA b q)) (Bs.sub (w := p.w) r.wd.bs hA)
  · obtain ⟨q1, q2, q3, q4⟩ := hno j v false ej
    obtain ⟨x, q5, q6⟩ := r.slot j v q4
    exact ⟨x, by rw [List.getElem?_set_ne (Ne.symm q3)]; exact q5, VRep.mono' hA (VRep.unexr q1 q6)⟩
  · cases (hno j v true ej).2.1
/-- into a suite -/
theorem RelS.toSuite {a : Addr} {cls : Value} {d : Option Addr} {i j : Nat} {y : Option PyData} (r : RelS p.w p.n A0 H0 Kp σ H env h) {σ' : L2.St} {H' : Hp} {h' : HS} (hl : σ'.length = p.n) (x : Ext p.w.hd H0 H') (wd : Wd p.w A0 H' h') (rt : Roots H' A0 Kp) (xr : XRep p.w H' A0 j y cls d) (hi : i < p.n) :
    RelS { p.w with exr := some (a, cls, d) } p.n A0 H0 Kp (σ'.set i (some (.ref a))) H' ((forget env).set i (some (.exn j y, false))) h' := by
  have hle : (forget env).length = p.n := by unfold forget; rw [List.length_replicate]; exact r.len.2
  have hg : ∀ (m : Nat) (v : PV) (o : Bool), ((forget env).set i (some (.exn j y, false)))[m]? = some (some (v, o)) → m = i ∧ v = .exn j y ∧ o = false := fun m v o e => by
    by_cases hm : m = i
    · subst hm
      rw [List.getElem?_set_self (by rw [hle]; exact hi)] at e
      cases e
      exact ⟨rfl, rfl, rfl⟩
    · rw [List.getElem?_set_ne (Ne.symm hm)] at e
      exact absurd e (forget_get env m _)
  have own0 : ∀ (m : Nat) (b : Addr), ownA (σ'.set i (some (.ref a))) ((forget env).set i (some (.exn j y, false))) m = some b → False := fun m b z => by
    obtain ⟨v, e1, _⟩ := ownA_of z
    cases (hg m v true e1).2.2
  have hA : ∀ b, AO A0 (σ'.set i (some (.ref a))) ((forget env).set i (some (.exn j y, false))) b → A0 b := fun b q => q.elim id fun ⟨m, z⟩ => (own0 m b z).elim
  refine ⟨⟨by simpa using hl, by simpa using hle⟩, r.a0, r.c0, r.h0, x, ?_, fun m v em => ?_, fun m v em => ?_, fun m _ b z _ => (own0 m b z).elim, fun q hq => (rt q hq).mono' hA, r.b0⟩
  · have w2 : Wd { p.w with exr := some (a, cls, d) } A0 H' h' := ⟨wd.hand, wd.out, wd.ins, wd.dom, wd.tabs, wd.bs⟩
    exact w2.other (fun b _ q => .inl q) (fun b q => wd.out b (hA b q)) (fun b q => wd.dom b (hA b q)) (w2.bs.sub hA)
  · obtain ⟨rfl, rfl, _⟩ := hg m v false em
    exact ⟨.ref a, by rw [List.getElem?_set_self (by rw [hl]; exact hi)], a, cls, d, rfl, rfl, XRep.mono' hA xr⟩
  · cases (hg m v true em).2.2
end
section
variable {p : Pm} {X : Cx} {fu : Nat}
/-- the clauses, as compiled -/
inductive HsOk (p : Pm) (X : Cx) (fu : Nat) : List ExceptHandler → S → Prop
  | nil : HsOk p X fu [] .hnil
  | cons {x n : Str} {cv : Value} {cs : Option Nat} {i : Nat} {b0 : Stmt} {bs : List Stmt} {q1 q2 : Pos} {hs : List ExceptHandler} {sb sr : S} (nm : Names X x cv) (em : ∀ j C, p.w.cl j = some C → PySem.W.exmOne X.K (.ref C) cv = some (isErr j cs)) (hi : X.N[i]? = some n) (hin : i < p.n) (hn : X.env.kindOf n = some .local)
      (su : ∀ (a : Addr) (oe : Obj) (cls : Value) (d : Option Addr) (pn : List (Addr × Obj)), Zc cls d oe → (∃ vs, oe.data = .fields vs) → PSs (X.suite a ((a, oe) :: pn)) (b0 :: bs) (tS (suiteP p a cls d) ((suiteP p a cls d).st fu sb))) (r : HsOk p X fu hs sr) :
      HsOk p X fu (.ExceptHandler (some (.Name x q1)) (some n) (b0 :: bs) q2 :: hs) (.hnd cs i sb sr)
theorem st_try {b : List Stmt} {hd0 : ExceptHandler} {hds : List ExceptHandler} {sb sh : S} {pos : Pos} (hot : p.hot = false) (hN : X.N.length = p.n) (stk : X.stack = X.env :: X.outer) (frm : X.env.frame = some X.env.locals) (nd : X.N.Nodup) (tk : Takes X p.W)
    (hb : ∀ (W : WX) (pn : List (Addr × Obj)) (xe : Value → Shared → Prop), Takes (X.tr pn xe) W → PassesOwn (model X.prog X.w) X.A X.env xe → PSs (X.tr pn xe) b (tS { p with W := W } (p.st fu sb))) (hh : HsOk p X fu (hd0 :: hds) sh) :
    PS X (.Try b (hd0 :: hds) [] [] pos) (tS p (p.st fu (.try1 sb sh))) := by
  have cls : ∀ (hs : List ExceptHandler) (sh : S), HsOk p X fu hs sh → ∃ l : Ends → List Clause, (∀ D, HdA X hs (l D)) ∧ ∀ (A0 : Addr → Prop) (H0 H : Hp) (Kp : List (PyData × V)) (σ : L2.St) (env : Pv.Env) (h h' : HS) (D : Ends) (j : Nat) (y : Option PyData), RelS p.w p.n A0 H0 Kp σ H env h → SimS p A0 H0 Kp (evS.evH p.C p.th fu sh j y env h') D →
      ∀ σ' cv d H', σ'.length = p.n → Ext p.w.hd H0 H' → Wd p.w A0 H' h' → Roots H' A0 Kp → XRep p.w H' A0 j y cv d → wCl X.K p.W D (l D) cv d σ' H' := by
    intro hs sh hk
    induction hk with
    | nil =>
      refine ⟨fun _ => [], fun _ => .nil, fun A0 H0 H Kp σ env h h' D j y r s σ' cv d H' hl x wd rt xr => ?_⟩
      unfold evS.evH at s
      exact s σ' cv d H' x wd rt xr
    | @cons x n cv0 cs i b0 bs q1 q2 hs sb sr nm em hi hin hn su r ih =>
      obtain ⟨l, hl1, hl2⟩ := ih
      refine ⟨fun D => (cv0, i, fun a cls d => tS (suiteP p a cls d) ((suiteP p a cls d).st fu sb)) :: l D, fun D => .cons nm hi hn su (hl1 D), fun A0 H0 H Kp σ env h h' D j y rel s σ' cv d H' hl x wd rt xr => ?_⟩
      obtain ⟨C, e1, e2, e3⟩ := id xr
      refine ⟨isErr j cs, by rw [e2]; exact em j C e1, fun hy a _ => ?_, fun hy => ?_⟩
      · unfold evS.evH at s
        rw [hy] at s
        refine ⟨A0, H0, Kp, _, h', rel.toSuite hl x wd rt xr hin, ?_⟩
        have s : SimS p A0 H0 Kp (match Pv.evS p.C p.th true fu sb ((forget env).set i (some (.exn j y, false))) h' with
          | .ok (o, env') h' => match okOut o && (env'.set i none).all okSlot with
            | true => .ok (o, env'.set i none) h'
            | false => .no
          | _ => .no) D := s
        revert s
        show _ → SimS (suiteP p a cv d) A0 H0 Kp (Pv.evS p.C p.th true fu sb ((forget env).set i (some (.exn j y, false))) h') (undo D i)
        cases Pv.evS p.C p.th true fu sb ((forget env).set i (some (.exn j y, false))) h' with
        | no => exact fun s => s
        | ex c z h2 => exact fun s => s.elim
        | ok o h2 =>
          obtain ⟨o, e4⟩ := o
          intro s
          have s : SimS p A0 H0 Kp (match okOut o && (e4.set i none).all okSlot with
            | true => .ok (o, e4.set i none) h2
            | false => .no) D := s
          cases hok : okOut o && (e4.set i none).all okSlot with
          | false => rw [hok] at s; exact s.elim
          | true =>
            rw [hok] at s
            have hok := Bool.and_eq_true_iff.mp hok
            cases o with
            | nx => exact fun σ2 H2 r2 => s _ H2 (r2.unsuite hok.2)
            | bk => exact fun σ2 H2 r2 => s _ H2 (r2.unsuite hok.2)
            | ct => exact fun σ2 H2 r2 => s _ H2 (r2.unsuite hok.2)
            | rt v fr => exact fun z H2 x2 w2 rv t => s z H2 x2 ⟨w2.hand, w2.out, w2.ins, w2.dom, w2.tabs, w2.bs⟩ (VRep.unexr hok.1 rv) t
      · unfold evS.evH at s
        rw [hy] at s
        exact hl2 A0 H0 H Kp σ env h h' D j y rel s σ' cv d H' hl x wd rt xr
  obtain ⟨l, hl1, hl2⟩ := cls _ _ hh
  refine ⟨fun pins s0 σ H D I t => ?_⟩
  have hP := ps_tryA (X := X) (body := b) (pos := pos) (Wo := p.W) (l := l D) (tb := fun W => tS { p with W := fun cv d σ' H' => σ'.length = p.n → W cv d σ' H' } (p.st fu sb)) stk frm nd tk (fun W pn xe tkW hp => hb _ pn xe (fun u s' x => ?_) hp) (hl1 D)
  · refine hP.run pins s0 σ H D I ?_
    obtain ⟨A0, H0, Kp, env, h, r, s⟩ := t
    refine ⟨A0, H0, Kp, env, h, r, ?_⟩
    unfold Pm.st evS at s
    rw [hot] at s
    have s : SimS p A0 H0 Kp (match p.st fu sb env h with
      | .ex c x h' => evS.evH p.C p.th fu sh c x env h'
      | r => r) D := by unfold Pm.st; rw [hot]; exact s
    revert s
    show _ → SimS { p with W := fun cv d σ' H' => σ'.length = p.n → wCl X.K p.W D (l D) cv d σ' H' } A0 H0 Kp (p.st fu sb env h) D
    cases p.st fu sb env h with
    | no => exact fun s => s
    | ex j y h' => exact fun s σ' cv d H' x wd rt xr hl => hl2 A0 H0 H Kp σ env h h' D j y r s σ' cv d H' hl x wd rt xr
    | ok o h1 =>
      obtain ⟨o, e1⟩ := o
      cases o with
      | nx => exact fun s => s
      | bk => exact fun s => s
      | ct => exact fun s => s
      | rt v fr => exact fun s => s
  · refine tkW u s' ?_
    obtain ⟨a, B, sI, pins', σ', H', cls', d, e, J, nb, up, sky, na, os, ag, w⟩ := x
    exact ⟨a, B, sI, pins', σ', H', cls', d, e, J, nb, up, sky, na, os, ag, w (by rw [J.len]; exact hN)⟩
end
end Pv
/-! text SP -/
set_option autoImplicit false
set_option Elab.async false
set_option linter.all false
set_option maxRecDepth 100000
set_option maxHeartbeats 2000000
namespace Pv
open PySem PySem.Spec PyProof.Rows L2
/-! ### several names at once -/
theorem star_is {e : Expr} (h : isStarE e = false) : isStar e = false := by cases e <;> first | rfl | (cases h)
theorem star_no {e : Expr} (h : isStarE e = false) : (match e with | .Starred .. => true | _ => false) = false := by cases e <;> first | rfl | (cases h)
theorem swap2 {x y : Str} {px py p2 pt : Pos} {a b : Expr} {kt k2} {env : PySem.Env} (hb : env.blockKind = .function) (hx : env.kindOf x = some .local) (hy : env.kindOf y = some .local) (hl : (py.line == px.line) = true) (hxy : (x == y) = false)
    (sa : isStarE a = false) (sb : isStarE b = false) (hf : ([a, b].all (foldedForSure 8)) = false) (hc : ([a, b].all (constantsAlone 8)) = false) :
    swappedStores [.Tuple [.Name x px, .Name y py] kt pt] (.Tuple [a, b] k2 p2) env = pure (some [x, y]) := by
  have hl' : py.line = px.line := by simpa using hl
  have hxy' : ¬ x = y := by simpa using hxy
  have lx : List.lookup x env.scope.names = some .local := hx
  have ly : List.lookup y env.scope.names = some .local := hy
  have hne : ([x, y] : List Str).eraseDups = [x, y] := by
    simp [List.eraseDups_cons, hxy, beq_false_of_ne (Ne.symm hxy')]
  unfold swappedStores
  simp [hb, star_no sa, star_no sb, hf, hc, lx, ly, hl', PySem.Env.kindOf, Expr.pos, hne]
  intro h
  rcases h with h | h
  · cases a <;> first | (cases sa; done) | (cases h)
  · cases b <;> first | (cases sb; done) | (cases h)
theorem swap3 {x y z : Str} {px py pz p2 pt : Pos} {a b c : Expr} {kt k2} {env : PySem.Env} (hb : env.blockKind = .function) (hx : env.kindOf x = some .local) (hy : env.kindOf y = some .local) (hz : env.kindOf z = some .local)
    (hl : (py.line == px.line) = true) (hl2 : (pz.line == px.line) = true) (hxy : (x == y) = false) (hxz : (x == z) = false) (hyz : (y == z) = false)
    (sa : isStarE a = false) (sb : isStarE b = false) (sc : isStarE c = false) (hf : ([a, b, c].all (foldedForSure 8)) = false) (hc : ([a, b, c].all (constantsAlone 8)) = false) :
    swappedStores [.Tuple [.Name x px, .Name y py, .Name z pz] kt pt] (.Tuple [a, b, c] k2 p2) env = pure (some [x, y, z]) := by
  have hl' : py.line = px.line := by simpa using hl
  have hl2' : pz.line = px.line := by simpa using hl2
  have hxy' : ¬ x = y := by simpa using hxy
  have hxz' : ¬ x = z := by simpa using hxz
  have hyz' : ¬ y = z := by simpa using hyz
  have lx : List.lookup x env.scope.names = some .local := hx
  have ly : List.lookup y env.scope.names = some .local := hy
  have lz : List.lookup z env.scope.names = some .local := hz
  have hne : ([x, y, z] : List Str).eraseDups = [x, y, z] := by
    simp [List.eraseDups_cons, hxy, beq_false_of_ne (Ne.symm hxy'), beq_false_of_ne (Ne.symm hxz'), beq_false_of_ne (Ne.symm hyz')]
  unfold swappedStores
  simp [hb, star_no sa, star_no sb, star_no sc, hf, hc, lx, ly, lz, hl', hl2', PySem.Env.kindOf, Expr.pos, hne]
  intro h
  rcases h with h | h | h
  · cases a <;> first | (cases sa; done) | (cases h)
  · cases b <;> first | (cases sb; done) | (cases h)
  · cases c <;> first | (cases sc; done) | (cases h)
def nmOk (env : PySem.Env) (e : Expr) : Bool := match e with
  | .Name id _ => env.kindOf id == some .local
  | _ => false
theorem swapN {ts es : List Expr} {kt k2} {p2 pt : Pos} {env : PySem.Env} (h : ts.all (nmOk env) = false) : swappedStores [.Tuple ts kt pt] (.Tuple es k2 p2) env = pure none := by
  have key : ∀ (f : Expr → Option Str), (∀ e, nmOk env e = false → f e = none) → ∀ ts : List Expr, ts.all (nmOk env) = false → (ts.filterMap f).length < ts.length := by
    intro f hf ts
    induction ts with
    | nil => intro h; cases h
    | cons t r ih =>
      intro h
      have le : ∀ ts : List Expr, (ts.filterMap f).length ≤ ts.length := fun ts => List.length_filterMap_le _ _
      rw [List.all_cons] at h
      rw [List.filterMap_cons]
      cases hn : nmOk env t with
      | true =>
        rw [hn, Bool.true_and] at h
        have := ih h
        split
        · simp only [List.length_cons]; omega
        · simp only [List.length_cons]; omega
      | false =>
        rw [hf t hn]
        have := le r
        simp only [List.length_cons]; omega
  unfold swappedStores
  simp only []
  split
  · rfl
  · split
    · rfl
    · rw [if_pos]
      rw [Bool.or_eq_true_iff]
      refine .inl ?_
      have this : ∀ a b : Nat, a < b → (a != b) = true := fun a b h => by simp; omega
      refine this _ _ (key _ (fun e he => ?_) ts h)
      cases e <;> first | rfl | skip
      rename_i id pos
      have he : (env.kindOf id == some .local) = false := he
      simp [he]
section
variable {p : Pm} {X : Cx} {fu : Nat}
theorem tG_set {α β : Type} {w : Wo} {n : Nat} {W : WX} {U : List Nat} {Rp : (Addr → Prop) → α → β → Hp → Hp → Prop} {f : Pv.Env → HS → R α} {σ : L2.St} {H : Hp} {Q : β → Hp → Prop} {i : Nat} {y : Option V} (hi : i ∉ U)
    (h : tG w n W U Rp f (σ.set i y) H Q) : tG w n W U Rp f σ H Q := by
  obtain ⟨A, env, h, ⟨l1, l2⟩, rel, wd, s⟩ := h
  refine ⟨A, env, h, ⟨by simpa using l1, l2⟩, fun j v o hj e => ?_, wd, ?_⟩
  · have := rel j v o hj e
    rwa [List.getElem?_set_ne (fun z => hi (by rw [z]; exact hj))] at this
  · exact s
theorem seq_set {C : Callee} {th : Thunk} {hot : Bool} {fu i : Nat} {xa : Pv.X} {S2 : Pv.S} {env : Pv.Env} {h : HS} : evS C th hot fu (.seq (.set (.v i) xa) S2) env h =
    (evE C th hot xa env h).bind fun v h => evS C th hot fu S2 ((leak v.1 v.2 (vars xa) env).set i (some (v.1, !hot && ownOf v.1 v.2))) h := by
  rw [evS, evS]
  cases evE C th hot xa env h <;> rfl
theorem one_set {C : Callee} {th : Thunk} {hot : Bool} {fu i : Nat} {xa : Pv.X} {env : Pv.Env} {h : HS} : evS C th hot fu (.set (.v i) xa) env h =
    (evE C th hot xa env h).bind fun v h => .ok (.nx, (leak v.1 v.2 (vars xa) env).set i (some (v.1, !hot && ownOf v.1 v.2))) h := by
  rw [evS]
/-- x, y = a, b with plain names: one behind the other, where b does not name x -/
theorem st_par2 {i j : Nat} {x y : Str} {a b : Expr} {xa xb : Pv.X} {px py p2 pt pos : Pos} {kt k2} (hc : X.calm = true) (hN : X.N.Nodup) (hi : X.N[i]? = some x) (hj : X.N[j]? = some y) (hij : i ≠ j) (hx : X.env.scope.names.lookup x = some .local) (hy : X.env.scope.names.lookup y = some .local)
    (ni : i < p.n) (nj : j < p.n) (ha : Ev p X a xa) (hb : Ev p X b xb) (sa : isStarE a = false) (sb : isStarE b = false) (hv : i ∉ vars xb)
    (hw : swappedStores [.Tuple [.Name x px, .Name y py] kt pt] (.Tuple [a, b] k2 p2) X.env = pure (some [x, y])) :
    PS X (.Assign [.Tuple [.Name x px, .Name y py] kt pt] (.Tuple [a, b] k2 p2) pos) (tS p (p.st fu (.seq (.set (.v i) xa) (.set (.v j) xb)))) :=
  (ps_par hc hN hi hj hij hx hy (pa_cons (ha.pe _ fun i hi => hi) (pa_cons (hb.pe _ fun i hi => hi) pa_nil (starEach_cons (star_is sb) _ X.env)) (starEach_cons (star_is sa) _ X.env)) hw).imp fun D σ H ⟨A0, H0, Kp, env, h, r, s⟩ => by
    unfold Pm.st at s
    rw [seq_set] at s
    refine r.use s fun v h1 y1 H1 e1 x1 w1 rv t r1 s1 => ?_
    have r2 := r.setH (hot := p.hot) x1 w1 rv t ni
    rw [one_set] at s1
    refine tG_set hv (r2.use s1 fun w h2 y2 H2 e2 x2 w2 rw2 t2 r3 s2 => ?_)
    exact ⟨y1, y2, rfl, SimS.nxt s2 (r2.setH x2 w2 rw2 t2 nj)⟩
/-- x, y = a, b at once: numbers and what is made of them -/
theorem st_parI {i j : Nat} {x y : Str} {a b : Expr} {xa xb : Pv.X} {px py p2 pt pos : Pos} {kt k2} (hc : X.calm = true) (hN : X.N.Nodup) (hi : X.N[i]? = some x) (hj : X.N[j]? = some y) (hij : i ≠ j) (hx : X.env.scope.names.lookup x = some .local) (hy : X.env.scope.names.lookup y = some .local)
    (ni : i < p.n) (nj : j < p.n) (ha : Ev p X a xa) (hb : Ev p X b xb) (sa : isStarE a = false) (sb : isStarE b = false)
    (hw : swappedStores [.Tuple [.Name x px, .Name y py] kt pt] (.Tuple [a, b] k2 p2) X.env = pure (some [x, y])) :
    PS X (.Assign [.Tuple [.Name x px, .Name y py] kt pt] (.Tuple [a, b] k2 p2) pos) (tS p (p.st fu (.par (.cons (.var i) (.cons (.var j) .nil)) (.cons xa (.cons xb .nil))))) :=
  (ps_par hc hN hi hj hij hx hy (pa_cons (ha.pe _ fun i hi => hi) (pa_cons (hb.pe _ fun i hi => hi) pa_nil (starEach_cons (star_is sb) _ X.env)) (starEach_cons (star_is sa) _ X.env)) hw).imp fun D σ H ⟨A0, H0, Kp, env, h, r, s⟩ => by
    unfold Pm.st evS at s
    refine r.use s fun v h1 y1 H1 e1 x1 w1 rv t r1 s1 => r1.use s1 fun w h2 y2 H2 e2 x2 w2 rw2 t2 r2 s2 => ?_
    obtain ⟨v, fr⟩ := v
    obtain ⟨w, fr2⟩ := w
    cases v with
    | d dx =>
      cases w with
      | d dy =>
        have s2 : SimS p A0 H0 Kp (match imm dx && imm dy with
          | true => .ok (.nx, (env.set i (some (.d dx, false))).set j (some (.d dy, false))) h2
          | false => .no) D := s2
        cases hi2 : imm dx && imm dy with
        | false => rw [hi2] at s2; exact s2.elim
        | true =>
          rw [hi2] at s2
          obtain ⟨ix, iy⟩ := Bool.and_eq_true_iff.mp hi2
          have rx : DRep H2 (AO A0 σ env) dx y1 := DRep.imm dx y1 ix (DRep.ext' x2 w1 rv)
          have r3 := r2.setN (v := .d dx) (y := y1) rx ni
          exact ⟨y1, y2, rfl, SimS.nxt s2 (r3.setN (v := .d dy) (y := y2) (DRep.imm dy y2 iy rw2) nj)⟩
      | _ => exact s2.elim
    | _ => exact s2.elim
theorem st_par3 {i j l : Nat} {x y z : Str} {a b c : Expr} {xa xb xc : Pv.X} {px py pz p2 pt pos : Pos} {kt k2} (hc : X.calm = true) (hN : X.N.Nodup) (hi : X.N[i]? = some x) (hj : X.N[j]? = some y) (hl : X.N[l]? = some z) (hij : i ≠ j) (hil : i ≠ l) (hjl : j ≠ l)
    (hx : X.env.scope.names.lookup x = some .local) (hy : X.env.scope.names.lookup y = some .local) (hz : X.env.scope.names.lookup z = some .local)
    (ni : i < p.n) (nj : j < p.n) (nl : l < p.n) (ha : Ev p X a xa) (hb : Ev p X b xb) (hcc : Ev p X c xc) (sa : isStarE a = false) (sb : isStarE b = false) (sc : isStarE c = false) (hv : i ∉ vars xb) (hv2 : i ∉ vars xc) (hv3 : j ∉ vars xc)
    (hw : swappedStores [.Tuple [.Name x px, .Name y py, .Name z pz] kt pt] (.Tuple [a, b, c] k2 p2) X.env = pure (some [x, y, z])) :
    PS X (.Assign [.Tuple [.Name x px, .Name y py, .Name z pz] kt pt] (.Tuple [a, b, c] k2 p2) pos) (tS p (p.st fu (.seq (.set (.v i) xa) (.seq (.set (.v j) xb) (.set (.v l) xc))))) :=
  (ps_par3 hc hN hi hj hl hij hil hjl hx hy hz (pa_cons (ha.pe _ fun i hi => hi) (pa_cons (hb.pe _ fun i hi => hi) (pa_cons (hcc.pe _ fun i hi => hi) pa_nil (starEach_cons (star_is sc) _ X.env)) (starEach_cons (star_is sb) _ X.env)) (starEach_cons (star_is sa) _ X.env)) hw).imp fun D σ H ⟨A0, H0, Kp, env, h, r, s⟩ => by
    unfold Pm.st at s
    rw [seq_set] at s
    refine r.use s fun v h1 y1 H1 e1 x1 w1 rv t r1 s1 => ?_
    have r2 := r.setH (hot := p.hot) x1 w1 rv t ni
    rw [seq_set] at s1
    refine tG_set hv (r2.use s1 fun w h2 y2 H2 e2 x2 w2 rw2 t2 r3 s2 => ?_)
    have r4 := r2.setH (hot := p.hot) x2 w2 rw2 t2 nj
    rw [one_set] at s2
    refine tG_set hv2 (tG_set hv3 (r4.use s2 fun u h3 y3 H3 e3 x3 w3 rw3 t3 r5 s3 => ?_))
    refine ⟨y1, y2, y3, rfl, SimS.nxt s3 ?_⟩
    exact r4.setH x3 w3 rw3 t3 nl
/-! names, some of them captured: a tuple is made and taken apart -/
theorem same_lay {H : Hp} {q : Addr} {o : HO} (h : H q = none) : Same H (upd H q o) := fun b u e => by
  rw [upd_ne (ne_of_none e h)]
  exact e
theorem st_par2G {i j : Nat} {x y : Str} {a b : Expr} {xa xb : Pv.X} {px py p2 pt pos : Pos} {kt k2} (hc : X.calm = true) (hN : X.N.Nodup) (hi : X.N[i]? = some x) (hj : X.N[j]? = some y) (lx : Loc X.env.scope x) (ly : Loc X.env.scope y)
    (fx : X.fn x = true ∨ X.env.scope.names.lookup x = some .local) (fy : X.fn y = true ∨ X.env.scope.names.lookup y = some .local) (ni : i < p.n) (nj : j < p.n) (ha : Ev p X a xa) (hb : Ev p X b xb) (sa : isStarE a = false) (sb : isStarE b = false) (hv : i ∉ vars xb)
    (hw : swappedStores [.Tuple [.Name x px, .Name y py] kt pt] (.Tuple [a, b] k2 p2) X.env = pure none) :
    PS X (.Assign [.Tuple [.Name x px, .Name y py] kt pt] (.Tuple [a, b] k2 p2) pos) (tS p (p.st fu (.seq (.set (.v i) xa) (.set (.v j) xb)))) :=
  (ps_asg (pe_tup (pa_cons (ha.pe _ fun i hi => hi) (pa_cons (hb.pe _ fun i hi => hi) pa_nil (starEach_cons (star_is sb) _ X.env)) (starEach_cons (star_is sa) _ X.env))) (pg_tup (n := 2) hc (pgs_cons (pg_name hN hi lx fx) (pgs_cons (pg_name hN hj ly fy) pgs_nil))) rfl hw rfl).imp fun D σ H ⟨A0, H0, Kp, env, h, r, s⟩ => by
    unfold Pm.st at s
    rw [seq_set] at s
    refine r.use s fun v h1 y1 H1 e1 x1 w1 rv t r1 s1 => ?_
    have r2 := r.setH (hot := p.hot) x1 w1 rv t ni
    rw [one_set] at s1
    refine tG_set hv (r2.use s1 fun w h2 y2 H2 e2 x2 w2 rw2 t2 r3 s2 => ?_)
    refine ⟨by show 2 ≤ sizeLine; decide, fun q hq => ⟨q, [y1, y2], rfl, .of upd_same, rfl, y1, [y2], rfl, y2, [], rfl, rfl, ?_⟩⟩
    exact SimS.nxt s2 ((r2.setH x2 w2 rw2 t2 nj).same (same_lay hq))
theorem st_par3G {i j l : Nat} {x y z : Str} {a b c : Expr} {xa xb xc : Pv.X} {px py pz p2 pt pos : Pos} {kt k2} (hc : X.calm = true) (hN : X.N.Nodup) (hi : X.N[i]? = some x) (hj : X.N[j]? = some y) (hl : X.N[l]? = some z) (lx : Loc X.env.scope x) (ly : Loc X.env.scope y) (lz : Loc X.env.scope z)
    (fx : X.fn x = true ∨ X.env.scope.names.lookup x = some .local) (fy : X.fn y = true ∨ X.env.scope.names.lookup y = some .local) (fz : X.fn z = true ∨ X.env.scope.names.lookup z = some .local) (ni : i < p.n) (nj : j < p.n) (nl : l < p.n)
    (ha : Ev p X a xa) (hb : Ev p X b xb) (hcc : Ev p X c xc) (sa : isStarE a = false) (sb : isStarE b = false) (sc : isStarE c = false) (hv : i ∉ vars xb) (hv2 : i ∉ vars xc) (hv3 : j ∉ vars xc)
    (hw : swappedStores [.Tuple [.Name x px, .Name y py, .Name z pz] kt pt] (.Tuple [a, b, c] k2 p2) X.env = pure none) :
    PS X (.Assign [.Tuple [.Name x px, .Name y py, .Name z pz] kt pt] (.Tuple [a, b, c] k2 p2) pos) (tS p (p.st fu (.seq (.set (.v i) xa) (.seq (.set (.v j) xb) (.set (.v l) xc))))) :=
  (ps_asg (pe_tup (pa_cons (ha.pe _ fun i hi => hi) (pa_cons (hb.pe _ fun i hi => hi) (pa_cons (hcc.pe _ fun i hi => hi) pa_nil (starEach_cons (star_is sc) _ X.env)) (starEach_cons (star_is sb) _ X.env)) (starEach_cons (star_is sa) _ X.env))) (pg_tup (n := 3) hc (pgs_cons (pg_name hN hi lx fx) (pgs_cons (pg_name hN hj ly fy) (pgs_cons (pg_name hN hl lz fz) pgs_nil)))) rfl hw rfl).imp fun D σ H ⟨A0, H0, Kp, env, h, r, s⟩ => by
    unfold Pm.st at s
    rw [seq_set] at s
    refine r.use s fun v h1 y1 H1 e1 x1 w1 rv t r1 s1 => ?_
    have r2 := r.setH (hot := p.hot) x1 w1 rv t ni
    rw [seq_set] at s1
    refine tG_set hv (r2.use s1 fun w h2 y2 H2 e2 x2 w2 rw2 t2 r3 s2 => ?_)
    have r4 := r2.setH (hot := p.hot) x2 w2 rw2 t2 nj
    rw [one_set] at s2
    refine tG_set hv2 (tG_set hv3 (r4.use s2 fun u h3 y3 H3 e3 x3 w3 rw3 t3 r5 s3 => ?_))
    refine ⟨by show 3 ≤ sizeLine; decide, fun q hq => ⟨q, [y1, y2, y3], rfl, .of upd_same, rfl, y1, [y2, y3], rfl, y2, [y3], rfl, y3, [], rfl, rfl, ?_⟩⟩
    exact SimS.nxt s3 ((r4.setH x3 w3 rw3 t3 nl).same (same_lay hq))
theorem pg_list : PGet X (rIxL X.K) := by
  intro pins s σ H x y v u Q I rx ry h
  obtain ⟨p, xs, i, z, rfl, rfl, hq, he, q⟩ := h
  cases rx
  obtain ⟨t, rfl⟩ := ry
  obtain ⟨its, r, pl, hz⟩ := I.list hq
  obtain ⟨j, h1, h2, h3, h4, h5⟩ := atI_get he
  obtain ⟨w, ew, rw'⟩ := r.get h2
  have hl := r.length
  have hn := line63
  have fin : EP X pins σ Q w s := ⟨z, H, I, rw', q⟩
  by_cases h0 : 0 ≤ i
  · have hj : i.toNat = j := by
      rw [seqIndex_of h0 h5] at h1
      exact Option.some.inj h1
    exact wpAny_getItem_list pl.isList h0 (by omega) (by rw [hj]; simpa using ew) fin
  · have hj : (i + (its.toArray.size : Int)).toNat = j := by
      rw [seqIndex_neg (by omega) h4] at h1
      rw [List.size_toArray, ← hl]
      exact Option.some.inj h1
    exact wpAny_getItem_list_neg pl.isList (by omega) (by rw [List.size_toArray] <;> omega) (by omega) (by rw [hj]; simpa using ew) fin
theorem st_stoA {i : Nat} {x : Str} {k e : Expr} {xk xe : Pv.X} {o : Bop} {p1 p2 pos : Pos} (hot : p.hot = false) (hN : X.N[i]? = some x) (hv : Vis X.env.scope x) (hd : (x == ("__debug__" : Str)) = false) (hcd : (x == ("__classdict__" : Str)) = false) (hk : Ev p X k xk) (he : Ev p X e xe)
    (ha : ∀ ov iv new, augStore k ov iv new = (do holding [new, ov, iv] (setItem ov iv new); release [new, ov, iv] []; pure .next)) : PS X (.AugAssign (.Subscript (.Name x p1) k p2) o.op e pos) (tS p (p.st fu (.stoA i xk o xe))) :=
  (ps_augS (pe_var hN hv hd hcd) (hk.pe _ fun i hi => hi) pg_list (he.pe _ fun i hi => hi) (ip_ok o) set_list ha).imp fun D σ H ⟨A0, H0, Kp, env, h, r, s⟩ => by
    unfold Pm.st evS at s
    rw [hot] at s
    have ee : evE p.C p.th false xe = p.ev xe := by unfold Pm.ev; rw [hot]
    have ek : evE p.C p.th false xk = p.ev xk := by unfold Pm.ev; rw [hot]
    rw [ee, ek] at s
    cases ho : ownD env i with
    | none => rw [ho] at s; exact s.elim
    | some l =>
      rw [ho] at s
      cases l with
      | list xs =>
        have eo := ownD_of ho
        obtain ⟨b, ys, vs, e4, q1, q2, q3, q4⟩ := r.owndL i _ eo rfl
        cases e4
        have s : SimS p A0 H0 Kp ((p.ev xk env h).bind fun w h => match w.1 with
          | .d (.int j) => match atD xs j with
            | some (.int old) => (p.ev xe env h).bind fun v h => match v.1 with
              | .d (.int y) => match augD o old y with
                | some z => match setAt xs j (.int z) with
                  | some xs' => .ok (.nx, reown env i (.list xs')) h
                  | none => .no
                | none => .no
              | _ => .no
            | _ => .no
          | _ => .no) D := s
        refine ⟨.ref b, q1, r.use s fun kv h1 y1 H1 e1 x1 w1 rv1 t1 r1 s1 => ?_⟩
        obtain ⟨kv, fr⟩ := kv
        cases kv with
        | d kv =>
          cases kv with
          | int j =>
            have s1 : SimS p A0 H0 Kp (match atD xs j with
              | some (.int old) => (p.ev xe env h1).bind fun v h => match v.1 with
                | .d (.int y) => match augD o old y with
                  | some z => match setAt xs j (.int z) with
                    | some xs' => .ok (.nx, reown env i (.list xs')) h
                    | none => .no
                  | none => .no
                | _ => .no
              | _ => .no) D := s1
            cases hat : atD xs j with
            | none => rw [hat] at s1; exact s1.elim
            | some od =>
              rw [hat] at s1
              cases od with
              | int old =>
                have s1 : SimS p A0 H0 Kp ((p.ev xe env h1).bind fun v h => match v.1 with
                  | .d (.int y) => match augD o old y with
                    | some z => match setAt xs j (.int z) with
                      | some xs' => .ok (.nx, reown env i (.list xs')) h
                      | none => .no
                    | none => .no
                  | _ => .no) D := s1
                cases (show y1 = .int j from rv1)
                obtain ⟨b1, ys1, vs1, e41, q11, q21, q31, q41⟩ := r1.owndL i _ eo rfl
                cases e41
                rw [q1] at q11
                cases q11
                obtain ⟨m, m1, m2⟩ := atG_of (show atG xs j = some (.int old) from hat)
                obtain ⟨w, hw, rw'⟩ := q41.get m1
                cases (show w = .int old from rw')
                refine ⟨b, vs1, j, .int old, rfl, rfl, .of q31, atI_of q41.length m2 hw, r1.use s1 fun v h2 y2 H2 e2 x2 w2 rv2 t2 r2 s2 => ?_⟩
                obtain ⟨v, fr2⟩ := v
                cases v with
                | d v =>
                  cases v with
                  | int y =>
                    have s2 : SimS p A0 H0 Kp (match augD o old y with
                      | some z => match setAt xs j (.int z) with
                        | some xs' => .ok (.nx, reown env i (.list xs')) h2
                        | none => .no
                      | none => .no) D := s2
                    cases (show y2 = .int y from rv2)
                    cases hau : augD o old y with
                    | none => rw [hau] at s2; exact s2.elim
                    | some z =>
                      rw [hau] at s2
                      have s2 : SimS p A0 H0 Kp (match setAt xs j (.int z) with
                        | some xs' => .ok (.nx, reown env i (.list xs')) h2
                        | none => .no) D := s2
                      cases hs2 : setAt xs j (.int z) with
                      | none => rw [hs2] at s2; exact s2.elim
                      | some xs' =>
                        rw [hs2] at s2
                        obtain ⟨b2, ys2, vs2, e42, q12, q22, q32, q42⟩ := r2.owndL i _ eo rfl
                        cases e42
                        rw [q1] at q12
                        cases q12
                        obtain ⟨kk, k1, k2⟩ := setAt_rep (y := .int z) (u := .int z) q42 rfl hs2
                        have s2 : SimS p A0 H0 Kp (.ok (.nx, reown env i (.list xs')) h2) D := s2
                        rw [reown_of eo] at s2
                        exact ⟨old, y, z, rfl, rfl, hau, ⟨b, vs2, j, kk, rfl, rfl, q32, k1, SimS.nxt s2 (r2.wr eo q1 q32 k2)⟩⟩
                  | _ => exact s2.elim
                | _ => exact s2.elim
              | _ => exact s1.elim
          | _ => exact s1.elim
        | _ => exact s1.elim
      | _ => exact s.elim
end
end Pv
/-! text S31 -/
set_option autoImplicit false
set_option Elab.async false
set_option linter.all false
set_option maxRecDepth 100000
set_option maxHeartbeats 4000000
namespace Pv
open PySem PySem.Spec PyProof.Rows L2
/-- a context in which compiled statements run -/
structure CtxS (c : Cc) (p : Pm) (k : Nat) (X : Cx) : Prop where
  ctx : Ctx c p k X
  sc : X.env.scope = c.sc
  fk : c.sc.kind = .function
  po : c.hot = false → PassesOwn (model X.prog X.w) X.A X.env X.xe
  stk : c.hot = false → X.stack = X.env :: X.outer ∧ X.env.frame = some X.env.locals
  trk : c.hot = false → ∀ (W : WX) (pn : List (Addr × Obj)) (xe : Value → Shared → Prop), Takes (X.tr pn xe) W → ∀ a, c.par = some a → ∀ (p1 p2 : Pos) (V' : List Nat), 0 ∈ V' → PE (X.tr pn xe) (.Call (.Name a p1) [] [] p2) (tE p.w p.n W V' (p.ev .thunk))
section
variable {c : Cc} {p : Pm} {k : Nat} {X : Cx} {fu : Nat}
theorem st_bad {st : Stmt} : PS X st (tS p (p.st fu .bad)) := st_no fun env h => rfl
theorem sts_bad {st : List Stmt} : PSs X st (tS p (p.st fu .bad)) := sts_no fun env h => rfl
theorem swaps_val (elt : Expr) (gs : List Comprehension) (sc : Scope) (q tp : Pos) (t : Str) (l : Nat) (env : PySem.Env) : swapsWith (.ListComp elt gs sc q) (some (.Name t tp)) l env = pure (env.blockKind == .function && env.kindOf t == some .local && tp.line == q.line && !(sc.names.any fun (n, k) => n == t && (k == .local || k == .cell))) := rfl
theorem blk_fun {env : PySem.Env} (h : env.scope.kind = .function) : env.blockKind = .function := by
  unfold PySem.Env.blockKind
  rw [h]
  rfl
/-- name = [..] -/
theorem lc_set {n : Nat} (hn : n ≤ 1000) (cs : CtxS c p k X) {i : Nat} {y : Str} {py spos : Pos} (elt : Expr) (gs : List Comprehension) (sc : Scope) (pos : Pos) (hi : c.lslot y = some i) : PS X (.Assign [.Name y py] (.ListComp elt gs sc pos) spos) (tS p (p.st fu (.set (.v i) (cE n c (.ListComp elt gs sc pos))))) := by
  have ctx := cs.ctx
  obtain ⟨l1, l2, l3, l4⟩ := lslot_ok ctx hi
  have hE := (oks n hn c p X ctx).e (.ListComp elt gs sc pos)
  cases hsw : (X.env.kindOf y == some .local && py.line == pos.line && !(sc.names.any fun (n, k) => n == y && (k == .local || k == .cell))) with
  | false =>
    refine st_set (by rw [ctx.N]; exact ctx.nd) l2 l1 l3 l4 ?_ hE
    rw [swaps_val, blk_fun (by rw [cs.sc]; exact cs.fk)]
    congr 1
  | true =>
    have hsv : swapsWith (.ListComp elt gs sc pos) (some (.Name y py)) spos.line X.env = pure true := by
      rw [swaps_val, blk_fun (by rw [cs.sc]; exact cs.fk)]
      congr 1
    have hloc : X.env.scope.names.lookup y = some .local := by
      have := (Bool.and_eq_true_iff.mp (Bool.and_eq_true_iff.mp hsw).1).1
      exact (beq_iff_eq.mp this : X.env.kindOf y = some .local)
    have bad : PS X (.Assign [.Name y py] (.ListComp elt gs sc pos) spos) (tS p (p.st fu (.set (.v i) .bad))) := st_no fun env h => rfl
    cases n with
    | zero => exact bad
    | succ n =>
      have hn' : n ≤ 1000 := by omega
      rcases gs with _ | ⟨⟨tg, src, ifs, ia⟩, _ | ⟨g2, gs⟩⟩
      · exact bad
      · by_cases hia : ia = 0
        · subst hia
          unfold cE
          simp only
          split
          · rename_i t ht
            split
            · rename_i hb
              have hb := Bool.and_eq_true_iff.mp hb
              have hsrc : isSetE src = false := by simpa using hb.2
              cases hh : c.hot with
              | true =>
                refine st_no fun env h => ?_
                unfold Pm.st evS
                have : evE p.C p.th p.hot (.lc t (cSrc n c (isTupE tg) src) (cEs n { c with sc := sc, par := none } ifs) (cE n { c with sc := sc, par := none } elt)) env h = .no := by unfold evE; rw [ctx.hot, hh]
                rw [← hh, this]
                rfl
              | false =>
                obtain ⟨own, ho, bo⟩ := blkOk_of ctx hb.1
                have hot : p.hot = false := ctx.hot.trans hh
                have hcl := ctx.calm hh
                have cb := fun s H C cl fp => ctx.blk hh sc s H C cl fp
                have key : ∀ s H C cl fp, Eg (X.blk s H sc (compEnvC sc cl C X.env) fp) tg t ∧ (∀ i ∈ tv t, i < p.n) ∧ isStar tg = false := fun s H C cl fp => (cT_ok n _ p.nox _ (cb s H C cl fp) hcl).1 tg t ht
                have hvs : ∀ i, i ∈ own.map (·.2) ↔ i ∈ tv t := fun i => by rw [ho, tvs_eq]
                rw [← hh]
                have hO : ∀ s H C cl fp, Oks n k _ p.nox (X.blk s H sc (compEnvC sc cl C X.env) fp) := fun s H C cl fp => oks n hn' _ p.nox _ (cb s H C cl fp)
                have parts := (ev_lc (pos := pos) hot hcl (by rw [ctx.N]; exact ctx.nd) ((oks n hn' c p X ctx).src tg _ src fun z => z) bo hvs (key X.s_0 X.H_0 0 [] []).2.1 (fun s H C cl fp => (key s H C cl fp).1) (fun s H C cl fp => (hO s H C cl fp).ec ifs) (fun s H C cl fp => (hO s H C cl fp).e elt) (folded_of hsrc X.env)).2 _ (fun i hi => hi)
                exact st_setG (parts.2 i y py spos l2 hloc hsv) parts.1 l4
            · exact bad
          · exact bad
        · unfold cE
          split <;> first | exact bad | (rename_i heq; cases heq; done) | (rename_i heq; cases heq; exact absurd rfl hia)
      · unfold cE
        split <;> first | exact bad | (rename_i heq; cases heq)
theorem band {a b : Bool} (h : (a && b) = true) : a = true ∧ b = true := Bool.and_eq_true_iff.mp h
theorem bnot {a : Bool} (h : (!a) = true) : a = false := by cases a <;> first | rfl | (cases h)
theorem ncont {l : List Nat} {i : Nat} (h : (!l.contains i) = true) : i ∉ l := fun m => by
  have := List.contains_iff_mem.mpr m
  rw [this] at h; cases h
theorem loc_of (cs : CtxS c p k X) {x : Str} (h : (kindOf c.sc x == some .local) = true) : X.env.scope.names.lookup x = some .local := by
  rw [cs.sc]; exact beq_iff_eq.mp h
theorem par2_ok {n : Nat} (hn : n ≤ 1000) (cs : CtxS c p k X) (hh : c.hot = false) {x y : Str} {px py p1 p2 pos : Pos} {a b : Expr} {kt k2} :
    PS X (.Assign [.Tuple [.Name x px, .Name y py] kt p1] (.Tuple [a, b] k2 p2) pos) (tS p (p.st fu (cPar2 c (cE n c) x y px py a b (.Tuple [a, b] k2 p2)))) := by
  have ctx := cs.ctx
  have O := oks n hn c p X ctx
  have hN : X.N.Nodup := by rw [ctx.N]; exact ctx.nd
  unfold cPar2
  split
  · rename_i i j h1 h2 hst
    have hst := Bool.or_eq_false_iff.mp hst
    obtain ⟨a1, a2, a3, a4⟩ := lslot_ok ctx h1
    obtain ⟨b1, b2, b3, b4⟩ := lslot_ok ctx h2
    split
    · rename_i hl
      obtain ⟨hx, hy⟩ := band hl
      have lx := loc_of cs hx
      have ly := loc_of cs hy
      split
      · rename_i hp
        obtain ⟨hp, hij⟩ := band hp
        unfold parOk2 at hp
        obtain ⟨hp, hc8⟩ := band hp
        obtain ⟨hp, hf8⟩ := band hp
        obtain ⟨hln, hxy⟩ := band hp
        split
        · rename_i hv
          exact st_par2 (ctx.calm hh) hN a2 b2 (fun z => by simp [z] at hij) lx ly a4 b4 (O.e a) (O.e b) hst.1 hst.2 (ncont hv) (swap2 (blk_fun (by rw [cs.sc]; exact cs.fk)) lx ly hln (bnot hxy) hst.1 hst.2 (bnot hf8) (bnot hc8))
        · exact st_parI (ctx.calm hh) hN a2 b2 (fun z => by simp [z] at hij) lx ly a4 b4 (O.e a) (O.e b) hst.1 hst.2 (swap2 (blk_fun (by rw [cs.sc]; exact cs.fk)) lx ly hln (bnot hxy) hst.1 hst.2 (bnot hf8) (bnot hc8))
      · exact st_bad
    · rename_i hl
      have e1 : ∀ z q, nmOk X.env (.Name z q) = (kindOf c.sc z == some .local) := fun z q => by
        show (X.env.kindOf z == some .local) = _
        unfold PySem.Env.kindOf kindOf
        rw [cs.sc]
      have hw : swappedStores [.Tuple [.Name x px, .Name y py] kt p1] (.Tuple [a, b] k2 p2) X.env = pure none := swapN (by
        simp only [List.all_cons, List.all_nil, e1, Bool.and_true]
        exact hl)
      split
      · rename_i hp
        obtain ⟨hij, hv⟩ := band hp
        exact st_par2G (ctx.calm hh) hN a2 b2 a1 b1 a3 b3 a4 b4 (O.e a) (O.e b) hst.1 hst.2 (ncont hv) hw
      have ht : cT 6 c (.Tuple [.Name x px, .Name y py] kt p1) = some (.tup (.cons (.v i) (.cons (.v j) .nil))) := by simp [cT, cTs, h1, h2]
      obtain ⟨t1, t2, _⟩ := (cT_ok 6 c p X ctx (ctx.calm hh)).1 _ _ ht
      refine st_setT (ctx.hot.trans hh) t1 (fun i hi => t2 i (by simpa [tv] using hi)) (O.e _) (by unfold PySem.swapsWithSole; exact swaps_no rfl _ _ _) (swapN ?_) rfl
      have e1 : ∀ z q, nmOk X.env (.Name z q) = (kindOf c.sc z == some .local) := fun z q => by
        show (X.env.kindOf z == some .local) = _
        unfold PySem.Env.kindOf kindOf
        rw [cs.sc]
      simp only [List.all_cons, List.all_nil, e1, Bool.and_true]
      exact hl
  · exact st_bad
theorem par3_ok {n : Nat} (hn : n ≤ 1000) (cs : CtxS c p k X) (hh : c.hot = false) {x y z : Str} {px py pz p1 p2 pos : Pos} {a b d : Expr} {kt k2} :
    PS X (.Assign [.Tuple [.Name x px, .Name y py, .Name z pz] kt p1] (.Tuple [a, b, d] k2 p2) pos) (tS p (p.st fu (cPar3 c (cE n c) x y z px py pz a b d (.Tuple [a, b, d] k2 p2)))) := by
  have ctx := cs.ctx
  have O := oks n hn c p X ctx
  have hN : X.N.Nodup := by rw [ctx.N]; exact ctx.nd
  unfold cPar3
  split
  · rename_i i j l h1 h2 h3 hst
    have hst := Bool.or_eq_false_iff.mp hst
    have hst1 := Bool.or_eq_false_iff.mp hst.1
    obtain ⟨a1, a2, a3, a4⟩ := lslot_ok ctx h1
    obtain ⟨b1, b2, b3, b4⟩ := lslot_ok ctx h2
    obtain ⟨d1, d2, d3, d4⟩ := lslot_ok ctx h3
    split
    · rename_i hl
      obtain ⟨hl, hz⟩ := band hl
      obtain ⟨hx, hy⟩ := band hl
      have lx := loc_of cs hx
      have ly := loc_of cs hy
      have lz := loc_of cs hz
      split
      · rename_i hp
        obtain ⟨hp, hv3⟩ := band hp
        obtain ⟨hp, hv2⟩ := band hp
        obtain ⟨hp, hv⟩ := band hp
        obtain ⟨hp, hjl⟩ := band hp
        obtain ⟨hp, hil⟩ := band hp
        obtain ⟨hp, hij⟩ := band hp
        unfold parOk3 at hp
        obtain ⟨hp, hc8⟩ := band hp
        obtain ⟨hp, hf8⟩ := band hp
        obtain ⟨hp, hyz⟩ := band hp
        obtain ⟨hp, hxz⟩ := band hp
        obtain ⟨hp, hxy⟩ := band hp
        obtain ⟨hln, hln2⟩ := band hp
        exact st_par3 (ctx.calm hh) hN a2 b2 d2 (fun z => by simp [z] at hij) (fun z => by simp [z] at hil) (fun z => by simp [z] at hjl) lx ly lz a4 b4 d4 (O.e a) (O.e b) (O.e d) hst1.1 hst1.2 hst.2 (ncont hv) (ncont hv2) (ncont hv3)
          (swap3 (blk_fun (by rw [cs.sc]; exact cs.fk)) lx ly lz hln hln2 (bnot hxy) (bnot hxz) (bnot hyz) hst1.1 hst1.2 hst.2 (bnot hf8) (bnot hc8))
      · exact st_bad
    · rename_i hl
      have e1 : ∀ z q, nmOk X.env (.Name z q) = (kindOf c.sc z == some .local) := fun z q => by
        show (X.env.kindOf z == some .local) = _
        unfold PySem.Env.kindOf kindOf
        rw [cs.sc]
      have hw : swappedStores [.Tuple [.Name x px, .Name y py, .Name z pz] kt p1] (.Tuple [a, b, d] k2 p2) X.env = pure none := swapN (by
        simp only [List.all_cons, List.all_nil, e1, Bool.and_true]
        rw [← Bool.and_assoc]
        exact hl)
      split
      · rename_i hp
        obtain ⟨hp, hv3⟩ := band hp
        obtain ⟨hp, hv2⟩ := band hp
        obtain ⟨hp, hv⟩ := band hp
        exact st_par3G (ctx.calm hh) hN a2 b2 d2 a1 b1 d1 a3 b3 d3 a4 b4 d4 (O.e a) (O.e b) (O.e d) hst1.1 hst1.2 hst.2 (ncont hv) (ncont hv2) (ncont hv3) hw
      have ht : cT 6 c (.Tuple [.Name x px, .Name y py, .Name z pz] kt p1) = some (.tup (.cons (.v i) (.cons (.v j) (.cons (.v l) .nil)))) := by simp [cT, cTs, h1, h2, h3]
      obtain ⟨t1, t2, _⟩ := (cT_ok 6 c p X ctx (ctx.calm hh)).1 _ _ ht
      refine st_setT (ctx.hot.trans hh) t1 (fun i hi => t2 i (by simpa [tv] using hi)) (O.e _) (by unfold PySem.swapsWithSole; exact swaps_no rfl _ _ _) (swapN ?_) rfl
      have e1 : ∀ z q, nmOk X.env (.Name z q) = (kindOf c.sc z == some .local) := fun z q => by
        show (X.env.kindOf z == some .local) = _
        unfold PySem.Env.kindOf kindOf
        rw [cs.sc]
      simp only [List.all_cons, List.all_nil, e1, Bool.and_true]
      rw [← Bool.and_assoc]
      exact hl
  · exact st_bad
theorem par_ok {n : Nat} (hn : n ≤ 1000) (cs : CtxS c p k X) {ts : List Expr} {kt} {p1 pos : Pos} {e : Expr} : PS X (.Assign [.Tuple ts kt p1] e pos) (tS p (p.st fu (cPar c (cE n c) ts e))) := by
  unfold cPar
  split
  · exact st_bad
  · rename_i hh
    split
    · exact par2_ok hn cs hh
    · exact par3_ok hn cs hh
    · exact st_bad
structure SOk (n : Nat) (fu : Nat) (c : Cc) (p : Pm) (X : Cx) : Prop where
  s : ∀ st, PS X st (tS p (p.st fu (cS n c st)))
  b : ∀ b, PSs X b (tS p (p.st fu (cB n c b)))
  h : ∀ hs, c.hot = false → isHs (cH n c hs) = true → HsOk p X fu hs (cH n c hs)
theorem comp_no {e : Expr} (h : isCompE e = false) : isComp e = false := by cases e <;> first | rfl | cases h
theorem errOf_ok (ctx : Ctx c p k X) {t : Str} {kc : Option Nat} (ht : errOf c t = some kc) : ∃ cv, Names X t cv ∧ ∀ j C, p.w.cl j = some C → PySem.W.exmOne X.K (.ref C) cv = some (isErr j kc) := by
  unfold errOf isInit at ht
  cases hg : c.glob t with
  | true =>
    rw [hg] at ht
    obtain ⟨q1, q2, q3⟩ := glob_ok ctx hg
    cases hf2 : find c.G.cls t with
    | some j =>
      simp only [hf2, if_true] at ht
      cases ht
      obtain ⟨D, e1, e2⟩ := ctx.er.ad t j hf2
      exact ⟨.ref D, ⟨q1, q2, .inl e1⟩, fun i C e => ctx.er.exm i C j D e e2⟩
    | none =>
      simp only [hf2, if_true] at ht
      split at ht
      · rename_i hb
        cases ht
        have hb := Bool.and_eq_true_iff.mp hb
        have e : t = ("ValueError" : Str) := by simpa using hb.2
        subst e
        obtain ⟨b1, b2, b3, b4⟩ := blt_ok ctx hb.1 (by rfl)
        exact ⟨.type "ValueError", ⟨b1, b3, .inr ⟨b2, by rfl, b4⟩⟩, fun i C e => ctx.er.exmV i C e⟩
      · cases ht
  | false =>
    rw [hg] at ht
    simp only [Bool.false_eq_true, if_false] at ht
    split at ht
    · rename_i hb
      have hb := (Bool.and_eq_true_iff.mp hb).1
      unfold blt at hb
      rw [hg] at hb
      cases hb
    · cases ht
theorem CtxS.suite (cs : CtxS c p k X) {a : Addr} {oe : Obj} {cls : Value} {d : Option Addr} {pn : List (Addr × Obj)} (hz : Zc cls d oe) (hf : ∃ vs, oe.data = .fields vs) : CtxS { c with hot := true, par := none } (suiteP p a cls d) k (X.suite a ((a, oe) :: pn)) :=
  ⟨cs.ctx.suite hz hf, cs.sc, cs.fk, fun h => (by cases h), fun h => (by cases h), fun h => (by cases h)⟩
theorem CtxS.tr (cs : CtxS c p k X) (hot : c.hot = false) {W : WX} {pn : List (Addr × Obj)} {xe : Value → Shared → Prop} (tk : Takes (X.tr pn xe) W) (po : PassesOwn (model X.prog X.w) X.A X.env xe) : CtxS c { p with W := W } k (X.tr pn xe) :=
  ⟨cs.ctx.tr hot tk (cs.trk hot W pn xe tk), cs.sc, cs.fk, fun _ => po, cs.stk, fun h W' pn' xe' tk' => cs.trk h W' pn' xe' tk'⟩
theorem sok : ∀ n, n ≤ 1000 → ∀ (c : Cc) (p : Pm) (X : Cx), CtxS c p k X → SOk n fu c p X
  | 0, _, c, p, X, cs => by
    refine ⟨fun st => ?_, fun b => ?_, fun hs _ h => ?_⟩
    · unfold cS; exact st_bad
    · unfold cB; exact sts_bad
    · unfold cH at h; cases h
  | n + 1, hn, c, p, X, cs => by
    have hn' : n ≤ 1000 := by omega
    have ihA : ∀ (c : Cc) (p : Pm) (X : Cx), CtxS c p k X → SOk n fu c p X := sok n hn'
    have ih := ihA c p X cs
    have ctx := cs.ctx
    have O := oks n hn' c p X ctx
    have hN : X.N.Nodup := by rw [ctx.N]; exact ctx.nd
    refine ⟨fun st => ?_, fun b => ?_, fun hs hh h => ?_⟩
    · cases st with
      | Pass pos => exact st_skip
      | Break pos => exact st_brk
      | Continue pos => exact st_cnt
      | Expr e pos =>
        unfold cS
        simp only
        split
        · rename_i i a h
          unfold appOf at h
          split at h
          · rename_i x p1 m p2 a' p3
            split at h
            · rename_i hs hm
              cases h
              simp only [Bool.and_eq_true, Bool.not_eq_true'] at hm
              obtain ⟨⟨m1, m2⟩, m3⟩ := hm
              have m1 : m = ("append" : Str) := by simpa using m1
              subst m1
              obtain ⟨s1, s2, s3, s4⟩ := slot_ok ctx hs
              cases hh : c.hot with
              | true => exact st_no fun env h => by unfold Pm.st evS; rw [ctx.hot, hh]
              | false => exact st_app (ctx.hot.trans hh) s2 s1 s3 s4 m2 (by rw [star_eq]; exact m3) (O.e _)
            · cases h
          · cases h
        · split
          · rename_i i a h
            unfold extOf at h
            split at h
            · rename_i x p1 m p2 a' p3 hno
              split at h
              · rename_i hs hm
                cases h
                simp only [Bool.and_eq_true, Bool.not_eq_true'] at hm
                obtain ⟨⟨m1, m2⟩, m3⟩ := hm
                have m1 : m = ("extend" : Str) := by simpa using m1
                subst m1
                obtain ⟨s1, s2, s3, s4⟩ := slot_ok ctx hs
                cases hh : c.hot with
                | true => exact st_no fun env h => by unfold Pm.st evS; rw [ctx.hot, hh]
                | false => exact st_ext (ctx.hot.trans hh) s2 s1 s3 s4 m2 (by rw [star_eq]; exact m3) (O.e _)
              · cases h
            · cases h
          · split
            · exact st_bad
            · rename_i hc
              exact st_expr (comp_no hc) (O.e e)
      | Return o pos =>
        cases o with
        | none => exact st_retN
        | some e =>
          unfold cS
          simp only
          split
          · rename_i i h
            unfold retOf at h
            split at h
            · obtain ⟨s1, s2, s3, s4⟩ := slot_ok ctx h
              exact st_retV s2 s1 s3 s4
            · cases h
          · exact st_ret (O.e e)
      | AugAssign t o e pos =>
        unfold cS
        cases t <;> first | exact st_bad | skip
        · rename_i ob k2 p1
          cases ob <;> first | exact st_bad | skip
          rename_i x p0
          simp only
          split
          · rename_i i o' hh h1 h2 h3
            obtain ⟨s1, s2, s3, s4⟩ := slot_ok ctx h1
            have := st_stoA (fu := fu) (p1 := p0) (p2 := p1) (pos := pos) (o := o') (ctx.hot.trans hh) s2 s1 s3 s4 (O.e k2) (O.e e) (fun ov iv new => by cases k2 <;> first | rfl | (cases h3))
            rw [bopOf_op h2] at this
            exact this
          · exact st_bad
        · rename_i x p1
          simp only
          split
          · rename_i i o' h1 h2
            obtain ⟨l1, l2, l3, l4⟩ := lslot_ok ctx h1
            have := st_aug (fu := fu) (p1 := p1) (pos := pos) (o := o') hN l2 l1 l3 l4 (O.e e)
            rw [bopOf_op h2] at this
            exact this
          · exact st_bad
      | If t a b pos => exact st_ite (O.e t) (ih.b a) (ih.b b)
      | While t b e pos =>
        cases e with
        | cons a b => exact st_bad
        | nil =>
          cases hh : c.hot with
          | true =>
            refine st_no fun env h => ?_
            unfold cS Pm.st evS
            rw [ctx.hot, hh]
            rfl
          | false => exact st_whl (cs.po hh) (O.e t) (ih.b b)
      | For tg src b e pos =>
        cases e with
        | cons a b => exact st_bad
        | nil =>
          unfold cS
          simp only
          split
          · rename_i t ht hs
            cases hh : c.hot with
            | true =>
              refine st_no fun env h => ?_
              unfold Pm.st evS
              rw [ctx.hot, hh]
              rfl
            | false =>
              obtain ⟨t1, t2, _⟩ := (cT_ok n c p X ctx (ctx.calm hh)).1 tg t ht
              exact st_frr (ctx.hot.trans hh) (ctx.calm hh) (cs.po hh) (O.src tg _ src fun z => z) t1 t2 (ih.b b) (folded_of hs X.env)
          · exact st_bad
      | Raise e cause pos =>
        unfold cS
        split <;> first | exact st_bad | (rename_i heq; cases heq; done) | skip
        rename_i x p1 as p2 p3 heq
        cases heq
        split
        · rename_i j hj
          split
          · rename_i hi
            cases hh : c.hot with
            | true =>
              refine st_no fun env h => ?_
              unfold Pm.st evS
              rw [ctx.hot, hh]
            | false =>
              unfold isInit at hj
              split at hj
              · rename_i hg
                obtain ⟨g1, g2, _⟩ := glob_ok ctx hg
                exact st_raise (c := c) (ctx.hot.trans hh) (ctx.calm hh) ctx.tk ctx.er hj hi g1 g2
              · cases hj
          · exact st_bad
        · exact st_bad
      | Try b hs e f pos =>
        unfold cS
        split <;> first | exact st_bad | (rename_i heq; cases heq; done) | skip
        rename_i b hs p3 heq
        cases heq
        split
        · rename_i hd hds hh hi
          obtain ⟨k1, k2⟩ := cs.stk hh
          exact st_try (ctx.hot.trans hh) (by rw [ctx.N]; exact ctx.n.symm) k1 k2 hN ctx.tk (fun W pn xe tk po => (ihA c _ _ (cs.tr hh tk po)).b b) (ih.h _ hh hi)
        · exact st_bad
      | Assign ts e pos =>
        rcases ts with _ | ⟨tg, _ | ⟨t2, ts⟩⟩
        · exact st_bad
        · cases tg with
          | Name x p1 =>
            unfold cS
            simp only
            split
            · rename_i i hi
              obtain ⟨l1, l2, l3, l4⟩ := lslot_ok ctx hi
              split
              · exact st_bad
              · rename_i hdc
                cases hc : isComp e with
                | false => exact st_set hN l2 l1 l3 l4 (swaps_no hc _ _ _) (O.e e)
                | true =>
                  cases e with
                  | ListComp elt gs sc q => exact lc_set hn' cs elt gs sc q hi
                  | SetComp a b c d => exact st_no fun env h => by cases n <;> rfl
                  | DictComp a b c d e => cases hdc
                  | _ => cases hc
            · exact st_bad
          | Subscript o k2 p1 =>
            cases o with
            | Name x p0 =>
              unfold cS
              simp only
              split
              · rename_i i hs hc
                have hc := Bool.or_eq_false_iff.mp hc
                have hc1 := Bool.or_eq_false_iff.mp hc.1
                obtain ⟨s1, s2, s3, s4⟩ := slot_ok ctx hs
                cases hh : c.hot with
                | true =>
                  refine st_no fun env h => ?_
                  unfold Pm.st evS
                  rw [ctx.hot, hh]
                | false =>
                  refine st_sto (by have := ctx.units; omega) (ctx.hot.trans hh) s2 s1 s3 s4 (O.e k2) (O.e e) (by unfold PySem.swapsWithSole; exact swaps_no (comp_no hc.2) _ _ _) ?_ ?_ (fun v => ?_)
                  · cases e <;> rfl
                  · rfl
                  · cases k2 <;> first | rfl | (cases hc1.2)
              · exact st_bad
            | _ => exact st_bad
          | Tuple es j p1 =>
            unfold cS
            simp only
            split
            · exact par_ok hn' cs
            · rename_i hte
              split
              · rename_i t ht hc
                obtain ⟨ts, rfl⟩ : ∃ ts, t = .tup ts := by
                  cases n with
                  | zero => unfold cT at ht; cases ht
                  | succ n =>
                    unfold cT at ht
                    obtain ⟨ts, _, z⟩ := map_some ht
                    exact ⟨ts, z⟩
                cases hh : c.hot with
                | true =>
                  refine st_no fun env h => ?_
                  unfold Pm.st evS
                  rw [ctx.hot, hh]
                | false =>
                  obtain ⟨t1, t2, _⟩ := (cT_ok n c p X ctx (ctx.calm hh)).1 _ _ ht
                  refine st_setT (ctx.hot.trans hh) t1 (fun i hi => t2 i (by simpa [tv] using hi)) (O.e e) (by unfold PySem.swapsWithSole; exact swaps_no (comp_no hc) _ _ _) ?_ (by rfl)
                  cases e <;> first | rfl | (cases hte)
              · exact st_bad
          | _ => exact st_bad
        · exact st_bad
      | _ => exact st_bad
    · rcases b with _ | ⟨s, _ | ⟨s2, r⟩⟩
      · exact sts_nil
      · exact sts_one (ih.s s)
      · exact sts_cons (ih.s s) (ih.b (s2 :: r))
    · rcases hs with _ | ⟨⟨t, x, b, q2⟩, r⟩
      · exact .nil
      · cases t with
        | none => unfold cH at h; cases h
        | some t =>
          cases x with
          | none => unfold cH at h; cases h
          | some x =>
            cases b with
            | nil => unfold cH at h; cases h
            | cons b0 bs =>
              unfold cH at h ⊢
              cases h1 : cls1 c t with
              | none => simp only [h1] at h; cases h
              | some kc =>
                cases h2 : c.slot x with
                | none => simp only [h1, h2] at h; cases h
                | some i =>
                  cases h3 : (kindOf c.sc x == some .local) with
                  | false => simp only [h1, h2, h3] at h; cases h
                  | true =>
                    simp only [h1, h2, h3] at h ⊢
                    unfold cls1 at h1
                    split at h1
                    · rename_i tn tp
                      obtain ⟨cv, nm, em⟩ := errOf_ok ctx h1
                      obtain ⟨s1, s2, s3, s4⟩ := slot_ok ctx h2
                      have hloc : X.env.kindOf x = some .local := by
                        show X.env.scope.names.lookup x = _
                        rw [cs.sc]
                        exact (beq_iff_eq.mp h3 : kindOf c.sc x = some .local)
                      refine .cons nm em s2 ?_ hloc (fun a oe cls d pn hz hf => ?_) (ih.h r hh h)
                      · rw [ctx.n, ← ctx.N]
                        exact (List.getElem?_eq_some_iff.mp s2).1
                      · exact (ihA _ _ _ (cs.suite hz hf)).b (b0 :: bs)
                    · cases h1
end
end Pv
/-! text S32 -/
set_option autoImplicit false
set_option Elab.async false
set_option linter.all false
set_option maxRecDepth 100000
set_option maxHeartbeats 2000000
namespace Pv
open PySem PySem.Spec PyProof.Rows L2
/-! ### defs -/
abbrev fdOf (s : Sd) (dV kV doc pm : Value) (an : Option Addr) (cdv ct : Value) : FuncData := PySem.W.fnOf s.x s.x s.pa s.b s.sc dV kV doc pm an cdv ct
/-- what the written part says of a def -/
def FnFact (w : Wo) (mg : Str → Option Value) (base : Heap) (s : Sd) : Prop := ∃ (fa : Addr) (dV kV doc pm cdv ct oc : Value) (an od : Option Addr) (osl : Array (Option Value)), mg s.x = some (.ref fa) ∧ PySem.W.keepIn w.K (.ref fa) = true ∧
  w.K.lookup fa = some ⟨oc, od, .func (fdOf s dV kV doc pm an cdv ct), osl⟩ ∧ PySem.W.codeIn w.K cdv s.x = true ∧ Binds w.K (fdOf s dV kV doc pm an cdv ct) s.ps [] ∧
  (isLam s.x = true → ∃ cc P, cdv = .ref cc ∧ LamX.TabB base mg cc P ∧ (P, (s.x ++ ".<locals>.") ++ "<lambda>") ∈ w.T ∧ ∀ q ∈ w.T, q.1 = P → q.2 = (s.x ++ ".<locals>.") ++ "<lambda>")
/-- the program, its defs, its world -/
structure Gl0 (B : List Stmt) (G : Top) (w : Wo) (P : Program) (wd : World) (mg : Str → Option Value) (base : Heap) : Prop where
  fn : ∀ s ∈ sds B, FnFact w mg base s
  sc : ∀ s ∈ sds B, FnScope s.N s.ps s.sc
  fns : G.fns = (sds B).map (·.x)
  cst : ∀ x d, G.cst.lookup x = some d → ∃ u, mg x = some u ∧ RelV (vOf d) u ∧ isTop d = false ∧ ∀ H A, DRep H A d (vOf d)
  nob : ∀ x, bltNames.contains x = true → find G.fns x = none → find G.cls x = none → G.cst.lookup x = none → mg x = none
  er : ErrOk G w w.K mg
  dbg : ∀ s ∈ sds B, ∀ a ∈ s.ps, (a == ("__debug__" : Str)) = false ∧ (a == ("__classdict__" : Str)) = false
theorem start_get {n : Nat} {vs : List PV} {i : Nat} {v : PV} {o : Bool} (h : (Pv.start n vs)[i]? = some (some (v, o))) : o = false ∧ vs[i]? = some v := by
  unfold Pv.start at h
  by_cases hi : i < vs.length
  · rw [List.getElem?_append_left (by simpa using hi), List.getElem?_map] at h
    cases e : vs[i]? with
    | none => rw [e] at h; cases h
    | some u => rw [e] at h; cases h; exact ⟨rfl, rfl⟩
  · rw [List.getElem?_append_right (by simpa using hi), List.getElem?_replicate] at h
    split at h <;> cases h
theorem RpV.get {w : Wo} {A : Addr → Prop} {H : Hp} : ∀ {pvs : List PV} {xs : List V} {i : Nat} {v : PV}, RpV w A pvs xs H → pvs[i]? = some v → ∃ x, xs[i]? = some x ∧ VRep w H A v x
  | [], _, _, _, _, e => by simp at e
  | a :: as, xs, 0, v, r, e => by
    obtain ⟨x, t, rfl, h1, h2⟩ := r
    simp at e
    subst e
    exact ⟨x, rfl, h1⟩
  | a :: as, xs, i + 1, v, r, e => by
    obtain ⟨x, t, rfl, h1, h2⟩ := r
    simp at e
    obtain ⟨y, q1, q2⟩ := h2.get e
    exact ⟨y, by simpa using q1, q2⟩
theorem RpV.length {w : Wo} {A : Addr → Prop} {H : Hp} : ∀ {pvs : List PV} {xs : List V}, RpV w A pvs xs H → xs.length = pvs.length
  | [], xs, r => by rw [show xs = [] from r]; rfl
  | a :: as, xs, r => by
    obtain ⟨x, t, rfl, h1, h2⟩ := r
    simp [h2.length]
theorem entry {w : Wo} {A0 : Addr → Prop} {H : Hp} {h : HS} {pvs : List PV} {xs : List V} {N : List Str} (r : RpV w A0 pvs xs H) (wd : Wd w A0 H h) (hl : pvs.length ≤ N.length) : RelS w N.length A0 H [] (L2.start N xs) H (Pv.start N.length pvs) h := by
  have hlen := r.length
  have own0 : ∀ (i : Nat) (a : Addr), ownA (L2.start N xs) (Pv.start N.length pvs) i = some a → False := fun i a e => by
    obtain ⟨v, e1, _⟩ := ownA_of e
    cases (start_get e1).1
  have hA : ∀ b, AO A0 (L2.start N xs) (Pv.start N.length pvs) b → A0 b := fun b q => q.elim id fun ⟨i, e⟩ => (own0 i b e).elim
  refine ⟨⟨?_, ?_⟩, wd.dom, wd.ins, fun a e => (wd.hand a e).1, Ext.refl H, wd.other (fun b _ q => .inl q) (fun b q => wd.out b (hA b q)) (fun b q => wd.dom b (hA b q)) (wd.bs.sub hA), fun i v e => ?_, fun i v e => ?_, fun i _ a e _ => (own0 i a e).elim, fun q m => (nomatch m), wd.bs⟩
  · unfold L2.start; simp; omega
  · unfold Pv.start; simp; omega
  · obtain ⟨_, e1⟩ := start_get e
    obtain ⟨x, q1, q2⟩ := r.get e1
    refine ⟨x, ?_, VRep.mono' hA q2⟩
    have hi := (List.getElem?_eq_some_iff.mp q1).1
    unfold L2.start
    rw [List.getElem?_append_left (by simpa using hi), List.getElem?_map, q1]
    rfl
  · cases (start_get e).1
/-- from a body's end to a def's -/
def fnEnd (r : ResS) : Pv.Res := r.bind fun r h => match r.1 with
  | .rt v fr => .ok (v, fr) h
  | .nx => .ok (.d .none, true) h
  | _ => .no
theorem evF_eq (Fs : List Fn) (fu d f : Nat) (fn : Fn) (pvs : List PV) (th : Thunk) (h : HS) (hf : Fs[f]? = some fn) : evF Fs fu (d + 1) f pvs th h = if pvs.length == fn.np then fnEnd (Pv.evS (evF Fs fu d) th false fu fn.body (Pv.start fn.n pvs) h) else .no := by
  show (match Fs[f]? with
    | some fn => if pvs.length == fn.np then fnEnd (Pv.evS (evF Fs fu d) th false fu fn.body (Pv.start fn.n pvs) h) else .no
    | none => .no) = _
  rw [hf]
theorem sim_body {p : Pm} {A0 : Addr → Prop} {H : Hp} {r : ResS} {Q : VK} {σ : L2.St} (s : SimG p.w p.W A0 (RpE p.w A0) (fnEnd r) σ H Q) : SimS p A0 H [] r { nx := fun _ H' => Q .non H', rt := Q } := by
  revert s
  cases r with
  | no => exact fun s => s
  | ex c y h' => exact fun s τ cls d H' x wd _ xr => s τ cls d H' x wd xr
  | ok o h' =>
    obtain ⟨o, e⟩ := o
    cases o with
    | nx => exact fun s σ' H' r' => s .non H' r'.ext (r'.wd.other (fun b e _ => r'.h0 b e) (fun b q => r'.wd.out b (.inl q)) (fun b q => r'.ext.dom b (r'.a0 b q)) (r'.b0.ext r'.ext)) ⟨rfl, fun _ _ z => by cases z⟩
    | bk => exact fun s => (s : False).elim
    | ct => exact fun s => (s : False).elim
    | rt v fr => exact fun s x H' e wd rv t => s x H' e wd ⟨rv, t⟩
section
variable {B : List Stmt} {G : Top} {w : Wo} {P : Program} {wd : World} {mg : Str → Option Value} {base : Heap} {fu : Nat}
abbrev FsOf (B : List Stmt) (G : Top) : List Fn := (sds B).map (·.fn G)
theorem sd_at {f : Nat} {x : Str} (gl : Gl0 B G w P wd mg base) (h : find G.fns x = some f) : ∃ s, (sds B)[f]? = some s ∧ s.x = x ∧ s ∈ sds B := by
  have := (find_at h).1
  rw [gl.fns, List.getElem?_map] at this
  cases e : (sds B)[f]? with
  | none => rw [e] at this; cases this
  | some s => rw [e] at this; cases this; exact ⟨s, rfl, rfl, List.mem_of_getElem? e⟩
end
end Pv
/-! text S33 -/
set_option autoImplicit false
set_option Elab.async false
set_option linter.all false
set_option maxRecDepth 100000
set_option maxHeartbeats 2000000
namespace Pv
open PySem PySem.Spec PyProof.Rows L2
section
variable {B : List Stmt} {G : Top} {w : Wo} {P : Program} {wd : World} {mg : Str → Option Value} {base : Heap} {fu : Nat}
/-- every def answers as its evaluator, to depth d -/
def FnAll (B : List Stmt) (G : Top) (w : Wo) (P : Program) (wd : World) (mg : Str → Option Value) (base : Heap) (fu d : Nat) : Prop :=
  ∀ (f : Nat) (s : Sd), (sds B)[f]? = some s → ∃ (fa : Addr) (fd : FuncData), mg s.x = some (.ref fa) ∧ PySem.W.keepIn w.K (.ref fa) = true ∧ Binds w.K fd s.ps [] ∧
    FnOk P wd w.K mg base (L2.CX P wd) (3 * d) fa fd s.ps (spOf w fun pvs h => evF (FsOf B G) fu d f pvs (fun _ => .no) h)
abbrev cxD (P : Program) (wd : World) (w : Wo) (mg : Str → Option Value) (base : Heap) (s : Sd) (CX : CXT) (fa : Addr) (cdv : Value) (A : Around) (outer : List PySem.Env) (sh : Shared) (H : Hp) (E : XK) : Cx := cxOf CX P wd w.K mg base s.N s.x s.sc fa cdv A outer sh H E
theorem er_w {r : Option (Addr × Addr × Str)} {b : Option (Hp × (Addr → Prop))} {K : PySem.W.Frag} (e : ErrOk G w K mg) : ErrOk G { w.fun with fnr := r, bs := b } K mg :=
  ⟨e.ad, e.keep, e.exc, e.exm, e.exmV, e.kit, e.kitV, e.isC, e.xf, e.fl⟩
/-- the context of a def -/
theorem ctx_def (gl : Gl0 B G w P wd mg base) {s : Sd} (hs : s ∈ sds B) {d : Nat} (ih : FnAll B G w P wd mg base fu d) {CX : CXT} {fa : Addr} {cdv : Value} {A : Around} {outer : List PySem.Env} {sh : Shared} {H : Hp} {E : XK} {xe : Value → Shared → Prop} {W : WX} {th : Thunk} {l : Bool}
    {r : Option (Addr × Addr × Str)} {b : Option (Hp × (Addr → Prop))}
    (tk : Takes ((cxD P wd w mg base s CX fa cdv A outer sh H E).wish xe) W) (po : PassesOwn (model P wd) (A.deeper (envOfC s.x s.sc sh.heap.objs.size fa cdv)) (envOfC s.x s.sc sh.heap.objs.size fa cdv) xe) (hr : Room (3 * d) (A.deeper (envOfC s.x s.sc sh.heap.objs.size fa cdv)))
    (hl : l = true → Room (3 * d + 2) (A.deeper (envOfC s.x s.sc sh.heap.objs.size fa cdv)) ∧ r = none ∧ b = none)
    (trk : ∀ (W : WX) (pn : List (Addr × Obj)) (xe' : Value → Shared → Prop), Takes (((cxD P wd w mg base s CX fa cdv A outer sh H E).wish xe).tr pn xe') W → ∀ a, parOf s.ps = some a → ∀ (p1 p2 : Pos) (V' : List Nat), 0 ∈ V' →
      PE (((cxD P wd w mg base s CX fa cdv A outer sh H E).wish xe).tr pn xe') (.Call (.Name a p1) [] [] p2) (tE { w.fun with fnr := r, bs := b } s.N.length W V' (evE (evF (FsOf B G) fu d) th false .thunk)))
    (lam : l = true → ∀ x f, find G.fns x = some f → isLam x = false → LamTo { w.fun with fnr := r, bs := b } (3 * d) ((cxD P wd w mg base s CX fa cdv A outer sh H E).wish xe) x (fun th h => evF (FsOf B G) fu d f [.fn] th h) ∨ ∀ th h, evF (FsOf B G) fu d f [.fn] th h = .no) :
    CtxS { s.cc G with lam := l } { w := { w.fun with fnr := r, bs := b }, n := s.N.length, W := W, C := evF (FsOf B G) fu d, th := th, hot := false } (3 * d) ((cxD P wd w mg base s CX fa cdv A outer sh H E).wish xe) where
  ctx :=
    { K := rfl
      N := rfl
      n := rfl
      nd := (gl.sc s hs).nd
      sc := ScA.refl _
      fnc := fun _ _ => rfl
      hot := rfl
      calm := fun _ => rfl
      tk := tk
      room := fun _ => hr
      lroom := fun h _ => (hl h).1
      lamw := fun h _ => by obtain ⟨_, h1, h2⟩ := hl h; subst h1; subst h2; rfl
      units := by have := hr.un; show A.units + 3 + 200 < _; have h2 : (A.deeper (envOfC s.x s.sc sh.heap.objs.size fa cdv)).units = A.units + 3 := rfl; omega
      fns := fun x f h => by
        obtain ⟨s2, e1, e2, _⟩ := sd_at gl h
        subst e2
        obtain ⟨fa2, fd2, q1, q2, q3, q4⟩ := ih f s2 e1
        exact ⟨fa2, fd2, s2.ps, q1, q2, q3, q4⟩
      cst := gl.cst
      nob := gl.nob
      er := er_w gl.er
      thk := fun a ha p1 p2 V' h0 => trk W [] xe tk a ha p1 p2 V' h0
      lam := fun h _ x f e hx => lam h x f e hx
      exF := fun h => by cases h
      exI := fun h => by cases h }
  sc := rfl
  fk := (gl.sc s hs).kind
  po := fun _ => po
  stk := fun _ => ⟨rfl, rfl⟩
  trk := fun _ W pn xe' t a ha p1 p2 V' h0 => trk W pn xe' t a ha p1 p2 V' h0
theorem thunk_no {X : Cx} {W : WX} {n : Nat} {V' : List Nat} {C : Callee} {e : Expr} : PE X e (tE w n W V' (evE C (fun _ => .no) false .thunk)) := PE.never fun σ H Q ⟨A, env, h', _, _, _, s⟩ => by
  unfold evE at s
  revert s
  cases env[0]? with
  | none => exact fun s => s.elim
  | some o => cases o with
    | none => exact fun s => s.elim
    | some q =>
      obtain ⟨v, o⟩ := q
      cases v <;> exact fun s => (s : False).elim
theorem entry_w {A0 : Addr → Prop} {H : Hp} {h : HS} (wd0 : Wd w.fun A0 H h) {r : Option (Addr × Addr × Str)} : Wd { w.fun with fnr := r, bs := some (H, A0) } A0 H h :=
  ⟨wd0.hand, wd0.out, wd0.ins, wd0.dom, wd0.tabs, fun B AB e => by cases e; exact ⟨Ext.refl H, fun _ _ q => q⟩⟩
theorem VRep.ofFun {H : Hp} {A : Addr → Prop} {r : Option (Addr × Addr × Str)} {b : Option (Hp × (Addr → Prop))} : ∀ {v : PV} {x : V}, VRep w.fun H A v x → VRep { w.fun with fnr := r, bs := b } H A v x
  | .d d, _, r => r
  | .hand, _, r => r
  | .scr _, _, r => r
  | .fn, _, ⟨_, _, _, e, _⟩ => nomatch e
  | .exn _ _, _, ⟨_, _, _, e, _⟩ => nomatch e
theorem VRep.toFun {H : Hp} {A : Addr → Prop} {r : Option (Addr × Addr × Str)} {b : Option (Hp × (Addr → Prop))} {v : PV} {x : V} (hv : plainV v = true) (h : VRep { w.fun with fnr := r, bs := b } H A v x) : VRep w.fun H A v x := by
  cases v with
  | d d => exact h
  | hand => exact h
  | scr xs => exact h
  | fn => cases hv
  | exn c y => cases hv
end
end Pv
/-! text S34 -/
set_option autoImplicit false
set_option Elab.async false
set_option linter.all false
set_option maxRecDepth 100000
set_option maxHeartbeats 2000000
namespace Pv
open PySem PySem.Spec PyProof.Rows L2
section
variable {B : List Stmt} {G : Top} {w : Wo} {P : Program} {wd : World} {mg : Str → Option Value} {base : Heap} {fu : Nat}
theorem start_fn {n : Nat} {i : Nat} {v : PV} (h : (Pv.start n [.fn])[i]? = some (some (v, false))) : i = 0 ∧ v = .fn := by
  obtain ⟨_, e⟩ := start_get h
  cases i with
  | zero => exact ⟨rfl, by simpa using e.symm⟩
  | succ i => simp at e
/-- the lambda's call, in the def that got it -/
theorem thunk_in {H : Hp} {A : Addr → Prop} {f c' : Addr} {q : Str} {th : Thunk} {tl : XK → Hp → VK → Prop} {X : Cx} {e : Expr} {n : Nat} {W : WX} {V' : List Nat} {C : Callee} (h0 : 0 ∈ V')
    (act : ∀ (E : XK), (∀ cls d σ' H', E cls d H' → W cls d σ' H') → PE X e (fun σZ HZ Q => σZ[0]? = some (some (.ref f)) ∧ HZ c' = some (LamX.CodeO c' q) ∧ tl E HZ Q))
    (hth : ∀ (E : XK) (H1 : Hp) (h1 : HS) (Q1 : VK) (A1 : Addr → Prop), Ext w.hd H H1 → (∀ b, NT H b → A1 b → A b) → Wd w.fun A1 H1 h1 → SimG w.fun (fun cls d _ H => E cls d H) A1 (RpE w.fun A1) (th h1) [] H1 Q1 → tl E H1 Q1) :
    PE X e (tE { w.fun with fnr := some (f, c', q), bs := some (H, A) } n W V' (evE C th false .thunk)) := by
  refine (act (fun cls d H' => ∀ τ, W cls d τ H') fun cls d σ' H' z => z σ').imp fun σ H1 Q ⟨A1, env, h1, ln, rel, w1, s⟩ => ?_
  unfold evE at s
  cases e0 : env[0]? with
  | none => rw [e0] at s; exact s.elim
  | some o => cases o with
    | none => rw [e0] at s; exact s.elim
    | some p =>
      obtain ⟨v, o⟩ := p
      obtain ⟨x, q1, q2⟩ := rel 0 v o h0 e0
      rw [e0] at s
      cases v with
      | fn =>
        have s : SimG { w.fun with fnr := some (f, c', q), bs := some (H, A) } W A1 (RpE { w.fun with fnr := some (f, c', q), bs := some (H, A) } A1) (th h1) σ H1 Q := s
        obtain ⟨f2, c2, qq, e1, e2, e3⟩ := q2
        cases e1
        subst e2
        refine ⟨q1, e3, ?_⟩
        obtain ⟨xb, hab⟩ := w1.bs H A rfl
        refine hth _ H1 h1 Q A1 xb hab ⟨w1.hand, w1.out, w1.ins, w1.dom, w1.tabs, fun _ _ e => nomatch e⟩ ?_
        have up : ∀ {H2 h2}, Ext w.hd H1 H2 → Wd w.fun A1 H2 h2 → Wd { w.fun with fnr := some (f, c', q), bs := some (H, A) } A1 H2 h2 := fun x2 w2 => ⟨w2.hand, w2.out, w2.ins, w2.dom, w2.tabs, w1.bs.ext x2⟩
        revert s
        cases th h1 with
        | ok a h2 => exact fun s y H2 x2 w2 r => s y H2 x2 (up x2 w2) ⟨VRep.ofFun r.1, r.2⟩
        | ex cc yy h2 => exact fun s _ cls d H2 x2 w2 xr τ => s τ cls d H2 x2 (up x2 w2) xr
        | no => exact fun s => s.elim
      | d _ => exact (s : False).elim
      | hand => exact (s : False).elim
      | scr _ => exact (s : False).elim
      | exn _ _ => exact (s : False).elim
/-- a def that is handed a lambda -/
theorem lamto (gl : Gl0 B G w P wd mg base) {d : Nat} (ih : FnAll B G w P wd mg base fu d) {s : Sd} {CX : CXT} {fa : Addr} {cdv : Value} {A : Around} {outer : List PySem.Env} {sh : Shared} {H : Hp} {E : XK} {xe : Value → Shared → Prop} {k : Nat} {cc PP : Addr}
    (hr : Room (3 * (d + 1) + 2) (A.deeper (envOfC s.x s.sc sh.heap.objs.size fa cdv))) (hc : cdv = .ref cc) (TB : LamX.TabB base mg cc PP) (hT : (PP, (s.x ++ ".<locals>.") ++ "<lambda>") ∈ w.T) (hu : ∀ q ∈ w.T, q.1 = PP → q.2 = (s.x ++ ".<locals>.") ++ "<lambda>")
    {x : Str} {f : Nat} (hf : find G.fns x = some f) (hx : isLam x = false) :
    LamTo { w.fun with fnr := none, bs := none } k ((cxD P wd w mg base s CX fa cdv A outer sh H E).wish xe) x (fun th h => evF (FsOf B G) fu (d + 1) f [.fn] th h) ∨ ∀ th h, evF (FsOf B G) fu (d + 1) f [.fn] th h = .no := by
  obtain ⟨s2, e1, rfl, hs2⟩ := sd_at gl hf
  have hfn : (FsOf B G)[f]? = some (s2.fn G) := by rw [List.getElem?_map, e1]; rfl
  rcases hps : s2.ps with _ | ⟨a, _ | ⟨b, r⟩⟩
  · right
    intro th h
    rw [evF_eq _ _ _ _ _ _ _ _ hfn]
    unfold Sd.fn
    simp [hps]
  · left
    obtain ⟨ga, dV, kV, doc, pm, cdg, ct, oc, an, od, osl, h1, h2, h3, h4, h5, _⟩ := gl.fn s2 hs2
    have S := gl.sc s2 hs2
    obtain ⟨d1, d2⟩ := gl.dbg s2 hs2 a (by rw [hps]; exact List.mem_cons_self ..)
    have S' := S
    rw [hps] at h5 S
    have hN0 : s2.N[0]? = some a := by
      have := S.pre
      rw [← List.getElem?_take_of_lt (show 0 < 1 by omega)]
      rw [show List.take 1 s2.N = [a] from this]
      rfl
    refine ⟨a, ga, cc, PP, s2.pa, s2.b, s2.sc, dV, kV, doc, pm, cdg, ct, oc, an, od, osl, s2.N, h1, h2, h3, h4, h5, S, hN0, (S.par a (List.mem_cons_self ..)).elim .inl fun q => .inr (.inl q), ?_, TB, hc, hT, hu, d1, d2⟩
    intro f1 c1 s1 H1 Q tl act hco ⟨A1, h1', th, wd1, hth, sim⟩
    have cs := ctx_def (fu := fu) gl hs2 ih (CX := C8.CX0) (fa := ga) (cdv := cdg) (A := A.deeper (envOfC s.x s.sc sh.heap.objs.size fa cdv)) (outer := envOfC s.x s.sc sh.heap.objs.size fa cdv :: outer) (sh := s1) (H := H1) (E := C8.E0) (xe := fun _ _ => False) (W := noW) (th := th) (l := false)
      (r := some (f1, c1, (s.x ++ ".<locals>.") ++ "<lambda>")) (b := some (H1, A1)) takes_none5 PassesOwn.never ((Room.mono hr (by omega : 3 * d + 1 ≤ _)).deeper _) (fun z => by cases z)
      (fun W pn xe' tk a' ha' p1 p2 V' h0 => ?_) (fun z => by cases z)
    · have hcc : ({ s2.cc G with lam := false } : Cc) = s2.cc G := by unfold Sd.cc; rw [hx]
      have body := (sok (fu := fu) 60 (by omega) _ _ _ cs).b s2.b
      rw [hcc] at body
      refine ⟨_, body, A1, H1, [], _, h1', entry (pvs := [.fn]) (xs := [.ref f1]) ⟨.ref f1, [], rfl, ⟨f1, c1, _, rfl, rfl, hco⟩, rfl⟩ (entry_w wd1) ?_, ?_⟩
      · have := congrArg List.length S.pre; rw [List.length_take] at this; simp at this ⊢; omega
      · refine sim_body (σ := []) ?_
        have sim : SimG w.fun noW A1 (RpE w.fun A1) (lamEnd (evF (FsOf B G) fu (d + 1) f [.fn] th h1')) [] H1 Q := sim
        rw [evF_eq _ _ _ _ _ _ _ _ hfn] at sim
        unfold Sd.fn at sim
        simp only [hps, List.length_cons, List.length_nil, beq_self_eq_true, if_true] at sim
        revert sim
        show _ → SimG _ _ _ _ (fnEnd (evS (evF (FsOf B G) fu d) th false fu (cB 60 (s2.cc G) s2.b) (Pv.start s2.N.length [.fn]) h1')) _ _ _
        rcases lamEnd_ends (fnEnd (evS (evF (FsOf B G) fu d) th false fu (cB 60 (s2.cc G) s2.b) (Pv.start s2.N.length [.fn]) h1')) with e | ⟨v, h2', hv, e, e'⟩
        · rw [e]; exact fun z => z.elim
        · rw [e, e']
          exact fun z y H2 x2 w2 r => z y H2 x2 ⟨w2.hand, w2.out, w2.ins, w2.dom, w2.tabs, fun _ _ e => nomatch e⟩ ⟨VRep.toFun hv r.1, r.2⟩
    · have ha : a' = a := by
        unfold parOf at ha'
        rw [hps] at ha'
        simp only at ha'
        split at ha'
        · exact (Option.some.inj ha').symm
        · cases ha'
      subst ha
      exact thunk_in h0 (fun E' hW => act W pn xe' E' p1 p2 tk hW) hth
  · right
    intro th h
    rw [evF_eq _ _ _ _ _ _ _ _ hfn]
    unfold Sd.fn
    simp [hps]
/-- every def answers as its evaluator -/
theorem fn_all (gl : Gl0 B G w P wd mg base) : ∀ d, FnAll B G w P wd mg base fu d
  | 0, f, s, e => by
    obtain ⟨fa, dV, kV, doc, pm, cdv, ct, oc, an, od, osl, h1, h2, h3, h4, h5, _⟩ := gl.fn s (List.mem_of_getElem? e)
    exact ⟨fa, _, h1, h2, h5, fun vs H Q E ⟨_, _, _, _, _, z⟩ => (z : False).elim, fun A outer s H args us vs Q E _ _ _ _ ⟨_, _, _, _, _, z⟩ => (z : False).elim⟩
  | d + 1, f, s, e => by
    have ih := fn_all gl d
    have hs := List.mem_of_getElem? e
    obtain ⟨fa, dV, kV, doc, pm, cdv, ct, oc, an, od, osl, h1, h2, h3, h4, h5, hl⟩ := gl.fn s hs
    have S := gl.sc s hs
    have hfn : (FsOf B G)[f]? = some (s.fn G) := by rw [List.getElem?_map, e]; rfl
    have np : (s.fn G).np = s.ps.length := rfl
    refine ⟨fa, _, h1, h2, h5, ?_⟩
    show FnOk P wd w.K mg base (L2.CX P wd) ((3 * d + 2) + 1) fa _ s.ps _
    refine fn_of h3 h4 S (fun vs H Q E ⟨A0, h, pvs, rv, wd0, sim⟩ => ?_) fun A outer sh H vs Q E hr ⟨A0, h, pvs, rv, wd0, sim⟩ => ?_
    · have sim : SimG w.fun (fun cls d _ H => E cls d H) A0 (RpE w.fun A0) (evF (FsOf B G) fu (d + 1) f pvs (fun _ => .no) h) [] H Q := sim
      rw [evF_eq _ _ _ _ _ _ _ _ hfn, np] at sim
      by_cases q : (pvs.length == s.ps.length) = true
      · rw [rv.length]; simpa using q
      · rw [if_neg q] at sim; exact (sim : False).elim
    · have sim : SimG w.fun (fun cls d _ H => E cls d H) A0 (RpE w.fun A0) (evF (FsOf B G) fu (d + 1) f pvs (fun _ => .no) h) [] H Q := sim
      rw [evF_eq _ _ _ _ _ _ _ _ hfn, np] at sim
      by_cases q : (pvs.length == s.ps.length) = true
      · rw [if_pos q] at sim
        have cs := ctx_def (fu := fu) gl hs ih (CX := L2.CX P wd) (fa := fa) (cdv := cdv) (A := A) (outer := outer) (sh := sh) (H := H) (E := E) (xe := (cxD P wd w mg base s (L2.CX P wd) fa cdv A outer sh H E).xe) (W := fun cls d _ H => E cls d H) (th := fun _ => .no) (l := isLam s.x)
          (r := none) (b := none) (takes_of rfl rfl rfl rfl) (passes_of (X := cxD P wd w mg base s (L2.CX P wd) fa cdv A outer sh H E) rfl) (Room.mono hr (by omega)) (fun z => ⟨hr, rfl, rfl⟩)
          (fun W pn xe' tk a' ha' p1 p2 V' h0 => thunk_no) (fun z x f2 hf2 hx => ?_)
        · have body := (sok (fu := fu) 60 (by omega) _ _ _ cs).b s.b
          refine ⟨_, body, A0, H, [], _, h, entry rv wd0 ?_, sim_body sim⟩
          have := congrArg List.length S.pre
          rw [List.length_take] at this
          have q : pvs.length = s.ps.length := by simpa using q
          omega
        · cases d with
          | zero => exact .inr fun _ _ => rfl
          | succ d =>
            obtain ⟨cc, PP, hc, TB, hT, hu⟩ := hl z
            exact lamto gl (fn_all gl d) hr hc TB hT hu hf2 hx
      · rw [if_neg q] at sim; exact (sim : False).elim
end
end Pv
/-! text S35 -/
set_option autoImplicit false
set_option Elab.async false
set_option linter.all false
set_option maxRecDepth 100000
set_option maxHeartbeats 2000000
namespace Pv
open PySem PySem.Spec PyProof.Rows L2
section
variable {B : List Stmt} {G : Top} {w : Wo} {P : Program} {wd : World} {mg : Str → Option Value} {base : Heap} {fu : Nat}
abbrev Wo.at (w : Wo) (hd : Option Addr) (hc : Addr → Prop) : Wo := { w with hd := hd, hc := hc }
theorem Gl0.at (gl : Gl0 B G w P wd mg base) (hd : Option Addr) (hc : Addr → Prop) : Gl0 B G (w.at hd hc) P wd mg base :=
  ⟨gl.fn, gl.sc, gl.fns, gl.cst, gl.nob, ⟨gl.er.ad, gl.er.keep, gl.er.exc, gl.er.exm, gl.er.exmV, gl.er.kit, gl.er.kitV, gl.er.isC, gl.er.xf, gl.er.fl⟩, gl.dbg⟩
/-- the context of a def, at its entry -/
theorem ctx_fn (gl : Gl0 B G w P wd mg base) {s : Sd} (hs : s ∈ sds B) {d : Nat} {fa : Addr} {cdv : Value} {A : Around} {outer : List PySem.Env} {sh : Shared} {H : Hp} {E : XK}
    (hr : Room (3 * d + 2) (A.deeper (envOfC s.x s.sc sh.heap.objs.size fa cdv)))
    (hl : isLam s.x = true → ∃ cc PP, cdv = .ref cc ∧ LamX.TabB base mg cc PP ∧ (PP, (s.x ++ ".<locals>.") ++ "<lambda>") ∈ w.T ∧ ∀ q ∈ w.T, q.1 = PP → q.2 = (s.x ++ ".<locals>.") ++ "<lambda>") :
    CtxS (s.cc G) { w := w.fun, n := s.N.length, W := fun cls d _ H => E cls d H, C := evF (FsOf B G) fu d, th := fun _ => .no, hot := false } (3 * d) (cxD P wd w mg base s (L2.CX P wd) fa cdv A outer sh H E) :=
  ctx_def (fu := fu) gl hs (fn_all gl d) (CX := L2.CX P wd) (fa := fa) (cdv := cdv) (A := A) (outer := outer) (sh := sh) (H := H) (E := E) (xe := (cxD P wd w mg base s (L2.CX P wd) fa cdv A outer sh H E).xe) (W := fun cls d _ H => E cls d H) (th := fun _ => .no) (l := isLam s.x)
    (r := none) (b := none) (takes_of rfl rfl rfl rfl) (passes_of (X := cxD P wd w mg base s (L2.CX P wd) fa cdv A outer sh H E) rfl) (Room.mono hr (by omega)) (fun z => ⟨hr, rfl, rfl⟩)
    (fun W pn xe' tk a' ha' p1 p2 V' h0 => thunk_no) fun z x f2 hf2 hx => by
      cases d with
      | zero => exact .inr fun _ _ => rfl
      | succ d =>
        obtain ⟨cc, PP, hc, TB, hT, hu⟩ := hl z
        exact lamto gl (fn_all gl d) hr hc TB hT hu hf2 hx
/-- what the law's def computes at the script ns -/
def LawVal (B : List Stmt) (G : Top) (fu d : Nat) (s : Sd) (i : Nat) (st : Stmt) (rest : List Stmt) (ns : List Int) : Prop :=
  ∃ env1 cells tl fr env2 h2, evS (evF (FsOf B G) fu d) (fun _ => .no) false fu (cS 60 (s.cc G) st) (Pv.start s.N.length [.scr (ns.map .int)]) [] = .ok (.nx, env1) [] ∧ env1[i]? = some (some (.d (.list (.list cells :: tl)), true)) ∧ immAll cells = true ∧ immAll tl = true ∧
    evS (evF (FsOf B G) fu d) (fun _ => .no) false fu (cB 60 (s.cc G) rest) ((List.replicate s.N.length none).set i (some (.hand, false))) (.list cells :: tl) = .ok (.rt (.d (.bool true)) fr, env2) h2
/-- the law's promise: at scripts up to n cells it gives True -/
def spLaw (w : Wo) (n : Nat) : Sp := fun vs H Q _ => ∃ (a : Addr) (ns : List Int), vs = [.ref a] ∧ ns.length ≤ n ∧ (∀ z ∈ ns, Builtin.Int.intBits z ≤ 1048576) ∧ LamX.Tabs w.T H ∧ SqL w.K H a (ns.map V.int) ∧ ∀ H', Q (.bl true) H'
theorem law_ok (gl : Gl0 B G w P wd mg base) {f : Nat} {s : Sd} (e : (sds B)[f]? = some s) {d n i : Nat} {x : Str} {st : Stmt} {rest : List Stmt} (hps : s.ps = [x]) (hb : s.b = st :: rest) (hi : i < s.N.length)
    (hv : ∀ ns : List Int, ns.length ≤ n → (∀ z ∈ ns, Builtin.Int.intBits z ≤ 1048576) → LawVal B G fu d s i st rest ns) :
    ∃ (fa : Addr) (fd : FuncData), mg s.x = some (.ref fa) ∧ (∃ oc od osl, w.K.lookup fa = some ⟨oc, od, .func fd, osl⟩) ∧ FnOk P wd w.K mg base (L2.CX P wd) (3 * (d + 1)) fa fd [x] (spLaw w n) := by
  have hs := List.mem_of_getElem? e
  obtain ⟨fa, dV, kV, doc, pm, cdv, ct, oc, an, od, osl, h1, h2, h3, h4, h5, hl⟩ := gl.fn s hs
  have S := gl.sc s hs
  rw [hps] at h5
  refine ⟨fa, _, h1, ⟨_, _, _, h3⟩, ?_⟩
  show FnOk P wd w.K mg base (L2.CX P wd) ((3 * d + 2) + 1) fa _ [x] _
  rw [hps] at S
  refine fn_of h3 h4 S (fun vs H Q E ⟨a, ns, ev, _⟩ => by rw [ev]; rfl) fun A outer sh H vs Q E hr ⟨a, ns, ev, hn, hbits, tabs, hS, hQ⟩ => ?_
  subst ev
  obtain ⟨env1, cells, tl, fr, env2, h2', v1, v2, v3, v4, v5⟩ := hv ns hn hbits
  have cs0 := ctx_fn (fu := fu) (gl.at none fun _ => False) hs (d := d) (fa := fa) (cdv := cdv) (A := A) (outer := outer) (sh := sh) (H := H) (E := E) hr hl
  have cs1 := fun (ha : Addr) (hc : Addr) => ctx_fn (fu := fu) (gl.at (some ha) fun b => b = hc) hs (d := d) (fa := fa) (cdv := cdv) (A := A) (outer := outer) (sh := sh) (H := H) (E := E) hr hl
  rw [hb]
  refine ⟨_, pss_cons ((sok (fu := fu) 60 (by omega) _ _ _ cs0).s st) (u := fun D σ H => ∃ ha hc, tS { w := (w.at (some ha) fun b => b = hc).fun, n := s.N.length, W := fun cls d _ H => E cls d H, C := evF (FsOf B G) fu d, th := fun _ => .no, hot := false } (Pm.st { w := (w.at (some ha) fun b => b = hc).fun, n := s.N.length, W := fun cls d _ H => E cls d H, C := evF (FsOf B G) fu d, th := fun _ => .no, hot := false } fu (cB 60 (s.cc G) rest)) D σ H) ⟨fun pins s' σ H D I ⟨ha, hc, q⟩ => ((sok (fu := fu) 60 (by omega) _ _ _ (cs1 ha hc)).b rest).run pins s' σ H D I q⟩, ?_⟩
  have hN : 1 ≤ s.N.length := by omega
  have wd0 : Wd ((w.at none fun _ => False).fun) (fun _ => False) H [] := ⟨fun _ e => (nomatch e), fun _ z => z.elim, fun _ z => z.elim, fun _ z => z.elim, tabs, fun _ _ e => nomatch e⟩
  have r0 : RpV ((w.at none fun _ => False).fun) (fun _ => False) [.scr (ns.map .int)] [.ref a] H := ⟨.ref a, [], rfl, ⟨a, ns.map V.int, rfl, by
    rcases hS with (q | ⟨o, q⟩) | q
    · exact .inr (.inl ⟨q, fun z => z, fun z => nomatch z⟩)
    · exact .inl ⟨o, q⟩
    · exact .inr (.inr q), drepl_ints ns⟩, rfl⟩
  refine ⟨fun _ => False, H, [], _, [], entry r0 wd0 hN, ?_⟩
  show SimS _ _ _ _ (evS (evF (FsOf B G) fu d) (fun _ => .no) false fu (cS 60 (s.cc G) st) (Pv.start s.N.length [.scr (ns.map .int)]) []) _
  rw [v1]
  intro σ' H' r
  obtain ⟨ha, xs, vs, q0, q1, q2, q3, q4⟩ := r.owndL i _ v2 rfl
  cases q0
  obtain ⟨c0, tv, rfl, ⟨hc, cv, rfl, nA, hcv, rc⟩, rt⟩ := q4
  have own : ownA σ' env1 i = some ha := ownA_mk v2 q1
  have hne : ha ≠ hc := fun z => nA (z ▸ .inr ⟨i, own⟩)
  refine ⟨ha, hc, fun b => b = ha, H', [], (List.replicate s.N.length none).set i (some (.hand, false)), .list cells :: tl, ?_, ?_⟩
  · have get : ∀ {j : Nat} {v : PV} {o : Bool}, ((List.replicate s.N.length none).set i (some (PV.hand, false)) : Pv.Env)[j]? = some (some (v, o)) → j = i ∧ v = .hand ∧ o = false := fun {j v o} z => by
      by_cases hj : j = i
      · subst hj
        rw [List.getElem?_set_self (by simpa using hi)] at z
        cases z
        exact ⟨rfl, rfl, rfl⟩
      · rw [List.getElem?_set_ne (Ne.symm hj), List.getElem?_replicate] at z
        split at z <;> cases z
    have own0 : ∀ (j : Nat) (b : Addr), ownA σ' ((List.replicate s.N.length none).set i (some (PV.hand, false))) j = some b → False := fun j b z => by
      obtain ⟨v, e1, _⟩ := ownA_of z
      cases (get e1).2.2
    have aoE : ∀ b, AO (fun b => b = ha) σ' ((List.replicate s.N.length none).set i (some (PV.hand, false))) b → b = ha := fun b z => z.elim id fun ⟨j, z⟩ => (own0 j b z).elim
    have nth : NT H' ha := ⟨_, q3, fun _ z => by cases z⟩
    refine ⟨⟨r.len.1, by simp⟩, fun b z => by rw [z]; exact nth, fun b z => by rw [show b = hc from z]; exact ⟨_, hcv, fun _ z => by cases z⟩, fun b z => (Option.some.inj z).symm, Ext.refl H',
      ⟨fun b z => ?_, fun b z z2 => hne ((aoE b z).symm.trans z2), fun b z => by rw [show b = hc from z]; exact ⟨_, hcv, fun _ z => by cases z⟩, fun b z => by rw [aoE b z]; exact nth, r.wd.tabs, fun _ _ z => nomatch z⟩,
      fun j v z => ?_, fun j v z => ?_, fun j k b z _ => (own0 j b z).elim, fun q m => (nomatch m), fun _ _ z => nomatch z⟩
    · cases z
      exact ⟨.inl rfl, hne, _, q3, .ref hc, tv, rfl, ⟨hc, cv, rfl, fun z => z rfl, hcv, DRepL.imm cells cv v3 rc⟩, DRepL.imm tl tv v4 rt⟩
    · obtain ⟨rfl, rfl, _⟩ := get z
      exact ⟨.ref ha, q1, ha, rfl, rfl⟩
    · cases (get z).2.2
  · show SimS _ _ _ _ (evS (evF (FsOf B G) fu d) (fun _ => .no) false fu (cB 60 (s.cc G) rest) ((List.replicate s.N.length none).set i (some (.hand, false))) (.list cells :: tl)) _
    rw [v5]
    intro xx H2 _ _ rv _
    have rv : xx = .bl true := rv
    rw [rv]
    exact hQ H2
end
end Pv
/-! text S36 -/
set_option autoImplicit false
set_option Elab.async false
set_option linter.all false
set_option maxRecDepth 100000
set_option maxHeartbeats 2000000
namespace Pv
open PySem PySem.Spec PyProof.Rows L2
theorem lookup_zip_some {ps : List Str} : ∀ {us : List Value}, us.length = ps.length → ∀ n ∈ ps, ((ps.zip us).lookup n).isNone = false := by
  induction ps with
  | nil => intro us _ n m; cases m
  | cons p ps ih =>
    intro us hl n m
    cases us with
    | nil => simp at hl
    | cons u us =>
      rw [List.zip_cons_cons, List.lookup_cons]
      by_cases e : (n == p) = true
      · rw [e]; rfl
      · have e : (n == p) = false := by simpa using e
        rw [e]
        rcases List.mem_cons.mp m with q | q
        · subst q; simp at e
        · exact ih (by simpa using hl) n q
theorem filterMap_eq {α β : Type} {f g : α → Option β} : ∀ {l : List α}, (∀ n ∈ l, f n = g n) → l.filterMap f = l.filterMap g
  | [], _ => rfl
  | a :: l, h => by rw [List.filterMap_cons, List.filterMap_cons, h a (List.mem_cons_self ..), filterMap_eq fun n m => h n (List.mem_cons_of_mem _ m)]
theorem filterMap_zip {ps : List Str} (nd : ps.Nodup) : ∀ {us : List Value}, us.length = ps.length → ps.filterMap (fun n => ((ps.zip us).lookup n).map (n, ·)) = ps.zip us := by
  induction ps with
  | nil => intro us _; rfl
  | cons p ps ih =>
    intro us hl
    cases us with
    | nil => simp at hl
    | cons u us =>
      obtain ⟨np, nd⟩ := List.nodup_cons.mp nd
      rw [List.zip_cons_cons, List.filterMap_cons]
      rw [show List.lookup p ((p, u) :: ps.zip us) = some u by rw [List.lookup_cons]; simp]
      have key : ps.filterMap (fun n => (List.lookup n ((p, u) :: ps.zip us)).map (n, ·)) = ps.zip us := by
        rw [← ih nd (us := us) (by simpa using hl)]
        refine filterMap_eq fun n hn => ?_
        have e : (n == p) = false := by
          cases q : n == p with
          | false => rfl
          | true => exact absurd (by rw [← (beq_iff_eq.mp q)]; exact hn) np
        rw [List.lookup_cons, e, ih nd (by simpa using hl)]
      show (p, u) :: _ = _
      rw [key]
theorem bind_simple {x q : Str} {b : List Stmt} {sc : Scope} {kV doc pm cdv ct : Value} {an : Option Addr} {args : List Arg} {us : List Value} (nd : (args.map (·.arg)).Nodup) (hl : us.length = (args.map (·.arg)).length) :
    bindArgs (PySem.W.fnOf x q ⟨[], args, none, [], [], none, []⟩ b sc .none kV doc pm an cdv ct) ⟨us, []⟩ = pure ((args.map (·.arg)).zip us) := by
  have hm : ((args.map (·.arg)).filter fun n => (((args.map (·.arg)).zip us).lookup n).isNone) = [] := List.filter_eq_nil_iff.mpr fun n m => by rw [lookup_zip_some hl n m]; simp
  have hf := filterMap_zip nd hl
  have hl2 : us.length = args.length := by simpa using hl
  have ht : List.take args.length (args.map (·.arg)) = args.map (·.arg) := by rw [← List.length_map (f := fun a : Arg => a.arg)]; exact List.take_length
  have hs : (notAStandIn Value.none : Sem Unit) = pure () := rfl
  have hf2 : List.filterMap ((fun n => Option.map (fun x => (n, x)) (List.lookup n ((List.map (fun x => x.arg) args).zip us))) ∘ fun x => x.arg) args = (args.map (·.arg)).zip us := by
    rw [← List.filterMap_map]; exact hf
  unfold bindArgs
  simp [seqItems?, PySem.W.fnOf, hl2, hs]
  simp [ht, hm, hf2]
end Pv
/-! text S37 -/
set_option autoImplicit false
set_option Elab.async false
set_option linter.all false
set_option maxRecDepth 100000
set_option maxHeartbeats 2000000
namespace Pv
open PySem PySem.Spec PyProof.Rows L2 He C8
/-! ### the written part, by one Boolean -/
def lawN : Str := "law"
def defsOf (B : List Stmt) : List DefD := (sds B).map fun s => { at_ := (s.x, none), name := s.x, qual := s.x, params := s.pa, body := s.b, scope := s.sc }
def cstB : PyData → Value → Bool
  | .none, .none => true
  | .bool b, .bool c => b == c
  | .int i, .int j _ => decide (i = j)
  | .str x, .str y _ => decide (x = y)
  | _, _ => false
/-- what is asked of the text alone -/
def textB (B : List Stmt) : Bool := (sds B).all fun s => scC s.N s.ps s.sc && (s.pa.posonlyargs.isEmpty && s.pa.vararg.isNone && s.pa.kwonlyargs.isEmpty && s.pa.kw_defaults.isEmpty && s.pa.kwarg.isNone && s.pa.defaults.isEmpty) &&
  s.ps.all fun a => !(a == ("__debug__" : Str)) && !(a == ("__classdict__" : Str))
/-- the defs that may hold a lambda, their tables -/
def lamL (B : List Stmt) : List Str := lamNames.filter fun x => ((sds B).map (·.x)).contains x
def lamT (B : List Stmt) : List Defn := (lamL B).map fun x => (x, none)
def tabsL (B : List Stmt) (K : PySem.W.Frag) : List (Addr × Str) := (lamL B).map fun x => (tabOf K (codeOf K (x, none)), (x ++ ".<locals>.") ++ "<lambda>")
def lamC (B : List Stmt) (K : PySem.W.Frag) : Bool := (lamL B).all fun x => (lamL B).all fun y => decide (x = y) || !decide (tabOf K (codeOf K (x, none)) = tabOf K (codeOf K (y, none)))
/-- what is asked of the written part beside the defs -/
def exB0 (B : List Stmt) (G : Top) (K : PySem.W.Frag) : Bool :=
  (sds B).all (fun s => eqO (PySem.W.nsIn K mainGlobals s.x) (some (some (.ref (ga K s.x))))) &&
  (G.cst.all fun q => match PySem.W.nsIn K mainGlobals q.1 with
    | some (some u) => cstB q.2 u
    | _ => false) &&
  (bltNames.all fun x => (find G.fns x).isSome || (find G.cls x).isSome || (G.cst.lookup x).isSome || eqO (PySem.W.nsIn K mainGlobals x) (some none)) &&
  (G.cls.all fun x => eqO (PySem.W.nsIn K mainGlobals x) (some (some (.ref (ga K x))))) &&
  (((List.range G.cls.length).all fun k => match G.cls[k]? with
    | some x => let C := ga K x
      PySem.W.keepIn K (.ref C) && decide (PySem.W.subIn K (.ref C) (.type "BaseException") = some true) && decide (PySem.W.typeIn K (.ref C) = some (.type "type")) &&
      (G.ini.getD k true || PySem.W.excIn K C veMro "ValueError.__new__") &&
      decide (PySem.W.exmOne K (.ref C) (.type "ValueError") = some true) && decide (PySem.W.kitOne K (.ref C) (.type "ValueError") = some true) &&
      ((List.range G.cls.length).all fun j => match G.cls[j]? with
        | some y => decide (PySem.W.exmOne K (.ref C) (.ref (ga K y)) = some (isErr k (some j))) && decide (PySem.W.kitOne K (.ref C) (.ref (ga K y)) = some (isErr k (some j)))
        | none => false) &&
      (eqO (PySem.W.findIn K (.ref C) "__getattribute__") (some (some (.builtin "BaseException.__getattribute__"))) && eqO (PySem.W.findIn K (.ref C) "__getattr__") (some none) && PySem.W.hasDictIn K C &&
        eqO (PySem.W.findIn K (.ref C) "__class__") (some (some (.builtin "object.__class__"))) && eqO (PySem.W.specialIn K (.builtin "object.__class__") "__get__") (some (some (.builtin "getset_descriptor.__get__"))) &&
        decide (PySem.W.takesIn K (.builtin "object.__class__") = some true) && decide (PySem.W.mroIn K C (.type "object") = some true)) &&
      (match G.fld with
        | some f => eqO (PySem.W.findIn K (.ref C) f) (some none)
        | none => true)
    | none => false))
def exB (B : List Stmt) (G : Top) (K : PySem.W.Frag) : Bool := exB0 B G K && lamC B K
abbrev woOf (G : Top) (K : PySem.W.Frag) (T : List (Addr × Str)) : Wo where
  K := K
  hd := none
  hc := fun _ => False
  T := T
  cl := fun k => (G.cls[k]?).map (ga K)
  fl := fun _ => G.fld.getD ("" : Str)
  fnr := none
  exr := none
  bs := none
section
variable {B : List Stmt} {G : Top} {K : PySem.W.Frag} {T : List (Addr × Str)} {mg : Str → Option Value} {h : Heap}
theorem er_of (KX : K.In h) (gm : h.Ns mainGlobals mg) (ex : exB0 B G K = true) : ErrOk G (woOf G K T) K mg := by
  unfold exB0 at ex
  obtain ⟨ex, e5⟩ := ba ex
  obtain ⟨ex, e4⟩ := ba ex
  have cl : ∀ k C, (woOf G K T).cl k = some C → ∃ x, G.cls[k]? = some x ∧ C = ga K x ∧ k < G.cls.length := fun k C e => by
    cases q : G.cls[k]? with
    | none => rw [show (woOf G K T).cl k = (G.cls[k]?).map (ga K) from rfl, q] at e; cases e
    | some x =>
      rw [show (woOf G K T).cl k = (G.cls[k]?).map (ga K) from rfl, q] at e
      exact ⟨x, rfl, (Option.some.inj e).symm, (List.getElem?_eq_some_iff.mp q).1⟩
  have at5 : ∀ k x, G.cls[k]? = some x → k < G.cls.length → _ := fun k x q hk => by
    have z := List.all_eq_true.mp e5 k (List.mem_range.mpr hk)
    rw [q] at z
    simp only [Bool.and_eq_true, Bool.or_eq_true, decide_eq_true_eq] at z
    exact z
  refine ⟨fun x k e => ?_, fun k C e => ?_, fun k C e hi => ?_, fun k C j D e1 e2 => ?_, fun k C e => ?_, fun k C j D e1 e2 => ?_, fun k C e => ?_, fun k C e => ?_, fun k C f e hf => ?_, fun k f hf => ?_⟩
  · have q := (find_at e).1
    refine ⟨ga K x, PySem.W.mg_of KX gm (eqO_ok (List.all_eq_true.mp e4 x (List.mem_of_getElem? q))), ?_⟩
    show (G.cls[k]?).map (ga K) = _
    rw [q]
    rfl
  · obtain ⟨x, q, rfl, hk⟩ := cl k C e
    obtain ⟨⟨⟨⟨⟨⟨⟨⟨a1, a2⟩, a3⟩, a4⟩, a5⟩, a6⟩, a7⟩, a8⟩, a9⟩ := at5 k x q hk
    exact ⟨a1, a2, a3⟩
  · obtain ⟨x, q, rfl, hk⟩ := cl k C e
    obtain ⟨⟨⟨⟨⟨⟨⟨⟨a1, a2⟩, a3⟩, a4⟩, a5⟩, a6⟩, a7⟩, a8⟩, a9⟩ := at5 k x q hk
    rcases a4 with z | z
    · rw [hi] at z; cases z
    · exact z
  · obtain ⟨x, q, rfl, hk⟩ := cl k C e1
    obtain ⟨y, q2, rfl, hj⟩ := cl j D e2
    obtain ⟨⟨⟨⟨⟨⟨⟨⟨a1, a2⟩, a3⟩, a4⟩, a5⟩, a6⟩, a7⟩, a8⟩, a9⟩ := at5 k x q hk
    have z := List.all_eq_true.mp a7 j (List.mem_range.mpr hj)
    rw [q2] at z
    exact of_decide_eq_true (ba z).1
  · obtain ⟨x, q, rfl, hk⟩ := cl k C e
    obtain ⟨⟨⟨⟨⟨⟨⟨⟨a1, a2⟩, a3⟩, a4⟩, a5⟩, a6⟩, a7⟩, a8⟩, a9⟩ := at5 k x q hk
    exact a5
  · obtain ⟨x, q, rfl, hk⟩ := cl k C e1
    obtain ⟨y, q2, rfl, hj⟩ := cl j D e2
    obtain ⟨⟨⟨⟨⟨⟨⟨⟨a1, a2⟩, a3⟩, a4⟩, a5⟩, a6⟩, a7⟩, a8⟩, a9⟩ := at5 k x q hk
    have z := List.all_eq_true.mp a7 j (List.mem_range.mpr hj)
    rw [q2] at z
    exact of_decide_eq_true (ba z).2
  · obtain ⟨x, q, rfl, hk⟩ := cl k C e
    obtain ⟨⟨⟨⟨⟨⟨⟨⟨a1, a2⟩, a3⟩, a4⟩, a5⟩, a6⟩, a7⟩, a8⟩, a9⟩ := at5 k x q hk
    exact a6
  · obtain ⟨x, q, rfl, hk⟩ := cl k C e
    obtain ⟨⟨⟨⟨⟨⟨⟨⟨a1, a2⟩, a3⟩, a4⟩, a5⟩, a6⟩, a7⟩, a8⟩, a9⟩ := at5 k x q hk
    obtain ⟨⟨⟨⟨⟨⟨b1, b2⟩, b3⟩, b4⟩, b5⟩, b6⟩, b7⟩ := a8
    exact ⟨eqO_ok b1, eqO_ok b2, a2, b3, eqO_ok b4, eqO_ok b5, b6, b7⟩
  · obtain ⟨x, q, rfl, hk⟩ := cl k C e
    obtain ⟨⟨⟨⟨⟨⟨⟨⟨a1, a2⟩, a3⟩, a4⟩, a5⟩, a6⟩, a7⟩, a8⟩, a9⟩ := at5 k x q hk
    obtain ⟨⟨⟨⟨⟨⟨b1, b2⟩, b3⟩, b4⟩, b5⟩, b6⟩, b7⟩ := a8
    rw [hf] at a9
    exact ⟨⟨eqO_ok b1, eqO_ok b2, a2, b3⟩, eqO_ok a9⟩
  · show G.fld.getD ("" : Str) = f
    rw [hf]
    rfl
theorem cst_ok {d : PyData} {u : Value} (h : cstB d u = true) : RelV (vOf d) u ∧ isTop d = false ∧ ∀ H A, DRep H A d (vOf d) := by
  cases d with
  | none => cases u with
    | none => exact ⟨rfl, rfl, fun _ _ => rfl⟩
    | _ => cases h
  | bool b => cases u with
    | bool c =>
      have e : b = c := eq_of_beq (show (b == c) = true from h)
      rw [e]
      exact ⟨rfl, rfl, fun _ _ => rfl⟩
    | _ => cases h
  | int i => cases u with
    | int j t =>
      have e : i = j := of_decide_eq_true h
      exact ⟨⟨t, by rw [e]⟩, rfl, fun _ _ => rfl⟩
    | _ => cases h
  | str x => cases u with
    | str y t =>
      have e : x = y := of_decide_eq_true h
      exact ⟨⟨t, by rw [e]⟩, rfl, fun _ _ => rfl⟩
    | _ => cases h
  | _ => cases h
theorem lookup_mem' {x : Str} {d : PyData} : ∀ {l : List (Str × PyData)}, l.lookup x = some d → (x, d) ∈ l
  | [], h => by cases h
  | (y, e) :: l, h => by
    rw [List.lookup_cons] at h
    cases q : x == y with
    | true => rw [q] at h; cases h; rw [show x = y from beq_iff_eq.mp q]; exact List.mem_cons_self ..
    | false => rw [q] at h; exact List.mem_cons_of_mem _ (lookup_mem' h)
theorem simple_pa {pa : Arguments} (h : (pa.posonlyargs.isEmpty && pa.vararg.isNone && pa.kwonlyargs.isEmpty && pa.kw_defaults.isEmpty && pa.kwarg.isNone && pa.defaults.isEmpty) = true) : pa = ⟨[], pa.args, none, [], [], none, []⟩ := by
  obtain ⟨a, b, c, d, e, f, g⟩ := pa
  simp only [Bool.and_eq_true, List.isEmpty_iff, Option.isNone_iff_eq_none] at h
  obtain ⟨⟨⟨⟨⟨h1, h2⟩, h3⟩, h4⟩, h5⟩, h6⟩ := h
  subst h1 h2 h3 h4 h5 h6
  rfl
/-- all that the soundness asks, from what is written -/
theorem gl_of {P : Program} {w : World} {base : Heap} (tx : textB B = true) (hG : G.fns = (sds B).map (·.x)) (KX : K.In h) (gm : h.Ns mainGlobals mg) {ts : List Tab} {tf : List Defn} {fa : List Fa} (sx : SaysX fa (defsOf B) ts tf (exB B G) w h K) {q : Str}
    (tb : ∀ x ∈ lamL B, ∀ cc, codeOf K (x, none) = cc → LamX.TabB base mg cc (tabOf K cc)) : Gl0 B G (woOf G K (tabsL B K)) P w mg base := by
  obtain ⟨ex, el⟩ := ba sx.more
  have ex0 := ex
  unfold exB0 at ex
  obtain ⟨ex, e5⟩ := ba ex
  obtain ⟨ex, e4⟩ := ba ex
  obtain ⟨ex, e3⟩ := ba ex
  obtain ⟨e1, e2⟩ := ba ex
  have tx' : ∀ s ∈ sds B, scC s.N s.ps s.sc = true ∧ s.pa = ⟨[], s.pa.args, none, [], [], none, []⟩ ∧ ∀ a ∈ s.ps, (a == ("__debug__" : Str)) = false ∧ (a == ("__classdict__" : Str)) = false := fun s hs => by
    obtain ⟨z, z3⟩ := ba (List.all_eq_true.mp tx s hs)
    obtain ⟨z1, z2⟩ := ba z
    refine ⟨z1, simple_pa z2, fun a ha => ?_⟩
    obtain ⟨y1, y2⟩ := ba (List.all_eq_true.mp z3 a ha)
    exact ⟨by simpa using y1, by simpa using y2⟩
  refine ⟨fun s hs => ?_, fun s hs => fnScope_by (tx' s hs).1, hG, fun x d e => ?_, fun x h1 h2 h3 h4 => ?_, er_of KX gm ex0, fun s hs => (tx' s hs).2.2⟩
  · obtain ⟨fd, F⟩ := sx.t.d.defs (d := { at_ := (s.x, none), name := s.x, qual := s.x, params := s.pa, body := s.b, scope := s.sc }) (List.mem_map.mpr ⟨s, hs, rfl⟩)
    have hmg : mg s.x = some (.ref (ga K s.x)) := PySem.W.mg_of KX gm (eqO_ok (List.all_eq_true.mp e1 s hs))
    have S := fnScope_by (tx' s hs).1
    have ndP : s.ps.Nodup := by rw [← S.pre]; exact S.nd.sublist (List.take_sublist _ _)
    have hpa := (tx' s hs).2.1
    obtain ⟨oc, od, dV, kV, doc, pm, an, cdv, ct, osl, rfl, lk, hcd, hD, hK⟩ := F.ex
    refine ⟨ga K s.x, dV, kV, doc, pm, cdv, ct, oc, an, od, osl, hmg, F.kp, lk, hcd, ?_, fun hx => ?_⟩
    · refine F.bindsN fun kV doc pm an cdv ct us hl => ?_
      show bindArgs (PySem.W.fnOf s.x s.x s.pa s.b s.sc .none kV doc pm an cdv ct) ⟨us, []⟩ = _
      unfold Sd.ps at ndP hl ⊢
      rw [hpa]
      exact bind_simple ndP hl
    · have hm : s.x ∈ lamL B := List.mem_filter.mpr ⟨List.contains_iff_mem.mp hx, List.contains_iff_mem.mpr (List.mem_map.mpr ⟨s, hs, rfl⟩)⟩
      obtain ⟨cc, e⟩ := codeIn_ref hcd
      have lk' : K.lookup (fAd K (s.x, none)) = some ⟨oc, od, .func (PySem.W.fnOf s.x s.x s.pa s.b s.sc dV kV doc pm an cdv ct), osl⟩ := lk
      have hc : codeOf K (s.x, none) = cc := codeOf_eq lk' e
      refine ⟨cc, tabOf K cc, e, tb s.x hm cc hc, ?_, fun q hq h1 => ?_⟩
      · rw [← hc]; exact List.mem_map.mpr ⟨s.x, hm, rfl⟩
      · obtain ⟨y, hy, rfl⟩ := List.mem_map.mp hq
        have z := List.all_eq_true.mp (List.all_eq_true.mp el _ hm) _ hy
        rw [← hc] at h1
        have z2 : s.x = y := by simpa [h1.symm] using z
        rw [z2]
  · have z := List.all_eq_true.mp e2 _ (lookup_mem' e)
    revert z
    cases qn : PySem.W.nsIn K mainGlobals x with
    | none => simp only [qn]; exact fun z => by cases z
    | some o => cases o with
      | none => simp only [qn]; exact fun z => by cases z
      | some u =>
        simp only [qn]
        exact fun z => ⟨u, PySem.W.mg_of KX gm qn, cst_ok z⟩
  · have z := List.all_eq_true.mp e3 x (List.contains_iff_mem.mp h1)
    rw [h2, h3, h4] at z
    exact PySem.W.mg_none_of KX gm (eqO_ok (by simpa using z))
end
end Pv
/-! text S38 -/
set_option autoImplicit false
set_option Elab.async false
set_option linter.all false
set_option maxRecDepth 100000
set_option maxHeartbeats 2000000
namespace Pv
open PySem PySem.Spec PyProof.Rows L2 He C8
theorem law_walk {l : PySem.W.OpenLaw} {q : Program} {loose : List Str} {XP : (Str → Option Value) → Heap → Prop} {dr : DefRec} {B : List Stmt} {G : Top} {fu d n nn i f : Nat} {s : Sd} {x : Str} {st : Stmt} {rest : List Stmt} {fa : List Fa} {ts : List Tab}
    (hn : l.most = some n) (hn2 : n ≤ sizeLine) (hdf : dr.params.defaults = []) (hr : Room (3 * (d + 1)) callerA) (hname : dr.name = lawN) (tx : textB B = true) (hG : G.fns = (sds B).map (·.x)) (e : (sds B)[f]? = some s) (hx : s.x = lawN)
    (hps : s.ps = [x]) (hb : s.b = st :: rest) (hi : i < s.N.length) (hv : ∀ ns : List Int, ns.length ≤ n → (∀ z ∈ ns, Builtin.Int.intBits z ≤ 1048576) → LawVal B G fu d s i st rest ns) :
    PySem.W.WalkO q loose XP (hookX nn fa (defsOf B) ts (lamT B) (exB B G)).says l.row.toRowW dr [] (fun f vs => PySem.call f vs) := by
  refine LamX.walk_ofTsE (CX := fun w => L2.CX l.prog w) (x := x) hn hn2 hdf hr (fun w mg fa' h ⟨K, KX, sx⟩ gm hmg => ⟨K, KX, ?_⟩) fun w H s' e' s'' z => by
    obtain ⟨_, _, _, _, _, _, _, _, _, _, _, _, _, z⟩ := z
  have hs := List.mem_of_getElem? e
  obtain ⟨fd, F⟩ := sx.t.d.defs (d := { at_ := (s.x, none), name := s.x, qual := s.x, params := s.pa, body := s.b, scope := s.sc }) (List.mem_map.mpr ⟨s, hs, rfl⟩)
  have ndP : s.ps.Nodup := by
    have S := fnScope_by (show scC s.N s.ps s.sc = true from (ba (ba (List.all_eq_true.mp tx s hs)).1).1)
    rw [← S.pre]; exact S.nd.sublist (List.take_sublist _ _)
  have hpa := simple_pa (ba (ba (List.all_eq_true.mp tx s hs)).1).2
  have bnd := fun (s' : Shared) (u : Value) => F.bindsA (ps := s.ps) (fun kV doc pm an cdv ct us hl => by
    show bindArgs (PySem.W.fnOf s.x s.x s.pa s.b s.sc .none kV doc pm an cdv ct) ⟨us, []⟩ = _
    unfold Sd.ps at ndP hl ⊢
    rw [hpa]
    exact bind_simple ndP hl) s' [u] (by rw [hps]; rfl)
  rw [hps] at bnd
  have gl := fun (base : Heap) (KB : K.In base) (gb : base.Ns mainGlobals mg) (tb : ∀ p ∈ (lamT B).map (He.cT K), LamX.TabB base mg p.1 p.2) => gl_of (P := l.prog) (w := w) (base := base) (q := lawN) tx hG KX gm sx (fun x hx cc hc => by
    have z := tb _ (List.mem_map.mpr ⟨(x, none), List.mem_map.mpr ⟨x, hx, rfl⟩, rfl⟩)
    rw [← hc]
    exact z)
  refine ⟨fd, (lamT B).map (He.cT K), spLaw (woOf G K (tabsL B K)) n, fun p hp => by obtain ⟨t, ht, rfl⟩ := List.mem_map.mp hp; exact sx.empty t ht, fun p hp => by obtain ⟨t, ht, rfl⟩ := List.mem_map.mp hp; exact sx.out t ht, fun p hp => ?_, bnd, fun H a ns h1 h2 h3 h4 => ⟨a, ns, rfl, h1, h2, ?_, h4, fun _ => rfl⟩, fun base KB gb tb => ?_⟩
  · obtain ⟨t, ht, rfl⟩ := List.mem_map.mp hp
    exact PySem.W.codeHd_of_K KX (sx.hd t ht)
  · intro p hp
    obtain ⟨x, hx, rfl⟩ := List.mem_map.mp hp
    refine ⟨#[], h3 _ (List.mem_map.mpr ⟨(x, none), List.mem_map.mpr ⟨x, hx, rfl⟩, rfl⟩), ?_, fun _ _ z => by cases z⟩
    exact trivial
  · obtain ⟨fa2, fd2, q1, ⟨oc, od, osl, q2⟩, q3⟩ := law_ok (fu := fu) (gl base KB gb tb) e (d := d) (n := n) hps hb hi hv
    obtain ⟨oc3, od3, dV, kV, doc, pm, an, cdv, ct, osl3, rfl, lk, _⟩ := F.ex
    have e1 : fa' = fa2 := by
      rw [hname, ← hx, q1] at hmg
      cases hmg
      rfl
    have e2 : mg s.x = some (.ref (ga K s.x)) := by
      have ex := (ba sx.more).1
      unfold exB0 at ex
      obtain ⟨ex, _⟩ := ba ex
      obtain ⟨ex, _⟩ := ba ex
      obtain ⟨ex, _⟩ := ba ex
      obtain ⟨e1, _⟩ := ba ex
      exact PySem.W.mg_of KX gm (eqO_ok (List.all_eq_true.mp e1 s hs))
    have e3 : fa2 = ga K s.x := by rw [q1] at e2; cases e2; rfl
    have lk2 : K.lookup (ga K s.x) = _ := lk
    have q2 : K.lookup fa2 = some ⟨oc, od, .func fd2, osl⟩ := q2
    rw [e3, lk2] at q2
    cases q2
    rw [e1]
    exact q3
end Pv
/-! text S39 -/
set_option autoImplicit false
set_option linter.all false
set_option maxRecDepth 100000
set_option maxHeartbeats 2000000
/-! Plain rules of the evaluator: one step each. -/
namespace Pv
open PySem
section
variable {C : Callee} {th : Thunk} {hot : Bool} {fu : Nat} {env env' : Env} {h h' : HS}
theorem seq_nx {a b : S} (e : evS C th hot fu a env h = .ok (.nx, env') h') : evS C th hot fu (.seq a b) env h = evS C th hot fu b env' h' := by
  rw [evS, e]
theorem seq_rt {a b : S} {v : PV} {fr : Bool} (e : evS C th hot fu a env h = .ok (.rt v fr, env') h') : evS C th hot fu (.seq a b) env h = .ok (.rt v fr, env') h' := by
  rw [evS, e]
theorem set_ok {i : Nat} {x : X} {v : PV} {fr : Bool} (e : evE C th hot x env h = .ok (v, fr) h') : evS C th hot fu (.set (.v i) x) env h = .ok (.nx, (leak v fr (vars x) env).set i (some (v, !hot && ownOf v fr))) h' := by
  rw [evS, e]; rfl
theorem ret_ok {x : X} {v : PV} {fr : Bool} (e : evE C th hot x env h = .ok (v, fr) h') : evS C th hot fu (.ret x) env h = .ok (.rt v fr, env) h' := by
  rw [evS, e]; rfl
theorem ite_t {c : X} {a b : S} {fr : Bool} (e : evE C th hot c env h = .ok (.d (.bool true), fr) h') : evS C th hot fu (.ite c a b) env h = evS C th hot fu a env h' := by
  rw [evS, e]; rfl
theorem ite_f {c : X} {a b : S} {fr : Bool} (e : evE C th hot c env h = .ok (.d (.bool false), fr) h') : evS C th hot fu (.ite c a b) env h = evS C th hot fu b env h' := by
  rw [evS, e]; rfl
theorem ite_b {c : X} {a b : S} {fr : Bool} {q : Bool} (e : evE C th hot c env h = .ok (.d (.bool q), fr) h') : evS C th hot fu (.ite c a b) env h = evS C th hot fu (if q then a else b) env h' := by
  rw [evS, e]; cases q <;> rfl
theorem expr_ok {x : X} {v : PV × Bool} (e : evE C th hot x env h = .ok v h') : evS C th hot fu (.expr x) env h = .ok (.nx, env) h' := by
  rw [evS, e]; rfl
theorem expr_ex {x : X} {c : Nat} {y : Option PyData} (e : evE C th hot x env h = .ex c y h') : evS C th hot fu (.expr x) env h = .ex c y h' := by
  rw [evS, e]; rfl
theorem try_ok {b hs : S} {o : Out × Env} (e : evS C th false fu b env h = .ok o h') : evS C th false fu (.try1 b hs) env h = .ok o h' := by
  rw [evS, e]
theorem try_ex {b hs : S} {c : Nat} {y : Option PyData} (e : evS C th false fu b env h = .ex c y h') : evS C th false fu (.try1 b hs) env h = evS.evH C th fu hs c y env h' := by
  rw [evS, e]
theorem bin_ok {o : Bop} {a b : X} {x y : PyData} {fa fb : Bool} {h2 : HS} (e1 : evE C th hot a env h = .ok (.d x, fa) h') (e2 : evE C th hot b env h' = .ok (.d y, fb) h2) : evE C th hot (.bin o a b) env h = one (binD o x y) true h2 := by
  rw [evE, e1]
  show (evE C th hot b env h').bind _ = _
  rw [e2]; rfl
theorem idx_ok {a b : X} {x y : PyData} {fa fb : Bool} {h2 : HS} (e1 : evE C th hot a env h = .ok (.d x, fa) h') (e2 : evE C th hot b env h' = .ok (.d y, fb) h2) : evE C th hot (.idx a b) env h = one (idxD x y) false h2 := by
  rw [evE, e1]
  show (evE C th hot b env h').bind _ = _
  rw [e2]; rfl
theorem callE_ok {f : Nat} {es : X} {vs : List (PV × Bool)} (e : evL C th false es env h = .ok vs h') (p : (vs.all fun v => plainV v.1) = true) : evE C th false (.call f es) env h = C f (vs.map (·.1)) (fun _ => .no) h' := by
  simp only [evE, e, R.bind, p]
theorem lam_eq {f : Nat} {body : X} : evE C th false (.lam f body) env h = lamEnd (C f [.fn] (fun h => evE C (fun _ => .no) false body env h) h) := by
  rw [evE]
theorem cons_ok {a r : X} {v : PV × Bool} {vs : List (PV × Bool)} {h2 : HS} (e1 : evE C th hot a env h = .ok v h') (e2 : evL C th hot r env h' = .ok vs h2) : evL C th hot (.cons a r) env h = .ok (v :: vs) h2 := by
  rw [evL, e1]
  show (evL C th hot r env h').bind _ = _
  rw [e2]; rfl
theorem var_ok {i : Nat} {v : PV} {o : Bool} (e : env[i]? = some (some (v, o))) : evE C th hot (.var i) env h = .ok (v, false) h := by
  rw [evE, e]
theorem thunk_ok {o : Bool} (e : env[0]? = some (some (PV.fn, o))) : evE C th false .thunk env h = th h := by
  simp only [evE, e]
theorem app_ok {i : Nat} {x : X} {xs ys : List PyData} {y : PyData} {fr : Bool} (o1 : ownD env i = some (.list xs)) (e : evE C th false x env h = .ok (.d y, fr) h') (o2 : ownD (leak (.d y) fr (vars x) env) i = some (.list ys)) (l : ys.length < lineN) :
    evS C th false fu (.app i x) env h = .ok (.nx, reown (leak (.d y) fr (vars x) env) i (.list (ys ++ [y]))) h' := by
  simp only [evS, o1]
  rw [e]
  show (match ownD (leak (.d y) fr (vars x) env) i with
    | some (.list xs) => match decide (xs.length < lineN) with
      | true => R.ok (Out.nx, reown (leak (.d y) fr (vars x) env) i (.list (xs ++ [y]))) h'
      | false => .no
    | _ => .no) = _
  rw [o2]
  show (match decide (ys.length < lineN) with
      | true => R.ok (Out.nx, reown (leak (.d y) fr (vars x) env) i (.list (ys ++ [y]))) h'
      | false => .no) = _
  rw [decide_eq_true l]
theorem frr_ok {t : T} {src : X} {b : S} {xs : List PyData} (e : evSrc C th false src env h = .ok xs h') : evS C th false fu (.frr t src b) env h = forLoop (fun x env h => match bindT t x env with
      | some env' => evS C th false fu b env' h
      | none => .no) xs (disownAll env (vars src)) h' := by
  rw [evS, if_neg Bool.false_ne_true, e]; rfl
end
section
variable {C : Callee} {th : Thunk} {hot : Bool} {fu : Nat} {env env' : Env} {h h' h2 : HS} {a b : X} {x y : PyData} {fa fb : Bool}
theorem and_t (e : evE C th hot a env h = .ok (.d (.bool true), fa) h') : evE C th hot (.and a b) env h = evE C th hot b env h' := by
  rw [evE, e]; rfl
theorem and_f (e : evE C th hot a env h = .ok (.d (.bool false), fa) h') : evE C th hot (.and a b) env h = .ok (.d (.bool false), true) h' := by
  rw [evE, e]; rfl
theorem cmp_ok {o : Cop} {q : Bool} (e1 : evE C th hot a env h = .ok (.d x, fa) h') (e2 : evE C th hot b env h' = .ok (.d y, fb) h2) (e3 : cmpD o x y = some q) : evE C th hot (.cmp o a b) env h = .ok (.d (.bool q), true) h2 := by
  rw [evE, e1]
  show (evE C th hot b env h').bind _ = _
  rw [e2]
  show one ((cmpD o x y).map .bool) true h2 = _
  rw [e3]; rfl
theorem bin_is {o : Bop} {z : PyData} (e1 : evE C th hot a env h = .ok (.d x, fa) h') (e2 : evE C th hot b env h' = .ok (.d y, fb) h2) (e3 : binD o x y = some z) : evE C th hot (.bin o a b) env h = .ok (.d z, true) h2 := by
  rw [bin_ok e1 e2, e3]; rfl
theorem idx_is {z : PyData} (e1 : evE C th hot a env h = .ok (.d x, fa) h') (e2 : evE C th hot b env h' = .ok (.d y, fb) h2) (e3 : idxD x y = some z) : evE C th hot (.idx a b) env h = .ok (.d z, false) h2 := by
  rw [idx_ok e1 e2, e3]; rfl
theorem int_ok {i : Int} (e : evE C th false a env h = .ok (.d (.int i), fa) h') : evE C th false (.prim .int (.cons a .nil)) env h = .ok (.d (.int i), true) h' := by
  simp only [evE, evL, e, R.bind, datAll, dat, primD, one, primCalm, primFresh, Bool.false_and]
theorem len_ok {xs : List PyData} (e : evE C th false a env h = .ok (.d (.list xs), fa) h') : evE C th false (.prim .len (.cons a .nil)) env h = .ok (.d (.int xs.length), true) h' := by
  simp only [evE, evL, e, R.bind, datAll, dat, primD, one, primCalm, primFresh, Bool.false_and]
theorem get_ok {i : Nat} {o : Bool} {j : Int} {z : PyData} (e : env[i]? = some (some (.hand, o))) (q : atD h j = some z) : evE C th hot (.idx (.var i) (.cst (.int j))) env h = .ok (.d z, false) h := by
  simp only [evE, e, R.bind, withD, one, q]
theorem sto_ok {i : Nat} {o : Bool} {j : Int} {h3 : HS} (e : env[i]? = some (some (.hand, o))) (e1 : evE C th false b env h = .ok (.d y, fa) h') (e2 : evE C th false a env h' = .ok (.d (.int j), fb) h2) (im : imm y = true) (s : setAt h2 j y = some h3) :
    evS C th false fu (.sto i a b) env h = .ok (.nx, env) h3 := by
  have ed : envD env i = some .hand := by unfold envD; rw [e]
  simp only [evS, ed, e1, e2, R.bind, im, s]
theorem retV_ok {i : Nat} {v : PV} {o : Bool} (e : env[i]? = some (some (v, o))) : evS C th hot fu (.retV i) env h = .ok (.rt v o, env) h := by
  rw [evS, e]
end
theorem mul_is {i j : Int} (q : small64 i = true ∨ small64 j = true) : binD .mul (.int i) (.int j) = some (.int (i * j)) := by
  show (if (small64 i || small64 j) = true then some (PyData.int (i * j)) else none) = _
  rw [if_pos (by rcases q with q | q <;> simp [q])]
theorem small_int {i : Int} (a : 0 ≤ i) (b : i < 18446744073709551616) : small64 i = true := by
  unfold small64; simp; omega
theorem mod_is {i j : Int} (q : 0 < j) : binD .mod (.int i) (.int j) = some (.int (i % j)) := by
  show (if 0 < j then some (PyData.int (i % j)) else none) = _
  rw [if_pos q]
theorem div_is {i j : Int} (q : 0 < j) (r : j < 1073741824) : binD .fdiv (.int i) (.int j) = some (.int (i / j)) := by
  show (if (decide (0 < j) && decide (j < 1073741824)) = true then some (PyData.int (i / j)) else none) = _
  rw [if_pos (by simp [q, r])]
/-- b behind a -/
def cat : S → S → S
  | .seq a b, c => .seq a (cat b c)
  | a, c => .seq a c
theorem cat_eq {C : Callee} {th : Thunk} {hot : Bool} {fu : Nat} : ∀ (a c : S) (env : Env) (h : HS), evS C th hot fu (cat a c) env h = evS C th hot fu (.seq a c) env h
  | .seq a b, c, env, h => by
    have ih := cat_eq (C := C) (th := th) (hot := hot) (fu := fu) b c
    show evS C th hot fu (.seq a (cat b c)) env h = _
    rw [evS, evS, evS]
    cases evS C th hot fu a env h with
    | ok o h' =>
      obtain ⟨o, env'⟩ := o
      cases o with
      | nx =>
        show evS C th hot fu (cat b c) env' h' = _
        rw [ih, evS]
      | _ => rfl
    | _ => rfl
  | .skip, _, _, _ | .bad, _, _, _ | .set .., _, _, _ | .par .., _, _, _ | .aug .., _, _, _ | .sto .., _, _, _ | .stoA .., _, _, _ | .app .., _, _, _ | .ext .., _, _, _ | .upd .., _, _, _ | .pop .., _, _, _ | .popA .., _, _, _ | .popE .., _, _, _
  | .appPop .., _, _, _ | .expr .., _, _, _ | .ret .., _, _, _ | .retV .., _, _, _ | .ite .., _, _, _ | .whl .., _, _, _ | .frr .., _, _, _ | .brk, _, _, _ | .cnt, _, _, _ | .raise .., _, _, _ | .try1 .., _, _, _ | .hnd .., _, _, _ | .hnil, _, _, _ => rfl
theorem cat_nx {C : Callee} {th : Thunk} {hot : Bool} {fu : Nat} {a c : S} {env env' : Env} {h h' : HS} (e : evS C th hot fu a env h = .ok (.nx, env') h') : evS C th hot fu (cat a c) env h = evS C th hot fu c env' h' :=
  (cat_eq a c env h).trans (seq_nx e)
theorem lcLoop_map {step : PyData → HS → R (Option PyData)} {f : PyData → PyData} {h : HS} : ∀ (xs acc : List PyData), (∀ x ∈ xs, step x h = .ok (some (f x)) h) → lcLoop step xs h acc = .ok (acc.reverse ++ xs.map f) h
  | [], acc, _ => by rw [lcLoop, List.map_nil, List.append_nil]
  | x :: r, acc, e => by
    rw [lcLoop, e x (List.mem_cons_self ..)]
    show lcLoop step r h (f x :: acc) = _
    rw [lcLoop_map r _ fun y hy => e y (List.mem_cons_of_mem _ hy)]
    simp
theorem lc_map {C : Callee} {th : Thunk} {fu : Nat} {env : Env} {h h' : HS} {t : T} {src cond elt : X} {xs : List PyData} (f : PyData → PyData) (e : evSrc C th false src env h = .ok xs h') (l : xs.length ≤ lineN)
    (s : ∀ x ∈ xs, ∃ env' fr, bindT t x env = some env' ∧ evC C th false cond env' h' = .ok true h' ∧ evE C th false elt env' h' = .ok (.d (f x), fr) h') : evE C th false (.lc t src cond elt) env h = .ok (.d (.list (xs.map f)), true) h' := by
  simp only [evE, e, R.bind, decide_eq_true l]
  rw [lcLoop_map (f := f) xs [] fun x hx => ?_]
  · rfl
  · obtain ⟨env', fr, q1, q2, q3⟩ := s x hx
    simp only [q1, q2, q3]
theorem cutL_map {α β : Type} (g : α → β) (xs : List α) (lo hi : Option Int) : cutL (xs.map g) lo hi = (cutL xs lo hi).map g := by
  unfold cutL; simp [List.map_drop, List.map_take]
theorem cutL_len {α : Type} (xs : List α) (lo hi : Option Int) : (cutL xs lo hi).length ≤ xs.length := by
  unfold cutL; simp; omega
/-- a for whose turns keep what is promised -/
theorem for_inv {step : PyData → Env → HS → ResS} {I : Env → HS → Prop} : ∀ (xs : List PyData) (env : Env) (h : HS), (∀ x ∈ xs, ∀ env h, I env h → ∃ env' h', I env' h' ∧ step x env h = .ok (.nx, env') h') → I env h →
    ∃ env' h', I env' h' ∧ forLoop step xs env h = .ok (.nx, env') h'
  | [], env, h, _, i => ⟨env, h, i, rfl⟩
  | x :: r, env, h, s, i => by
    obtain ⟨e1, h1, i1, q1⟩ := s x (List.mem_cons_self ..) env h i
    obtain ⟨e2, h2, i2, q2⟩ := for_inv r e1 h1 (fun y hy => s y (List.mem_cons_of_mem _ hy)) i1
    refine ⟨e2, h2, i2, ?_⟩
    rw [forLoop, q1]; exact q2
section
variable {P : List Fn} {fu d f : Nat} {fn : Fn} {vs : List PV} {th : Thunk} {h h' : HS} {env' : Env}
theorem evF_rt {v : PV} {fr : Bool} (e : P[f]? = some fn) (hl : vs.length = fn.np) (q : evS (evF P fu d) th false fu fn.body (start fn.n vs) h = .ok (.rt v fr, env') h') : evF P fu (d + 1) f vs th h = .ok (v, fr) h' := by
  rw [evF, e]
  show (if vs.length == fn.np then _ else _) = _
  rw [hl, if_pos (beq_self_eq_true _), q]; rfl
theorem evF_nx (e : P[f]? = some fn) (hl : vs.length = fn.np) (q : evS (evF P fu d) th false fu fn.body (start fn.n vs) h = .ok (.nx, env') h') : evF P fu (d + 1) f vs th h = .ok (.d .none, true) h' := by
  rw [evF, e]
  show (if vs.length == fn.np then _ else _) = _
  rw [hl, if_pos (beq_self_eq_true _), q]; rfl
theorem evF_ex {c : Nat} {x : Option PyData} (e : P[f]? = some fn) (hl : vs.length = fn.np) (q : evS (evF P fu d) th false fu fn.body (start fn.n vs) h = .ex c x h') : evF P fu (d + 1) f vs th h = .ex c x h' := by
  rw [evF, e]
  show (if vs.length == fn.np then _ else _) = _
  rw [hl, if_pos (beq_self_eq_true _), q]; rfl
end
end Pv
/-! text S40 -/
set_option autoImplicit false
set_option linter.all false
set_option maxRecDepth 100000
set_option maxHeartbeats 2000000
/-! More plain rules. -/
namespace Pv
open PySem
section
variable {C : Callee} {th : Thunk} {hot : Bool} {fu : Nat} {env env' : Env} {h h' h2 h3 : HS} {a b c : X} {x y : PyData} {fa fb fc : Bool}
theorem chain_le {i j k : Int} (e1 : evE C th hot a env h = .ok (.d (.int i), fa) h) (e2 : evE C th hot b env h = .ok (.d (.int j), fb) h) (e3 : evE C th hot c env h = .ok (.d (.int k), fc) h) :
    evE C th hot (.chain .le .le a b c) env h = .ok (.d (.bool (decide (i ≤ j) && decide (j ≤ k))), true) h := by
  simp only [evE, e1, e2, R.bind, withD, cmpD]
  cases decide (i ≤ j) with
  | false => rfl
  | true => simp only [e3, R.bind, withD, one, Option.map_some, Bool.true_and]
theorem and_b {p q : Bool} (e1 : evE C th hot a env h = .ok (.d (.bool p), fa) h') (e2 : evE C th hot b env h' = .ok (.d (.bool q), true) h') : evE C th hot (.and a b) env h = .ok (.d (.bool (p && q)), true) h' := by
  cases p with
  | true => exact (and_t e1).trans e2
  | false => exact and_f e1
theorem or_t (e : evE C th hot a env h = .ok (.d (.bool true), fa) h') : evE C th hot (.or a b) env h = .ok (.d (.bool true), true) h' := by
  rw [evE, e]; rfl
theorem or_f (e : evE C th hot a env h = .ok (.d (.bool false), fa) h') : evE C th hot (.or a b) env h = evE C th hot b env h' := by
  rw [evE, e]; rfl
theorem not_ok {p : Bool} (e : evE C th hot a env h = .ok (.d (.bool p), fa) h') : evE C th hot (.not a) env h = .ok (.d (.bool (!p)), true) h' := by
  rw [evE, e]; rfl
theorem iteE_t (e : evE C th hot c env h = .ok (.d (.bool true), fc) h') : evE C th hot (.ite c a b) env h = evE C th hot a env h' := by
  rw [evE, e]; rfl
theorem iteE_f (e : evE C th hot c env h = .ok (.d (.bool false), fc) h') : evE C th hot (.ite c a b) env h = evE C th hot b env h' := by
  rw [evE, e]; rfl
theorem prim1 {p : Prim} {z : PyData} (e : evE C th false a env h = .ok (.d x, fa) h') (q : primD p [x] = some z) : evE C th false (.prim p (.cons a .nil)) env h = .ok (.d z, primFresh p) h' := by
  simp only [evE, evL, e, R.bind, datAll, dat, q, one, Bool.false_and]
theorem tup_ok {vs : List (PV × Bool)} {xs : List PyData} {es : X} (e : evL C th hot es env h = .ok vs h') (q : datAll vs = some xs) : evE C th hot (.tup es) env h = .ok (.d (.tuple xs), true) h' := by
  simp only [evE, e, R.bind, q]
theorem lst_ok {vs : List (PV × Bool)} {xs : List PyData} {es : X} (e : evL C th hot es env h = .ok vs h') (q : datAll vs = some xs) : evE C th hot (.lst es) env h = .ok (.d (.list xs), true) h' := by
  simp only [evE, e, R.bind, q]
theorem neg_ok {i : Int} (e : evE C th hot a env h = .ok (.d (.int i), fa) h') : evE C th hot (.neg a) env h = .ok (.d (.int (-i)), true) h' := by
  simp only [evE, e, R.bind, withD]
theorem src_val {xs : List PyData} (e : evE C th hot a env h = .ok (.d x, fa) h') (q : itemsD x = some xs) : evSrc C th hot (.sVal a) env h = .ok xs h' := by
  simp only [evSrc, e, R.bind, q]
theorem src_enumT' {xs : List PyData} (e : evE C th hot a env h = .ok (.d (.tuple xs), fa) h') : evSrc C th hot (.sEnum a) env h = .ok (enumL 0 xs) h' := by
  simp only [evSrc, e, R.bind]
theorem rngE_ok {i : Int} (e : evE C th hot a env h = .ok (.d (.int i), fa) h') (q : rngOk i = true) : evSrc C th hot (.sRng1 a) env h = .ok (rangeL 0 i) h' := by
  simp only [evSrc, e, R.bind, q]
theorem stoA_ok {i : Nat} {o : Bop} {j old y z : Int} {xs xs' : List PyData} (ow : ownD env i = some (.list xs)) (e1 : evE C th false a env h = .ok (.d (.int j), fa) h) (at1 : atD xs j = some (.int old)) (e2 : evE C th false b env h = .ok (.d (.int y), fb) h)
    (au : augD o old y = some z) (st : setAt xs j (.int z) = some xs') : evS C th false fu (.stoA i a o b) env h = .ok (.nx, reown env i (.list xs')) h := by
  simp only [evS, ow, e1, R.bind, at1, e2, au, st]
/-- x[k] = e, into an own list -/
theorem stoL_ok {i : Nat} {j : Int} {z : PyData} {xs ys xs' : List PyData} (ow : ownD env i = some (.list xs)) (e1 : evE C th false b env h = .ok (.d z, fb) h) (e2 : evE C th false a env h = .ok (.d (.int j), fa) h) (o2 : ownD (leak (.d z) fb (vars b) env) i = some (.list ys))
    (st : setAt ys j z = some xs') : evS C th false fu (.sto i a b) env h = .ok (.nx, reown (leak (.d z) fb (vars b) env) i (.list xs')) h := by
  have ed : envD env i = some (.d (.list xs)) := by
    unfold ownD at ow
    unfold envD
    split at ow
    · rename_i q; cases ow; rw [q]
    · cases ow
  have sd : storeD (.list ys) (.int j) z = some (.list xs') := by
    show (setAt ys j z).map PyData.list = _
    rw [st]; rfl
  simp only [evS, ed, e1, e2, R.bind, o2, sd]
/-- d[k] = e, into an own dict -/
theorem stoM_ok {i : Nat} {k z : PyData} {kvs : List (PyData × PyData)} (ow : ownD env i = some (.dict kvs)) (e1 : evE C th false b env h = .ok (.d z, fb) h) (e2 : evE C th false a env h = .ok (.d k, fa) h) (im : imm z = true)
    (hf : keyFor kvs k = true) (hl : kvs.length < lineN) : evS C th false fu (.sto i a b) env h = .ok (.nx, reown env i (.dict (dictPut kvs k z))) h := by
  have ed : envD env i = some (.d (.dict kvs)) := by
    unfold ownD at ow
    unfold envD
    split at ow
    · rename_i q; cases ow; rw [q]
    · cases ow
  have sd : storeD (.dict kvs) k z = some (.dict (dictPut kvs k z)) := by
    show (if keyFor kvs k && decide (kvs.length < lineN) then some (PyData.dict (dictPut kvs k z)) else none) = _
    rw [hf, decide_eq_true hl]; rfl
  have lk : leak (.d z) fb (vars b) env = env := by
    have ha : aliasD z fb = false := by
      cases fb with
      | false => show (!imm z) = false; rw [im]; rfl
      | true =>
        cases z with
        | tuple xs => show (!immAll xs) = false; rw [show immAll xs = true from im]; rfl
        | list _ => cases im
        | dict _ => cases im
        | _ => rfl
    show (match aliasD z fb with | true => disownAll env (vars b) | false => env) = env
    rw [ha]
  have o2 : ownD (leak (.d z) fb (vars b) env) i = some (.dict kvs) := by rw [lk]; exact ow
  simp only [evS, ed, e1, e2, R.bind, lk, ow, sd]
theorem setT_ok {ts : T} {z : PyData} {fr : Bool} (e : evE C th false a env h = .ok (.d z, fr) h') (q : bindT (.tup ts) z (leak (.d z) fr (vars a) env) = some env') : evS C th false fu (.set (.tup ts) a) env h = .ok (.nx, env') h' := by
  simp only [evS, e, R.bind, q]
theorem lcLoop_ok {step : PyData → HS → R (Option PyData)} {f : PyData → Option PyData} {h : HS} : ∀ (xs acc : List PyData), (∀ x ∈ xs, step x h = .ok (f x) h) → lcLoop step xs h acc = .ok (acc.reverse ++ xs.filterMap f) h
  | [], acc, _ => by rw [lcLoop, List.filterMap_nil, List.append_nil]
  | x :: r, acc, e => by
    rw [lcLoop, e x (List.mem_cons_self ..), List.filterMap_cons]
    cases f x with
    | none =>
      show lcLoop step r h acc = _
      rw [lcLoop_ok r _ fun y hy => e y (List.mem_cons_of_mem _ hy)]
    | some y =>
      show lcLoop step r h (y :: acc) = _
      rw [lcLoop_ok r _ fun y hy => e y (List.mem_cons_of_mem _ hy)]
      simp
/-- a comprehension with a test -/
theorem lc_if {t : T} {src cond elt : X} {xs : List PyData} (f : PyData → Option PyData) (e : evSrc C th false src env h = .ok xs h') (l : xs.length ≤ lineN)
    (s : ∀ x ∈ xs, ∃ env', bindT t x env = some env' ∧ ((evC C th false cond env' h' = .ok false h' ∧ f x = none) ∨ ∃ y fr, evC C th false cond env' h' = .ok true h' ∧ evE C th false elt env' h' = .ok (.d y, fr) h' ∧ f x = some y)) :
    evE C th false (.lc t src cond elt) env h = .ok (.d (.list (xs.filterMap f)), true) h' := by
  simp only [evE, e, R.bind, decide_eq_true l]
  rw [lcLoop_ok (f := f) xs [] fun x hx => ?_]
  · rfl
  · obtain ⟨env', q1, q⟩ := s x hx
    rcases q with ⟨q2, q3⟩ | ⟨y, fr, q2, q3, q4⟩
    · simp only [q1, q2, q3]
    · simp only [q1, q2, q3, q4]
theorem lcLoop_hand {I : HS → Prop} {Pr : PyData → Prop} {step : PyData → HS → R (Option PyData)} : ∀ (xs acc : List PyData) (h : HS), I h → (∀ x ∈ xs, ∀ h, I h → ∃ y h2, I h2 ∧ Pr y ∧ step x h = .ok (some y) h2) →
    ∃ ys h2, I h2 ∧ ys.length = xs.length ∧ (∀ y ∈ ys, Pr y) ∧ lcLoop step xs h acc = .ok (acc.reverse ++ ys) h2
  | [], acc, h, i, _ => ⟨[], h, i, rfl, (fun _ z => by cases z), by rw [lcLoop, List.append_nil]⟩
  | x :: r, acc, h, i, s => by
    obtain ⟨y, h2, q2, q3, q4⟩ := s x (List.mem_cons_self ..) h i
    obtain ⟨ys, h3, p1, p2, p3, p4⟩ := lcLoop_hand r (y :: acc) h2 q2 fun x hx => s x (List.mem_cons_of_mem _ hx)
    refine ⟨y :: ys, h3, p1, by simp [p2], fun z hz => ?_, ?_⟩
    · rcases List.mem_cons.mp hz with e | m
      · rw [e]; exact q3
      · exact p3 z m
    · rw [lcLoop, q4]
      show lcLoop step r h2 (y :: acc) = _
      rw [p4]; simp
/-- a comprehension whose items change the hand -/
theorem lc_hand {t : T} {src elt : X} {xs : List PyData} {I : HS → Prop} {Pr : PyData → Prop} (e : evSrc C th false src env h = .ok xs h') (l : xs.length ≤ lineN) (i0 : I h')
    (s : ∀ x ∈ xs, ∀ h, I h → ∃ env' y fr h2, bindT t x env = some env' ∧ I h2 ∧ Pr y ∧ evE C th false elt env' h = .ok (.d y, fr) h2) :
    ∃ ys h2, I h2 ∧ ys.length = xs.length ∧ (∀ y ∈ ys, Pr y) ∧ evE C th false (.lc t src .nil elt) env h = .ok (.d (.list ys), true) h2 := by
  obtain ⟨ys, h2, p1, p2, p3, p4⟩ := lcLoop_hand (I := I) (Pr := Pr) (step := fun x h => match bindT t x env with
        | some env' => (evC C th false .nil env' h).bind fun b h => match b with
          | true => (evE C th false elt env' h).bind fun y h => match y.1 with
            | .d y => .ok (some y) h
            | _ => .no
          | false => .ok none h
        | none => .no) xs [] h' i0 fun x hx h i => by
    obtain ⟨env', y, fr, h2, q1, q2, q3, q4⟩ := s x hx h i
    exact ⟨y, h2, q2, q3, by simp only [q1, evC, R.bind, q4]⟩
  refine ⟨ys, h2, p1, p2, p3, ?_⟩
  rw [evE, e]
  show (match decide (xs.length ≤ lineN) with
      | false => R.no
      | true => (lcLoop (fun x h => match bindT t x env with
        | some env' => (evC C th false .nil env' h).bind fun b h => match b with
          | true => (evE C th false elt env' h).bind fun y h => match y.1 with
            | .d y => .ok (some y) h
            | _ => .no
          | false => .ok none h
        | none => .no) xs h' []).bind fun ys h => R.ok (PV.d (.list ys), true) h) = _
  rw [decide_eq_true l]
  show (lcLoop _ xs h' []).bind _ = _
  rw [p4]; rfl
end
/-- a for with a count of its turns -/
theorem for_cnt {step : PyData → Env → HS → ResS} {I : Nat → Env → HS → Prop} : ∀ (xs : List PyData) (n : Nat) (env : Env) (h : HS), (∀ x ∈ xs, ∀ n env h, I n env h → ∃ env' h', I (n + 1) env' h' ∧ step x env h = .ok (.nx, env') h') → I n env h →
    ∃ env' h', I (n + xs.length) env' h' ∧ forLoop step xs env h = .ok (.nx, env') h'
  | [], n, env, h, _, i => ⟨env, h, i, rfl⟩
  | x :: r, n, env, h, s, i => by
    obtain ⟨e1, h1, i1, q1⟩ := s x (List.mem_cons_self ..) n env h i
    obtain ⟨e2, h2, i2, q2⟩ := for_cnt r (n + 1) e1 h1 (fun y hy => s y (List.mem_cons_of_mem _ hy)) i1
    refine ⟨e2, h2, by rw [show n + (x :: r).length = n + 1 + r.length by simp; omega]; exact i2, ?_⟩
    rw [forLoop, q1]; exact q2
theorem forLoop_nx {step : PyData → Env → HS → ResS} {x : PyData} {r : List PyData} {env env' : Env} {h h' : HS} (e : step x env h = .ok (.nx, env') h') : forLoop step (x :: r) env h = forLoop step r env' h' := by
  rw [forLoop, e]
theorem forLoop_rt {step : PyData → Env → HS → ResS} {x : PyData} {r : List PyData} {env env' : Env} {h h' : HS} {v : PV} {fr : Bool} (e : step x env h = .ok (.rt v fr, env') h') : forLoop step (x :: r) env h = .ok (.rt v fr, env') h' := by
  rw [forLoop, e]
mutual
theorem imm_plain : ∀ d : PyData, imm d = true → d.plain = true
  | .none, _ => rfl
  | .bool _, _ => rfl
  | .int _, _ => rfl
  | .str _, _ => rfl
  | .list _, h => by cases h
  | .dict _, h => by cases h
  | .tuple xs, h => immAll_plain xs h
theorem immAll_plain : ∀ xs : List PyData, immAll xs = true → PyData.plainAll xs = true
  | [], _ => rfl
  | x :: xs, h => by
    have h := Bool.and_eq_true_iff.mp (show (imm x && immAll xs) = true from h)
    show (x.plain && PyData.plainAll xs) = true
    rw [imm_plain x h.1, immAll_plain xs h.2]; rfl
end
theorem ne_self {d : PyData} (p : d.plain = true) (s : shallow maxDepth d = true) : cmpD .ne d d = some false := by
  have e : (cmpD .ne d d = if d.plain && d.plain && shallow maxDepth d then some (!PyData.eqv d d) else none) ∨ ∃ i, d = .int i := by
    cases d <;> first | exact .inl rfl | exact .inr ⟨_, rfl⟩
  rcases e with e | ⟨i, rfl⟩
  · rw [e, p, s, PySem.SeqAt.eqv_refl_plain d p]; rfl
  · show some (i != i) = some false
    simp
theorem shAll_of {n : Nat} : ∀ {xs : List PyData}, (∀ x ∈ xs, shallow n x = true) → shallowAll n xs = true
  | [], _ => by unfold shallowAll; rfl
  | x :: xs, h => by
    unfold shallowAll
    rw [h x (List.mem_cons_self ..), shAll_of fun y hy => h y (List.mem_cons_of_mem _ hy)]; rfl
theorem immAll_of : ∀ {xs : List PyData}, (∀ x ∈ xs, imm x = true) → immAll xs = true
  | [], _ => rfl
  | x :: xs, h => by
    unfold immAll
    rw [h x (List.mem_cons_self ..), immAll_of fun y hy => h y (List.mem_cons_of_mem _ hy)]; rfl
theorem plainAll_of : ∀ {xs : List PyData}, (∀ x ∈ xs, x.plain = true) → PyData.plainAll xs = true
  | [], _ => rfl
  | x :: xs, h => by
    unfold PyData.plainAll
    rw [h x (List.mem_cons_self ..), plainAll_of fun y hy => h y (List.mem_cons_of_mem _ hy)]; rfl
theorem bools_of : ∀ (bs : List Bool), bools? (bs.map .bool) = some bs
  | [] => rfl
  | b :: bs => by
    show (bools? (bs.map .bool)).map (b :: ·) = _
    rw [bools_of bs]; rfl
theorem ints_of : ∀ (bs : List Int), ints? (bs.map .int) = some bs
  | [] => rfl
  | b :: bs => by
    show (ints? (bs.map .int)).map (b :: ·) = _
    rw [ints_of bs]; rfl
theorem noleak {d : PyData} {fr : Bool} {vs : List Nat} {env : Env} (h : imm d = true) : leak (.d d) fr vs env = env := by
  cases d with
  | tuple xs =>
    have h : immAll xs = true := h
    cases fr <;> simp [leak, aliasD, imm, h]
  | list _ => cases h
  | dict _ => cases h
  | _ => cases fr <;> rfl
theorem noleakL {xs : List PyData} {vs : List Nat} {env : Env} (h : immAll xs = true) : leak (.d (.list xs)) true vs env = env := by
  simp [leak, aliasD, h]
theorem setL_ok {C : Callee} {th : Thunk} {fu i : Nat} {x : X} {xs : List PyData} {env : Env} {h h' : HS} (e : evE C th false x env h = .ok (.d (.list xs), true) h') (im : immAll xs = true) : evS C th false fu (.set (.v i) x) env h = .ok (.nx, env.set i (some (.d (.list xs), true))) h' := by
  rw [set_ok e, noleakL im]; rfl
theorem setI_ok {C : Callee} {th : Thunk} {hot fr : Bool} {fu i : Nat} {x : X} {d : PyData} {env : Env} {h h' : HS} (e : evE C th hot x env h = .ok (.d d, fr) h') (im : imm d = true) : evS C th hot fu (.set (.v i) x) env h = .ok (.nx, env.set i (some (.d d, false))) h' := by
  rw [set_ok e, noleak im]
  have : ownOf (.d d) fr = false := by cases d <;> first | rfl | (cases im)
  rw [this, Bool.and_false]
theorem appI_ok {C : Callee} {th : Thunk} {fu i : Nat} {x : X} {xs : List PyData} {y : PyData} {fr : Bool} {env : Env} {h h' : HS} (o1 : ownD env i = some (.list xs)) (e : evE C th false x env h = .ok (.d y, fr) h') (im : imm y = true) (l : xs.length < lineN) :
    evS C th false fu (.app i x) env h = .ok (.nx, reown env i (.list (xs ++ [y]))) h' := by
  rw [app_ok (ys := xs) o1 e (by rw [noleak im]; exact o1) l, noleak im]
theorem atG_nn {α : Type} {xs : List α} {i : Nat} {x : α} (h : xs[i]? = some x) : atG xs (i : Int) = some x := by
  unfold atG
  rw [if_pos (by omega)]
  simpa using h
theorem atG_last {α : Type} {xs : List α} {x : α} : atG (xs ++ [x]) (-1) = some x := by
  unfold atG
  rw [if_neg (by omega), if_pos (by simp; omega)]
  have : ((-1 : Int) + ((xs ++ [x]).length : Int)).toNat = xs.length := by simp; omega
  rw [this]; simp
theorem setAt_nn {xs : List PyData} {i : Nat} {v : PyData} (h : i < xs.length) : setAt xs (i : Int) v = some (xs.set i v) := by
  unfold setAt
  rw [if_pos (by omega), if_pos (by omega)]; simp
/-- the least of whole numbers -/
theorem minD_int : ∀ (r : List Int) (m : Int), PySem.W.minD (.int m) (r.map .int) = .int (r.foldl (fun a b => if b < a then b else a) m)
  | [], m => rfl
  | b :: r, m => by
    have e : (if PySem.W.dataLt (.int b) (.int m) = true then PyData.int b else .int m) = .int (if b < m then b else m) := by
      rw [PySem.W.dataLt_int]
      by_cases q : b < m
      · simp [q]
      · simp [q]
    have := minD_int r (if b < m then b else m)
    unfold PySem.W.minD at this ⊢
    rw [List.map_cons, List.foldl_cons, e, this, List.foldl_cons]
theorem min_neg : ∀ (r : List Int) (m : Int), decide (r.foldl (fun a b => if b < a then b else a) m < 0) = (m :: r).any fun x => decide (x < 0)
  | [], m => by
    simp only [List.foldl_nil, List.any_cons, List.any_nil, Bool.or_false]; exact decide_eq_decide.mpr Iff.rfl
  | b :: r, m => by
    rw [List.foldl_cons, min_neg r]
    by_cases q : b < m
    · rw [if_pos q]
      simp only [List.any_cons]
      by_cases k : m < 0
      · have : b < 0 := by omega
        simp [k, this]
      · simp [k]
    · rw [if_neg q]
      simp only [List.any_cons]
      by_cases k : b < 0
      · have : m < 0 := by omega
        simp [k, this]
      · simp [k]
theorem minOk_ints (ws : List Int) : minOk (ws.map .int) = true := by
  unfold minOk allAlike
  rw [Bool.and_eq_true, Bool.and_eq_true]
  refine ⟨⟨?_, shAll_of fun x hx => ?_⟩, ?_⟩
  · rw [List.all_eq_true]; intro x hx; obtain ⟨i, _, rfl⟩ := List.mem_map.mp hx; rfl
  · obtain ⟨i, _, rfl⟩ := List.mem_map.mp hx; rfl
  · rw [List.all_eq_true]; intro x hx; rw [List.all_eq_true]; intro y hy
    obtain ⟨i, _, rfl⟩ := List.mem_map.mp hx
    obtain ⟨j, _, rfl⟩ := List.mem_map.mp hy
    rfl
end Pv
/-! text S41 -/
set_option autoImplicit false
set_option linter.all false
set_option maxRecDepth 100000
set_option maxHeartbeats 4000000
/-! What laws share: a hand's draws, lots, comprehensions over an index type, order. -/
namespace Pv
open PySem
abbrev SL := Option (PV × Bool)
abbrev iP (m : Nat) : PV := .d (.int (m : Nat))
abbrev NT0 : Pv.Thunk := fun _ => .no
/-! ### lots -/
abbrev Lot := List Nat
abbrev nD (l : Lot) : List PyData := l.map fun i => .int (i : Nat)
abbrev lD (l : Lot) : PyData := .tuple (nD l)
def unD : PyData → Lot
  | .tuple xs => xs.map fun x => match x with
    | .int i => i.toNat
    | _ => 0
  | _ => []
theorem unD_lD (l : Lot) : unD (lD l) = l := by
  show ((l.map fun i => PyData.int (i : Nat)).map _) = l
  rw [List.map_map]
  induction l with
  | nil => rfl
  | cons x l ih => rw [List.map_cons, ih]; simp
def LotOk (m : Nat) (l : Lot) : Prop := l.Pairwise (· < ·) ∧ ∀ i ∈ l, i < m
theorem imm_nD : ∀ l : Lot, immAll (nD l) = true
  | [] => rfl
  | _ :: r => imm_nD r
theorem imm_lD (l : Lot) : imm (lD l) = true := imm_nD l
theorem imm_ls (L : List Lot) : immAll (L.map lD) = true := immAll_of fun x hx => by
  obtain ⟨l, _, rfl⟩ := List.mem_map.mp hx
  exact imm_lD l
theorem sh_nD (n : Nat) (l : Lot) : shallowAll n (nD l) = true := shAll_of fun x hx => by
  obtain ⟨i, _, rfl⟩ := List.mem_map.mp hx
  cases n <;> rfl
theorem sh_ls (n : Nat) (L : List Lot) : shallowAll (n + 1) (L.map lD) = true := shAll_of fun x hx => by
  obtain ⟨i, _, rfl⟩ := List.mem_map.mp hx
  exact sh_nD n i
theorem pl_nD (l : Lot) : PyData.plainAll (nD l) = true := immAll_plain _ (imm_nD l)
theorem pl_ls (L : List Lot) : PyData.plainAll (L.map lD) = true := immAll_plain _ (imm_ls L)
theorem eqv_int (i j : Int) : PyData.eqv (.int i) (.int j) = (i == j) := rfl
theorem eqv_nD : ∀ (a b : Lot), PyData.eqvAll (nD a) (nD b) = decide (a = b)
  | [], [] => rfl
  | [], _ :: _ => rfl
  | _ :: _, [] => rfl
  | x :: a, y :: b => by
    show (PyData.eqv (.int (x : Nat)) (.int (y : Nat)) && PyData.eqvAll (nD a) (nD b)) = _
    rw [eqv_int, eqv_nD a b]
    by_cases h : x = y
    · subst h; simp
    · have : ((x : Int) == (y : Int)) = false := by simp; omega
      rw [this]; simp [h]
theorem eqv_lD (a b : Lot) : PyData.eqv (lD a) (lD b) = decide (a = b) := eqv_nD a b
theorem inn_lot (k : Nat) (l : Lot) : cmpD .inn (.int (k : Nat)) (lD l) = some (l.contains k) := by
  show (if PyData.plainAll (nD l) && true && shallow maxDepth (.int (k : Nat)) then some ((nD l).any fun y => PyData.eqv y (.int (k : Nat))) else none) = _
  rw [pl_nD, if_pos (show (true && true && shallow maxDepth (.int (k : Nat))) = true from rfl)]
  congr 1
  induction l with
  | nil => rfl
  | cons x l ih =>
    show (PyData.eqv (.int (x : Nat)) (.int (k : Nat)) || (nD l).any fun y => PyData.eqv y (.int (k : Nat))) = _
    rw [ih, eqv_int, List.contains_cons]
    congr 1
    by_cases h : x = k
    · subst h; simp
    · have : ((x : Int) == (k : Int)) = false := by simp; omega
      rw [this]; simp; omega
theorem inn_ls (g : Lot) (L : List Lot) : cmpD .inn (lD g) (.list (L.map lD)) = some (decide (g ∈ L)) ∧ cmpD .notIn (lD g) (.list (L.map lD)) = some (!decide (g ∈ L)) := by
  have e : ((L.map lD).any fun y => PyData.eqv y (lD g)) = decide (g ∈ L) := by
    induction L with
    | nil => rfl
    | cons x L ih =>
      rw [List.map_cons, List.any_cons, ih, eqv_lD]
      by_cases h : x = g
      · subst h; simp
      · have h' : ¬ g = x := fun z => h z.symm
        simp [h, h']
  constructor
  · show (if PyData.plainAll (L.map lD) && (lD g).plain && shallow maxDepth (lD g) then some ((L.map lD).any fun y => PyData.eqv y (lD g)) else none) = _
    rw [pl_ls, show (lD g).plain = true from pl_nD g, show shallow maxDepth (lD g) = true from sh_nD _ g, if_pos (show (true && true && true) = true from rfl), e]
  · show (if PyData.plainAll (L.map lD) && (lD g).plain && shallow maxDepth (lD g) then some (!((L.map lD).any fun y => PyData.eqv y (lD g))) else none) = _
    rw [pl_ls, show (lD g).plain = true from pl_nD g, show shallow maxDepth (lD g) = true from sh_nD _ g, if_pos (show (true && true && true) = true from rfl), e]
/-! ### order -/
theorem sorted_ls (L : List Lot) : primD .sorted [.list (L.map lD)] = some (.list (sortD (L.map lD))) := by
  show (if sortOk (L.map lD) then some (PyData.list (sortD (L.map lD))) else none) = _
  rw [if_pos]
  unfold sortOk alikeN
  have a : (L.map lD).all isTupA = true := by rw [List.all_eq_true]; intro x hx; obtain ⟨l, _, rfl⟩ := List.mem_map.mp hx; rfl
  have b : (L.map lD).all isIntT = true := by
    rw [List.all_eq_true]; intro x hx; obtain ⟨l, _, rfl⟩ := List.mem_map.mp hx
    show (nD l).all isIntD = true
    rw [List.all_eq_true]; intro y hy; obtain ⟨i, _, rfl⟩ := List.mem_map.mp hy; rfl
  rw [a, b, show shallowAll maxDepth (L.map lD) = true from sh_ls _ L]
  cases (L.map lD).all isIntD <;> rfl
theorem sortD_mem {xs : List PyData} {x : PyData} : x ∈ sortD xs ↔ x ∈ xs := by
  rw [sortD_eq]; exact (List.mergeSort_perm _ _).mem_iff
theorem sortD_filter (p : PyData → Bool) (xs : List PyData) : sortD (xs.filter p) = (sortD xs).filter p := by
  rw [sortD_eq (xs.filter p)]
  symm
  refine PySem.W.sort_unique leD_total (l := xs.filter p) (m := (sortD xs).filter p) ?_ fun c => ?_
  · rw [sortD_eq]
    exact (PySem.W.sort_pairwise leD_total xs).sublist List.filter_sublist
  · rw [sortD_eq, List.filter_filter, List.filter_filter]
    have h := congrArg (fun l => l.filter p) (PySem.W.sort_stable leD_total xs c)
    simp only [List.filter_filter] at h
    have sw : ∀ l : List PyData, l.filter (fun a => PySem.W.sameRank leD c a && p a) = l.filter (fun a => p a && PySem.W.sameRank leD c a) := fun l => by
      congr 1; funext a; exact Bool.and_comm ..
    rw [sw, sw]
    exact h
theorem sort_sub {L M : List Lot} (h : sortD (L.map lD) = M.map lD) (p : Lot → Bool) : sortD ((L.filter p).map lD) = (M.filter p).map lD := by
  have e : ∀ K : List Lot, (K.filter p).map lD = (K.map lD).filter fun d => p (unD d) := fun K => by
    rw [List.filter_map]
    congr 1
    refine List.filter_congr fun x _ => ?_
    show p x = p (unD (lD x))
    rw [unD_lD]
  rw [e L, sortD_filter, h, e M]
abbrev rT (rs : List Lot) : PyData := .tuple (rs.map lD)
/-! ### a lot put in order -/
def srt (l : Lot) : Lot := (sortD (nD l)).map fun x => match x with
  | .int i => i.toNat
  | _ => 0
theorem srt_nD (l : Lot) : sortD (nD l) = nD (srt l) := by
  have back : ∀ xs : List PyData, (∀ x ∈ xs, ∃ i : Nat, x = .int (i : Nat)) → xs = nD (xs.map fun x => match x with
    | .int i => i.toNat
    | _ => 0) := by
    intro xs
    induction xs with
    | nil => exact fun _ => rfl
    | cons x xs ih =>
      intro hx
      obtain ⟨i, rfl⟩ := hx x (List.mem_cons_self ..)
      rw [List.map_cons]
      show _ = PyData.int _ :: nD _
      rw [← ih fun y hy => hx y (List.mem_cons_of_mem _ hy)]
      show _ = PyData.int ((((i : Nat) : Int).toNat : Nat) : Int) :: xs
      rw [Int.toNat_natCast]
  exact back _ fun x hx => by
    obtain ⟨i, _, rfl⟩ := List.mem_map.mp (sortD_mem.mp hx)
    exact ⟨i, rfl⟩
theorem int_inj {a b : Nat} (h : PyData.int (a : Nat) = PyData.int (b : Nat)) : a = b := by
  injection h with h
  omega
theorem srt_perm (l : Lot) : (srt l).Perm l := by
  have p : (nD (srt l)).Perm (nD l) := by rw [← srt_nD, sortD_eq]; exact List.mergeSort_perm _ _
  have q := p.map fun x => match x with
    | .int i => i.toNat
    | _ => 0
  have e : ∀ k : Lot, (nD k).map (fun x => match x with
    | .int i => i.toNat
    | _ => 0) = k := fun k => by
    rw [List.map_map]
    induction k with
    | nil => rfl
    | cons x k ih => rw [List.map_cons, ih]; simp
  rw [e, e] at q
  exact q
theorem srt_asc {l : Lot} (nd : l.Nodup) : (srt l).Pairwise (· < ·) := by
  have p := PySem.W.sort_pairwise leD_total (nD l)
  have e : (nD l).mergeSort leD = nD (srt l) := by rw [← srt_nD, sortD_eq]; rfl
  rw [e] at p
  have p2 : (srt l).Pairwise (fun a b => leD (.int (a : Nat)) (.int (b : Nat)) = true) := List.pairwise_map.mp p
  have nd2 : (srt l).Nodup := (srt_perm l).nodup_iff.mpr nd
  refine (p2.and nd2).imp fun {a b} ⟨h1, h2⟩ => ?_
  have h3 : (!PySem.W.dataLt (.int (b : Nat)) (.int (a : Nat))) = true := h1
  rw [PySem.W.dataLt_int] at h3
  have : ¬ ((b : Int) < (a : Int)) := by simpa using h3
  omega
theorem sorted_nD (l : Lot) : primD .sorted [.tuple (nD l)] = some (.list (nD (srt l))) := by
  show (if sortOk (nD l) then some (PyData.list (sortD (nD l))) else none) = _
  rw [srt_nD, if_pos]
  unfold sortOk alikeN
  have a : (nD l).all isIntD = true := by rw [List.all_eq_true]; intro x hx; obtain ⟨i, _, rfl⟩ := List.mem_map.mp hx; rfl
  have b : ((nD l).all fun x => !isTupN x) = true := by rw [List.all_eq_true]; intro x hx; obtain ⟨i, _, rfl⟩ := List.mem_map.mp hx; rfl
  rw [a, b, show shallowAll maxDepth (nD l) = true from sh_nD _ l]
  cases (nD l).all isTupA <;> rfl
section
variable {C : Pv.Callee} {fu d : Nat} {th : Pv.Thunk} {h : HS} {env : Pv.Env}
theorem lcLoop_G {α : Type} {step : PyData → HS → Pv.R (Option PyData)} (s : α → PyData) (q : α → Bool) (m : α → PyData) : ∀ (L : List α) (acc : List PyData), (∀ a ∈ L, step (s a) h = .ok (if q a then some (m a) else none) h) → lcLoop step (L.map s) h acc = .ok (acc.reverse ++ (L.filter q).map m) h
  | [], acc, _ => by rw [List.map_nil, lcLoop]; simp
  | a :: L, acc, e => by
    have e1 := e a (List.mem_cons_self ..)
    have ih := fun acc => lcLoop_G s q m L acc fun b hb => e b (List.mem_cons_of_mem _ hb)
    rw [List.map_cons, lcLoop, e1]
    cases qa : q a with
    | true =>
      show lcLoop step (L.map s) h (m a :: acc) = _
      rw [ih, List.filter_cons_of_pos qa]; simp
    | false =>
      show lcLoop step (L.map s) h acc = _
      rw [ih, List.filter_cons_of_neg (by simp [qa])]
theorem lc_G {α : Type} {t : T} {src cond elt : X} {L : List α} (s : α → PyData) (q : α → Bool) (m : α → PyData) (hs : evSrc C th false src env h = .ok (L.map s) h) (l : L.length ≤ lineN)
    (he : ∀ a ∈ L, ∃ env' fr, bindT t (s a) env = some env' ∧ evC C th false cond env' h = .ok (q a) h ∧ evE C th false elt env' h = .ok (.d (m a), fr) h) :
    evE C th false (.lc t src cond elt) env h = .ok (.d (.list ((L.filter q).map m)), true) h := by
  have lp := lcLoop_G (h := h) (step := fun x h => match bindT t x env with
        | some env' => (evC C th false cond env' h).bind fun b h => match b with
          | true => (evE C th false elt env' h).bind fun y h => match y.1 with
            | .d y => .ok (some y) h
            | _ => .no
          | false => .ok none h
        | none => .no) s q m L [] fun a ha => by
    obtain ⟨env', fr, q1, q3, q4⟩ := he a ha
    cases qa : q a with
    | true => simp only [q1, q3, qa, Pv.R.bind, q4, if_true]
    | false => simp only [q1, q3, qa, Pv.R.bind]; rfl
  rw [evE, hs]
  show (match decide ((L.map s).length ≤ lineN) with
      | false => Pv.R.no
      | true => (lcLoop (fun x h => match bindT t x env with
        | some env' => (evC C th false cond env' h).bind fun b h => match b with
          | true => (evE C th false elt env' h).bind fun y h => match y.1 with
            | .d y => .ok (some y) h
            | _ => .no
          | false => .ok none h
        | none => .no) (L.map s) h []).bind fun ys h => Pv.R.ok (PV.d (.list ys), true) h) = _
  rw [List.length_map, decide_eq_true l]
  show (lcLoop _ (L.map s) h []).bind _ = _
  rw [lp]; rfl
theorem evC_of {a : X} {b fr : Bool} (e : evE C th false a env h = .ok (.d (.bool b), fr) h) : evC C th false (.cons a .nil) env h = .ok b h := by
  simp only [evC, e, Pv.R.bind, truth]
theorem evC_nil : evC C th false .nil env h = .ok true h := by simp only [evC]
/-- the numbers of a lot that pass -/
theorem lc_nat {l : Lot} {t : Nat} {src cond : X} (q : Nat → Bool) (hs : evSrc C th false src env h = .ok (nD l) h) (hl : l.length ≤ lineN) (lt : t < env.length)
    (he : ∀ k ∈ l, ∃ fr, evE C th false cond (env.set t (some (iP k, false))) h = .ok (.d (.bool (q k)), fr) h) :
    evE C th false (.lc (.v t) src (.cons cond .nil) (.var t)) env h = .ok (.d (.list (nD (l.filter q))), true) h := by
  refine lc_G (L := l) (fun i => .int (i : Nat)) q (fun i => .int (i : Nat)) hs hl fun k hk => ?_
  obtain ⟨fr, e⟩ := he k hk
  exact ⟨_, false, rfl, evC_of e, var_ok (o := false) (List.getElem?_set_self lt)⟩
end
theorem for_cntB {step : PyData → Pv.Env → HS → ResS} {I : Nat → Pv.Env → HS → Prop} {B : Nat} : ∀ (xs : List PyData) (n : Nat) (env : Pv.Env) (h : HS), n + xs.length ≤ B → (∀ x ∈ xs, ∀ n env h, n < B → I n env h → ∃ env' h', I (n + 1) env' h' ∧ step x env h = .ok (.nx, env') h') → I n env h →
    ∃ env' h', I (n + xs.length) env' h' ∧ forLoop step xs env h = .ok (.nx, env') h'
  | [], n, env, h, _, _, i => ⟨env, h, i, rfl⟩
  | x :: r, n, env, h, l, s, i => by
    rw [List.length_cons] at l
    obtain ⟨e1, h1, i1, q1⟩ := s x (List.mem_cons_self ..) n env h (by omega) i
    obtain ⟨e2, h2, i2, q2⟩ := for_cntB r (n + 1) e1 h1 (by omega) (fun y hy => s y (List.mem_cons_of_mem _ hy)) i1
    refine ⟨e2, h2, by rw [show n + (x :: r).length = n + 1 + r.length by simp; omega]; exact i2, ?_⟩
    rw [forLoop, q1]; exact q2
theorem seq3 {C : Pv.Callee} {th : Pv.Thunk} {hot : Bool} {fu : Nat} {a b c r : S} {env env' : Pv.Env} {h h' : HS} (e : evS C th hot fu (.seq a (.seq b c)) env h = .ok (.nx, env') h') : evS C th hot fu (.seq a (.seq b (.seq c r))) env h = evS C th hot fu r env' h' := by
  rw [evS] at e ⊢
  revert e
  cases evS C th hot fu a env h with
  | ok o h1 =>
    obtain ⟨o, env1⟩ := o
    cases o with
    | nx =>
      intro e
      show evS C th hot fu (.seq b (.seq c r)) env1 h1 = _
      have e : evS C th hot fu (.seq b c) env1 h1 = .ok (.nx, env') h' := e
      rw [evS] at e ⊢
      revert e
      cases evS C th hot fu b env1 h1 with
      | ok o h2 =>
        obtain ⟨o, env2⟩ := o
        cases o with
        | nx =>
          intro e
          exact seq_nx e
        | _ => intro e; cases e
      | _ => intro e; cases e
    | _ => intro e; cases e
  | _ => intro e; cases e
theorem set_old {C : Pv.Callee} {th : Pv.Thunk} {fu i : Nat} {x : X} {z : PyData} {env : Pv.Env} {h h' : HS} (e : evE C th false x env h = .ok (.d z, false) h') : evS C th false fu (.set (.v i) x) env h = .ok (.nx, (leak (.d z) false (vars x) env).set i (some (.d z, false))) h' := by
  rw [set_ok e]
  have : (!false && ownOf (.d z) false) = false := by cases z <;> rfl
  rw [this]
theorem leak_or (x : PyData) (fr : Bool) (vs : List Nat) (env : Pv.Env) : leak (.d x) fr vs env = env ∨ leak (.d x) fr vs env = disownAll env vs := by
  cases e : aliasD x fr with
  | true => exact .inr (by show (match aliasD x fr with | true => disownAll env vs | false => env) = _; rw [e])
  | false => exact .inl (by show (match aliasD x fr with | true => disownAll env vs | false => env) = _; rw [e])
theorem seq_ex {C : Pv.Callee} {th : Pv.Thunk} {hot : Bool} {fu : Nat} {a b : S} {env : Pv.Env} {h h' : HS} {c : Nat} {y : Option PyData} (e : evS C th hot fu a env h = .ex c y h') : evS C th hot fu (.seq a b) env h = .ex c y h' := by
  rw [evS, e]
section
variable {C : Pv.Callee} {fu d : Nat} {th : Pv.Thunk} {h : HS} {env : Pv.Env}
theorem stoI {i : Nat} {a b : X} {j : Int} {z : PyData} {fa fb : Bool} {xs xs' : List PyData} (ow : ownD env i = some (.list xs)) (e1 : evE C th false b env h = .ok (.d z, fb) h) (im : imm z = true) (e2 : evE C th false a env h = .ok (.d (.int j), fa) h)
    (st : setAt xs j z = some xs') : evS C th false fu (.sto i a b) env h = .ok (.nx, reown env i (.list xs')) h := by
  have q := stoL_ok (fu := fu) ow e1 e2 (by rw [noleak im]; exact ow) st
  rw [noleak im] at q
  exact q
theorem any_nD (k : Nat) (l : Lot) : ((nD l).any fun y => PyData.eqv y (.int (k : Nat))) = l.contains k := by
  have := inn_lot k l
  have e : cmpD .inn (.int (k : Nat)) (lD l) = some ((nD l).any fun y => PyData.eqv y (.int (k : Nat))) := by
    show (if PyData.plainAll (nD l) && true && shallow maxDepth (.int (k : Nat)) then some ((nD l).any fun y => PyData.eqv y (.int (k : Nat))) else none) = _
    rw [pl_nD, if_pos (show (true && true && shallow maxDepth (.int (k : Nat))) = true from rfl)]
  rw [this] at e
  exact (Option.some.inj e).symm
theorem nin_lot (k : Nat) (l : Lot) : cmpD .notIn (.int (k : Nat)) (lD l) = some (!l.contains k) := by
  show (if PyData.plainAll (nD l) && true && shallow maxDepth (.int (k : Nat)) then some (!((nD l).any fun y => PyData.eqv y (.int (k : Nat)))) else none) = _
  rw [pl_nD, any_nD, if_pos (show (true && true && shallow maxDepth (.int (k : Nat))) = true from rfl)]
end
theorem mthC_ok {C : Pv.Callee} {th : Pv.Thunk} {h : HS} {hot : Bool} {env : Pv.Env} {h' h2 : HS} {m : Mth} {ob a : X} {ys : List PyData} {y z : PyData} {fa fb : Bool} (e1 : evE C th hot ob env h = .ok (.d (.list ys), fa) h') (e2 : evE C th hot a env h' = .ok (.d y, fb) h2) (q : mthD m (.list ys) [y] = some z) : evE C th hot (.mth m ob (.cons a .nil)) env h = .ok (.d z, mthFresh m) h2 := by
  have hon : mthOn m (.list ys) = true := by cases m <;> first | rfl | (cases q)
  simp only [evE, e1, R.bind, hon, evL, e2, datAll, dat, q, one]
/-- d.get(k, x) -/
theorem get2_ok {C : Pv.Callee} {th : Pv.Thunk} {hot : Bool} {env : Pv.Env} {h h1 h2 h3 : HS} {ob a b : X} {kvs : List (PyData × PyData)} {k z : PyData} {fa fb fc : Bool} (e1 : evE C th hot ob env h = .ok (.d (.dict kvs), fa) h1) (e2 : evE C th hot a env h1 = .ok (.d k, fb) h2) (e3 : evE C th hot b env h2 = .ok (.d z, fc) h3) (hf : keyFor kvs k = true) :
    evE C th hot (.mth .get2 ob (.cons a (.cons b .nil))) env h = .ok (.d ((dictAt kvs k).getD z), false) h3 := by
  have q : mthD .get2 (.dict kvs) [k, z] = some ((dictAt kvs k).getD z) := by
    show (if keyFor kvs k then some ((dictAt kvs k).getD z) else none) = _
    rw [hf]; rfl
  have hon : mthOn .get2 (.dict kvs) = true := rfl
  simp only [evE, e1, R.bind, hon, evL, e2, e3, datAll, dat, q, one, mthFresh]
theorem lcLoop_subM {α : Type} {I : HS → Prop} {step : PyData → HS → Pv.R (Option PyData)} (s m : α → PyData) : ∀ (L : List α) (acc : List PyData) (h : HS), I h → (∀ x ∈ L, ∀ h, I h → ∃ h2, I h2 ∧ (step (s x) h = .ok (some (m x)) h2 ∨ step (s x) h = .ok none h2)) →
    ∃ (ys : List α) (h2 : HS), I h2 ∧ ys.Sublist L ∧ lcLoop step (L.map s) h acc = .ok (acc.reverse ++ ys.map m) h2
  | [], acc, h, i, _ => ⟨[], h, i, List.Sublist.slnil, by rw [List.map_nil, lcLoop]; simp⟩
  | x :: r, acc, h, i, st => by
    obtain ⟨h2, q1, q⟩ := st x (List.mem_cons_self ..) h i
    rcases q with q | q
    · obtain ⟨ys, h3, p1, p2, p3⟩ := lcLoop_subM s m r (m x :: acc) h2 q1 fun y hy => st y (List.mem_cons_of_mem _ hy)
      refine ⟨x :: ys, h3, p1, p2.cons₂ x, ?_⟩
      rw [List.map_cons, lcLoop, q]
      show lcLoop step (r.map s) h2 (m x :: acc) = _
      rw [p3]; simp
    · obtain ⟨ys, h3, p1, p2, p3⟩ := lcLoop_subM s m r acc h2 q1 fun y hy => st y (List.mem_cons_of_mem _ hy)
      refine ⟨ys, h3, p1, p2.cons x, ?_⟩
      rw [List.map_cons, lcLoop, q]
      exact p3
/-- a comprehension that draws which ones it takes -/
theorem lc_subM {α : Type} {C : Pv.Callee} {th : Pv.Thunk} {t : T} {src cond elt : X} {env : Pv.Env} {L : List α} (s m : α → PyData) {I : HS → Prop} {h h' : HS} (e : evSrc C th false src env h = .ok (L.map s) h') (l : L.length ≤ lineN) (i0 : I h')
    (st : ∀ x ∈ L, ∀ h, I h → ∃ env' b h2 fr, bindT t (s x) env = some env' ∧ I h2 ∧ evC C th false cond env' h = .ok b h2 ∧ (b = true → evE C th false elt env' h2 = .ok (.d (m x), fr) h2)) :
    ∃ (ys : List α) (h2 : HS), I h2 ∧ ys.Sublist L ∧ evE C th false (.lc t src cond elt) env h = .ok (.d (.list (ys.map m)), true) h2 := by
  obtain ⟨ys, h2, p1, p2, p3⟩ := lcLoop_subM (I := I) (step := fun x h => match bindT t x env with
        | some env' => (evC C th false cond env' h).bind fun b h => match b with
          | true => (evE C th false elt env' h).bind fun y h => match y.1 with
            | .d y => .ok (some y) h
            | _ => .no
          | false => .ok none h
        | none => .no) s m L [] h' i0 fun x hx h i => by
    obtain ⟨env', b, h2, fr, q1, q2, q3, q4⟩ := st x hx h i
    refine ⟨h2, q2, ?_⟩
    cases b with
    | true => exact .inl (by simp only [q1, q3, Pv.R.bind, q4 rfl])
    | false => exact .inr (by simp only [q1, q3, Pv.R.bind])
  refine ⟨ys, h2, p1, p2, ?_⟩
  rw [evE, e]
  show (match decide ((L.map s).length ≤ lineN) with
      | false => Pv.R.no
      | true => (lcLoop (fun x h => match bindT t x env with
        | some env' => (evC C th false cond env' h).bind fun b h => match b with
          | true => (evE C th false elt env' h).bind fun y h => match y.1 with
            | .d y => .ok (some y) h
            | _ => .no
          | false => .ok none h
        | none => .no) (L.map s) h' []).bind fun ys h => Pv.R.ok (PV.d (.list ys), true) h) = _
  rw [List.length_map, decide_eq_true l]
  show (lcLoop _ (L.map s) h' []).bind _ = _
  rw [p3]; rfl
theorem rng2_ok {C : Pv.Callee} {th : Pv.Thunk} {hot : Bool} {env : Pv.Env} {h h' h2 : HS} {a b : X} {i j : Int} {fa fb : Bool} (e : evE C th hot a env h = .ok (.d (.int i), fa) h') (e2 : evE C th hot b env h' = .ok (.d (.int j), fb) h2) (q : rngOk i = true) (q2 : rngOk j = true) : evSrc C th hot (.sRng2 a b) env h = .ok (rangeL i j) h2 := by
  simp only [evSrc, e, e2, R.bind, q, q2, Bool.and_self]
theorem rng_in {i : Int} (a : -8000000 ≤ i) (b : i ≤ 8000000) : rngOk i = true := by unfold rngOk; simp; omega
/-- a for over range(n), told by how many turns are behind -/
theorem for_rng {step : PyData → Pv.Env → HS → ResS} {I : Nat → Pv.Env → HS → Prop} (n : Nat) (st : ∀ i, i < n → ∀ env h, I i env h → ∃ env' h', I (i + 1) env' h' ∧ step (.int (i : Nat)) env h = .ok (.nx, env') h') (env : Pv.Env) (h : HS) (i0 : I 0 env h) :
    ∃ env' h', I n env' h' ∧ forLoop step (nD (List.range n)) env h = .ok (.nx, env') h' := by
  have g : ∀ (m k : Nat), k + m = n → ∀ env h, I k env h → ∃ env' h', I n env' h' ∧ forLoop step (nD (List.range' k m)) env h = .ok (.nx, env') h' := by
    intro m
    induction m with
    | zero => intro k e env h i; exact ⟨env, h, by rw [show n = k by omega]; exact i, by rw [List.range'_zero]; rfl⟩
    | succ m ih =>
      intro k e env h i
      obtain ⟨e1, h1, i1, q1⟩ := st k (by omega) env h i
      obtain ⟨e2, h2, i2, q2⟩ := ih (k + 1) (by omega) e1 h1 i1
      refine ⟨e2, h2, i2, ?_⟩
      rw [List.range'_succ]
      show forLoop step (PyData.int (k : Nat) :: nD (List.range' (k + 1) m)) env h = _
      rw [forLoop, q1]; exact q2
  rw [List.range_eq_range']
  exact g n 0 (by omega) env h i0
theorem rng_nD (n : Nat) : rangeL 0 ((n : Nat) : Int) = nD (List.range n) := by
  unfold rangeL nD
  rw [show (((n : Nat) : Int) - 0).toNat = n by omega]
  refine List.map_congr_left fun k _ => ?_
  rw [Int.zero_add]
/-- xs.extend(..) of things without lists -/
theorem extI_ok {C : Callee} {th : Thunk} {fu i : Nat} {x : X} {xs ys : List PyData} {fr : Bool} {env : Env} {h h' : HS} (o1 : ownD env i = some (.list xs)) (e : evE C th false x env h = .ok (.d (.list ys), true) h') (im : immAll ys = true) (l : xs.length + ys.length ≤ lineN) :
    evS C th false fu (.ext i x) env h = .ok (.nx, reown env i (.list (xs ++ ys))) h' := by
  simp only [evS, o1, e, R.bind, noleakL im, decide_eq_true l]
/-! ### the small ones of every law -/
def fnInt : Fn := ⟨1, 1, (.ret (.and (.prim .isInt (.cons (.var 0) .nil)) (.not (.prim .isBool (.cons (.var 0) .nil)))))⟩
def fnWithin : Fn := ⟨3, 3, (.ret (.and (.call 0 (.cons (.var 0) .nil)) (.chain .le .le (.var 1) (.var 0) (.var 2))))⟩
def fnSized : Fn := ⟨3, 3, (.ret (.and (.prim .isTuple (.cons (.var 0) .nil)) (.chain .le .le (.var 1) (.prim .len (.cons (.var 0) .nil)) (.var 2))))⟩
structure Basic (P : List Fn) : Prop where
  h0 : P[0]? = some fnInt
  h1 : P[1]? = some fnWithin
  h2 : P[2]? = some fnSized
section
variable {P : List Fn} {fu d : Nat} {th : Thunk} {h : HS}
theorem Basic.int (b : Basic P) (i : Int) : evF P fu (d + 1) 0 [.d (.int i)] th h = .ok (.d (.bool true), true) h :=
  evF_rt (env' := [some (.d (.int i), false)]) b.h0 rfl (ret_ok ((and_t (fa := true) (h' := h) rfl).trans rfl))
theorem Basic.within (b : Basic P) (i lo hi : Int) : evF P fu (d + 2) 1 [.d (.int i), .d (.int lo), .d (.int hi)] th h = .ok (.d (.bool (decide (lo ≤ i) && decide (i ≤ hi))), true) h := by
  refine evF_rt (fn := fnWithin) (env' := [some (.d (.int i), false), some (.d (.int lo), false), some (.d (.int hi), false)]) b.h1 rfl (ret_ok ?_)
  exact (and_t (fa := true) (h' := h) ((callE_ok (vs := [(.d (.int i), false)]) rfl rfl).trans (b.int i))).trans (chain_le (fa := false) (fb := false) (fc := false) (var_ok rfl) (var_ok rfl) (var_ok rfl))
theorem Basic.within_t (b : Basic P) {i lo hi : Int} (x : lo ≤ i) (y : i ≤ hi) : evF P fu (d + 2) 1 [.d (.int i), .d (.int lo), .d (.int hi)] th h = .ok (.d (.bool true), true) h := by
  rw [b.within, decide_eq_true x, decide_eq_true y]; rfl
theorem Basic.sized (b : Basic P) (xs : List PyData) (lo hi : Int) : evF P fu (d + 1) 2 [.d (.tuple xs), .d (.int lo), .d (.int hi)] th h = .ok (.d (.bool (decide (lo ≤ xs.length) && decide ((xs.length : Int) ≤ hi))), true) h := by
  refine evF_rt (fn := fnSized) (env' := [some (.d (.tuple xs), false), some (.d (.int lo), false), some (.d (.int hi), false)]) b.h2 rfl (ret_ok ?_)
  exact (and_t (fa := true) (h' := h) rfl).trans (chain_le (fa := false) (fb := true) (fc := false) (var_ok rfl) (prim1 (x := .tuple xs) (fa := false) (var_ok rfl) rfl) (var_ok rfl))
theorem Basic.sized_t (b : Basic P) {xs : List PyData} {lo hi : Int} (x : lo ≤ xs.length) (y : (xs.length : Int) ≤ hi) : evF P fu (d + 1) 2 [.d (.tuple xs), .d (.int lo), .d (.int hi)] th h = .ok (.d (.bool true), true) h := by
  rw [b.sized, decide_eq_true x, decide_eq_true y]; rfl
end
/-! ### draws -/
/-- a hand, as a draw finds and leaves it -/
def HV (h : HS) : Prop := ∃ (cs : List Int) (p g m c : Int), h = [.list (cs.map .int), .int p, .int g, .int m, .int c] ∧ (∀ z ∈ cs, 0 ≤ z) ∧ 0 ≤ p ∧ 0 ≤ g
theorem get_cell {cs : List Int} {p : Int} (hp : 0 ≤ p) (hl : p < cs.length) : ∃ z, z ∈ cs ∧ atD (cs.map .int) p = some (.int z) := by
  have : p.toNat < cs.length := by omega
  refine ⟨cs[p.toNat], List.getElem_mem _, ?_⟩
  unfold atD atG
  rw [if_pos hp, List.getElem?_map, List.getElem?_eq_getElem this]; rfl
def mixA (a b M : Int) : X := .bin .mod (.prim .int (.cons (.bin .add (.bin .add (.bin .mul (.idx (.var 0) (.cst (.int 3))) (.cst (.int a))) (.var 2)) (.cst (.int b))) .nil)) (.cst (.int M))
def mixC (a c b M : Int) : X := .bin .mod (.prim .int (.cons (.bin .add (.bin .add (.bin .mul (.idx (.var 0) (.cst (.int 3))) (.cst (.int a))) (.bin .mul (.var 2) (.cst (.int c)))) (.cst (.int b))) .nil)) (.cst (.int M))
/-- a draw: its mix, its seven numbers -/
def drawFn (mx : X) (k0 k1 m1 k2 k3 m2 k4 k5 m3 k6 : Int) : Fn := ⟨2, 5, (.seq (.ite (.and (.cmp .eq (.idx (.var 0) (.cst (.int 2))) (.cst (.int 0))) (.cmp .lt (.idx (.var 0) (.cst (.int 1))) (.prim .len (.cons (.idx (.var 0) (.cst (.int 0))) .nil))))
 (.seq (.set (.v 2) (.idx (.idx (.var 0) (.cst (.int 0))) (.idx (.var 0) (.cst (.int 1)))))
 (.seq (.sto 0 (.cst (.int 1)) (.bin .add (.idx (.var 0) (.cst (.int 1))) (.cst (.int 1))))
 (.seq (.sto 0 (.cst (.int 3)) mx)
 (.ite (.cmp .ge (.var 2) (.bin .pow (.cst (.int 10)) (.cst (.int 18))))
 (.sto 0 (.cst (.int 2)) (.var 2))
 .skip))))
 .skip)
 (.seq (.ite (.cmp .gt (.idx (.var 0) (.cst (.int 2))) (.cst (.int 0)))
 (.seq (.set (.v 3) (.bin .mod (.prim .int (.cons (.idx (.var 0) (.cst (.int 2))) .nil)) (.var 1)))
 (.seq (.sto 0 (.cst (.int 2)) (.bin .fdiv (.idx (.var 0) (.cst (.int 2))) (.var 1)))
 (.retV 3)))
 .skip)
 (.seq (.sto 0 (.cst (.int 4)) (.bin .add (.idx (.var 0) (.cst (.int 4))) (.cst (.int 1))))
 (.seq (.set (.v 4) (.bin .mod (.prim .int (.cons (.bin .mul (.prim .int (.cons (.bin .add (.idx (.var 0) (.cst (.int 3))) (.bin .mul (.cst (.int k0)) (.idx (.var 0) (.cst (.int 4))))) .nil)) (.cst (.int k1))) .nil)) (.cst (.int m1))))
 (.seq (.set (.v 4) (.bin .mod (.prim .int (.cons (.bin .mul (.var 4) (.bin .add (.bin .fdiv (.var 4) (.cst (.int k2))) (.cst (.int k3)))) .nil)) (.cst (.int m2))))
 (.seq (.set (.v 4) (.bin .mod (.prim .int (.cons (.bin .mul (.var 4) (.bin .add (.bin .fdiv (.var 4) (.cst (.int k4))) (.cst (.int k5)))) .nil)) (.cst (.int m3))))
 (.ret (.bin .mod (.prim .int (.cons (.bin .fdiv (.var 4) (.cst (.int k6))) .nil)) (.var 1)))))))))⟩
/-- the mix tells a number -/
def MixOk (mx : X) : Prop := ∀ (C : Callee) (th : Thunk) (cs : List Int) (p g m c z : Int) (e0 e1 e3 e4 : SL), ∃ m' : Int, evE C th false mx [some (.hand, false), e1, some (.d (.int z), false), e3, e4] [.list (cs.map .int), .int p, .int g, .int m, .int c] = .ok (.d (.int m'), true) [.list (cs.map .int), .int p, .int g, .int m, .int c]
theorem mixA_ok {a b M : Int} (sa : small64 a = true) (hM : 0 < M) : MixOk (mixA a b M) := fun C th cs p g m c z e0 e1 e3 e4 =>
  ⟨(m * a + z + b) % M, bin_is (fb := true) (int_ok (fa := true) (bin_is (fb := true) (bin_is (x := .int (m * a)) (y := .int z) (fa := true) (fb := false) (bin_is (x := .int m) (fa := false) (fb := true) (get_ok rfl rfl) rfl (mul_is (.inr sa))) (var_ok rfl) rfl) rfl rfl)) rfl (mod_is hM)⟩
theorem mixC_ok {a c b M : Int} (sa : small64 a = true) (sc : small64 c = true) (hM : 0 < M) : MixOk (mixC a c b M) := fun C th cs p g m n z e0 e1 e3 e4 =>
  ⟨(m * a + z * c + b) % M, bin_is (fb := true) (int_ok (fa := true) (bin_is (fb := true) (bin_is (bin_is (x := .int m) (fa := false) (fb := true) (get_ok rfl rfl) rfl (mul_is (.inr sa))) (bin_is (x := .int z) (fa := false) (fb := true) (var_ok rfl) rfl (mul_is (.inr sc))) rfl) rfl rfl)) rfl (mod_is hM)⟩
structure DrawNs (k1 m1 k2 k3 m2 k4 k5 m3 k6 : Int) : Prop where
  a1 : small64 k1 = true
  a2 : 0 < m1 ∧ m1 < 1000000000000
  a3 : 0 < k2 ∧ k2 < 1073741824
  a4 : 0 < m2 ∧ m2 < 1000000000000
  a5 : 0 < k4 ∧ k4 < 1073741824
  a6 : 0 < m3
  a7 : 0 < k6 ∧ k6 < 1073741824
theorem draw_gen {P : List Fn} {mx : X} {k0 k1 m1 k2 k3 m2 k4 k5 m3 k6 : Int} (mo : MixOk mx) (s0 : small64 k0 = true) (ns : DrawNs k1 m1 k2 k3 m2 k4 k5 m3 k6) {f fu d : Nat} {th : Thunk} (hf : P[f]? = some (drawFn mx k0 k1 m1 k2 k3 m2 k4 k5 m3 k6)) {h : HS} (hv : HV h) {many : Int} (q0 : 0 < many) (q1 : many < 1073741824) :
    ∃ (r : Int) (b : Bool) (h' : HS), 0 ≤ r ∧ r < many ∧ HV h' ∧ evF P fu (d + 1) f [.hand, .d (.int many)] th h = .ok (.d (.int r), b) h' := by
  obtain ⟨cs, p, g, m, c, rfl, hc, hp, hg⟩ := hv
  let E (e2 : SL) : Pv.Env := [some (.hand, false), some (.d (.int many), false), e2, none, none]
  let H (p g m c : Int) : HS := [.list (cs.map .int), .int p, .int g, .int m, .int c]
  have s1 : ∃ (e2 : SL) (p' g' m' : Int), 0 ≤ p' ∧ 0 ≤ g' ∧ ∀ r, evS (evF P fu d) th false fu (.seq (.ite (.and (.cmp .eq (.idx (.var 0) (.cst (.int 2))) (.cst (.int 0))) (.cmp .lt (.idx (.var 0) (.cst (.int 1))) (.prim .len (.cons (.idx (.var 0) (.cst (.int 0))) .nil))))
     (.seq (.set (.v 2) (.idx (.idx (.var 0) (.cst (.int 0))) (.idx (.var 0) (.cst (.int 1)))))
     (.seq (.sto 0 (.cst (.int 1)) (.bin .add (.idx (.var 0) (.cst (.int 1))) (.cst (.int 1))))
     (.seq (.sto 0 (.cst (.int 3)) mx)
     (.ite (.cmp .ge (.var 2) (.bin .pow (.cst (.int 10)) (.cst (.int 18))))
     (.sto 0 (.cst (.int 2)) (.var 2))
     .skip)))) .skip) r) (E none) (H p g m c) = evS (evF P fu d) th false fu r (E e2) (H p' g' m' c) := by
    by_cases q : g = 0
    · subst q
      by_cases hl : p < cs.length
      · obtain ⟨z, hz, ez⟩ := get_cell hp hl
        have z0 := hc z hz
        obtain ⟨m', em⟩ := mo (evF P fu d) th cs (p + 1) 0 m c z none (some (.d (.int many), false)) none none
        refine ⟨some (.d (.int z), false), p + 1, if (1000000000000000000 : Int) ≤ z then z else 0, m', by omega, by split <;> omega, fun r => seq_nx ?_⟩
        refine (ite_t (fr := true) (h' := H p 0 m c) ((and_t (fa := true) (h' := H p 0 m c) rfl).trans (cmp_ok (x := .int p) (y := .int cs.length) (q := true) rfl ((len_ok (fa := false) (xs := cs.map .int) rfl).trans (by rw [List.length_map])) (by show some (decide (p < (cs.length : Int))) = _; rw [decide_eq_true hl])))).trans ?_
        refine (seq_nx (env' := E (some (.d (.int z), false))) (h' := H p 0 m c) (set_ok (idx_is (x := .list (cs.map .int)) (y := .int p) (fa := false) (fb := false) rfl rfl ez))).trans ?_
        refine (seq_nx (sto_ok (o := false) (j := 1) (y := .int (p + 1)) (fa := true) (fb := true) (h' := H p 0 m c) (h2 := H p 0 m c) (h3 := H (p + 1) 0 m c) rfl rfl rfl rfl rfl)).trans ?_
        refine (seq_nx (sto_ok (o := false) (j := 3) (y := .int m') (fa := true) (fb := true) (h' := H (p + 1) 0 m c) (h2 := H (p + 1) 0 m c) (h3 := H (p + 1) 0 m' c) rfl em rfl rfl rfl)).trans ?_
        by_cases w : (1000000000000000000 : Int) ≤ z
        · rw [if_pos w]
          refine (ite_t (fr := true) (h' := H (p + 1) 0 m' c) (cmp_ok (x := .int z) (y := .int 1000000000000000000) (fa := false) (fb := true) (var_ok rfl) rfl (by show some (decide ((1000000000000000000 : Int) ≤ z)) = _; rw [decide_eq_true w]))).trans ?_
          exact sto_ok (o := false) (j := 2) (y := .int z) (fa := false) (fb := true) rfl (var_ok rfl) rfl rfl rfl
        · rw [if_neg w]
          exact ite_f (fr := true) (h' := H (p + 1) 0 m' c) (cmp_ok (x := .int z) (y := .int 1000000000000000000) (fa := false) (fb := true) (var_ok rfl) rfl (by show some (decide ((1000000000000000000 : Int) ≤ z)) = _; rw [decide_eq_false w]))
      · refine ⟨none, p, 0, m, hp, by omega, fun r => seq_nx ?_⟩
        exact ite_f (fr := true) (h' := H p 0 m c) ((and_t (fa := true) (h' := H p 0 m c) rfl).trans (cmp_ok (x := .int p) (y := .int cs.length) (q := false) rfl ((len_ok (fa := false) (xs := cs.map .int) rfl).trans (by rw [List.length_map])) (by show some (decide (p < (cs.length : Int))) = _; rw [decide_eq_false hl])))
    · refine ⟨none, p, g, m, hp, hg, fun r => seq_nx ?_⟩
      exact ite_f (fr := true) (h' := H p g m c) (and_f (fa := true) (h' := H p g m c) (cmp_ok (x := .int g) (y := .int 0) (fa := false) (fb := true) (get_ok rfl rfl) rfl (by show some (g == 0) = _; rw [beq_eq_false_iff_ne.mpr q])))
  obtain ⟨e2, p', g', m', hp', hg', s1⟩ := s1
  by_cases hgp : 0 < g'
  · refine ⟨g' % many, false, H p' (g' / many) m' c, Int.emod_nonneg _ (by omega), Int.emod_lt_of_pos _ q0, ⟨cs, p', g' / many, m', c, rfl, hc, hp', Int.ediv_nonneg hg' (by omega)⟩, ?_⟩
    refine evF_rt (env' := [some (.hand, false), some (.d (.int many), false), e2, some (.d (.int (g' % many)), false), none]) hf rfl ((s1 _).trans (seq_rt ?_))
    refine (ite_t (fr := true) (h' := H p' g' m' c) (cmp_ok (x := .int g') (y := .int 0) (fa := false) (fb := true) (get_ok rfl rfl) rfl (by show some (decide (0 < g')) = _; rw [decide_eq_true hgp]))).trans ?_
    refine (seq_nx (env' := [some (.hand, false), some (.d (.int many), false), e2, some (.d (.int (g' % many)), false), none]) (h' := H p' g' m' c) (set_ok (bin_is (int_ok (fa := false) (get_ok rfl rfl)) (var_ok rfl) (mod_is q0)))).trans ?_
    refine (seq_nx (sto_ok (o := false) (j := 2) (y := .int (g' / many)) (fa := true) (fb := true) (h' := H p' g' m' c) (h2 := H p' g' m' c) (h3 := H p' (g' / many) m' c) rfl (bin_is (x := .int g') (y := .int many) (fa := false) (fb := false) (get_ok rfl rfl) (var_ok rfl) (div_is q0 q1)) rfl rfl rfl)).trans ?_
    exact retV_ok rfl
  · have g0 : g' = 0 := by omega
    subst g0
    obtain ⟨a1, a2, a3, a4, a5, a6, a7⟩ := ns
    let n1 : Int := ((m' + k0 * (c + 1)) * k1) % m1
    have hn1 : 0 ≤ n1 ∧ n1 < m1 := ⟨Int.emod_nonneg _ (by omega), Int.emod_lt_of_pos _ a2.1⟩
    let n2 : Int := (n1 * (n1 / k2 + k3)) % m2
    have hn2 : 0 ≤ n2 ∧ n2 < m2 := ⟨Int.emod_nonneg _ (by omega), Int.emod_lt_of_pos _ a4.1⟩
    let n3 : Int := (n2 * (n2 / k4 + k5)) % m3
    let E4 (n : Int) : Pv.Env := [some (.hand, false), some (.d (.int many), false), e2, none, some (.d (.int n), false)]
    refine ⟨(n3 / k6) % many, true, H p' 0 m' (c + 1), Int.emod_nonneg _ (by omega), Int.emod_lt_of_pos _ q0, ⟨cs, p', 0, m', c + 1, rfl, hc, hp', hg'⟩, ?_⟩
    refine evF_rt (env' := E4 n3) hf rfl ((s1 _).trans ?_)
    refine (seq_nx (env' := E e2) (h' := H p' 0 m' c) (ite_f (fr := true) (h' := H p' 0 m' c) (cmp_ok (x := .int 0) (y := .int 0) (fa := false) (fb := true) (get_ok rfl rfl) rfl rfl))).trans ?_
    refine (seq_nx (sto_ok (o := false) (j := 4) (y := .int (c + 1)) (fa := true) (fb := true) (h' := H p' 0 m' c) (h2 := H p' 0 m' c) (h3 := H p' 0 m' (c + 1)) rfl (bin_is (x := .int c) (fa := false) (fb := true) (get_ok rfl rfl) rfl rfl) rfl rfl rfl)).trans ?_
    refine (seq_nx (env' := E4 n1) (h' := H p' 0 m' (c + 1)) (set_ok (bin_is (fb := true) (int_ok (fa := true) (bin_is (fb := true) (int_ok (fa := true) (bin_is (x := .int m') (fa := false) (fb := true) (get_ok rfl rfl) (bin_is (x := .int k0) (y := .int (c + 1)) (fa := true) (fb := false) rfl (get_ok rfl rfl) (mul_is (.inl s0))) rfl)) rfl (mul_is (.inr a1)))) rfl (mod_is a2.1)))).trans ?_
    refine (seq_nx (env' := E4 n2) (h' := H p' 0 m' (c + 1)) (set_ok (bin_is (fb := true) (int_ok (fa := true) (bin_is (x := .int n1) (fa := false) (fb := true) (var_ok rfl) (bin_is (fb := true) (bin_is (x := .int n1) (fa := false) (fb := true) (var_ok rfl) rfl (div_is a3.1 a3.2)) rfl rfl) (mul_is (.inl (small_int hn1.1 (by omega)))))) rfl (mod_is a4.1)))).trans ?_
    refine (seq_nx (env' := E4 n3) (h' := H p' 0 m' (c + 1)) (set_ok (bin_is (fb := true) (int_ok (fa := true) (bin_is (x := .int n2) (fa := false) (fb := true) (var_ok rfl) (bin_is (fb := true) (bin_is (x := .int n2) (fa := false) (fb := true) (var_ok rfl) rfl (div_is a5.1 a5.2)) rfl rfl) (mul_is (.inl (small_int hn2.1 (by omega)))))) rfl (mod_is a6)))).trans ?_
    exact ret_ok (bin_is (fb := false) (int_ok (fa := true) (bin_is (x := .int n3) (fa := false) (fb := true) (var_ok rfl) rfl (div_is a7.1 a7.2))) (var_ok rfl) (mod_is q0))
/-- what every law of draws has: a draw at place f -/
def Draws (P : List Fn) (f : Nat) : Prop := ∀ {fu d : Nat} {th : Thunk} {h : HS}, HV h → ∀ {many : Int}, 0 < many → many < 1073741824 → ∃ (r : Int) (b : Bool) (h' : HS), 0 ≤ r ∧ r < many ∧ HV h' ∧ evF P fu (d + 1) f [.hand, .d (.int many)] th h = .ok (.d (.int r), b) h'
def someFn (f : Nat) : Fn := ⟨2, 2, (.ret (.idx (.var 1) (.call f (.cons (.var 0) (.cons (.prim .len (.cons (.var 1) .nil)) .nil)))))⟩
section
variable {P : List Fn} {f g fu d : Nat} {th : Thunk} {h : HS}
/-- one of a list -/
theorem any_gen (D : Draws P f) (hg : P[g]? = some (someFn f)) (hv : HV h) {xs : List PyData} (l0 : 0 < xs.length) (l1 : xs.length < 1000000) : ∃ (z : PyData) (h' : HS), z ∈ xs ∧ HV h' ∧ evF P fu (d + 2) g [.hand, .d (.list xs)] th h = .ok (.d z, false) h' := by
  obtain ⟨r, b, h', r0, r1, hv', e⟩ := D (fu := fu) (d := d) (th := fun _ => .no) hv (many := xs.length) (by omega) (by omega)
  have lt : r.toNat < xs.length := by omega
  refine ⟨xs[r.toNat], h', List.getElem_mem _, hv', ?_⟩
  refine evF_rt hg rfl (ret_ok (idx_is (x := .list xs) (y := .int r) (fa := false) (fb := b) (var_ok rfl) ((callE_ok (vs := [(.hand, false), (.d (.int xs.length), true)]) rfl rfl).trans e) ?_))
  show atD xs r = _
  unfold atD atG
  rw [if_pos r0, List.getElem?_eq_getElem lt]
/-- one of a tuple -/
theorem anyT_gen (D : Draws P f) (hg : P[g]? = some (someFn f)) (hv : HV h) {xs : List PyData} (l0 : 0 < xs.length) (l1 : xs.length < 1000000) : ∃ (z : PyData) (h' : HS), z ∈ xs ∧ HV h' ∧ evF P fu (d + 2) g [.hand, .d (.tuple xs)] th h = .ok (.d z, false) h' := by
  obtain ⟨r, b, h', r0, r1, hv', e⟩ := D (fu := fu) (d := d) (th := fun _ => .no) hv (many := xs.length) (by omega) (by omega)
  have lt : r.toNat < xs.length := by omega
  refine ⟨xs[r.toNat], h', List.getElem_mem _, hv', ?_⟩
  refine evF_rt hg rfl (ret_ok (idx_is (x := .tuple xs) (y := .int r) (fa := false) (fb := b) (var_ok rfl) ((callE_ok (vs := [(.hand, false), (.d (.int xs.length), true)]) rfl rfl).trans e) ?_))
  show atD xs r = _
  unfold atD atG
  rw [if_pos r0, List.getElem?_eq_getElem lt]
/-- a draw, as an expression: the hand in slot i, the bound mx -/
theorem dr_gen (D : Draws P f) {env : Pv.Env} {mx : X} {m : Int} {i : Nat} {o fr : Bool} (hv : HV h) (m0 : 0 < m) (m1 : m < 1000000) (e0 : env[i]? = some (some (.hand, o))) (em : evE (evF P fu (d + 1)) th false mx env h = .ok (.d (.int m), fr) h) :
    ∃ r b h', 0 ≤ r ∧ r < m ∧ HV h' ∧ evE (evF P fu (d + 1)) th false (.call f (.cons (.var i) (.cons mx .nil))) env h = .ok (.d (.int r), b) h' := by
  obtain ⟨r, b, h', r0, r1, hv', q⟩ := D (fu := fu) (d := d) (th := fun _ => .no) hv m0 (by omega)
  exact ⟨r, b, h', r0, r1, hv', (callE_ok (vs := [(.hand, false), (.d (.int m), fr)]) (cons_ok (var_ok e0) (cons_ok em rfl)) rfl).trans q⟩
end
/-- the families of draws -/
def drawA : Fn := drawFn (mixA 48271 31 2147483647) 6151 40692 2147483399 1223 52027 2147483629 2671 69621 2147483647 32
def drawB : Fn := drawFn (mixC 69621 48271 41 2147483629) 7919 40692 2147483647 1009 69621 2147483647 2003 40014 2147483563 16
def drawC : Fn := drawFn (mixC 69621 40692 31 2147483629) 7919 48271 2147483647 1009 69621 2147483647 2003 40014 2147483563 16
def drawC2 : Fn := drawFn (mixC 69621 40692 17 2147483629) 7919 48271 2147483647 1009 69621 2147483647 2003 40014 2147483563 16
def drawD : Fn := drawFn (mixA 69621 11 2147483629) 7919 48271 2147483647 1009 69621 2147483647 2003 40692 2147483399 16
theorem Draws.A {P : List Fn} {f : Nat} (e : P[f]? = some drawA) : Draws P f := fun hv _ q0 q1 => draw_gen (mixA_ok rfl (by decide)) rfl ⟨rfl, by decide, by decide, by decide, by decide, by decide, by decide⟩ e hv q0 q1
theorem Draws.B {P : List Fn} {f : Nat} (e : P[f]? = some drawB) : Draws P f := fun hv _ q0 q1 => draw_gen (mixC_ok rfl rfl (by decide)) rfl ⟨rfl, by decide, by decide, by decide, by decide, by decide, by decide⟩ e hv q0 q1
theorem Draws.C {P : List Fn} {f : Nat} (e : P[f]? = some drawC) : Draws P f := fun hv _ q0 q1 => draw_gen (mixC_ok rfl rfl (by decide)) rfl ⟨rfl, by decide, by decide, by decide, by decide, by decide, by decide⟩ e hv q0 q1
theorem Draws.C2 {P : List Fn} {f : Nat} (e : P[f]? = some drawC2) : Draws P f := fun hv _ q0 q1 => draw_gen (mixC_ok rfl rfl (by decide)) rfl ⟨rfl, by decide, by decide, by decide, by decide, by decide, by decide⟩ e hv q0 q1
theorem Draws.D {P : List Fn} {f : Nat} (e : P[f]? = some drawD) : Draws P f := fun hv _ q0 q1 => draw_gen (mixA_ok rfl (by decide)) rfl ⟨rfl, by decide, by decide, by decide, by decide, by decide, by decide⟩ e hv q0 q1
end Pv
/-! text S42 -/
set_option autoImplicit false
set_option linter.all false
set_option maxRecDepth 100000
set_option maxHeartbeats 4000000
namespace Pv
open PySem
theorem eq_self {d : PyData} (p : d.plain = true) (s : shallow maxDepth d = true) : cmpD .eq d d = some true := by
  have e : (cmpD .eq d d = if d.plain && d.plain && shallow maxDepth d then some (PyData.eqv d d) else none) ∨ ∃ i, d = .int i := by
    cases d <;> first | exact .inl rfl | exact .inr ⟨_, rfl⟩
  rcases e with e | ⟨i, rfl⟩
  · rw [e, p, s, PySem.SeqAt.eqv_refl_plain d p]; rfl
  · show some (i == i) = some true
    simp
/-- a law's own look whether two things are the same, kind by kind -/
def fnIs (f : Nat) : Fn := ⟨2, 4, (.seq (.ite (.or (.prim .isTuple (.cons (.var 1) .nil)) (.prim .isList (.cons (.var 1) .nil)))
 (.seq (.ite (.or (.cmp .ne (.prim .isTuple (.cons (.var 0) .nil)) (.prim .isTuple (.cons (.var 1) .nil))) (.cmp .ne (.prim .isList (.cons (.var 0) .nil)) (.prim .isList (.cons (.var 1) .nil))))
 (.ret (.cst (.bool false)))
 .skip)
 (.ret (.and (.cmp .eq (.prim .len (.cons (.var 0) .nil)) (.prim .len (.cons (.var 1) .nil))) (.prim .all (.cons (.lc (.tup (.cons (.v 2) (.cons (.v 3) .nil))) (.sZip (.var 0) (.var 1)) .nil (.call f (.cons (.var 2) (.cons (.var 3) .nil)))) .nil)))))
 .skip)
 (.seq (.ite (.or (.cmp .is (.var 1) (.cst .none)) (.cmp .is (.var 0) (.cst .none)))
 (.ret (.and (.cmp .is (.var 1) (.cst .none)) (.cmp .is (.var 0) (.cst .none))))
 .skip)
 (.seq (.ite (.or (.cmp .ne (.prim .isBool (.cons (.var 0) .nil)) (.prim .isBool (.cons (.var 1) .nil))) (.cmp .ne (.prim .isInt (.cons (.var 0) .nil)) (.prim .isInt (.cons (.var 1) .nil))))
 (.ret (.cst (.bool false)))
 .skip)
 (.ret (.and (.cmp .eq (.prim .isStr (.cons (.var 0) .nil)) (.prim .isStr (.cons (.var 1) .nil))) (.cmp .eq (.var 0) (.var 1)))))))⟩
def isz : Nat → PyData → Bool
  | _, .none | _, .int _ | _, .bool _ | _, .str _ => true
  | _, _ => false
section
variable {P : List Fn} {f fu d : Nat} {h : HS}
theorem zip_self (xs : List PyData) : ((xs.zip xs).map fun p => PyData.tuple [p.1, p.2]) = xs.map fun x => .tuple [x, x] := by
  induction xs with
  | nil => rfl
  | cons x xs ih => simpa using ih
theorem is_flat (hf : P[f]? = some (fnIs f)) {z : PyData} {th : Thunk} (hz : isz 0 z = true) : evF P fu (d + 1) f [.d z, .d z] th h = .ok (.d (.bool true), true) h := by
  let E : Pv.Env := [some (.d z, false), some (.d z, false), none, none]
  have eq : z ≠ .none → ∀ {C : Callee}, evE C th false (.and (.cmp .eq (.prim .isStr (.cons (.var 0) .nil)) (.prim .isStr (.cons (.var 1) .nil))) (.cmp .eq (.var 0) (.var 1))) E h = .ok (.d (.bool true), true) h := fun hn C => by
    have c : cmpD .eq z z = some true := by
      refine eq_self ?_ ?_
      · cases z <;> first | rfl | cases hz
      · cases z <;> first | rfl | cases hz
    refine (and_t (fa := true) (h' := h) ?_).trans (cmp_ok (fa := false) (fb := false) (var_ok rfl) (var_ok rfl) c)
    cases z <;> first | rfl | cases hz
  refine evF_rt (env' := E) hf rfl ?_
  cases z with
  | none => rfl
  | int i =>
    refine (seq_nx (env' := E) (h' := h) rfl).trans ((seq_nx (env' := E) (h' := h) rfl).trans ((seq_nx (env' := E) (h' := h) rfl).trans ?_))
    exact ret_ok (eq (by intro q; cases q))
  | bool i =>
    refine (seq_nx (env' := E) (h' := h) rfl).trans ((seq_nx (env' := E) (h' := h) rfl).trans ((seq_nx (env' := E) (h' := h) rfl).trans ?_))
    exact ret_ok (eq (by intro q; cases q))
  | str i =>
    refine (seq_nx (env' := E) (h' := h) rfl).trans ((seq_nx (env' := E) (h' := h) rfl).trans ((seq_nx (env' := E) (h' := h) rfl).trans ?_))
    exact ret_ok (eq (by intro q; cases q))
  | tuple _ => cases hz
  | list _ => cases hz
  | dict _ => cases hz
theorem is_seq (hf : P[f]? = some (fnIs f)) (tup : Bool) {xs : List PyData} {th : Thunk} (l : xs.length ≤ lineN) (hx : ∀ x ∈ xs, evF P fu d f [.d x, .d x] NT0 h = .ok (.d (.bool true), true) h) : evF P fu (d + 1) f [.d (mkSeq tup xs), .d (mkSeq tup xs)] th h = .ok (.d (.bool true), true) h := by
  let E : Pv.Env := [some (.d (mkSeq tup xs), false), some (.d (mkSeq tup xs), false), none, none]
  have ln : ∀ {i : Nat}, E[i]? = some (some (.d (mkSeq tup xs), false)) → evE (evF P fu d) th false (.prim .len (.cons (.var i) .nil)) E h = .ok (.d (.int xs.length), true) h := fun {i} e => prim1 (x := mkSeq tup xs) (fa := false) (var_ok e) (by cases tup <;> rfl)
  have src : evSrc (evF P fu d) th false (.sZip (.var 0) (.var 1)) E h = .ok (xs.map fun x => .tuple [x, x]) h := by
    rw [← zip_self]
    cases tup <;> rfl
  have al : evE (evF P fu d) th false (.prim .all (.cons (.lc (.tup (.cons (.v 2) (.cons (.v 3) .nil))) (.sZip (.var 0) (.var 1)) .nil (.call f (.cons (.var 2) (.cons (.var 3) .nil)))) .nil)) E h = .ok (.d (.bool true), true) h := by
    have q := lc_G (C := evF P fu d) (th := th) (h := h) (env := E) (t := .tup (.cons (.v 2) (.cons (.v 3) .nil))) (cond := .nil) (elt := .call f (.cons (.var 2) (.cons (.var 3) .nil))) (L := xs) (fun x => .tuple [x, x]) (fun _ => true) (fun _ => .bool true) src l fun x hx' =>
      ⟨[some (.d (mkSeq tup xs), false), some (.d (mkSeq tup xs), false), some (.d x, false), some (.d x, false)], true, rfl, evC_nil, (callE_ok (vs := [(.d x, false), (.d x, false)]) rfl rfl).trans (hx x hx')⟩
    refine prim1 (fa := true) q ?_
    rw [show ((xs.filter fun _ => true).map fun _ => PyData.bool true) = (xs.map fun _ => true).map .bool by rw [List.filter_eq_self.mpr fun _ _ => rfl, List.map_map]; rfl]
    show (bools? _).map (fun bs => PyData.bool (bs.all id)) = _
    rw [bools_of]
    simp
  refine evF_rt (env' := E) hf rfl (seq_rt ?_)
  refine (ite_t (fr := true) (h' := h) (by cases tup <;> rfl)).trans ?_
  refine (seq_nx (env' := E) (h' := h) ((ite_f (fr := true) (h' := h) (by cases tup <;> rfl)).trans rfl)).trans (ret_ok ?_)
  exact (and_t (fa := true) (h' := h) (cmp_ok (x := .int xs.length) (y := .int xs.length) (fa := true) (fb := true) (ln rfl) (ln rfl) (by show some ((xs.length : Int) == xs.length) = _; rw [beq_self_eq_true]))).trans al
/-- no list, no tuple of it is longer than allowed -/
def szl : Nat → PyData → Bool
  | _, .none | _, .int _ | _, .bool _ | _, .str _ => true
  | k + 1, .tuple xs | k + 1, .list xs => decide (xs.length ≤ lineN) && xs.all (szl k)
  | _, _ => false
theorem is_self (hf : P[f]? = some (fnIs f)) : ∀ (k : Nat) {z : PyData} {th : Thunk}, szl k z = true → evF P fu (d + k + 1) f [.d z, .d z] th h = .ok (.d (.bool true), true) h
  | 0, z, th, hz => is_flat hf (by cases z <;> first | rfl | cases hz)
  | k + 1, z, th, hz => by
    have go : ∀ (tup : Bool) (xs : List PyData), (decide (xs.length ≤ lineN) && xs.all (szl k)) = true → evF P fu (d + (k + 1) + 1) f [.d (mkSeq tup xs), .d (mkSeq tup xs)] th h = .ok (.d (.bool true), true) h := fun tup xs hx => by
      simp only [Bool.and_eq_true, decide_eq_true_eq, List.all_eq_true] at hx
      exact is_seq (d := d + (k + 1)) hf tup hx.1 fun x m => is_self hf k (hx.2 x m)
    cases z with
    | tuple xs => exact go true xs hz
    | list xs => exact go false xs hz
    | dict _ => cases hz
    | none => exact is_flat (d := d + (k + 1)) hf rfl
    | int _ => exact is_flat (d := d + (k + 1)) hf rfl
    | bool _ => exact is_flat (d := d + (k + 1)) hf rfl
    | str _ => exact is_flat (d := d + (k + 1)) hf rfl
end
/-- two rising lots of the same numbers are one -/
theorem asc_ext {a b : Lot} (ha : a.Pairwise (· < ·)) (hb : b.Pairwise (· < ·)) (m : ∀ x, x ∈ a ↔ x ∈ b) : a = b := by
  refine List.Perm.eq_of_pairwise (le := (· < ·)) (fun x y _ _ p q => absurd (Nat.lt_trans p q) (Nat.lt_irrefl _)) ha hb ?_
  exact (List.perm_ext_iff_of_nodup (ha.imp fun h => Nat.ne_of_lt h) (hb.imp fun h => Nat.ne_of_lt h)).mpr m
theorem srt_eq {a b : Lot} (nd : a.Nodup) (hb : b.Pairwise (· < ·)) (m : ∀ x, x ∈ a ↔ x ∈ b) : srt a = b :=
  asc_ext (srt_asc nd) hb fun x => ((srt_perm a).mem_iff).trans (m x)
theorem sub_mod {t p L : Nat} (hp : p ≤ L) : ((t : Int) - p) % L = (((t + (L - p)) % L : Nat) : Int) := by
  rw [Int.natCast_emod]
  have : (((t + (L - p) : Nat)) : Int) = ((t : Int) - p) + L := by omega
  rw [this, Int.add_emod_right]
theorem filter_asc (n : Nat) (q : Nat → Bool) : ((List.range n).filter q).Pairwise (· < ·) := List.Pairwise.filter _ List.pairwise_lt_range
theorem all_true {α : Type} (xs : List α) (g : α → PyData) : primD .all [.list ((xs.map g).map fun _ => .bool true)] = some (.bool true) := by
  have : ((xs.map g).map fun _ => PyData.bool true) = (xs.map fun _ => true).map .bool := by simp
  rw [this]
  show (bools? _).map (fun bs => PyData.bool (bs.all id)) = _
  rw [bools_of]
  simp
/-! dicts of numbers, each told true -/
def putT (acc : List (PyData × PyData)) (k : Nat) : List (PyData × PyData) := dictPut acc (.int (k : Nat)) (.bool true)
def dct (l : Lot) : List (PyData × PyData) := l.foldl putT []
def insK (acc : Lot) (k : Nat) : Lot := if acc.contains k then acc else acc ++ [k]
/-- the numbers of a row, each once -/
def kl (l : Lot) : Lot := l.foldl insK []
theorem put_keys {acc : List (PyData × PyData)} {A : Lot} (h : acc.map (·.1) = nD A) (k : Nat) : (putT acc k).map (·.1) = nD (insK A k) := by
  have e : (acc.any fun p => PyData.eqv p.1 (.int (k : Nat))) = A.contains k := by
    rw [← any_nD, ← h, List.any_map]; rfl
  unfold putT dictPut insK
  rw [e]
  cases A.contains k with
  | true =>
    rw [if_pos rfl]
    rw [← h]
    simp
  | false =>
    rw [if_neg Bool.false_ne_true]
    show List.map (·.1) (acc ++ [(PyData.int (k : Nat), PyData.bool true)]) = _
    unfold nD at h ⊢
    rw [List.map_append, h, List.map_append]; rfl
theorem dct_keys (l : Lot) : (dct l).map (·.1) = nD (kl l) := by
  have g : ∀ (l : Lot) (acc : List (PyData × PyData)) (A : Lot), acc.map (·.1) = nD A → (l.foldl putT acc).map (·.1) = nD (l.foldl insK A) := by
    intro l
    induction l with
    | nil => exact fun acc A h => h
    | cons k l ih => exact fun acc A h => ih _ _ (put_keys h k)
  exact g l [] [] rfl
theorem kl_ok (l : Lot) : (kl l).Nodup ∧ (∀ x, x ∈ kl l ↔ x ∈ l) ∧ (kl l).length ≤ l.length := by
  have g : ∀ (l A : Lot), A.Nodup → (l.foldl insK A).Nodup ∧ (∀ x, x ∈ l.foldl insK A ↔ x ∈ A ∨ x ∈ l) ∧ (l.foldl insK A).length ≤ A.length + l.length := by
    intro l
    induction l with
    | nil => exact fun A h => ⟨h, fun x => by simp, Nat.le_refl _⟩
    | cons k l ih =>
      intro A h
      have hn : (insK A k).Nodup ∧ (∀ x, x ∈ insK A k ↔ x ∈ A ∨ x = k) ∧ (insK A k).length ≤ A.length + 1 := by
        unfold insK
        by_cases c : k ∈ A
        · rw [if_pos (by simpa using c)]
          exact ⟨h, fun x => ⟨.inl, fun z => z.elim id fun z => by rw [z]; exact c⟩, by omega⟩
        · rw [if_neg (by simpa using c)]
          refine ⟨?_, fun x => by simp, by simp⟩
          rw [List.nodup_append]
          exact ⟨h, by simp, fun a ha b hb e => c (by rw [List.mem_singleton.mp hb] at e; rw [← e]; exact ha)⟩
      obtain ⟨q1, q2, q3⟩ := ih (insK A k) hn.1
      refine ⟨q1, fun x => ?_, ?_⟩
      · rw [List.foldl_cons, q2, hn.2.1, List.mem_cons]
        exact or_assoc
      · rw [List.foldl_cons, List.length_cons]
        have := hn.2.2
        omega
  obtain ⟨q1, q2, q3⟩ := g l [] List.nodup_nil
  exact ⟨q1, fun x => by rw [show kl l = l.foldl insK [] from rfl, q2]; simp, by have q3 : (kl l).length ≤ ([] : Lot).length + l.length := q3; simpa using q3⟩
theorem dcLoop_nat {step : PyData → HS → R (Option (PyData × PyData))} {h : HS} : ∀ (l : Lot) (acc : List (PyData × PyData)), (∀ k ∈ l, step (.int (k : Nat)) h = .ok (some (.int (k : Nat), .bool true)) h) → dcLoop step (nD l) h acc = .ok (l.foldl putT acc) h
  | [], acc, _ => rfl
  | k :: l, acc, e => by
    show dcLoop step (PyData.int (k : Nat) :: nD l) h acc = _
    rw [dcLoop, e k (List.mem_cons_self ..)]
    show dcLoop step (nD l) h (dictPut acc (.int (k : Nat)) (.bool true)) = _
    rw [dcLoop_nat l _ fun j hj => e j (List.mem_cons_of_mem _ hj)]
    rfl
theorem dc_nat {C : Callee} {th : Thunk} {env : Env} {h h' : HS} {l : Lot} {t : Nat} {src : X} (hs : evSrc C th false src env h = .ok (nD l) h') (hl : l.length ≤ lineN) (lt : t < env.length) : evE C th false (.dc (.v t) src .nil (.var t) (.cst (.bool true))) env h = .ok (.d (.dict (dct l)), true) h' := by
  rw [evE, hs]
  show (match decide ((nD l).length ≤ lineN) with
      | false => R.no
      | true => (dcLoop (fun x h => match bindT (.v t) x env with
        | some env' => (evC C th false .nil env' h).bind fun b h => match b with
          | true => (evE C th false (.var t) env' h).bind fun a h => (evE C th false (.cst (.bool true)) env' h).bind fun y h => match a.1, y.1 with
            | .d a, .d y => .ok (some (a, y)) h
            | _, _ => .no
          | false => .ok none h
        | none => .no) (nD l) h' []).bind fun kvs h => R.ok (PV.d (.dict kvs), true) h) = _
  rw [List.length_map, decide_eq_true hl]
  show (dcLoop _ (nD l) h' []).bind _ = _
  rw [dcLoop_nat l [] fun k hk => ?_]
  · rfl
  · have e1 : bindT (.v t) (.int (k : Nat)) env = some (env.set t (some (iP k, false))) := rfl
    have e2 : evE C th false (.var t) (env.set t (some (iP k, false))) h' = .ok (iP k, false) h' := var_ok (o := false) (List.getElem?_set_self lt)
    simp only [e1, evC_nil, R.bind, e2]
    simp only [evE, R.bind]
theorem pairs_dct : ∀ (l : Lot) (acc : List (PyData × PyData)), pairsS (l.map fun k : Nat => PyData.tuple [.int (k : Nat), .bool true]) acc = some (l.foldl putT acc)
  | [], acc => rfl
  | k :: l, acc => pairs_dct l (putT acc k)
theorem dict_dct (l : Lot) : primD .dict [.list (l.map fun k : Nat => PyData.tuple [.int (k : Nat), .bool true])] = some (.dict (dct l)) := by
  show (pairsS _ []).map PyData.dict = _
  rw [pairs_dct]; rfl
theorem sorted_dct {l : Lot} (hl : l.length < 64) : primD .sorted [.dict (dct l)] = some (.list (nD (srt (kl l)))) := by
  have k1 : ((dct l).all fun p => isIntD p.1) = true := by
    have : ((dct l).all fun p => isIntD p.1) = ((dct l).map (·.1)).all isIntD := by rw [List.all_map]; rfl
    rw [this, dct_keys, List.all_eq_true]
    intro x hx
    obtain ⟨i, _, rfl⟩ := List.mem_map.mp hx
    rfl
  have k2 : (dct l).length < 64 := by
    have := congrArg List.length (dct_keys l)
    rw [List.length_map, List.length_map] at this
    have := (kl_ok l).2.2
    omega
  show (if ((dct l).all fun p => isIntD p.1) && decide ((dct l).length < 64) then some (PyData.list (sortD ((dct l).map (·.1)))) else none) = _
  rw [k1, decide_eq_true k2, dct_keys, srt_nD]; rfl
theorem any_lots {h : HS} {th : Pv.Thunk} {C : Pv.Callee} {L : List Lot} {t : T} {src elt : X} {env : Pv.Env} (b : Lot → Bool) (hs : evSrc C th false src env h = .ok (L.map lD) h) (l : L.length ≤ lineN) (he : ∀ g ∈ L, ∃ env' fr, bindT t (lD g) env = some env' ∧ evE C th false elt env' h = .ok (.d (.bool (b g)), fr) h) :
    evE C th false (.prim .any (.cons (.lc t src .nil elt) .nil)) env h = .ok (.d (.bool (L.any b)), true) h := by
  have q := lc_G (C := C) (th := th) (h := h) (env := env) (cond := .nil) (L := L) lD (fun _ => true) (fun g => .bool (b g)) hs l fun g hg => by
    obtain ⟨env', fr, q1, q2⟩ := he g hg
    exact ⟨env', fr, q1, evC_nil, q2⟩
  refine prim1 (fa := true) q ?_
  rw [List.filter_eq_self.mpr fun _ _ => rfl, show (L.map fun g => PyData.bool (b g)) = (L.map b).map .bool by simp]
  show (bools? _).map (fun bs => PyData.bool (bs.any id)) = _
  rw [bools_of]
  simp [List.any_map, Function.comp_def]
/-- any of those that pass -/
theorem any_G {α : Type} {h : HS} {th : Pv.Thunk} {C : Pv.Callee} {L : List α} {t : T} {src cond elt : X} {env : Pv.Env} (s : α → PyData) (q b : α → Bool) (hs : evSrc C th false src env h = .ok (L.map s) h) (l : L.length ≤ lineN) (he : ∀ g ∈ L, ∃ env' fr, bindT t (s g) env = some env' ∧ evC C th false cond env' h = .ok (q g) h ∧ evE C th false elt env' h = .ok (.d (.bool (b g)), fr) h) :
    evE C th false (.prim .any (.cons (.lc t src cond elt) .nil)) env h = .ok (.d (.bool (L.any fun g => q g && b g)), true) h := by
  have z := lc_G (C := C) (th := th) (h := h) (env := env) (cond := cond) (L := L) s q (fun g => .bool (b g)) hs l he
  refine prim1 (fa := true) z ?_
  rw [show ((L.filter q).map fun g => PyData.bool (b g)) = ((L.filter q).map b).map .bool by simp]
  show (bools? _).map (fun bs => PyData.bool (bs.any id)) = _
  rw [bools_of]
  simp [List.any_map, Function.comp_def, List.any_filter]
theorem enum_eq {α : Type} (s : α → PyData) (dflt : α) : ∀ (L : List α) (k : Nat), enumL k (L.map s) = (List.range L.length).map fun i => PyData.tuple [.int ((k + i : Nat) : Int), s (L.getD i dflt)]
  | [], k => rfl
  | a :: L, k => by
    rw [List.map_cons, enumL, show ((k : Int) + 1) = ((k + 1 : Nat) : Int) by omega, enum_eq s dflt L (k + 1), List.length_cons, List.range_succ_eq_map, List.map_cons, List.map_map]
    congr 1
    refine List.map_congr_left fun i _ => ?_
    show PyData.tuple [.int ((k + 1 + i : Nat) : Int), s (L.getD i dflt)] = PyData.tuple [.int ((k + (i + 1) : Nat) : Int), s ((a :: L).getD (i + 1) dflt)]
    rw [show k + 1 + i = k + (i + 1) by omega]; rfl
/-- a for that grows a value, other slots left open -/
theorem for_acc {α β γ : Type} {step : PyData → Env → HS → ResS} {h : HS} (N : Nat) (s : α → PyData) (E : β → γ → Env) (f : β → α → β) (Inv : Nat → β → Prop) : ∀ (xs : List α) (n : Nat) (b : β) (g : γ), n + xs.length ≤ N → (∀ x ∈ xs, ∀ n b g, n < N → Inv n b → ∃ g', step (s x) (E b g) h = .ok (.nx, E (f b x) g') h ∧ Inv (n + 1) (f b x)) → Inv n b →
    ∃ g', forLoop step (xs.map s) (E b g) h = .ok (.nx, E (xs.foldl f b) g') h ∧ Inv (n + xs.length) (xs.foldl f b)
  | [], n, b, g, _, _, i => ⟨g, rfl, i⟩
  | x :: xs, n, b, g, l, st, i => by
    rw [List.length_cons] at l
    obtain ⟨g1, q1, i1⟩ := st x (List.mem_cons_self ..) n b g (by omega) i
    obtain ⟨g2, q2, i2⟩ := for_acc N s E f Inv xs (n + 1) (f b x) g1 (by omega) (fun y hy => st y (List.mem_cons_of_mem _ hy)) i1
    refine ⟨g2, ?_, ?_⟩
    · rw [List.map_cons, forLoop, q1]
      exact q2
    · rw [List.length_cons, show n + (xs.length + 1) = n + 1 + xs.length by omega]
      exact i2
theorem foldl_app {α β : Type} (part : α → List β) : ∀ (xs : List α) (b : List β), xs.foldl (fun b x => b ++ part x) b = b ++ xs.flatMap part
  | [], b => by simp
  | x :: xs, b => by rw [List.foldl_cons, foldl_app part xs, List.flatMap_cons, List.append_assoc]
theorem lots_ne (A : List Lot) : cmpD .ne (.tuple (A.map lD)) (.tuple (A.map lD)) = some false := ne_self (pl_ls A) (sh_ls _ A)
theorem lot_ne (l : Lot) : cmpD .ne (lD l) (lD l) = some false := ne_self (pl_nD l) (sh_nD _ l)
/-- xs + ys, of lots -/
theorem cat_ls (A B : List Lot) (l : A.length + B.length ≤ lineN) : binD .add (.list (A.map lD)) (.list (B.map lD)) = some (.list ((A ++ B).map lD)) := by
  show (if (A.map lD).length + (B.map lD).length ≤ lineN then some (PyData.list (A.map lD ++ B.map lD)) else none) = _
  rw [if_pos (by rw [List.length_map, List.length_map]; exact l), List.map_append]
theorem ne_nil (A : List Lot) : cmpD .ne (.list (A.map lD)) (.list []) = some (!A.isEmpty) := by
  show (if PyData.plainAll (A.map lD) && true && shallow maxDepth (.list (A.map lD)) then some (!PyData.eqvAll (A.map lD) []) else none) = _
  rw [pl_ls, show shallow maxDepth (.list (A.map lD)) = true from sh_ls _ A]
  cases A <;> rfl
theorem iteE_b {C : Callee} {th : Thunk} {hot : Bool} {env : Env} {h h' : HS} {c a b : X} {q fc : Bool} (e : evE C th hot c env h = .ok (.d (.bool q), fc) h') : evE C th hot (.ite c a b) env h = match q with | true => evE C th hot a env h' | false => evE C th hot b env h' := by
  cases q with
  | true => exact iteE_t e
  | false => exact iteE_f e
theorem find_len {p : Lot → Bool} : ∀ {L : List Lot} {a b : Lot}, L.Pairwise (fun a b => a.length ≤ b.length) → L.find? p = some a → b ∈ L → p b = true → a.length ≤ b.length
  | [], a, b, _, h, _, _ => by cases h
  | x :: L, a, b, pw, h, hb, pb => by
    by_cases px : p x = true
    · rw [List.find?_cons_of_pos px] at h
      cases h
      rcases List.mem_cons.mp hb with e | m
      · rw [e]; exact Nat.le_refl _
      · exact (List.pairwise_cons.mp pw).1 b m
    · rw [List.find?_cons_of_neg px] at h
      rcases List.mem_cons.mp hb with e | m
      · rw [e] at pb; exact absurd pb px
      · exact find_len (List.pairwise_cons.mp pw).2 h m pb
end Pv
/-! text S43 -/
set_option autoImplicit false
set_option linter.all false
set_option maxRecDepth 100000
set_option maxHeartbeats 2000000
namespace Pv
open PySem
/-! ### all lots of a row, by their lengths and then in order -/
abbrev pairD (l : Lot) : PyData := .tuple [.int (l.length : Nat), lD l]
def unP : PyData → Lot
  | .tuple [_, l] => unD l
  | _ => []
theorem unP_pairD (l : Lot) : unP (pairD l) = l := unD_lD l
def subsF (L : List Lot) (x : Nat) : List Lot := L ++ L.map (· ++ [x])
def subsL (bs : Lot) : List Lot := bs.foldl subsF [[]]
def lotsL (bs : Lot) : List Lot := (sortD ((subsL bs).map pairD)).map unP
theorem lots_pairs (bs : Lot) : (lotsL bs).map pairD = sortD ((subsL bs).map pairD) := by
  unfold lotsL
  rw [List.map_map]
  refine (List.map_congr_left fun x hx => ?_).trans (List.map_id _)
  obtain ⟨l, _, rfl⟩ := List.mem_map.mp (sortD_mem.mp hx)
  show pairD (unP (pairD l)) = pairD l
  rw [unP_pairD]
theorem lots_mem' (bs l : Lot) : l ∈ lotsL bs ↔ l ∈ subsL bs := by
  unfold lotsL
  constructor
  · intro h
    obtain ⟨x, hx, rfl⟩ := List.mem_map.mp h
    obtain ⟨m, hm, rfl⟩ := List.mem_map.mp (sortD_mem.mp hx)
    rw [unP_pairD]; exact hm
  · intro h
    exact List.mem_map.mpr ⟨pairD l, sortD_mem.mpr (List.mem_map.mpr ⟨l, h, rfl⟩), unP_pairD l⟩
theorem subs_from : ∀ (bs : Lot) (L : List Lot) (l : Lot), l ∈ bs.foldl subsF L ↔ ∃ a ∈ L, ∃ s, s.Sublist bs ∧ l = a ++ s
  | [], L, l => by
    constructor
    · intro h; exact ⟨l, h, [], List.Sublist.refl _, by simp⟩
    · rintro ⟨a, ha, s, hs, rfl⟩
      rw [List.sublist_nil.mp hs, List.append_nil]; exact ha
  | x :: r, L, l => by
    rw [List.foldl_cons, subs_from r]
    constructor
    · rintro ⟨a, ha, s, hs, rfl⟩
      rcases List.mem_append.mp ha with ha | ha
      · exact ⟨a, ha, s, hs.cons x, rfl⟩
      · obtain ⟨b, hb, rfl⟩ := List.mem_map.mp ha
        exact ⟨b, hb, x :: s, hs.cons_cons x, by simp⟩
    · rintro ⟨a, ha, s, hs, rfl⟩
      rcases List.sublist_cons_iff.mp hs with q | ⟨t, rfl, q⟩
      · exact ⟨a, List.mem_append_left _ ha, s, q, rfl⟩
      · exact ⟨a ++ [x], List.mem_append_right _ (List.mem_map.mpr ⟨a, ha, rfl⟩), t, q, by simp⟩
theorem lots_mem (bs l : Lot) : l ∈ lotsL bs ↔ l.Sublist bs := by
  rw [lots_mem']
  unfold subsL
  rw [subs_from]
  constructor
  · rintro ⟨a, ha, s, hs, rfl⟩
    rw [List.mem_singleton.mp ha]; exact hs
  · intro h
    exact ⟨[], List.mem_singleton.mpr rfl, l, h, rfl⟩
theorem subs_len : ∀ (bs : Lot) (L : List Lot), (bs.foldl subsF L).length = L.length * 2 ^ bs.length
  | [], L => by simp
  | x :: r, L => by
    rw [List.foldl_cons, subs_len r]
    unfold subsF
    rw [List.length_append, List.length_map, List.length_cons, Nat.pow_succ, ← Nat.two_mul, Nat.mul_comm 2, Nat.mul_assoc, Nat.mul_comm 2]
theorem pow7 {n : Nat} (h : n ≤ 7) : 2 ^ n ≤ 128 := Nat.pow_le_pow_right (by decide) h
theorem lots_len {bs : Lot} (h : bs.length ≤ 7) : (lotsL bs).length ≤ 128 := by
  unfold lotsL
  rw [List.length_map, sortD_eq, (List.mergeSort_perm _ _).length_eq, List.length_map]
  unfold subsL
  rw [subs_len]
  simpa using pow7 h
theorem alikeAll_nL : ∀ a b : Lot, PySem.W.alikeAll (nD a) (nD b) = true
  | [], [] => rfl
  | [], _ :: _ => rfl
  | _ :: _, [] => rfl
  | a :: l, b :: m => by
    show (PySem.W.alike (.int (a : Nat)) (.int (b : Nat)) && PySem.W.alikeAll (nD l) (nD m)) = true
    rw [alikeAll_nL l m]; rfl
theorem alike_pair (a b : Lot) : PySem.W.alike (pairD a) (pairD b) = true := by
  show (true && (PySem.W.alikeAll (nD a) (nD b) && true)) = true
  rw [alikeAll_nL]; rfl
abbrev iL (l : Lot) : List Int := l.map fun k : Nat => (k : Int)
theorem nD_ints (l : Lot) : nD l = (iL l).map .int := by
  unfold nD iL
  rw [List.map_map]; rfl
theorem pair_lt (a b : Lot) : PySem.W.dataLt (pairD a) (pairD b) = if a.length = b.length then decide (iL a < iL b) else decide (a.length < b.length) := by
  rw [PySem.W.dataLt_pair (x := .int (a.length : Nat)) (x' := .int (b.length : Nat)) (y := lD a) (y' := lD b) rfl (alikeAll_nL a b)]
  rw [eqv_int, PySem.W.dataLt_int]
  have lt : PySem.W.dataLt (lD a) (lD b) = decide (iL a < iL b) := by
    unfold lD
    rw [PySem.W.dataLt_tuple, nD_ints, nD_ints]
    exact PySem.W.dataLt_ints _ _
  by_cases z : a.length = b.length
  · rw [if_pos z, if_pos (by rw [z]; simp), eqv_lD, lt]
    by_cases y : a = b
    · rw [if_pos (by rw [decide_eq_true y]), y, decide_eq_false (List.lt_irrefl _)]
    · rw [if_neg (by rw [decide_eq_false y]; simp)]
  · rw [if_neg z, if_neg (by rw [beq_eq_false_iff_ne.mpr (by omega)]; simp)]
    by_cases y : a.length < b.length
    · rw [decide_eq_true y, decide_eq_true (by omega)]
    · rw [decide_eq_false y, decide_eq_false (by omega)]
def leP (a b : Lot) : Prop := leD (pairD a) (pairD b) = true
theorem leP_len {a b : Lot} (h : leP a b) : a.length ≤ b.length := by
  unfold leP leD at h
  rw [pair_lt] at h
  by_cases z : b.length = a.length
  · omega
  · rw [if_neg z] at h
    simp at h
    omega
theorem leP_anti {a b : Lot} (h : leP a b) (h2 : leP b a) : a = b := by
  have z : a.length = b.length := Nat.le_antisymm (leP_len h) (leP_len h2)
  unfold leP leD at h h2
  rw [pair_lt, if_pos z.symm] at h
  rw [pair_lt, if_pos z] at h2
  have e : iL a = iL b := by
    simp at h h2
    exact List.le_antisymm h h2
  have inj : ∀ (a b : Lot), iL a = iL b → a = b := by
    intro a
    induction a with
    | nil => intro b e; cases b with
      | nil => rfl
      | cons _ _ => cases e
    | cons x l ih => intro b e; cases b with
      | nil => cases e
      | cons y m =>
        obtain ⟨e1, e2⟩ := List.cons.inj e
        have e1 : (x : Int) = (y : Int) := e1
        rw [ih m e2, show x = y by omega]
  exact inj a b e
theorem lots_pw (bs : Lot) : (lotsL bs).Pairwise leP := by
  have pw : ((lotsL bs).map pairD).Pairwise fun x y => leD x y = true := by
    rw [lots_pairs, sortD_eq]
    exact PySem.W.sort_pairwise leD_total _
  exact (List.pairwise_map (f := pairD) (R := fun x y => leD x y = true)).mp pw
/-- the first of those that are good is the least of them -/
theorem first_least {p : Lot → Bool} {L : List Lot} {g : Lot} {r : List Lot} (pw : L.Pairwise leP) (e : L.filter p = g :: r) : ∀ x ∈ L, p x = true → leP g x := by
  intro x hx px
  have pf : (L.filter p).Pairwise leP := List.Pairwise.filter _ pw
  have hm : x ∈ L.filter p := List.mem_filter.mpr ⟨hx, px⟩
  rw [e] at pf hm
  rcases List.mem_cons.mp hm with rfl | hm
  · exact leP_refl' _
  · exact (List.pairwise_cons.mp pf).1 x hm
where
  leP_refl' (a : Lot) : leP a a := by
    unfold leP leD
    rw [pair_lt, if_pos rfl, decide_eq_false (List.lt_irrefl _)]; rfl
theorem sh_pairs (n : Nat) (L : List Lot) : shallowAll (n + 2) (L.map pairD) = true := shAll_of fun x hx => by
  obtain ⟨l, _, rfl⟩ := List.mem_map.mp hx
  show (shallow (n + 1) (.int (l.length : Nat)) && (shallow (n + 1) (lD l) && true)) = true
  rw [show shallow (n + 1) (lD l) = true from sh_nD n l]; rfl
theorem sorted_pairs (L : List Lot) : primD .sorted [.list (L.map pairD)] = some (.list (sortD (L.map pairD))) := by
  show (if sortOk (L.map pairD) then some (PyData.list (sortD (L.map pairD))) else none) = _
  rw [if_pos]
  unfold sortOk
  have a : (L.map pairD).all isTupA = true := by rw [List.all_eq_true]; intro x hx; obtain ⟨l, _, rfl⟩ := List.mem_map.mp hx; rfl
  have c : allAlike (L.map pairD) = true := by
    unfold allAlike
    rw [List.all_eq_true]; intro x hx; obtain ⟨l, _, rfl⟩ := List.mem_map.mp hx
    rw [List.all_eq_true]; intro y hy; obtain ⟨m, _, rfl⟩ := List.mem_map.mp hy
    exact alike_pair l m
  have b : alikeN (L.map pairD) = true := by
    unfold alikeN
    cases (L.map pairD).all isIntD with
    | true => rfl
    | false =>
      cases (L.map pairD).all isIntT with
      | true => rfl
      | false =>
        cases (L.map pairD).all isIntP with
        | true => rfl
        | false => exact c
  rw [a, b, show shallowAll maxDepth (L.map pairD) = true from sh_pairs _ L]
  rfl
theorem minOk_pairs (L : List Lot) : minOk (L.map pairD) = true := by
  unfold minOk allAlike
  have a : ((L.map pairD).all fun x => !(match x with | PyData.none => true | _ => false)) = true := by
    rw [List.all_eq_true]; intro x hx; obtain ⟨l, _, rfl⟩ := List.mem_map.mp hx; rfl
  have c : ((L.map pairD).all fun x => (L.map pairD).all fun y => PySem.W.alike x y) = true := by
    rw [List.all_eq_true]; intro x hx; obtain ⟨l, _, rfl⟩ := List.mem_map.mp hx
    rw [List.all_eq_true]; intro y hy; obtain ⟨m, _, rfl⟩ := List.mem_map.mp hy
    exact alike_pair l m
  rw [c, show shallowAll maxDepth (L.map pairD) = true from sh_pairs _ L, Bool.and_true, Bool.and_true]
  exact a
/-- the least pair -/
theorem min_pairs (a : Lot) (r : List Lot) : ∃ m ∈ a :: r, (∀ x ∈ a :: r, leP m x) ∧ primD .min1 [.list ((a :: r).map pairD)] = some (pairD m) := by
  have g : ∀ (r : List Lot) (a : Lot), ∃ m ∈ a :: r, (∀ x ∈ a :: r, leP m x) ∧ PySem.W.minD (pairD a) (r.map pairD) = pairD m := by
    intro r
    induction r with
    | nil => intro a; exact ⟨a, List.mem_cons_self .., fun x hx => by rw [List.mem_singleton.mp hx]; exact first_least.leP_refl' a, rfl⟩
    | cons b r ih =>
      intro a
      have tr : ∀ {x y z : Lot}, leP x y → leP y z → leP x z := fun h1 h2 => leD_total.1 _ _ _ h1 h2
      have st : PySem.W.minD (pairD a) ((b :: r).map pairD) = PySem.W.minD (if PySem.W.dataLt (pairD b) (pairD a) = true then pairD b else pairD a) (r.map pairD) := rfl
      cases z : PySem.W.dataLt (pairD b) (pairD a) with
      | true =>
        obtain ⟨m, hm, le, e⟩ := ih b
        rw [z, if_pos rfl] at st
        have ba : leP b a := (leD_total.2 (pairD a) (pairD b)).resolve_left fun q => by
          unfold leD at q
          rw [z] at q
          cases q
        exact ⟨m, List.mem_cons_of_mem _ hm, fun x hx => by
          rcases List.mem_cons.mp hx with rfl | hx
          · exact tr (le b (List.mem_cons_self ..)) ba
          · exact le x hx, st.trans e⟩
      | false =>
        obtain ⟨m, hm, le, e⟩ := ih a
        rw [z, if_neg Bool.false_ne_true] at st
        have ab : leP a b := by
          unfold leP leD
          rw [z]; rfl
        refine ⟨m, ?_, fun x hx => ?_, st.trans e⟩
        · rcases List.mem_cons.mp hm with rfl | hm
          · exact List.mem_cons_self ..
          · exact List.mem_cons_of_mem _ (List.mem_cons_of_mem _ hm)
        · rcases List.mem_cons.mp hx with rfl | hx
          · exact le x (List.mem_cons_self ..)
          · rcases List.mem_cons.mp hx with rfl | hx
            · exact tr (le a (List.mem_cons_self ..)) ab
            · exact le x (List.mem_cons_of_mem _ hx)
  obtain ⟨m, hm, le, e⟩ := g r a
  refine ⟨m, hm, le, ?_⟩
  have mo := minOk_pairs (a :: r)
  rw [List.map_cons] at mo ⊢
  show (if minOk (pairD a :: r.map pairD) then some (PySem.W.minD (pairD a) (r.map pairD)) else none) = _
  rw [mo, if_pos rfl, e]
def fnLots : Fn := ⟨1, 5, (.seq (.set (.v 1) (.lst (.cons (.tup .nil) .nil)))
 (.seq (.frr (.v 2) (.sVal (.var 0))
 (.set (.v 1) (.bin .add (.var 1) (.lc (.v 3) (.sVal (.var 1)) .nil (.bin .add (.var 3) (.tup (.cons (.var 2) .nil)))))))
 (.ret (.lc (.tup (.cons (.v 4) (.cons (.v 3) .nil))) (.sVal (.prim .sorted (.cons (.lc (.v 3) (.sVal (.var 1)) .nil (.tup (.cons (.prim .len (.cons (.var 3) .nil)) (.cons (.var 3) .nil)))) .nil))) .nil (.var 3)))))⟩
theorem lots_gen {P : List Fn} {g fu d : Nat} {th : Thunk} {h : HS} {z : PyData} {bs : Lot} (hg : P[g]? = some fnLots) (hz : itemsD z = some (nD bs)) (l7 : bs.length ≤ 7) : evF P fu (d + 1) g [.d z] th h = .ok (.d (.list ((lotsL bs).map lD)), true) h := by
  let E (L : List Lot) (e2 : SL) : Env := [some (.d z, false), some (.d (.list (L.map lD)), true), e2, none, none]
  obtain ⟨e2, q, _⟩ := for_acc (h := h) (step := fun x env h => match bindT (.v 2) x env with
      | some env' => evS (evF P fu d) th false fu (.set (.v 1) (.bin .add (.var 1) (.lc (.v 3) (.sVal (.var 1)) .nil (.bin .add (.var 3) (.tup (.cons (.var 2) .nil)))))) env' h
      | none => .no) 7 (fun k : Nat => PyData.int (k : Nat)) E subsF (fun n L => L.length ≤ 2 ^ n ∧ ∀ g ∈ L, g.length ≤ n) bs 0 [[]] none (by omega) (fun x hx n L e2 hn ⟨hL, hg⟩ => by
    have p7 := pow7 (Nat.le_of_lt hn)
    have p8 : 2 ^ (n + 1) ≤ 128 := pow7 hn
    refine ⟨some (.d (.int (x : Nat)), false), ?_, ?_, ?_⟩
    · have z1 := lc_G (C := evF P fu d) (th := th) (h := h) (env := E L (some (.d (.int (x : Nat)), false))) (t := .v 3) (cond := .nil) (src := .sVal (.var 1)) (elt := .bin .add (.var 3) (.tup (.cons (.var 2) .nil))) (L := L) lD (fun _ => true) (fun g => lD (g ++ [x])) (src_val (x := .list (L.map lD)) (fa := false) (var_ok rfl) rfl) (by unfold lineN; omega) fun g hgL => by
        have gl := hg g hgL
        refine ⟨_, true, rfl, evC_nil, bin_is (x := lD g) (y := lD [x]) (fa := false) (fb := true) (var_ok rfl) rfl ?_⟩
        show (if (nD g).length + (nD [x]).length ≤ lineN then some (PyData.tuple (nD g ++ nD [x])) else none) = _
        rw [if_pos (by simp; unfold lineN; omega)]
        unfold lD nD
        rw [List.map_append]
      rw [List.filter_eq_self.mpr fun _ _ => rfl] at z1
      have z2 := bin_is (x := .list (L.map lD)) (y := .list ((L.map (· ++ [x])).map lD)) (z := .list ((subsF L x).map lD)) (o := .add) (fa := false) (fb := true) (var_ok (i := 1) (o := true) rfl) (by rw [List.map_map]; exact z1) (cat_ls _ _ (by rw [List.length_map]; unfold lineN; omega))
      exact setL_ok z2 (imm_ls _)
    · unfold subsF
      rw [List.length_append, List.length_map, Nat.pow_succ]
      omega
    · intro g hg2
      rcases List.mem_append.mp hg2 with hg2 | hg2
      · have := hg g hg2; omega
      · obtain ⟨g', hg', rfl⟩ := List.mem_map.mp hg2
        have := hg g' hg'
        rw [List.length_append]
        simp
        omega) ⟨by simp, fun g hg => by rw [List.mem_singleton.mp hg]; simp⟩
  refine evF_rt (fn := fnLots) (env' := E (subsL bs) e2) hg rfl ?_
  refine (seq_nx (env' := E [[]] none) (h' := h) (setL_ok (xs := [lD []]) rfl rfl)).trans ?_
  refine (seq_nx ((frr_ok (h' := h) (xs := nD bs) (src_val (x := z) (fa := false) (var_ok rfl) hz)).trans q)).trans (ret_ok ?_)
  have sl : (subsL bs).length ≤ 128 := by
    unfold subsL
    rw [subs_len]
    simpa using pow7 l7
  have z1 := lc_G (C := evF P fu d) (th := th) (h := h) (env := E (subsL bs) e2) (t := .v 3) (cond := .nil) (src := .sVal (.var 1)) (elt := .tup (.cons (.prim .len (.cons (.var 3) .nil)) (.cons (.var 3) .nil))) (L := subsL bs) lD (fun _ => true) pairD (src_val (x := .list ((subsL bs).map lD)) (fa := false) (var_ok rfl) rfl) (by unfold lineN; omega) fun g hgL => by
    refine ⟨_, true, rfl, evC_nil, tup_ok (vs := [(.d (.int (g.length : Nat)), true), (.d (lD g), false)]) (cons_ok (prim1 (x := lD g) (fa := false) (var_ok rfl) ?_) (cons_ok (var_ok rfl) rfl)) rfl⟩
    show some (PyData.int ((nD g).length : Nat)) = _
    rw [List.length_map]
  rw [List.filter_eq_self.mpr fun _ _ => rfl] at z1
  have z2 := prim1 (fa := true) z1 (sorted_pairs _)
  rw [← lots_pairs] at z2
  have ll := lots_len l7
  have z3 := lc_G (C := evF P fu d) (th := th) (h := h) (env := E (subsL bs) e2) (t := .tup (.cons (.v 4) (.cons (.v 3) .nil))) (cond := .nil) (src := .sVal (.prim .sorted (.cons (.lc (.v 3) (.sVal (.var 1)) .nil (.tup (.cons (.prim .len (.cons (.var 3) .nil)) (.cons (.var 3) .nil)))) .nil))) (elt := .var 3) (L := lotsL bs) pairD (fun _ => true) lD (src_val z2 rfl) (by unfold lineN; omega) fun g hgL => ⟨_, false, rfl, evC_nil, var_ok rfl⟩
  rw [List.filter_eq_self.mpr fun _ _ => rfl] at z3
  exact z3
/-! ### the law's own equality, that knows dicts too -/
def fnIsD (f : Nat) : Fn := ⟨2, 5, (.seq (.ite (.prim .isTL (.cons (.var 1) .nil))
 (.seq (.ite (.or (.cmp .ne (.prim .isTuple (.cons (.var 0) .nil)) (.prim .isTuple (.cons (.var 1) .nil))) (.not (.prim .isTL (.cons (.var 0) .nil))))
 (.ret (.cst (.bool false)))
 .skip)
 (.ret (.and (.cmp .eq (.prim .len (.cons (.var 0) .nil)) (.prim .len (.cons (.var 1) .nil))) (.prim .all (.cons (.lc (.tup (.cons (.v 2) (.cons (.v 3) .nil))) (.sZip (.var 0) (.var 1)) .nil (.call f (.cons (.var 2) (.cons (.var 3) .nil)))) .nil)))))
 .skip)
 (.seq (.ite (.prim .isDict (.cons (.var 1) .nil))
 (.seq (.ite (.or (.not (.prim .isDict (.cons (.var 0) .nil))) (.cmp .ne (.prim .len (.cons (.var 0) .nil)) (.prim .len (.cons (.var 1) .nil))))
 (.ret (.cst (.bool false)))
 .skip)
 (.ret (.prim .all (.cons (.lc (.v 4) (.sVal (.var 1)) .nil (.and (.cmp .inn (.var 4) (.var 0)) (.call f (.cons (.idx (.var 0) (.var 4)) (.cons (.idx (.var 1) (.var 4)) .nil))))) .nil))))
 .skip)
 (.seq (.ite (.or (.prim .isStr (.cons (.var 1) .nil)) (.cmp .is (.var 1) (.cst .none)))
 (.ret (.and (.cmp .eq (.prim .isStr (.cons (.var 0) .nil)) (.prim .isStr (.cons (.var 1) .nil))) (.cmp .eq (.var 0) (.var 1))))
 .skip)
 (.ret (.and (.prim .isInt (.cons (.var 0) .nil)) (.and (.cmp .eq (.prim .isBool (.cons (.var 0) .nil)) (.prim .isBool (.cons (.var 1) .nil))) (.cmp .eq (.var 0) (.var 1))))))))⟩
section
variable {P : List Fn} {f fu d : Nat} {h : HS}
theorem isD_flat (hf : P[f]? = some (fnIsD f)) {z : PyData} {th : Thunk} (hz : isz 0 z = true) : evF P fu (d + 1) f [.d z, .d z] th h = .ok (.d (.bool true), true) h := by
  let E : Pv.Env := [some (.d z, false), some (.d z, false), none, none, none]
  have c : cmpD .eq z z = some true := by
    refine eq_self ?_ ?_
    · cases z <;> first | rfl | cases hz
    · cases z <;> first | rfl | cases hz
  have ez : ∀ {C : Callee}, evE C th false (.cmp .eq (.var 0) (.var 1)) E h = .ok (.d (.bool true), true) h := fun {C} => cmp_ok (fa := false) (fb := false) (var_ok rfl) (var_ok rfl) c
  refine evF_rt (env' := E) hf rfl ?_
  refine (seq_nx (env' := E) (h' := h) (by cases z <;> first | rfl | cases hz)).trans ((seq_nx (env' := E) (h' := h) (by cases z <;> first | rfl | cases hz)).trans ?_)
  have s : ∀ {C : Callee}, (z = .none ∨ ∃ x, z = .str x) → evE C th false (.or (.prim .isStr (.cons (.var 1) .nil)) (.cmp .is (.var 1) (.cst .none))) E h = .ok (.d (.bool true), true) h ∧ evE C th false (.and (.cmp .eq (.prim .isStr (.cons (.var 0) .nil)) (.prim .isStr (.cons (.var 1) .nil))) (.cmp .eq (.var 0) (.var 1))) E h = .ok (.d (.bool true), true) h := fun {C} q => by
    refine ⟨?_, (and_t (fa := true) (h' := h) ?_).trans ez⟩
    · rcases q with rfl | ⟨x, rfl⟩ <;> rfl
    · rcases q with rfl | ⟨x, rfl⟩ <;> rfl
  have n : ∀ {C : Callee}, ((∃ i, z = .int i) ∨ ∃ b, z = .bool b) → evE C th false (.or (.prim .isStr (.cons (.var 1) .nil)) (.cmp .is (.var 1) (.cst .none))) E h = .ok (.d (.bool false), true) h ∧ evE C th false (.and (.prim .isInt (.cons (.var 0) .nil)) (.and (.cmp .eq (.prim .isBool (.cons (.var 0) .nil)) (.prim .isBool (.cons (.var 1) .nil))) (.cmp .eq (.var 0) (.var 1)))) E h = .ok (.d (.bool true), true) h := fun {C} q => by
    refine ⟨?_, (and_t (fa := true) (h' := h) ?_).trans ((and_t (fa := true) (h' := h) ?_).trans ez)⟩
    · rcases q with ⟨x, rfl⟩ | ⟨x, rfl⟩ <;> rfl
    · rcases q with ⟨x, rfl⟩ | ⟨x, rfl⟩ <;> rfl
    · rcases q with ⟨x, rfl⟩ | ⟨x, rfl⟩ <;> rfl
  cases z with
  | none => exact seq_rt ((ite_t (s (.inl rfl)).1).trans (ret_ok (s (.inl rfl)).2))
  | str x => exact seq_rt ((ite_t (s (.inr ⟨x, rfl⟩)).1).trans (ret_ok (s (.inr ⟨x, rfl⟩)).2))
  | int i => exact (seq_nx (env' := E) (h' := h) ((ite_f (n (.inl ⟨i, rfl⟩)).1).trans rfl)).trans (ret_ok (n (.inl ⟨i, rfl⟩)).2)
  | bool i => exact (seq_nx (env' := E) (h' := h) ((ite_f (n (.inr ⟨i, rfl⟩)).1).trans rfl)).trans (ret_ok (n (.inr ⟨i, rfl⟩)).2)
  | tuple _ => cases hz
  | list _ => cases hz
  | dict _ => cases hz
theorem isD_seq (hf : P[f]? = some (fnIsD f)) (tup : Bool) {xs : List PyData} {th : Thunk} (l : xs.length ≤ lineN) (hx : ∀ x ∈ xs, evF P fu d f [.d x, .d x] NT0 h = .ok (.d (.bool true), true) h) : evF P fu (d + 1) f [.d (mkSeq tup xs), .d (mkSeq tup xs)] th h = .ok (.d (.bool true), true) h := by
  let E : Pv.Env := [some (.d (mkSeq tup xs), false), some (.d (mkSeq tup xs), false), none, none, none]
  have ln : ∀ {i : Nat}, E[i]? = some (some (.d (mkSeq tup xs), false)) → evE (evF P fu d) th false (.prim .len (.cons (.var i) .nil)) E h = .ok (.d (.int xs.length), true) h := fun {i} e => prim1 (x := mkSeq tup xs) (fa := false) (var_ok e) (by cases tup <;> rfl)
  have src : evSrc (evF P fu d) th false (.sZip (.var 0) (.var 1)) E h = .ok (xs.map fun x => .tuple [x, x]) h := by
    rw [← zip_self]
    cases tup <;> rfl
  have al : evE (evF P fu d) th false (.prim .all (.cons (.lc (.tup (.cons (.v 2) (.cons (.v 3) .nil))) (.sZip (.var 0) (.var 1)) .nil (.call f (.cons (.var 2) (.cons (.var 3) .nil)))) .nil)) E h = .ok (.d (.bool true), true) h := by
    have q := lc_G (C := evF P fu d) (th := th) (h := h) (env := E) (t := .tup (.cons (.v 2) (.cons (.v 3) .nil))) (cond := .nil) (elt := .call f (.cons (.var 2) (.cons (.var 3) .nil))) (L := xs) (fun x => .tuple [x, x]) (fun _ => true) (fun _ => .bool true) src l fun x hx' =>
      ⟨[some (.d (mkSeq tup xs), false), some (.d (mkSeq tup xs), false), some (.d x, false), some (.d x, false), none], true, rfl, evC_nil, (callE_ok (vs := [(.d x, false), (.d x, false)]) rfl rfl).trans (hx x hx')⟩
    refine prim1 (fa := true) q ?_
    rw [show ((xs.filter fun _ => true).map fun _ => PyData.bool true) = (xs.map fun _ => true).map .bool by rw [List.filter_eq_self.mpr fun _ _ => rfl, List.map_map]; rfl]
    show (bools? _).map (fun bs => PyData.bool (bs.all id)) = _
    rw [bools_of]
    simp
  refine evF_rt (env' := E) hf rfl (seq_rt ?_)
  refine (ite_t (fr := true) (h' := h) (by cases tup <;> rfl)).trans ?_
  refine (seq_nx (env' := E) (h' := h) ((ite_f (fr := true) (h' := h) (by cases tup <;> rfl)).trans rfl)).trans (ret_ok ?_)
  exact (and_t (fa := true) (h' := h) (cmp_ok (x := .int xs.length) (y := .int xs.length) (fa := true) (fb := true) (ln rfl) (ln rfl) (by show some ((xs.length : Int) == xs.length) = _; rw [beq_self_eq_true]))).trans al
theorem isD_self (hf : P[f]? = some (fnIsD f)) : ∀ (k : Nat) {z : PyData} {th : Thunk}, szl k z = true → evF P fu (d + k + 1) f [.d z, .d z] th h = .ok (.d (.bool true), true) h
  | 0, z, th, hz => isD_flat hf (by cases z <;> first | rfl | cases hz)
  | k + 1, z, th, hz => by
    have go : ∀ (tup : Bool) (xs : List PyData), (decide (xs.length ≤ lineN) && xs.all (szl k)) = true → evF P fu (d + (k + 1) + 1) f [.d (mkSeq tup xs), .d (mkSeq tup xs)] th h = .ok (.d (.bool true), true) h := fun tup xs hx => by
      simp only [Bool.and_eq_true, decide_eq_true_eq, List.all_eq_true] at hx
      exact isD_seq (d := d + (k + 1)) hf tup hx.1 fun x m => isD_self hf k (hx.2 x m)
    cases z with
    | tuple xs => exact go true xs hz
    | list xs => exact go false xs hz
    | dict _ => cases hz
    | none => exact isD_flat (d := d + (k + 1)) hf rfl
    | int _ => exact isD_flat (d := d + (k + 1)) hf rfl
    | bool _ => exact isD_flat (d := d + (k + 1)) hf rfl
    | str _ => exact isD_flat (d := d + (k + 1)) hf rfl
theorem sz_nD (k : Nat) (l : Lot) : (nD l).all (szl k) = true := by
  rw [List.all_eq_true]
  intro x hx
  obtain ⟨i, _, rfl⟩ := List.mem_map.mp hx
  cases k <;> rfl
theorem sz_lD (k : Nat) {l : Lot} (h : l.length ≤ lineN) : szl (k + 1) (lD l) = true := by
  show (decide ((nD l).length ≤ lineN) && (nD l).all (szl k)) = true
  rw [sz_nD, List.length_map, decide_eq_true h]; rfl
end
end Pv
/-! text S45 -/
set_option autoImplicit false
set_option linter.all false
set_option maxRecDepth 100000
set_option maxHeartbeats 4000000
/-! lots in two orders, the law's own lots, deep things: what the laws of one family share -/
namespace Pv
open PySem
abbrev vS (z : PyData) : SL := some (.d z, false)
abbrev lS (L : List Lot) (o : Bool) : SL := some (.d (.list (L.map lD)), o)
abbrev wS (l : List PyData) : SL := some (.d (.list l), true)
theorem sub_asc {n : Nat} {lot : Lot} (h : lot.Sublist (List.range n)) : lot.Pairwise (· < ·) ∧ ∀ x ∈ lot, x < n := ⟨List.pairwise_lt_range.sublist h, fun x hx => List.mem_range.mp (h.subset hx)⟩
theorem iL_inj : ∀ (a b : Lot), iL a = iL b → a = b
  | [], [], _ => rfl
  | [], _ :: _, e => by cases e
  | _ :: _, [], e => by cases e
  | x :: l, y :: m, e => by
    obtain ⟨e1, e2⟩ := List.cons.inj e
    have e1 : (x : Int) = (y : Int) := e1
    rw [iL_inj l m e2, show x = y by omega]
theorem lD_lt (a b : Lot) : PySem.W.dataLt (lD a) (lD b) = decide (iL a < iL b) := by
  unfold lD
  rw [PySem.W.dataLt_tuple, nD_ints, nD_ints]
  exact PySem.W.dataLt_ints _ _
theorem lD_anti {a b : Lot} (h : leD (lD a) (lD b) = true) (h2 : leD (lD b) (lD a) = true) : a = b := by
  unfold leD at h h2
  rw [lD_lt] at h h2
  simp at h h2
  exact iL_inj a b (List.le_antisymm h h2)
theorem sort_perm {A B : List Lot} (p : A.Perm B) : sortD (A.map lD) = sortD (B.map lD) := by
  rw [sortD_eq, sortD_eq]
  refine List.Perm.eq_of_pairwise (le := fun a b => leD a b = true) (fun a b ha hb p q => ?_) (PySem.W.sort_pairwise leD_total _) (PySem.W.sort_pairwise leD_total _) (((List.mergeSort_perm _ _).trans (p.map lD)).trans (List.mergeSort_perm _ _).symm)
  obtain ⟨i, _, rfl⟩ := List.mem_map.mp ((List.mergeSort_perm _ _).mem_iff.mp ha)
  obtain ⟨j, _, rfl⟩ := List.mem_map.mp ((List.mergeSort_perm _ _).mem_iff.mp hb)
  rw [lD_anti p q]
abbrev allL (n : Nat) : List Lot := lotsL (List.range n)
def lexL (n : Nat) : List Lot := (sortD ((subsL (List.range n)).map lD)).map unD
theorem lex_eq (n : Nat) : sortD ((subsL (List.range n)).map lD) = (lexL n).map lD := by
  unfold lexL
  rw [List.map_map]
  refine ((List.map_congr_left fun x hx => ?_).trans (List.map_id _)).symm
  obtain ⟨l, _, rfl⟩ := List.mem_map.mp (sortD_mem.mp hx)
  show lD (unD (lD l)) = lD l
  rw [unD_lD]
theorem lex_mem (n : Nat) (l : Lot) : l ∈ lexL n ↔ l.Sublist (List.range n) := by
  rw [← lots_mem, lots_mem']
  unfold lexL
  constructor
  · intro h
    obtain ⟨x, hx, rfl⟩ := List.mem_map.mp h
    obtain ⟨l, hl, rfl⟩ := List.mem_map.mp (sortD_mem.mp hx)
    rw [unD_lD]
    exact hl
  · intro h
    exact List.mem_map.mpr ⟨lD l, sortD_mem.mpr (List.mem_map.mpr ⟨l, h, rfl⟩), unD_lD l⟩
theorem all_perm (n : Nat) : (allL n).Perm (subsL (List.range n)) := by
  have p : ((allL n).map pairD).Perm ((subsL (List.range n)).map pairD) := by
    rw [lots_pairs, sortD_eq]
    exact List.mergeSort_perm _ _
  have q := p.map unP
  rw [List.map_map, List.map_map] at q
  have e : ∀ L : List Lot, L.map (unP ∘ pairD) = L := fun L => (List.map_congr_left fun x _ => unP_pairD x).trans (List.map_id _)
  rw [e, e] at q
  exact q
theorem all_lex (n : Nat) : sortD ((allL n).map lD) = (lexL n).map lD := (sort_perm (all_perm n)).trans (lex_eq n)
theorem lex_len {n : Nat} (h : n ≤ 7) : (lexL n).length ≤ 128 := by
  have e : ((lexL n).map lD).length = ((subsL (List.range n)).map lD).length := by
    rw [← lex_eq, sortD_eq]
    exact (List.mergeSort_perm _ _).length_eq
  rw [List.length_map, List.length_map] at e
  rw [e]
  unfold subsL
  rw [subs_len, List.length_range]
  have := pow7 h
  show 1 * 2 ^ n ≤ 128
  omega
theorem lex_perm (n : Nat) : (lexL n).Perm (subsL (List.range n)) := by
  have p : ((lexL n).map lD).Perm ((subsL (List.range n)).map lD) := by
    rw [← lex_eq, sortD_eq]
    exact List.mergeSort_perm _ _
  have q := p.map unD
  rw [List.map_map, List.map_map] at q
  have e : ∀ L : List Lot, L.map (unD ∘ lD) = L := fun L => (List.map_congr_left fun x _ => unD_lD x).trans (List.map_id _)
  rw [e, e] at q
  exact q
theorem subs_nodup : ∀ (bs : Lot) (L : List Lot), L.Nodup → (∀ g ∈ L, ∀ x ∈ bs, x ∉ g) → bs.Nodup → (bs.foldl subsF L).Nodup
  | [], L, h, _, _ => h
  | x :: bs, L, h, ds, nd => by
    obtain ⟨nx, nd⟩ := List.nodup_cons.mp nd
    rw [List.foldl_cons]
    refine subs_nodup bs _ ?_ ?_ nd
    · unfold subsF
      rw [List.nodup_append]
      refine ⟨h, ?_, fun a ha b hb e => ?_⟩
      · refine List.pairwise_map.mpr (h.imp fun {a b} ne e => ne (List.append_cancel_right e))
      · obtain ⟨g, _, rfl⟩ := List.mem_map.mp hb
        exact ds a ha x (List.mem_cons_self ..) (by rw [e]; simp)
    · intro g hg y hy
      unfold subsF at hg
      rcases List.mem_append.mp hg with hg | hg
      · exact ds g hg y (List.mem_cons_of_mem _ hy)
      · obtain ⟨g', hg', rfl⟩ := List.mem_map.mp hg
        intro z
        rcases List.mem_append.mp z with z | z
        · exact ds g' hg' y (List.mem_cons_of_mem _ hy) z
        · rw [List.mem_singleton.mp z] at hy
          exact nx hy
theorem lex_nodup (n : Nat) : (lexL n).Nodup := (lex_perm n).nodup_iff.mpr (subs_nodup _ _ (by simp) (fun g hg x _ => by rw [List.mem_singleton.mp hg]; simp) List.nodup_range)
theorem count_eq (n : Nat) (p : Lot → Bool) : ((allL n).filter p).length = ((lexL n).filter p).length := (((all_perm n).trans (lex_perm n).symm).filter p).length_eq
theorem ne_nat (a b : Nat) : cmpD .ne (.int (a : Nat)) (.int (b : Nat)) = some (a != b) := by
  show some ((a : Int) != (b : Int)) = _
  congr 1
  rw [Bool.eq_iff_iff]
  simp only [bne_iff_ne, ne_eq]
  omega
theorem eq_nat (a b : Nat) : cmpD .eq (.int (a : Nat)) (.int (b : Nat)) = some (a == b) := by
  show some ((a : Int) == (b : Int)) = _
  congr 1
  rw [Bool.eq_iff_iff]
  simp only [beq_iff_eq]
  omega
theorem le_nat (a b : Nat) : cmpD .le (.int (a : Nat)) (.int (b : Nat)) = some (decide (a ≤ b)) := by
  show some (decide ((a : Int) ≤ (b : Int))) = _
  congr 1
  exact decide_eq_decide.mpr (by omega)
theorem gt_zero (n : Nat) : cmpD .gt (.int (n : Nat)) (.int 0) = some (decide (0 < n)) := by
  show some (decide ((0 : Int) < (n : Int))) = _
  congr 1
  exact decide_eq_decide.mpr (by omega)
theorem lt_nat (a b : Nat) : cmpD .lt (.int (a : Nat)) (.int (b : Nat)) = some (decide (a < b)) := by
  show some (decide ((a : Int) < (b : Int))) = _
  congr 1
  exact decide_eq_decide.mpr (by omega)
theorem len_ls (L : List Lot) : primD .len [.list (L.map lD)] = some (.int (L.length : Nat)) := by
  show some (PyData.int ((L.map lD).length : Nat)) = _
  rw [List.length_map]
theorem len_l (l : Lot) : primD .len [lD l] = some (.int (l.length : Nat)) := by
  show some (PyData.int ((nD l).length : Nat)) = _
  rw [List.length_map]
theorem two_ne {x : PyData} (im : imm x = true) (s : shallow 99 x = true) : cmpD .ne (.list [x, x]) (.list [x, x]) = some false := by
  refine ne_self ?_ ?_
  · show (x.plain && (x.plain && true)) = true
    rw [imm_plain x im]; rfl
  · show (shallow 99 x && (shallow 99 x && true)) = true
    rw [s]; rfl
theorem cut_take {α : Type} (l : List α) (k : Nat) : cutL l none (some (k : Int)) = l.take k := by
  unfold cutL cutAt
  have e : (if (k : Int) < 0 then ((k : Int) + (l.length : Int)).toNat else min (k : Int).toNat l.length) = min k l.length := by
    rw [if_neg (by omega), Int.toNat_natCast]
  simp only [e]
  rw [List.drop_zero, Nat.sub_zero]
  exact List.take_eq_take_iff.mpr (by omega)
theorem range_get {α : Type} (l : List α) (x : α) : (List.range l.length).map (fun i => l.getD i x) = l := by
  refine List.ext_getElem (by simp) fun i h1 h2 => ?_
  rw [List.getElem_map, List.getElem_range, List.getD_eq_getElem?_getD, List.getElem?_eq_getElem h2]
  rfl
section
variable {fu d n : Nat} {th : Pv.Thunk} {h : HS} {env : Pv.Env} {C : Pv.Callee} {P : List Fn}
theorem all_G {α : Type} {t : T} {src elt : X} {L : List α} (s : α → PyData) (b : α → Bool) (hs : evSrc C th false src env h = .ok (L.map s) h) (l : L.length ≤ lineN) (he : ∀ g ∈ L, ∃ env' fr, bindT t (s g) env = some env' ∧ evE C th false elt env' h = .ok (.d (.bool (b g)), fr) h) :
    evE C th false (.prim .all (.cons (.lc t src .nil elt) .nil)) env h = .ok (.d (.bool (L.all b)), true) h := by
  have q := lc_G (C := C) (th := th) (h := h) (env := env) (cond := .nil) (L := L) s (fun _ => true) (fun g => .bool (b g)) hs l fun g hg => by
    obtain ⟨env', fr, q1, q2⟩ := he g hg
    exact ⟨env', fr, q1, evC_nil, q2⟩
  refine prim1 (fa := true) q ?_
  rw [List.filter_eq_self.mpr fun _ _ => rfl, show (L.map fun g => PyData.bool (b g)) = (L.map b).map .bool by simp]
  show (bools? _).map (fun bs => PyData.bool (bs.all id)) = _
  rw [bools_of]
  simp [List.all_map, Function.comp_def]
theorem forL_first {step : PyData → Pv.Env → HS → ResS} (q : Lot → Bool) (E : SL → Pv.Env) (v : Lot → PV) : ∀ (L : List Lot) (e : SL) {g : Lot} {r : List Lot}, L.filter q = g :: r →
    (∀ x ∈ L, ∀ e, step (lD x) (E e) h = if q x then .ok (.rt (v x) true, E (vS (lD x))) h else .ok (.nx, E (vS (lD x))) h) → ∃ e', forLoop step (L.map lD) (E e) h = .ok (.rt (v g) true, E e') h
  | [], _, _, _, hf, _ => by cases hf
  | x :: L, e, g, r, hf, st => by
    have s0 := st x (List.mem_cons_self ..) e
    rw [List.filter_cons] at hf
    cases z : q x with
    | true =>
      rw [z, if_pos rfl] at hf s0
      cases hf
      exact ⟨_, forLoop_rt s0⟩
    | false =>
      rw [z, if_neg Bool.false_ne_true] at hf s0
      obtain ⟨e', q'⟩ := forL_first q E v L (vS (lD x)) hf fun y hy => st y (List.mem_cons_of_mem _ hy)
      exact ⟨e', (forLoop_nx s0).trans q'⟩
/-- a for that ends where q fails -/
theorem forL_all {α : Type} {step : PyData → Pv.Env → HS → ResS} (s : α → PyData) (q : α → Bool) (E : SL → SL → Pv.Env) : ∀ (L : List α) (e f : SL), (∀ x ∈ L, ∀ e f, ∃ e' f', step (s x) (E e f) h = if q x then .ok (.nx, E e' f') h else .ok (.rt (.d (.bool false)) true, E e' f') h) →
    ∃ e' f', forLoop step (L.map s) (E e f) h = if L.all q then .ok (.nx, E e' f') h else .ok (.rt (.d (.bool false)) true, E e' f') h
  | [], e, f, _ => ⟨e, f, rfl⟩
  | x :: L, e, f, st => by
    obtain ⟨e1, f1, s1⟩ := st x (List.mem_cons_self ..) e f
    rw [List.map_cons, List.all_cons]
    cases z : q x with
    | true =>
      rw [z, if_pos rfl] at s1
      obtain ⟨e2, f2, q2⟩ := forL_all s q E L e1 f1 fun y hy => st y (List.mem_cons_of_mem _ hy)
      exact ⟨e2, f2, (forLoop_nx s1).trans q2⟩
    | false =>
      rw [z, if_neg Bool.false_ne_true] at s1
      exact ⟨e1, f1, forLoop_rt s1⟩
theorem rng_small {n : Nat} (h : n ≤ 1000) : rngOk ((n : Nat) : Int) = true := rng_in (by omega) (by omega)
def fnLL : Fn := ⟨1, 4, (.seq (.set (.v 1) (.lst (.cons (.tup .nil) .nil)))
 (.seq (.frr (.v 2) (.sRng1 (.var 0))
 (.set (.v 1) (.bin .add (.var 1) (.lc (.v 3) (.sVal (.var 1)) .nil (.bin .add (.var 3) (.tup (.cons (.var 2) .nil)))))))
 (.ret (.prim .sorted (.cons (.var 1) .nil)))))⟩
theorem llots_gen {g : Nat} (hg : P[g]? = some fnLL) (n7 : n ≤ 7) : evF P fu (d + 1) g [iP n] th h = .ok (.d (.list ((lexL n).map lD)), true) h := by
  let E (L : List Lot) (e2 : SL) : Pv.Env := [vS (.int (n : Nat)), some (.d (.list (L.map lD)), true), e2, none]
  obtain ⟨e2, q, _⟩ := for_acc (h := h) (step := fun x env h => match bindT (.v 2) x env with
      | some env' => evS (evF P fu d) th false fu (.set (.v 1) (.bin .add (.var 1) (.lc (.v 3) (.sVal (.var 1)) .nil (.bin .add (.var 3) (.tup (.cons (.var 2) .nil)))))) env' h
      | none => .no) 7 (fun k : Nat => PyData.int (k : Nat)) E subsF (fun i L => L.length ≤ 2 ^ i ∧ ∀ g ∈ L, g.length ≤ i) (List.range n) 0 [[]] none (by rw [List.length_range]; omega) (fun x hx i L e2 hi ⟨hL, hgl⟩ => by
    have p7 := pow7 (Nat.le_of_lt hi)
    have p8 : 2 ^ (i + 1) ≤ 128 := pow7 hi
    refine ⟨vS (.int (x : Nat)), ?_, ?_, ?_⟩
    · have z1 := lc_G (C := evF P fu d) (th := th) (h := h) (env := E L (vS (.int (x : Nat)))) (t := .v 3) (cond := .nil) (src := .sVal (.var 1)) (elt := .bin .add (.var 3) (.tup (.cons (.var 2) .nil))) (L := L) lD (fun _ => true) (fun g => lD (g ++ [x])) (src_val (x := .list (L.map lD)) (fa := false) (var_ok rfl) rfl) (by unfold lineN; omega) fun g hgL => by
        have gl := hgl g hgL
        refine ⟨_, true, rfl, evC_nil, bin_is (x := lD g) (y := lD [x]) (fa := false) (fb := true) (var_ok rfl) rfl ?_⟩
        show (if (nD g).length + (nD [x]).length ≤ lineN then some (PyData.tuple (nD g ++ nD [x])) else none) = _
        rw [if_pos (by simp; unfold lineN; omega)]
        unfold lD nD
        rw [List.map_append]
      rw [List.filter_eq_self.mpr fun _ _ => rfl] at z1
      exact setL_ok (bin_is (x := .list (L.map lD)) (y := .list ((L.map (· ++ [x])).map lD)) (z := .list ((subsF L x).map lD)) (o := .add) (fa := false) (fb := true) (var_ok (i := 1) (o := true) rfl) (by rw [List.map_map]; exact z1) (cat_ls _ _ (by rw [List.length_map]; unfold lineN; omega))) (imm_ls _)
    · unfold subsF
      rw [List.length_append, List.length_map, Nat.pow_succ]
      omega
    · intro g hg2
      rcases List.mem_append.mp hg2 with hg2 | hg2
      · have := hgl g hg2; omega
      · obtain ⟨g', hg', rfl⟩ := List.mem_map.mp hg2
        have := hgl g' hg'
        rw [List.length_append]
        simp
        omega) ⟨by simp, fun g hg => by rw [List.mem_singleton.mp hg]; simp⟩
  have src : evSrc (evF P fu d) th false (.sRng1 (.var 0)) (E [[]] none) h = .ok (nD (List.range n)) h := by
    rw [← rng_nD]
    exact rngE_ok (i := ((n : Nat) : Int)) (fa := false) rfl (rng_small (by omega))
  have srt := sorted_ls (subsL (List.range n))
  rw [lex_eq] at srt
  exact evF_rt (fn := fnLL) (env' := E (subsL (List.range n)) e2) hg rfl ((seq_nx (env' := E [[]] none) (h' := h) rfl).trans ((seq_nx ((frr_ok (h' := h) src).trans q)).trans (ret_ok (prim1 (x := .list ((subsL (List.range n)).map lD)) (fa := false) (var_ok rfl) srt))))
end
def fnDeep (dr an : Nat) : Fn := ⟨1, 3, (.seq (.set (.v 1) (.call an (.cons (.var 0) (.cons (.lst (.cons (.cst (.str "?")) (.cons (.cst (.str "X x")) .nil))) .nil))))
 (.seq (.frr (.v 2) (.sRng1 (.bin .add (.cst (.int 5)) (.call dr (.cons (.var 0) (.cons (.cst (.int 20)) .nil)))))
 (.set (.v 1) (.ite (.cmp .eq (.call dr (.cons (.var 0) (.cons (.cst (.int 2)) .nil))) (.cst (.int 0))) (.lst (.cons (.var 1) .nil)) (.tup (.cons (.var 1) .nil)))))
 (.retV 1)))⟩
def Hold (z x : PyData) : Prop := z = .list [x] ∨ z = .tuple [x]
abbrev ED (z : PyData) (o : Bool) (e2 : SL) : Pv.Env := [some (.hand, false), some (.d z, o), e2]
abbrev XD (dr : Nat) : X := .ite (.cmp .eq (.call dr (.cons (.var 0) (.cons (.cst (.int 2)) .nil))) (.cst (.int 0))) (.lst (.cons (.var 1) .nil)) (.tup (.cons (.var 1) .nil))
section
variable {fu d dr an g : Nat} {h : HS} {P : List Fn}
theorem step20 (dD : Draws P dr) {z : PyData} {o : Bool} {e2 : SL} (hv : HV h) : ∃ z' o' h', Hold z' z ∧ HV h' ∧ evS (evF P fu (d + 1)) NT0 false fu (.set (.v 1) (XD dr)) (ED z o e2) h = .ok (.nx, ED z' o' e2) h' := by
  obtain ⟨r, b, h', r0, r1, hv', q⟩ := dD (fu := fu) (d := d) (th := fun _ => .no) hv (many := 2) (by decide) (by decide)
  have c := cmp_ok (C := evF P fu (d + 1)) (th := NT0) (hot := false) (env := ED z o e2) (o := .eq) (a := .call dr (.cons (.var 0) (.cons (.cst (.int 2)) .nil))) (x := .int r) (y := .int 0) (fa := b) (fb := true) (q := r == 0) ((callE_ok (vs := [(.hand, false), (.d (.int 2), true)]) rfl rfl).trans q) (b := .cst (.int 0)) (h2 := h') rfl rfl
  have lk : ∀ x : PyData, (leak (.d x) true (vars (XD dr)) (ED z o e2)).set 1 (some (.d x, !false && ownOf (.d x) true)) = ED x (ownOf (.d x) true) e2 := fun x => by
    rcases leak_or x true (vars (XD dr)) (ED z o e2) with e | e
    · rw [e]; cases ownOf (.d x) true <;> rfl
    · rw [e]; cases o <;> cases ownOf (.d x) true <;> rfl
  cases k : (r == 0) with
  | true =>
    rw [k] at c
    refine ⟨.list [z], true, h', .inl rfl, hv', ?_⟩
    rw [set_ok (v := .d (.list [z])) (fr := true) ((iteE_t c).trans rfl)]
    exact congrArg (fun e => R.ok (Out.nx, e) h') (lk (.list [z]))
  | false =>
    rw [k] at c
    refine ⟨.tuple [z], false, h', .inr rfl, hv', ?_⟩
    rw [set_ok (v := .d (.tuple [z])) (fr := true) ((iteE_f c).trans rfl)]
    exact congrArg (fun e => R.ok (Out.nx, e) h') (lk (.tuple [z]))
theorem deep_gen (dD : Draws P dr) (ha : P[an]? = some (someFn dr)) (hg : P[g]? = some (fnDeep dr an)) (hv : HV h) : ∃ z x y o h', Hold z x ∧ Hold x y ∧ HV h' ∧ evF P fu (d + 3) g [.hand] NT0 h = .ok (.d z, o) h' := by
  let E0 : Pv.Env := [some (.hand, false), none, none]
  obtain ⟨z0, h1, _, hv1, q1⟩ := any_gen dD ha (fu := fu) (d := d) (th := NT0) hv (xs := [.str "?", .str "X x"]) (by decide) (by decide)
  have s1 : ∃ o, evS (evF P fu (d + 2)) NT0 false fu (.set (.v 1) (.call an (.cons (.var 0) (.cons (.lst (.cons (.cst (.str "?")) (.cons (.cst (.str "X x")) .nil))) .nil)))) E0 h = .ok (.nx, ED z0 o none) h1 := by
    rw [set_old ((callE_ok (vs := [(.hand, false), (.d (.list [.str "?", .str "X x"]), true)]) rfl rfl).trans q1)]
    rcases leak_or z0 false [0] E0 with e | e
    · exact ⟨false, congrArg (fun e => R.ok (Out.nx, e.set 1 (some (.d z0, false))) h1) e⟩
    · exact ⟨false, congrArg (fun e => R.ok (Out.nx, e.set 1 (some (.d z0, false))) h1) e⟩
  obtain ⟨o0, s1⟩ := s1
  obtain ⟨r, b, h2, r0, r1, hv2, q2⟩ := dD (fu := fu) (d := d + 1) (th := fun _ => .no) hv1 (many := 20) (by decide) (by decide)
  obtain ⟨r, rfl⟩ : ∃ k : Nat, r = (k : Nat) := ⟨r.toNat, by omega⟩
  obtain ⟨env', h', ⟨hv', z, o, e2, ee, _, dp⟩, q⟩ := for_rng (I := fun k env h => HV h ∧ ∃ z o e2, env = ED z o e2 ∧ (1 ≤ k → ∃ x, Hold z x) ∧ (2 ≤ k → ∃ x y, Hold z x ∧ Hold x y)) (step := fun x env h => match bindT (.v 2) x env with
      | some env' => evS (evF P fu (d + 2)) NT0 false fu (.set (.v 1) (XD dr)) env' h
      | none => .no) (5 + r) (fun k hk env h ⟨hv, z, o, e2, e, c1, _⟩ => by
        subst e
        obtain ⟨z', o', h', hz, hv', q⟩ := step20 (fu := fu) dD (d := d + 1) (z := z) (o := o) (e2 := vS (.int (k : Nat))) hv
        exact ⟨_, h', ⟨hv', z', o', _, rfl, fun _ => ⟨z, hz⟩, fun k2 => let ⟨x, hx⟩ := c1 (by omega); ⟨z, x, hz, hx⟩⟩, q⟩) (ED z0 o0 none) h2 ⟨hv2, z0, o0, none, rfl, fun z => absurd z (by decide), fun z => absurd z (by decide)⟩
  subst ee
  obtain ⟨x, y, hx, hy⟩ := dp (by omega)
  refine ⟨z, x, y, o, h', hx, hy, hv', evF_rt (fn := fnDeep dr an) (env' := ED z o e2) hg rfl ((seq_nx s1).trans ((seq_nx ((frr_ok (h' := h2) (xs := nD (List.range (5 + r))) ?_).trans q)).trans (retV_ok rfl)))⟩
  rw [← rng_nD]
  exact rngE_ok (i := ((5 + r : Nat) : Int)) (fa := true) (bin_is (x := .int 5) (y := .int (r : Nat)) (fa := true) (fb := b) rfl ((callE_ok (vs := [(.hand, false), (.d (.int 20), true)]) rfl rfl).trans q2) (by
    show some (PyData.int (5 + (r : Int))) = _
    rw [show (5 + (r : Int)) = ((5 + r : Nat) : Int) by omega])) (rng_in (by omega) (by omega))
end
end Pv
/-! text S46 -/
set_option autoImplicit false
set_option linter.all false
set_option maxRecDepth 100000
set_option maxHeartbeats 4000000
/-! houses with doors, lamps in rooms: what a family of laws shares -/
namespace Pv
open PySem
def fnIsLot : Fn := ⟨2, 4, (.seq (.ite (.or (.not (.prim .isTuple (.cons (.var 0) .nil))) (.not (.prim .all (.cons (.lc (.v 2) (.sVal (.var 0)) .nil (.call 1 (.cons (.var 2) (.cons (.cst (.int 0)) (.cons (.bin .sub (.var 1) (.cst (.int 1))) .nil))))) .nil))))
 (.ret (.cst (.bool false)))
 .skip)
 (.ret (.prim .all (.cons (.lc (.tup (.cons (.v 2) (.cons (.v 3) .nil))) (.sZip (.var 0) (.slice (.var 0) (.cst (.int 1)) (.cst .none))) .nil (.cmp .lt (.var 2) (.var 3))) .nil))))⟩
def fnIsHouse : Fn := ⟨1, 6, (.seq (.ite (.or (.not (.call 2 (.cons (.var 0) (.cons (.cst (.int 2)) (.cons (.cst (.int 2)) .nil))))) (.or (.not (.call 1 (.cons (.idx (.var 0) (.cst (.int 0))) (.cons (.cst (.int 2)) (.cons (.cst (.int 7)) .nil))))) (.not (.prim .isTuple (.cons (.idx (.var 0) (.cst (.int 1))) .nil)))))
 (.ret (.cst (.bool false)))
 .skip)
 (.seq (.ite (.not (.prim .all (.cons (.lc (.v 1) (.sVal (.idx (.var 0) (.cst (.int 1)))) .nil (.call 2 (.cons (.var 1) (.cons (.cst (.int 2)) (.cons (.cst (.int 2)) .nil))))) .nil)))
 (.ret (.cst (.bool false)))
 .skip)
 (.seq (.ite (.not (.prim .all (.cons (.lc (.tup (.cons (.v 2) (.cons (.v 3) .nil))) (.sVal (.idx (.var 0) (.cst (.int 1)))) .nil (.and (.call 1 (.cons (.var 2) (.cons (.cst (.int 0)) (.cons (.bin .sub (.idx (.var 0) (.cst (.int 0))) (.cst (.int 1))) .nil)))) (.and (.call 1 (.cons (.var 3) (.cons (.cst (.int 0)) (.cons (.bin .sub (.idx (.var 0) (.cst (.int 0))) (.cst (.int 1))) .nil)))) (.cmp .lt (.var 2) (.var 3))))) .nil)))
 (.ret (.cst (.bool false)))
 .skip)
 (.ret (.prim .all (.cons (.lc (.tup (.cons (.v 4) (.cons (.v 5) .nil))) (.sZip (.idx (.var 0) (.cst (.int 1))) (.slice (.idx (.var 0) (.cst (.int 1))) (.cst (.int 1)) (.cst .none))) .nil (.cmp .lt (.var 4) (.var 5))) .nil))))))⟩
def fnCheck (ih ce : Nat) : Fn := ⟨1, 1, (.ite (.not (.call ih (.cons (.var 0) .nil)))
 (.raise ce .nil)
 .skip)⟩
def fnNear : Fn := ⟨2, 4, (.ret (.prim .tuple (.cons (.prim .sorted (.cons (.bin .add (.lst (.cons (.var 1) .nil)) (.lc (.tup (.cons (.v 2) (.cons (.v 3) .nil))) (.sVal (.idx (.var 0) (.cst (.int 1)))) (.cons (.cmp .inn (.var 1) (.tup (.cons (.var 2) (.cons (.var 3) .nil)))) .nil) (.bin .sub (.bin .add (.var 2) (.var 3)) (.var 1)))) .nil)) .nil)))⟩
def fnLamps (ch il ce : Nat) : Fn := ⟨2, 2, (.seq (.expr (.call ch (.cons (.var 0) .nil)))
 (.ite (.not (.call il (.cons (.var 1) (.cons (.idx (.var 0) (.cst (.int 0))) .nil))))
 (.raise ce .nil)
 .skip))⟩
def fnRooms : Fn := ⟨1, 1, (.ret (.rngL false (.sRng1 (.idx (.var 0) (.cst (.int 0))))))⟩
def fnTurned (ne : Nat) : Fn := ⟨2, 5, (.seq (.set (.v 2) (.lst .nil))
 (.seq (.frr (.v 3) (.sRng1 (.idx (.var 0) (.cst (.int 0))))
 (.ite (.cmp .eq (.bin .mod (.prim .len (.cons (.lc (.v 4) (.sVal (.var 1)) (.cons (.cmp .inn (.var 4) (.call ne (.cons (.var 0) (.cons (.var 3) .nil)))) .nil) (.cst (.int 1))) .nil)) (.cst (.int 2))) (.cst (.int 1)))
 (.app 2 (.var 3))
 .skip))
 (.ret (.prim .tuple (.cons (.var 2) .nil)))))⟩
def fnLHouse (dr an : Nat) : Fn := ⟨2, 7, (.seq (.seq (.set (.v 2) (.bin .add (.cst (.int 2)) (.call dr (.cons (.var 0) (.cons (.bin .sub (.var 1) (.cst (.int 1))) .nil)))))
 (.seq (.set (.v 3) (.call an (.cons (.var 0) (.cons (.lst (.cons (.cst (.int 2)) (.cons (.cst (.int 2)) (.cons (.cst (.int 4)) .nil)))) .nil))))
 (.set (.v 4) (.lst .nil))))
 (.seq (.frr (.v 5) (.sRng1 (.var 2))
 (.ext 4 (.lc (.v 6) (.sRng2 (.bin .add (.var 5) (.cst (.int 1))) (.var 2)) (.cons (.cmp .eq (.call dr (.cons (.var 0) (.cons (.var 3) .nil))) (.cst (.int 0))) .nil) (.tup (.cons (.var 5) (.cons (.var 6) .nil))))))
 (.ret (.tup (.cons (.var 2) (.cons (.prim .tuple (.cons (.var 4) .nil)) .nil))))))⟩
def fnLNear : Fn := ⟨2, 5, (.seq (.set (.tup (.cons (.v 2) (.cons (.v 3) .nil))) (.var 0))
 (.ret (.lc (.v 4) (.sRng1 (.var 2)) (.cons (.or (.cmp .eq (.var 4) (.var 1)) (.cmp .inn (.tup (.cons (.prim .min2 (.cons (.var 4) (.cons (.var 1) .nil))) (.cons (.prim .max2 (.cons (.var 4) (.cons (.var 1) .nil))) .nil))) (.var 3))) .nil) (.var 4))))⟩
def fnNoHouse (an de : Nat) : Fn := ⟨1, 2, (.seq (.set (.v 1) (.lst (.cons (.cst .none) (.cons (.tup .nil) (.cons (.tup (.cons (.cst (.int 1)) (.cons (.tup .nil) .nil))) (.cons (.tup (.cons (.cst (.int 8)) (.cons (.tup .nil) .nil))) (.cons (.tup (.cons (.cst (.int 2)) (.cons (.lst (.cons (.tup (.cons (.cst (.int 0)) (.cons (.cst (.int 1)) .nil))) .nil)) .nil))) (.cons (.tup (.cons (.cst (.int 2)) (.cons (.tup (.cons (.tup (.cons (.cst (.int 1)) (.cons (.cst (.int 0)) .nil))) .nil)) .nil))) (.cons (.tup (.cons (.cst (.int 2)) (.cons (.tup (.cons (.tup (.cons (.cst (.int 0)) (.cons (.cst (.int 2)) .nil))) .nil)) .nil))) (.cons (.lst (.cons (.cst (.int 2)) (.cons (.tup .nil) .nil))) (.cons (.tup (.cons (.cst (.int 2)) .nil)) (.cons (.cst (.int 2)) (.cons (.cst (.str "2 -")) (.cons (.cst (.str "x")) .nil))))))))))))))
 (.seq (.set (.v 1) (.bin .add (.var 1) (.lst (.cons (.tup (.cons (.cst (.int 3)) (.cons (.tup (.cons (.tup (.cons (.cst (.int 1)) (.cons (.cst (.int 2)) .nil))) (.cons (.tup (.cons (.cst (.int 0)) (.cons (.cst (.int 1)) .nil))) .nil))) .nil))) (.cons (.tup (.cons (.cst (.int 2)) (.cons (.tup (.cons (.tup (.cons (.cst (.int 0)) (.cons (.cst (.int 1)) .nil))) (.cons (.tup (.cons (.cst (.int 0)) (.cons (.cst (.int 1)) .nil))) .nil))) .nil))) (.cons (.tup (.cons (.cst (.bool true)) (.cons (.tup .nil) .nil))) (.cons (.tup (.cons (.cst (.str "2")) (.cons (.tup .nil) .nil))) (.cons (.tup (.cons (.cst (.int 2)) (.cons (.tup (.cons (.tup (.cons (.cst (.int 0)) (.cons (.cst (.int 0)) .nil))) .nil)) .nil))) (.cons (.dsp .nil .nil) .nil)))))))))
 (.ret (.call an (.cons (.var 0) (.cons (.bin .add (.var 1) (.lst (.cons (.call de (.cons (.var 0) .nil)) .nil))) .nil))))))⟩
def fnNoLot (an de : Nat) : Fn := ⟨2, 3, (.seq (.set (.v 2) (.lst (.cons (.cst .none) (.cons (.lst (.cons (.cst (.int 0)) .nil)) (.cons (.tup (.cons (.var 1) .nil)) (.cons (.tup (.cons (.neg (.cst (.int 1))) .nil)) (.cons (.tup (.cons (.cst (.int 0)) (.cons (.cst (.int 0)) .nil))) (.cons (.tup (.cons (.cst (.int 1)) (.cons (.cst (.int 0)) .nil))) (.cons (.tup (.cons (.cst (.bool true)) .nil)) (.cons (.tup (.cons (.cst (.str "0")) .nil)) (.cons (.cst (.int 0)) (.cons (.cst (.str "x")) (.cons (.dsp .nil .nil) (.cons (.tup (.cons (.cst .none) .nil)) .nil))))))))))))))
 (.ret (.call an (.cons (.var 0) (.cons (.bin .add (.var 2) (.lst (.cons (.call de (.cons (.var 0) .nil)) .nil))) .nil)))))⟩
def fnOdd (ln : Nat) : Fn := ⟨3, 4, (.ret (.cmp .eq (.bin .mod (.prim .int (.cons (.prim .len (.cons (.lc (.v 3) (.sVal (.call ln (.cons (.var 0) (.cons (.var 2) .nil)))) (.cons (.cmp .inn (.var 3) (.var 1)) .nil) (.var 3)) .nil)) .nil)) (.cst (.int 2))) (.cst (.int 1))))⟩
def fnLTurned (od : Nat) : Fn := ⟨2, 3, (.ret (.prim .tuple (.cons (.lc (.v 2) (.sRng1 (.idx (.var 0) (.cst (.int 0)))) (.cons (.call od (.cons (.var 0) (.cons (.var 1) (.cons (.var 2) .nil)))) .nil) (.var 2)) .nil)))⟩
def allP (n : Nat) : List Lot := (List.range n).flatMap fun a => ((List.range n).filter (a < ·)).map fun b => [a, b]
structure HouseOk (n : Nat) (ds : List Lot) : Prop where
  n2 : 2 ≤ n
  n7 : n ≤ 7
  sub : ds.Sublist (allP n)
abbrev hD (n : Nat) (ds : List Lot) : PyData := .tuple [.int (n : Nat), rT ds]
theorem allP_ok {n : Nat} (h2 : 2 ≤ n) (h6 : n ≤ 7) : (allP n).length ≤ 21 ∧ (∀ d ∈ allP n, ∃ a b, d = [a, b] ∧ a < b ∧ b < n) ∧ (allP n).Pairwise fun x y => cmpD .lt (lD x) (lD y) = some true := by
  have hn : n = 2 ∨ n = 3 ∨ n = 4 ∨ n = 5 ∨ n = 6 ∨ n = 7 := by omega
  have pw : ∀ n, (allP n).length ≤ 21 → ((allP n).all fun d => match d with | [a, b] => decide (a < b) && decide (b < n) | _ => false) = true → (List.range (allP n).length).all (fun i => (List.range (allP n).length).all fun j => !decide (i < j) || (match cmpD .lt (lD ((allP n).getD i [])) (lD ((allP n).getD j [])) with | some true => true | _ => false)) = true →
      (allP n).length ≤ 21 ∧ (∀ d ∈ allP n, ∃ a b, d = [a, b] ∧ a < b ∧ b < n) ∧ (allP n).Pairwise fun x y => cmpD .lt (lD x) (lD y) = some true := fun n l e1 e2 => by
    refine ⟨l, fun d hd => ?_, ?_⟩
    · have := List.all_eq_true.mp e1 d hd
      match d, this with
      | [a, b], h =>
        obtain ⟨h1, h2⟩ := Bool.and_eq_true_iff.mp h
        exact ⟨a, b, rfl, of_decide_eq_true h1, of_decide_eq_true h2⟩
    · rw [List.pairwise_iff_getElem]
      intro i j hi hj hij
      have h1 := List.all_eq_true.mp (List.all_eq_true.mp e2 i (List.mem_range.mpr hi)) j (List.mem_range.mpr hj)
      rw [decide_eq_true hij] at h1
      simp only [List.getD_eq_getElem?_getD, List.getElem?_eq_getElem hi, List.getElem?_eq_getElem hj, Option.getD_some, Bool.not_true, Bool.false_or] at h1
      revert h1
      generalize cmpD .lt (lD (allP n)[i]) (lD (allP n)[j]) = o
      intro h1
      match o, h1 with
      | some true, _ => rfl
  rcases hn with rfl | rfl | rfl | rfl | rfl | rfl
  all_goals exact pw _ (by decide) (by decide) (by kernel_rfl)
theorem zip_pair {α : Type} {R : α → α → Prop} : ∀ (l : List α), l.Pairwise R → ∀ p ∈ l.zip (l.drop 1), R p.1 p.2
  | [], _, p, hp => by cases hp
  | [a], _, p, hp => by cases hp
  | a :: b :: t, h, p, hp => by
    rcases List.mem_cons.mp (show p ∈ (a, b) :: (b :: t).zip ((b :: t).drop 1) from hp) with e | m
    · rw [e]; exact (List.pairwise_cons.mp h).1 b (List.mem_cons_self ..)
    · exact zip_pair (b :: t) (List.pairwise_cons.mp h).2 p m
theorem zip_src {ds : List Lot} : ((ds.map lD).zip (cutL (ds.map lD) (some 1) none)).map (fun p => PyData.tuple [p.1, p.2]) = (ds.zip (ds.drop 1)).map fun p => .tuple [lD p.1, lD p.2] := by
  have ec : cutL (ds.map lD) (some 1) none = (ds.drop 1).map lD := by
    rw [cutL_map]
    congr 1
    unfold cutL cutAt
    cases ds with
    | nil => rfl
    | cons a l =>
      have e1 : (if (1 : Int) < 0 then ((1 : Int) + ((a :: l).length : Int)).toNat else min (1 : Int).toNat (a :: l).length) = 1 := by
        rw [if_neg (by decide)]; simp
      simp only [e1]
      rw [List.take_of_length_le (by simp)]
  rw [ec, List.zip_map, List.map_map]; rfl
theorem inn_rs (g : Lot) (L : List Lot) : cmpD .inn (lD g) (rT L) = some (decide (g ∈ L)) := (inn_ls g L).1
theorem sorted_l (l : Lot) : primD .sorted [.list (nD l)] = some (.list (nD (srt l))) := sorted_nD l
theorem inn_ints (k : Nat) (l : Lot) : cmpD .inn (.int (k : Nat)) (.tuple (nD l)) = some (l.contains k) := inn_lot k l
/-- near a room -/
def nearB (ds : List Lot) (r x : Nat) : Bool := x == r || decide ([min x r, max x r] ∈ ds)
def otherL (ds : List Lot) (r : Nat) : Lot := (ds.filter fun g => g.contains r).map fun g => g.getD 0 0 + g.getD 1 0 - r
def nearL (ds : List Lot) (r : Nat) : Lot := srt ([r] ++ otherL ds r)
section
variable {n : Nat} {ds : List Lot}
theorem HouseOk.mem (o : HouseOk n ds) {g : Lot} (h : g ∈ ds) : ∃ a b, g = [a, b] ∧ a < b ∧ b < n := (allP_ok o.n2 o.n7).2.1 g (o.sub.subset h)
theorem HouseOk.len (o : HouseOk n ds) : ds.length ≤ 21 := Nat.le_trans o.sub.length_le (allP_ok o.n2 o.n7).1
theorem near_mem (o : HouseOk n ds) (r x : Nat) : (nearL ds r).contains x = nearB ds r x := by
  rw [Bool.eq_iff_iff, List.contains_iff_mem]
  unfold nearL nearB
  rw [(srt_perm _).mem_iff, List.mem_append, List.mem_singleton, Bool.or_eq_true_iff, beq_iff_eq, decide_eq_true_iff]
  refine or_congr Iff.rfl ?_
  unfold otherL
  rw [List.mem_map]
  constructor
  · rintro ⟨g, hg, rfl⟩
    obtain ⟨h1, h2⟩ := List.mem_filter.mp hg
    obtain ⟨a, b, rfl, ab, _⟩ := o.mem h1
    rw [List.contains_iff_mem] at h2
    have e : [min (a + b - r) r, max (a + b - r) r] = [a, b] := by
      rcases (show r = a ∨ r = b by simpa using h2) with rfl | rfl
      · rw [show r + b - r = b by omega, Nat.min_eq_right (by omega), Nat.max_eq_left (by omega)]
      · rw [show a + r - r = a by omega, Nat.min_eq_left (by omega), Nat.max_eq_right (by omega)]
    show [min (a + b - r) r, max (a + b - r) r] ∈ ds
    rw [e]
    exact h1
  · intro h
    obtain ⟨a, b, e, ab, _⟩ := o.mem h
    refine ⟨[a, b], List.mem_filter.mpr ⟨by rw [← e]; exact h, ?_⟩, ?_⟩
    · rw [List.contains_iff_mem, ← e]
      rcases Nat.le_total x r with z | z
      · rw [Nat.max_eq_right z]; simp
      · rw [Nat.min_eq_right z]; simp
    · injection e with e1 e2
      injection e2 with e2 _
      show a + b - r = x
      omega
end
def oddB (ds : List Lot) (lot : Lot) (r : Nat) : Bool := (lot.filter fun x => nearB ds r x).length % 2 == 1
def turnL (n : Nat) (ds : List Lot) (lot : Lot) : Lot := (List.range n).filter fun r => oddB ds lot r
section
variable {P : List Fn} {fu d n g : Nat} {th : Pv.Thunk} {h : HS} {ds : List Lot} {lot : Lot}
theorem lot_gen (b : Basic P) (hg : P[g]? = some fnIsLot) (s : lot.Sublist (List.range n)) (n7 : n ≤ 7) : evF P fu (d + 3) g [.d (lD lot), iP n] th h = .ok (.d (.bool true), true) h := by
  obtain ⟨asc, lt⟩ := sub_asc s
  have ll : lot.length ≤ 7 := by have := s.length_le; rw [List.length_range] at this; omega
  let E : Pv.Env := [vS (lD lot), vS (.int (n : Nat)), none, none]
  have c0 : evE (evF P fu (d + 2)) th false (.prim .isTuple (.cons (.var 0) .nil)) E h = .ok (.d (.bool true), true) h := prim1 (x := lD lot) (fa := false) (var_ok rfl) rfl
  have a1 := all_G (C := evF P fu (d + 2)) (th := th) (h := h) (env := E) (t := .v 2) (src := .sVal (.var 0)) (elt := .call 1 (.cons (.var 2) (.cons (.cst (.int 0)) (.cons (.bin .sub (.var 1) (.cst (.int 1))) .nil)))) (L := lot) (fun k : Nat => PyData.int (k : Nat)) (fun _ => true) (src_val (x := lD lot) (fa := false) (var_ok rfl) rfl) (by unfold lineN; omega) fun k hk => by
    have := lt k hk
    exact ⟨E.set 2 (vS (.int (k : Nat))), true, rfl, (callE_ok (vs := [(iP k, false), (.d (.int 0), true), (.d (.int ((n : Int) - 1)), true)]) rfl rfl).trans (b.within_t (by omega) (by omega))⟩
  rw [List.all_eq_true.mpr fun _ _ => rfl] at a1
  have src : evSrc (evF P fu (d + 2)) th false (.sZip (.var 0) (.slice (.var 0) (.cst (.int 1)) (.cst .none))) E h = .ok ((lot.zip (lot.drop 1)).map fun p => .tuple [.int (p.1 : Nat), .int (p.2 : Nat)]) h := by
    have ec : cutL (nD lot) (some 1) none = nD (lot.drop 1) := by
      unfold nD
      rw [cutL_map]
      congr 1
      unfold cutL cutAt
      cases lot with
      | nil => rfl
      | cons a l =>
        have e1 : (if (1 : Int) < 0 then ((1 : Int) + ((a :: l).length : Int)).toNat else min (1 : Int).toNat (a :: l).length) = 1 := by
          rw [if_neg (by decide)]; simp
        simp only [e1]
        rw [List.take_of_length_le (by simp)]
    have e : evSrc (evF P fu (d + 2)) th false (.sZip (.var 0) (.slice (.var 0) (.cst (.int 1)) (.cst .none))) E h = .ok (((nD lot).zip (cutL (nD lot) (some 1) none)).map fun p => .tuple [p.1, p.2]) h := rfl
    rw [e, ec]
    unfold nD
    rw [List.zip_map, List.map_map]; rfl
  have a2 := all_G (C := evF P fu (d + 2)) (th := th) (h := h) (env := E) (t := .tup (.cons (.v 2) (.cons (.v 3) .nil))) (elt := .cmp .lt (.var 2) (.var 3)) (L := lot.zip (lot.drop 1)) (fun p => .tuple [.int (p.1 : Nat), .int (p.2 : Nat)]) (fun _ => true) src (by rw [List.length_zip]; unfold lineN; omega) fun p hp => by
    have := zip_pair lot asc p hp
    exact ⟨_, true, rfl, cmp_ok (x := .int (p.1 : Nat)) (y := .int (p.2 : Nat)) (fa := false) (fb := false) (var_ok rfl) (var_ok rfl) (by rw [lt_nat, decide_eq_true this])⟩
  rw [List.all_eq_true.mpr fun _ _ => rfl] at a2
  exact evF_rt (fn := fnIsLot) (env' := E) hg rfl ((seq_nx (env' := E) (h' := h) ((ite_f (fr := true) (h' := h) ((or_f (fa := true) (h' := h) (not_ok (p := true) (fa := true) c0)).trans (not_ok a1))).trans rfl)).trans (ret_ok a2))
theorem house_gen (b : Basic P) (hg : P[g]? = some fnIsHouse) (o : HouseOk n ds) : evF P fu (d + 3) g [.d (hD n ds)] th h = .ok (.d (.bool true), true) h := by
  have n2 := o.n2
  have n7 := o.n7
  have ld := o.len
  let E : Pv.Env := [vS (hD n ds), none, none, none, none, none]
  have z : evE (evF P fu (d + 2)) th false (.call 2 (.cons (.var 0) (.cons (.cst (.int 2)) (.cons (.cst (.int 2)) .nil)))) E h = .ok (.d (.bool true), true) h :=
    (callE_ok (vs := [(.d (hD n ds), false), (.d (.int 2), true), (.d (.int 2), true)]) rfl rfl).trans (b.sized_t (by show (2 : Int) ≤ 2; decide) (by show (2 : Int) ≤ 2; decide))
  have w : evE (evF P fu (d + 2)) th false (.call 1 (.cons (.idx (.var 0) (.cst (.int 0))) (.cons (.cst (.int 2)) (.cons (.cst (.int 7)) .nil)))) E h = .ok (.d (.bool true), true) h :=
    (callE_ok (vs := [(iP n, false), (.d (.int 2), true), (.d (.int 7), true)]) rfl rfl).trans (b.within_t (by omega) (by omega))
  have i1 : ∀ env : Pv.Env, env[0]? = some (vS (hD n ds)) → evE (evF P fu (d + 2)) th false (.idx (.var 0) (.cst (.int 1))) env h = .ok (.d (rT ds), false) h := fun env e => idx_is (x := hD n ds) (y := .int 1) (fa := false) (fb := true) (var_ok e) rfl rfl
  have i0 : ∀ env : Pv.Env, env[0]? = some (vS (hD n ds)) → evE (evF P fu (d + 2)) th false (.idx (.var 0) (.cst (.int 0))) env h = .ok (iP n, false) h := fun env e => idx_is (x := hD n ds) (y := .int 0) (fa := false) (fb := true) (var_ok e) rfl rfl
  have t1 : evE (evF P fu (d + 2)) th false (.prim .isTuple (.cons (.idx (.var 0) (.cst (.int 1))) .nil)) E h = .ok (.d (.bool true), true) h := prim1 (x := rT ds) (fa := false) (i1 _ rfl) rfl
  have a1 := all_G (C := evF P fu (d + 2)) (th := th) (h := h) (env := E) (t := .v 1) (src := .sVal (.idx (.var 0) (.cst (.int 1)))) (elt := .call 2 (.cons (.var 1) (.cons (.cst (.int 2)) (.cons (.cst (.int 2)) .nil)))) (L := ds) lD (fun _ => true) (src_val (x := rT ds) (fa := false) (i1 _ rfl) rfl) (by unfold lineN; omega) fun x hx => by
    obtain ⟨a, c, rfl, _, _⟩ := o.mem hx
    exact ⟨E.set 1 (vS (lD [a, c])), true, rfl, (callE_ok (vs := [(.d (lD [a, c]), false), (.d (.int 2), true), (.d (.int 2), true)]) rfl rfl).trans (b.sized_t (xs := nD [a, c]) (by show (2 : Int) ≤ 2; decide) (by show (2 : Int) ≤ 2; decide))⟩
  rw [List.all_eq_true.mpr fun _ _ => rfl] at a1
  have a2 := all_G (C := evF P fu (d + 2)) (th := th) (h := h) (env := E) (t := .tup (.cons (.v 2) (.cons (.v 3) .nil))) (src := .sVal (.idx (.var 0) (.cst (.int 1)))) (elt := .and (.call 1 (.cons (.var 2) (.cons (.cst (.int 0)) (.cons (.bin .sub (.idx (.var 0) (.cst (.int 0))) (.cst (.int 1))) .nil)))) (.and (.call 1 (.cons (.var 3) (.cons (.cst (.int 0)) (.cons (.bin .sub (.idx (.var 0) (.cst (.int 0))) (.cst (.int 1))) .nil)))) (.cmp .lt (.var 2) (.var 3)))) (L := ds) lD (fun _ => true) (src_val (x := rT ds) (fa := false) (i1 _ rfl) rfl) (by unfold lineN; omega) fun x hx => by
    obtain ⟨a, c, rfl, ac, cn⟩ := o.mem hx
    let E2 : Pv.Env := [vS (hD n ds), none, vS (.int (a : Nat)), vS (.int (c : Nat)), none, none]
    have w : ∀ (i k : Nat), E2[i]? = some (vS (.int (k : Nat))) → k < n → evE (evF P fu (d + 2)) th false (.call 1 (.cons (.var i) (.cons (.cst (.int 0)) (.cons (.bin .sub (.idx (.var 0) (.cst (.int 0))) (.cst (.int 1))) .nil)))) E2 h = .ok (.d (.bool true), true) h := fun i k e hk =>
      (callE_ok (vs := [(iP k, false), (.d (.int 0), true), (.d (.int ((n : Int) - 1)), true)]) (cons_ok (var_ok e) (cons_ok rfl (cons_ok (bin_is (fb := true) (i0 _ rfl) rfl rfl) rfl))) rfl).trans (b.within_t (by omega) (by omega))
    refine ⟨E2, true, rfl, (and_t (w 2 a rfl (by omega))).trans ((and_t (w 3 c rfl cn)).trans (cmp_ok (x := .int (a : Nat)) (y := .int (c : Nat)) (fa := false) (fb := false) (var_ok rfl) (var_ok rfl) ?_))⟩
    rw [lt_nat, decide_eq_true ac]
  rw [List.all_eq_true.mpr fun _ _ => rfl] at a2
  have src : evSrc (evF P fu (d + 2)) th false (.sZip (.idx (.var 0) (.cst (.int 1))) (.slice (.idx (.var 0) (.cst (.int 1))) (.cst (.int 1)) (.cst .none))) E h = .ok ((ds.zip (ds.drop 1)).map fun p => .tuple [lD p.1, lD p.2]) h := by
    rw [← zip_src]; rfl
  have a3 := all_G (C := evF P fu (d + 2)) (th := th) (h := h) (env := E) (t := .tup (.cons (.v 4) (.cons (.v 5) .nil))) (elt := .cmp .lt (.var 4) (.var 5)) (L := ds.zip (ds.drop 1)) (fun p => .tuple [lD p.1, lD p.2]) (fun _ => true) src (by rw [List.length_zip]; unfold lineN; omega) fun p hp =>
    ⟨_, true, rfl, cmp_ok (x := lD p.1) (y := lD p.2) (fa := false) (fb := false) (var_ok rfl) (var_ok rfl) (zip_pair ds (List.Pairwise.sublist o.sub (allP_ok n2 n7).2.2) p hp)⟩
  rw [List.all_eq_true.mpr fun _ _ => rfl] at a3
  refine evF_rt (fn := fnIsHouse) (env' := E) hg rfl ?_
  refine (seq_nx (env' := E) (h' := h) ((ite_f (fr := true) (h' := h) ((or_f (fa := true) (h' := h) (not_ok z)).trans ((or_f (fa := true) (h' := h) (not_ok w)).trans (not_ok t1)))).trans rfl)).trans ?_
  refine (seq_nx (env' := E) (h' := h) ((ite_f (fr := true) (h' := h) (not_ok a1)).trans rfl)).trans ?_
  exact (seq_nx (env' := E) (h' := h) ((ite_f (fr := true) (h' := h) (not_ok a2)).trans rfl)).trans (ret_ok a3)
theorem check_gen (b : Basic P) {ih ce : Nat} (hg : P[g]? = some (fnCheck ih ce)) (hh : P[ih]? = some fnIsHouse) (o : HouseOk n ds) : evF P fu (d + 4) g [.d (hD n ds)] th h = .ok (.d .none, true) h :=
  evF_nx (fn := fnCheck ih ce) (env' := [vS (hD n ds)]) hg rfl ((ite_f (fr := true) (h' := h) (not_ok ((callE_ok (vs := [(.d (hD n ds), false)]) rfl rfl).trans (house_gen b hh o)))).trans rfl)
theorem near_gen (hg : P[g]? = some fnNear) (o : HouseOk n ds) {r : Nat} : evF P fu (d + 1) g [.d (hD n ds), iP r] th h = .ok (.d (lD (nearL ds r)), true) h := by
  have ld := o.len
  let E : Pv.Env := [vS (hD n ds), vS (.int (r : Nat)), none, none]
  have q := lc_G (C := evF P fu d) (th := th) (h := h) (env := E) (t := .tup (.cons (.v 2) (.cons (.v 3) .nil))) (src := .sVal (.idx (.var 0) (.cst (.int 1)))) (cond := .cons (.cmp .inn (.var 1) (.tup (.cons (.var 2) (.cons (.var 3) .nil)))) .nil) (elt := .bin .sub (.bin .add (.var 2) (.var 3)) (.var 1)) (L := ds) lD (fun g => g.contains r) (fun g => .int ((g.getD 0 0 : Nat) + (g.getD 1 0 : Nat) - (r : Nat)))
    (src_val (x := rT ds) (fa := false) (idx_is (x := hD n ds) (y := .int 1) (fa := false) (fb := true) (var_ok rfl) rfl rfl) rfl) (by unfold lineN; omega) fun x hx => by
    obtain ⟨a, c, rfl, ac, cn⟩ := o.mem hx
    let E2 : Pv.Env := [vS (hD n ds), vS (.int (r : Nat)), vS (.int (a : Nat)), vS (.int (c : Nat))]
    refine ⟨E2, true, rfl, evC_of (fr := true) (cmp_ok (x := .int (r : Nat)) (y := lD [a, c]) (fa := false) (fb := true) (var_ok rfl) rfl (inn_lot _ _)), rfl⟩
  have e : (ds.filter fun g => g.contains r).map (fun g => PyData.int ((g.getD 0 0 : Nat) + (g.getD 1 0 : Nat) - (r : Nat))) = nD (otherL ds r) := by
    unfold otherL nD
    rw [List.map_map]
    refine List.map_congr_left fun x hx => ?_
    obtain ⟨h1, h2⟩ := List.mem_filter.mp hx
    obtain ⟨a, c, rfl, ac, cn⟩ := o.mem h1
    rw [List.contains_iff_mem] at h2
    have : r = a ∨ r = c := by simpa using h2
    show PyData.int ((a : Int) + (c : Int) - (r : Int)) = .int ((a + c - r : Nat) : Int)
    congr 1
    omega
  rw [e] at q
  have lo : (otherL ds r).length ≤ 21 := by
    unfold otherL
    rw [List.length_map]
    exact Nat.le_trans (List.length_filter_le _ _) ld
  refine evF_rt (fn := fnNear) (env' := E) hg rfl (ret_ok (prim1 (x := .list (nD (nearL ds r))) (fa := true) (prim1 (x := .list (nD ([r] ++ otherL ds r))) (fa := true) (bin_is (x := .list (nD [r])) (y := .list (nD (otherL ds r))) (fa := true) (fb := true) rfl q ?_) (sorted_l _)) rfl))
  show (if (nD [r]).length + (nD (otherL ds r)).length ≤ lineN then some (PyData.list (nD [r] ++ nD (otherL ds r))) else none) = _
  rw [if_pos (by rw [List.length_map, List.length_map, List.length_singleton]; unfold lineN; omega)]
  unfold nD
  rw [List.map_append]
theorem rooms_gen (hg : P[g]? = some fnRooms) (n7 : n ≤ 7) : evF P fu (d + 1) g [.d (hD n ds)] th h = .ok (.d (.list (nD (List.range n))), true) h := by
  let E : Pv.Env := [vS (hD n ds)]
  have q : evSrc (evF P fu d) th false (.sRng1 (.idx (.var 0) (.cst (.int 0)))) E h = .ok (nD (List.range n)) h := by
    rw [← rng_nD]
    exact rngE_ok (i := ((n : Nat) : Int)) (fa := false) rfl (rng_small (by omega))
  refine evF_rt (fn := fnRooms) (env' := E) hg rfl (ret_ok ?_)
  show evE (evF P fu d) th false (.rngL false (.sRng1 (.idx (.var 0) (.cst (.int 0))))) E h = _
  rw [evE, q]
  show (match decide ((nD (List.range n)).length ≤ lineN) with | true => R.ok (PV.d (mkSeq false (nD (List.range n))), true) h | false => R.no) = _
  rw [decide_eq_true (by rw [List.length_map, List.length_range]; unfold lineN; omega)]
  rfl
theorem lamps_gen (b : Basic P) {ch ih ce il ce2 : Nat} (hg : P[g]? = some (fnLamps ch il ce2)) (hc : P[ch]? = some (fnCheck ih ce)) (hh : P[ih]? = some fnIsHouse) (hl : P[il]? = some fnIsLot) (o : HouseOk n ds) (s : lot.Sublist (List.range n)) : evF P fu (d + 5) g [.d (hD n ds), .d (lD lot)] th h = .ok (.d .none, true) h := by
  let E : Pv.Env := [vS (hD n ds), vS (lD lot)]
  refine evF_nx (fn := fnLamps ch il ce2) (env' := E) hg rfl ((seq_nx (env' := E) (h' := h) (expr_ok ((callE_ok (vs := [(.d (hD n ds), false)]) rfl rfl).trans (check_gen b hc hh o)))).trans ((ite_f (fr := true) (h' := h) (not_ok (p := true) (fa := true) ?_)).trans rfl))
  exact (callE_ok (vs := [(.d (lD lot), false), (iP n, false)]) rfl rfl).trans (lot_gen (d := d + 1) b hl s o.n7)
theorem mod2 (k : Nat) : cmpD .eq (.int ((k : Int) % 2)) (.int 1) = some (k % 2 == 1) := by
  show some (((k : Int) % 2) == 1) = _
  congr 1
  rw [Bool.eq_iff_iff, beq_iff_eq, beq_iff_eq]
  omega
theorem flat_if {α : Type} (q : α → Bool) : ∀ l : List α, l.flatMap (fun x => if q x then [x] else []) = l.filter q
  | [] => rfl
  | a :: l => by
    rw [List.flatMap_cons, List.filter_cons, flat_if q l]
    cases q a <;> rfl
theorem turned_gen {ne : Nat} (hg : P[g]? = some (fnTurned ne)) (hn : P[ne]? = some fnNear) (o : HouseOk n ds) (s : lot.length ≤ 7) : evF P fu (d + 2) g [.d (hD n ds), .d (lD lot)] th h = .ok (.d (lD (turnL n ds lot)), true) h := by
  have n7 := o.n7
  let E (L : Lot) (e3 : SL) : Pv.Env := [vS (hD n ds), vS (lD lot), some (.d (.list (nD L)), true), e3, none]
  obtain ⟨y, q, _⟩ := for_acc (h := h) (step := fun x env h => match bindT (.v 3) x env with
      | some env' => evS (evF P fu (d + 1)) th false fu (.ite (.cmp .eq (.bin .mod (.prim .len (.cons (.lc (.v 4) (.sVal (.var 1)) (.cons (.cmp .inn (.var 4) (.call ne (.cons (.var 0) (.cons (.var 3) .nil)))) .nil) (.cst (.int 1))) .nil)) (.cst (.int 2))) (.cst (.int 1))) (.app 2 (.var 3)) .skip) env' h
      | none => .no) 7 (fun k : Nat => PyData.int (k : Nat)) E (fun L r => L ++ (if oddB ds lot r then [r] else [])) (fun i L => L.length ≤ i) (List.range n) 0 [] none (by rw [List.length_range]; omega) (fun r hr i L e3 hi hL => by
    refine ⟨vS (.int (r : Nat)), ?_, by rw [List.length_append]; split <;> simp <;> omega⟩
    have c := lc_G (C := evF P fu (d + 1)) (th := th) (h := h) (env := E L (vS (.int (r : Nat)))) (t := .v 4) (src := .sVal (.var 1)) (cond := .cons (.cmp .inn (.var 4) (.call ne (.cons (.var 0) (.cons (.var 3) .nil)))) .nil) (elt := .cst (.int 1)) (L := lot) (fun k : Nat => PyData.int (k : Nat)) (fun k => nearB ds r k) (fun _ => .int 1) (src_val (x := lD lot) (fa := false) (var_ok rfl) rfl) (by unfold lineN; omega) fun k hk =>
      ⟨(E L (vS (.int (r : Nat)))).set 4 (vS (.int (k : Nat))), true, rfl, evC_of (fr := true) (cmp_ok (x := .int (k : Nat)) (y := lD (nearL ds r)) (fa := false) (fb := true) (var_ok rfl) ((callE_ok (vs := [(.d (hD n ds), false), (iP r, false)]) rfl rfl).trans (near_gen hn o)) (by rw [inn_lot, near_mem o])), rfl⟩
    have m := bin_is (C := evF P fu (d + 1)) (th := th) (hot := false) (env := E L (vS (.int (r : Nat)))) (o := .mod) (b := .cst (.int 2)) (x := .int ((lot.filter fun k => nearB ds r k).length : Nat)) (y := .int 2) (z := .int (((lot.filter fun k => nearB ds r k).length : Int) % 2)) (fa := true) (fb := true) (h2 := h) (prim1 (p := .len) (fa := true) c (by show some (PyData.int ((List.map _ _).length : Nat)) = _; rw [List.length_map])) rfl rfl
    have cc := cmp_ok (o := .eq) (b := .cst (.int 1)) (y := .int 1) (fb := true) (h2 := h) m rfl (mod2 _)
    show evS (evF P fu (d + 1)) th false fu _ (E L (vS (.int (r : Nat)))) h = _
    rw [ite_b cc]
    show evS (evF P fu (d + 1)) th false fu (if oddB ds lot r = true then _ else _) (E L (vS (.int (r : Nat)))) h = _
    cases oddB ds lot r with
    | true =>
      refine (appI_ok (xs := nD L) (y := .int (r : Nat)) (fr := false) rfl (var_ok rfl) rfl (by rw [List.length_map]; unfold lineN; omega)).trans ?_
      show R.ok (Out.nx, (E L (vS (.int (r : Nat)))).set 2 (some (.d (.list (nD L ++ [.int (r : Nat)])), true))) h = _
      rw [show nD L ++ [PyData.int (r : Nat)] = nD (L ++ [r]) by unfold nD; rw [List.map_append]; rfl]
      rfl
    | false =>
      show R.ok (Out.nx, E L (vS (.int (r : Nat)))) h = R.ok (Out.nx, E (L ++ []) (vS (.int (r : Nat)))) h
      rw [List.append_nil]) (Nat.le_refl _)
  rw [foldl_app, List.nil_append, flat_if] at q
  refine evF_rt (fn := fnTurned ne) (env' := E (turnL n ds lot) y) hg rfl ((seq_nx (env' := E [] none) (h' := h) rfl).trans ((seq_nx ((frr_ok (h' := h) (xs := nD (List.range n)) ?_).trans q)).trans (ret_ok (prim1 (x := .list (nD (turnL n ds lot))) (fa := false) (var_ok rfl) rfl))))
  rw [← rng_nD]
  exact rngE_ok (i := ((n : Nat) : Int)) (fa := false) rfl (rng_small (by omega))
/-! the law's side -/
theorem imm_hD (n : Nat) (ds : List Lot) : imm (hD n ds) = true := by
  show (true && (immAll (ds.map lD) && true)) = true
  rw [imm_ls]; rfl
theorem min2_nat (a b : Nat) : primD .min2 [.int (a : Nat), .int (b : Nat)] = some (.int ((min a b : Nat) : Int)) := by
  show some (PyData.int (if (b : Int) < (a : Int) then (b : Int) else (a : Int))) = _
  congr 2
  split <;> omega
theorem max2_nat (a b : Nat) : primD .max2 [.int (a : Nat), .int (b : Nat)] = some (.int ((max a b : Nat) : Int)) := by
  show some (PyData.int (if (b : Int) > (a : Int) then (b : Int) else (a : Int))) = _
  congr 2
  split <;> omega
def lnearL (n : Nat) (ds : List Lot) (r : Nat) : Lot := (List.range n).filter (nearB ds r)
theorem prim2 {C : Pv.Callee} {env : Pv.Env} {p : Prim} {a b : X} {x y z : PyData} {fa fb : Bool} {h' h2 : HS} (e1 : evE C th false a env h = .ok (.d x, fa) h') (e2 : evE C th false b env h' = .ok (.d y, fb) h2) (q : primD p [x, y] = some z) : evE C th false (.prim p (.cons a (.cons b .nil))) env h = .ok (.d z, primFresh p) h2 := by
  simp only [evE, evL, e1, e2, R.bind, datAll, dat, q, one, Bool.false_and]
theorem lnear_gen (hg : P[g]? = some fnLNear) (n7 : n ≤ 7) {r : Nat} : evF P fu (d + 1) g [.d (hD n ds), iP r] th h = .ok (.d (.list (nD (lnearL n ds r))), true) h := by
  let E (e4 : SL) : Pv.Env := [vS (hD n ds), vS (.int (r : Nat)), vS (.int (n : Nat)), vS (rT ds), e4]
  have s1 : evS (evF P fu d) th false fu (.set (.tup (.cons (.v 2) (.cons (.v 3) .nil))) (.var 0)) [vS (hD n ds), vS (.int (r : Nat)), none, none, none] h = .ok (.nx, E none) h :=
    setT_ok (z := hD n ds) (fr := false) (var_ok rfl) (by rw [noleak (imm_hD n ds)]; rfl)
  have q := lc_nat (C := evF P fu d) (th := th) (h := h) (env := E none) (l := List.range n) (t := 4) (src := .sRng1 (.var 2)) (cond := .or (.cmp .eq (.var 4) (.var 1)) (.cmp .inn (.tup (.cons (.prim .min2 (.cons (.var 4) (.cons (.var 1) .nil))) (.cons (.prim .max2 (.cons (.var 4) (.cons (.var 1) .nil))) .nil))) (.var 3))) (nearB ds r) (by
      rw [← rng_nD]
      exact rngE_ok (i := ((n : Nat) : Int)) (fa := false) (var_ok rfl) (rng_small (by omega))) (by rw [List.length_range]; unfold lineN; omega) (by show 4 < 5; decide) fun k hk => by
    refine ⟨true, ?_⟩
    have c1 := cmp_ok (C := evF P fu d) (th := th) (hot := false) (env := E (vS (.int (k : Nat)))) (h := h) (o := .eq) (a := .var 4) (b := .var 1) (x := .int (k : Nat)) (y := .int (r : Nat)) (fa := false) (fb := false) (var_ok rfl) (var_ok rfl) (eq_nat k r)
    have c2 := cmp_ok (C := evF P fu d) (th := th) (hot := false) (env := E (vS (.int (k : Nat)))) (h := h) (o := .inn) (a := .tup (.cons (.prim .min2 (.cons (.var 4) (.cons (.var 1) .nil))) (.cons (.prim .max2 (.cons (.var 4) (.cons (.var 1) .nil))) .nil))) (b := .var 3) (x := lD [min k r, max k r]) (y := rT ds) (fa := true) (fb := false)
      (tup_ok (vs := [(iP (min k r), false), (iP (max k r), false)]) (cons_ok (prim2 (x := .int (k : Nat)) (y := .int (r : Nat)) (fa := false) (fb := false) (var_ok rfl) (var_ok rfl) (min2_nat k r)) (cons_ok (prim2 (x := .int (k : Nat)) (y := .int (r : Nat)) (fa := false) (fb := false) (var_ok rfl) (var_ok rfl) (max2_nat k r)) rfl)) rfl) (var_ok rfl) (inn_rs _ ds)
    show evE (evF P fu d) th false _ (E (vS (.int (k : Nat)))) h = _
    unfold nearB
    cases z : (k == r) with
    | true =>
      rw [z] at c1
      exact or_t c1
    | false =>
      rw [z] at c1
      exact (or_f c1).trans c2
  exact evF_rt (fn := fnLNear) (env' := E none) hg rfl ((seq_nx s1).trans (ret_ok q))
theorem cnt_eq {r : Nat} (s : lot.Sublist (List.range n)) : ((lnearL n ds r).filter fun x => lot.contains x) = lot.filter fun x => nearB ds r x := by
  obtain ⟨asc, lt⟩ := sub_asc s
  refine asc_ext ((filter_asc n _).sublist List.filter_sublist) (asc.sublist List.filter_sublist) fun x => ?_
  unfold lnearL
  rw [List.mem_filter, List.mem_filter, List.mem_filter, List.mem_range, List.contains_iff_mem]
  constructor
  · rintro ⟨⟨_, h2⟩, h3⟩
    exact ⟨h3, h2⟩
  · rintro ⟨h1, h2⟩
    exact ⟨⟨lt x h1, h2⟩, h1⟩
theorem odd_gen {ln : Nat} (hg : P[g]? = some (fnOdd ln)) (hn : P[ln]? = some fnLNear) (n7 : n ≤ 7) (s : lot.Sublist (List.range n)) {r : Nat} : evF P fu (d + 2) g [.d (hD n ds), .d (lD lot), iP r] th h = .ok (.d (.bool (oddB ds lot r)), true) h := by
  let E : Pv.Env := [vS (hD n ds), vS (lD lot), vS (.int (r : Nat)), none]
  have q := lc_nat (C := evF P fu (d + 1)) (th := th) (h := h) (env := E) (l := lnearL n ds r) (t := 3) (src := .sVal (.call ln (.cons (.var 0) (.cons (.var 2) .nil)))) (cond := .cmp .inn (.var 3) (.var 1)) (fun x => lot.contains x) (src_val (x := .list (nD (lnearL n ds r))) (fa := true) ((callE_ok (vs := [(.d (hD n ds), false), (iP r, false)]) rfl rfl).trans (lnear_gen hn n7)) rfl) (by
      refine Nat.le_trans (List.length_filter_le _ _) ?_
      rw [List.length_range]; unfold lineN; omega) (by show 3 < 4; decide) fun k hk => ⟨true, cmp_ok (x := .int (k : Nat)) (y := lD lot) (fa := false) (fb := false) (var_ok rfl) (var_ok rfl) (inn_lot _ _)⟩
  rw [cnt_eq s] at q
  let c := (lot.filter fun x => nearB ds r x).length
  have m := bin_is (C := evF P fu (d + 1)) (th := th) (hot := false) (env := E) (o := .mod) (b := .cst (.int 2)) (x := .int (c : Nat)) (y := .int 2) (z := .int ((c : Int) % 2)) (fa := true) (fb := true) (h2 := h) (int_ok (i := (c : Nat)) (prim1 (p := .len) (fa := true) q (by show some (PyData.int ((List.map _ _).length : Nat)) = _; rw [List.length_map]))) rfl rfl
  exact evF_rt (fn := fnOdd ln) (env' := E) hg rfl (ret_ok (cmp_ok (o := .eq) (b := .cst (.int 1)) (y := .int 1) (fb := true) (h2 := h) m rfl (mod2 c)))
theorem lturned_gen {od ln : Nat} (hg : P[g]? = some (fnLTurned od)) (ho : P[od]? = some (fnOdd ln)) (hn : P[ln]? = some fnLNear) (n7 : n ≤ 7) (s : lot.Sublist (List.range n)) : evF P fu (d + 3) g [.d (hD n ds), .d (lD lot)] th h = .ok (.d (lD (turnL n ds lot)), true) h := by
  let E : Pv.Env := [vS (hD n ds), vS (lD lot), none]
  have q := lc_nat (C := evF P fu (d + 2)) (th := th) (h := h) (env := E) (l := List.range n) (t := 2) (src := .sRng1 (.idx (.var 0) (.cst (.int 0)))) (cond := .call od (.cons (.var 0) (.cons (.var 1) (.cons (.var 2) .nil)))) (oddB ds lot) (by
      rw [← rng_nD]
      exact rngE_ok (i := ((n : Nat) : Int)) (fa := false) rfl (rng_small (by omega))) (by rw [List.length_range]; unfold lineN; omega) (by show 2 < 3; decide) fun k hk =>
    ⟨true, (callE_ok (vs := [(.d (hD n ds), false), (.d (lD lot), false), (iP k, false)]) rfl rfl).trans (odd_gen ho hn n7 s)⟩
  exact evF_rt (fn := fnLTurned od) (env' := E) hg rfl (ret_ok (prim1 (fa := true) q rfl))
end
/-! a drawn house -/
theorem after_rng {a n : Nat} (n8 : n ≤ 8) (ha : a < n) : rangeL ((a : Int) + 1) (n : Int) = nD ((List.range n).filter (a < ·)) := by
  have hn : n = 1 ∨ n = 2 ∨ n = 3 ∨ n = 4 ∨ n = 5 ∨ n = 6 ∨ n = 7 ∨ n = 8 := by omega
  have ha' : a = 0 ∨ a = 1 ∨ a = 2 ∨ a = 3 ∨ a = 4 ∨ a = 5 ∨ a = 6 ∨ a = 7 := by omega
  rcases hn with rfl | rfl | rfl | rfl | rfl | rfl | rfl | rfl <;> rcases ha' with rfl | rfl | rfl | rfl | rfl | rfl | rfl | rfl <;> first | rfl | omega
def preP (n k : Nat) : List Lot := (List.range k).flatMap fun a => ((List.range n).filter (a < ·)).map fun b => [a, b]
theorem preP_succ (n k : Nat) : preP n (k + 1) = preP n k ++ ((List.range n).filter (k < ·)).map fun b => [k, b] := by
  unfold preP
  rw [List.range_succ, List.flatMap_append, List.flatMap_singleton]
theorem preP_len (n k : Nat) : (preP n k).length ≤ k * n := by
  induction k with
  | zero => exact Nat.zero_le _
  | succ k ih =>
    rw [preP_succ, List.length_append, List.length_map]
    have := List.length_filter_le (fun x => decide (k < x)) (List.range n)
    rw [List.length_range] at this
    rw [Nat.succ_mul]
    omega
section
variable {P : List Fn} {fu d g dr an de : Nat} {h : HS}
abbrev hE (m n w : Nat) (D : List Lot) (e5 : SL) : Pv.Env := [some (.hand, false), vS (.int (m : Nat)), vS (.int (n : Nat)), vS (.int (w : Nat)), lS D true, e5, none]
abbrev hB (dr : Nat) : S := .ext 4 (.lc (.v 6) (.sRng2 (.bin .add (.var 5) (.cst (.int 1))) (.var 2)) (.cons (.cmp .eq (.call dr (.cons (.var 0) (.cons (.var 3) .nil))) (.cst (.int 0))) .nil) (.tup (.cons (.var 5) (.cons (.var 6) .nil))))
theorem hstep (dD : Draws P dr) (hv : HV h) {m n w a : Nat} {D : List Lot} (n7 : n ≤ 7) (ha : a < n) (w1 : 1 ≤ w) (w9 : w ≤ 9) (sub : D.Sublist (preP n a)) : ∃ D' h', D'.Sublist (preP n (a + 1)) ∧ HV h' ∧
    evS (evF P fu (d + 1)) NT0 false fu (hB dr) (hE m n w D (vS (.int (a : Nat)))) h = .ok (.nx, hE m n w D' (vS (.int (a : Nat)))) h' := by
  let E (x : SL) : Pv.Env := [some (.hand, false), vS (.int (m : Nat)), vS (.int (n : Nat)), vS (.int (w : Nat)), lS D true, vS (.int (a : Nat)), x]
  obtain ⟨L, h', hv', sb, q⟩ := lc_subM (C := evF P fu (d + 1)) (th := NT0) (t := .v 6) (cond := .cons (.cmp .eq (.call dr (.cons (.var 0) (.cons (.var 3) .nil))) (.cst (.int 0))) .nil) (elt := .tup (.cons (.var 5) (.cons (.var 6) .nil))) (env := E none) (h := h) (L := (List.range n).filter (a < ·)) (fun b : Nat => PyData.int (b : Nat)) (fun b => lD [a, b]) (I := HV)
    (src := .sRng2 (.bin .add (.var 5) (.cst (.int 1))) (.var 2)) (h' := h) (by
      rw [show ((List.range n).filter (a < ·)).map (fun b : Nat => PyData.int (b : Nat)) = nD ((List.range n).filter (a < ·)) from rfl, ← after_rng (by omega) ha]
      exact rng2_ok (fa := true) (fb := false) (bin_is (x := .int (a : Nat)) (y := .int 1) (fa := false) (fb := true) (var_ok rfl) rfl rfl) (var_ok rfl) (rng_in (by omega) (by omega)) (rng_in (by omega) (by omega))) (by
      refine Nat.le_trans (List.length_filter_le _ _) ?_
      rw [List.length_range]; unfold lineN; omega) hv fun b hb h hv => by
    obtain ⟨r, fb, h2, r0, r1, hv2, q⟩ := dr_gen (P := P) (f := dr) (fu := fu) (d := d) (th := NT0) dD (env := E (vS (.int (b : Nat)))) (mx := .var 3) (m := (w : Nat)) (i := 0) (o := false) (fr := false) hv (by omega) (by omega) rfl (var_ok rfl)
    have c := cmp_ok (o := .eq) (x := .int r) (y := .int 0) (fa := fb) (fb := true) (q := r == 0) q (b := .cst (.int 0)) (h2 := h2) rfl rfl
    exact ⟨E (vS (.int (b : Nat))), r == 0, h2, true, rfl, hv2, (by simp only [evC, c, Pv.R.bind, truth]), fun _ => rfl⟩
  let L2 : List Lot := L.map fun b => [a, b]
  have e2 : L.map (fun b => lD [a, b]) = L2.map lD := by
    show _ = (L.map _).map lD
    rw [List.map_map]; rfl
  rw [e2] at q
  have l1 := sub.length_le
  have l2 := preP_len n a
  have l3 : a * n ≤ 7 * 7 := Nat.mul_le_mul (by omega) n7
  have l4 : L2.length ≤ 7 := by
    show (L.map _).length ≤ 7
    rw [List.length_map]
    have := sb.length_le
    have := List.length_filter_le (fun x => decide (a < x)) (List.range n)
    rw [List.length_range] at this
    omega
  refine ⟨D ++ L2, h', ?_, hv', ?_⟩
  · rw [preP_succ]
    exact sub.append (sb.map _)
  · refine (extI_ok (fr := true) (xs := D.map lD) rfl q (imm_ls L2) (by rw [List.length_map, List.length_map]; unfold lineN; omega)).trans ?_
    show R.ok (Out.nx, (hE m n w D (vS (.int (a : Nat)))).set 4 (some (.d (.list (D.map lD ++ L2.map lD)), true))) h' = _
    rw [← List.map_append]
    rfl
theorem lhouse_gen (dD : Draws P dr) (ha : P[an]? = some (someFn dr)) (hg : P[g]? = some (fnLHouse dr an)) (hv : HV h) {m : Nat} (m2 : 2 ≤ m) (m7 : m ≤ 7) : ∃ n ds h', HouseOk n ds ∧ n ≤ m ∧ HV h' ∧ evF P fu (d + 3) g [.hand, iP m] NT0 h = .ok (.d (hD n ds), true) h' := by
  let E0 : Pv.Env := [some (.hand, false), vS (.int (m : Nat)), none, none, none, none, none]
  obtain ⟨r, b, h1, r0, r1, hv1, q1⟩ := dr_gen (P := P) (f := dr) (fu := fu) (d := d + 1) (th := NT0) dD (env := E0) (mx := .bin .sub (.var 1) (.cst (.int 1))) (m := (m : Int) - 1) (i := 0) (o := false) (fr := true) hv (by omega) (by omega) rfl rfl
  obtain ⟨r, rfl⟩ : ∃ k : Nat, r = (k : Nat) := ⟨r.toNat, by omega⟩
  obtain ⟨zw, h2, hw, hv2, q2⟩ := any_gen dD ha (fu := fu) (d := d) (th := NT0) hv1 (xs := [.int 2, .int 2, .int 4]) (by decide) (by decide)
  obtain ⟨w, ew, w1, w9⟩ : ∃ k : Nat, zw = .int (k : Nat) ∧ 1 ≤ k ∧ k ≤ 9 := by
    rcases (show zw = .int 2 ∨ zw = .int 4 by simpa using hw) with e | e
    · exact ⟨2, e, by decide, by decide⟩
    · exact ⟨4, e, by decide, by decide⟩
  subst ew
  let n := 2 + r
  obtain ⟨env', h', ⟨hv', D, e5, ee, sub⟩, q⟩ := for_rng (I := fun k env h => HV h ∧ ∃ D e5, env = hE m n w D e5 ∧ D.Sublist (preP n k)) (step := fun x env h => match bindT (.v 5) x env with
      | some env' => evS (evF P fu (d + 2)) NT0 false fu (hB dr) env' h
      | none => .no) n (fun k hk env h ⟨hv, D, e5, e, sub⟩ => by
        subst e
        obtain ⟨D', h', sub', hv', q⟩ := hstep (fu := fu) (d := d + 1) dD hv (m := m) (n := n) (w := w) (a := k) (D := D) (by omega) hk w1 w9 sub
        exact ⟨_, h', ⟨hv', D', _, rfl, sub'⟩, q⟩) (hE m n w [] none) h2 ⟨hv2, [], none, rfl, List.nil_sublist _⟩
  subst ee
  refine ⟨n, D, h', ⟨by omega, by omega, sub⟩, by omega, hv', evF_rt (fn := fnLHouse dr an) (env' := hE m n w D e5) hg rfl ?_⟩
  have z1 : evS (evF P fu (d + 2)) NT0 false fu (.set (.v 2) (.bin .add (.cst (.int 2)) (.call dr (.cons (.var 0) (.cons (.bin .sub (.var 1) (.cst (.int 1))) .nil))))) E0 h = .ok (.nx, [some (.hand, false), vS (.int (m : Nat)), vS (.int (n : Nat)), none, none, none, none]) h1 := by
    refine setI_ok (d := .int (n : Nat)) (bin_is (x := .int 2) (y := .int (r : Nat)) (fa := true) (fb := b) rfl q1 ?_) rfl
    show some (PyData.int (2 + (r : Int))) = some (.int ((2 + r : Nat) : Int))
    rw [show (2 + (r : Int)) = ((2 + r : Nat) : Int) by omega]
  refine (seq_nx (env' := hE m n w [] none) (h' := h2) ((seq_nx z1).trans ((seq_nx (env' := [some (.hand, false), vS (.int (m : Nat)), vS (.int (n : Nat)), vS (.int (w : Nat)), none, none, none]) (h' := h2) (setI_ok ((callE_ok (vs := [(.hand, false), (.d (.list [.int 2, .int 2, .int 4]), true)]) rfl rfl).trans q2) rfl)).trans rfl))).trans ?_
  refine (seq_nx ((frr_ok (h' := h2) (xs := nD (List.range n)) ?_).trans q)).trans (ret_ok (tup_ok (vs := [(iP n, false), (.d (rT D), true)]) (cons_ok (var_ok rfl) (cons_ok (prim1 (x := .list (D.map lD)) (fa := false) (var_ok rfl) rfl) rfl)) rfl))
  rw [← rng_nD]
  exact rngE_ok (i := ((n : Nat) : Int)) (fa := false) (var_ok rfl) (rng_small (by omega))
/-! no houses, no lots -/
abbrev p2 (x : PyData) : PyData := .tuple [.int 2, x]
abbrev t1 (x : PyData) : PyData := .tuple [x]
abbrev i2 (a b : Int) : PyData := .tuple [.int a, .int b]
def badsH1 : List PyData := [.none, .tuple [], .tuple [.int 1, .tuple []], .tuple [.int 8, .tuple []], p2 (.list [i2 0 1]), p2 (t1 (i2 1 0)), p2 (t1 (i2 0 2)), .list [.int 2, .tuple []], t1 (.int 2), .int 2, .str "2 -", .str "x"]
def badsH2 : List PyData := [.tuple [.int 3, .tuple [i2 1 2, i2 0 1]], p2 (.tuple [i2 0 1, i2 0 1]), .tuple [.bool true, .tuple []], .tuple [.str "2", .tuple []], p2 (t1 (i2 0 0)), .dict []]
def badsH (y : PyData) : List PyData := (badsH1 ++ badsH2) ++ [y]
theorem nohouse_gen (dD : Draws P dr) (ha : P[an]? = some (someFn dr)) (hd : P[de]? = some (fnDeep dr an)) (hg : P[g]? = some (fnNoHouse an de)) (hv : HV h) : ∃ z y x h', Hold y x ∧ z ∈ badsH y ∧ HV h' ∧ evF P fu (d + 4) g [.hand] NT0 h = .ok (.d z, false) h' := by
  obtain ⟨y, x, _, o, h1, hy, _, hv1, q1⟩ := deep_gen (fu := fu) dD ha hd (d := d) hv
  obtain ⟨z, h2, hz, hv2, q2⟩ := any_gen dD ha (fu := fu) (d := d + 1) (th := NT0) hv1 (xs := badsH y) (by show 0 < 19; decide) (by show 19 < 1000000; decide)
  refine ⟨z, y, x, h2, hy, hz, hv2, ?_⟩
  let E (b : List PyData) : Pv.Env := [some (.hand, false), some (.d (.list b), true)]
  have l : evE (evF P fu (d + 3)) NT0 false (.lst (.cons (.call de (.cons (.var 0) .nil)) .nil)) (E (badsH1 ++ badsH2)) h = .ok (.d (.list [y]), true) h1 := lst_ok (vs := [(.d y, o)]) (cons_ok ((callE_ok (vs := [(.hand, false)]) rfl rfl).trans q1) rfl) rfl
  refine evF_rt (fn := fnNoHouse an de) (env' := E (badsH1 ++ badsH2)) hg rfl ((seq_nx (env' := E badsH1) (h' := h) (by kernel_rfl)).trans ((seq_nx (env' := E (badsH1 ++ badsH2)) (h' := h) (by kernel_rfl)).trans (ret_ok ?_)))
  exact (callE_ok (vs := [(.hand, false), (.d (.list (badsH y)), true)]) (cons_ok (var_ok rfl) (cons_ok (bin_is (x := .list (badsH1 ++ badsH2)) (y := .list [y]) (fa := false) (fb := true) (var_ok rfl) l (by kernel_rfl)) rfl)) rfl).trans q2
def badsL0 (n : Nat) : List PyData := [.none, .list [.int 0], t1 (.int (n : Nat)), t1 (.int (-1)), i2 0 0, i2 1 0, t1 (.bool true), t1 (.str "0"), .int 0, .str "x", .dict [], t1 .none]
def badsL (n : Nat) (y : PyData) : List PyData := badsL0 n ++ [y]
theorem nolot_gen (dD : Draws P dr) (ha : P[an]? = some (someFn dr)) (hd : P[de]? = some (fnDeep dr an)) (hg : P[g]? = some (fnNoLot an de)) (hv : HV h) {n : Nat} : ∃ z y x h', Hold y x ∧ (∃ y2, Hold x y2) ∧ z ∈ badsL n y ∧ HV h' ∧ evF P fu (d + 4) g [.hand, iP n] NT0 h = .ok (.d z, false) h' := by
  obtain ⟨y, x, x2, o, h1, hy, hy2, hv1, q1⟩ := deep_gen (fu := fu) dD ha hd (d := d) hv
  obtain ⟨z, h2, hz, hv2, q2⟩ := any_gen dD ha (fu := fu) (d := d + 1) (th := NT0) hv1 (xs := badsL n y) (by show 0 < 13; decide) (by show 13 < 1000000; decide)
  refine ⟨z, y, x, h2, hy, ⟨x2, hy2⟩, hz, hv2, ?_⟩
  let E : Pv.Env := [some (.hand, false), vS (.int (n : Nat)), some (.d (.list (badsL0 n)), true)]
  have l : evE (evF P fu (d + 3)) NT0 false (.lst (.cons (.call de (.cons (.var 0) .nil)) .nil)) E h = .ok (.d (.list [y]), true) h1 := lst_ok (vs := [(.d y, o)]) (cons_ok ((callE_ok (vs := [(.hand, false)]) rfl rfl).trans q1) rfl) rfl
  refine evF_rt (fn := fnNoLot an de) (env' := E) hg rfl ((seq_nx (env' := E) (h' := h) (by kernel_rfl)).trans (ret_ok ?_))
  exact (callE_ok (vs := [(.hand, false), (.d (.list (badsL n y)), true)]) (cons_ok (var_ok rfl) (cons_ok (bin_is (x := .list (badsL0 n)) (y := .list [y]) (fa := false) (fb := true) (var_ok rfl) l (by kernel_rfl)) rfl)) rfl).trans q2
end
end Pv
/-! text S47 -/
set_option autoImplicit false
set_option linter.all false
set_option maxRecDepth 100000
set_option maxHeartbeats 4000000
/-! plain texts of the houses with lamps: judges of lots, the least of lots -/
namespace Pv
open PySem
theorem alikeAll_nD : ∀ a b : Lot, PySem.W.alikeAll (nD a) (nD b) = true
  | [], [] => rfl
  | [], _ :: _ => rfl
  | _ :: _, [] => rfl
  | x :: a, y :: b => by
    show (PySem.W.alike (.int (x : Nat)) (.int (y : Nat)) && PySem.W.alikeAll (nD a) (nD b)) = true
    rw [alikeAll_nD a b]; rfl
theorem minOk_ls (L : List Lot) : minOk (L.map lD) = true := by
  unfold minOk allAlike
  rw [show shallowAll maxDepth (L.map lD) = true from sh_ls _ L, Bool.and_true, Bool.and_eq_true, List.all_eq_true, List.all_eq_true]
  refine ⟨fun x hx => ?_, fun x hx => ?_⟩
  · obtain ⟨l, _, rfl⟩ := List.mem_map.mp hx; rfl
  · rw [List.all_eq_true]
    intro y hy
    obtain ⟨l, _, rfl⟩ := List.mem_map.mp hx
    obtain ⟨m, _, rfl⟩ := List.mem_map.mp hy
    exact alikeAll_nD l m
theorem min_lots (a : Lot) (r : List Lot) : ∃ m ∈ a :: r, (∀ x ∈ a :: r, leD (lD m) (lD x) = true) ∧ primD .min1 [.list ((a :: r).map lD)] = some (lD m) := by
  have rf : ∀ a : Lot, leD (lD a) (lD a) = true := fun a => (leD_total.2 (lD a) (lD a)).elim id id
  have g : ∀ (r : List Lot) (a : Lot), ∃ m ∈ a :: r, (∀ x ∈ a :: r, leD (lD m) (lD x) = true) ∧ PySem.W.minD (lD a) (r.map lD) = lD m := by
    intro r
    induction r with
    | nil => intro a; exact ⟨a, List.mem_cons_self .., fun x hx => by rw [List.mem_singleton.mp hx]; exact rf a, rfl⟩
    | cons b r ih =>
      intro a
      have tr : ∀ {x y z : Lot}, leD (lD x) (lD y) = true → leD (lD y) (lD z) = true → leD (lD x) (lD z) = true := fun h1 h2 => leD_total.1 _ _ _ h1 h2
      have st : PySem.W.minD (lD a) ((b :: r).map lD) = PySem.W.minD (if PySem.W.dataLt (lD b) (lD a) = true then lD b else lD a) (r.map lD) := rfl
      cases z : PySem.W.dataLt (lD b) (lD a) with
      | true =>
        obtain ⟨m, hm, le, e⟩ := ih b
        rw [z, if_pos rfl] at st
        have ba : leD (lD b) (lD a) = true := (leD_total.2 (lD a) (lD b)).resolve_left fun q => by
          unfold leD at q
          rw [z] at q
          cases q
        refine ⟨m, List.mem_cons_of_mem _ hm, fun x hx => ?_, st.trans e⟩
        rcases List.mem_cons.mp hx with rfl | hx
        · exact tr (le b (List.mem_cons_self ..)) ba
        · exact le x hx
      | false =>
        obtain ⟨m, hm, le, e⟩ := ih a
        rw [z, if_neg Bool.false_ne_true] at st
        have ab : leD (lD a) (lD b) = true := by
          unfold leD
          rw [z]; rfl
        refine ⟨m, ?_, fun x hx => ?_, st.trans e⟩
        · rcases List.mem_cons.mp hm with rfl | hm
          · exact List.mem_cons_self ..
          · exact List.mem_cons_of_mem _ (List.mem_cons_of_mem _ hm)
        · rcases List.mem_cons.mp hx with rfl | hx
          · exact le x (List.mem_cons_self ..)
          · rcases List.mem_cons.mp hx with rfl | hx
            · exact tr (le a (List.mem_cons_self ..)) ab
            · exact le x (List.mem_cons_of_mem _ hx)
  obtain ⟨m, hm, le, e⟩ := g r a
  refine ⟨m, hm, le, ?_⟩
  have mo := minOk_ls (a :: r)
  rw [List.map_cons] at mo ⊢
  show (if minOk (lD a :: r.map lD) then some (PySem.W.minD (lD a) (r.map lD)) else none) = _
  rw [mo, if_pos rfl, e]
theorem lex_pw (n : Nat) : (lexL n).Pairwise fun a b => leD (lD a) (lD b) = true := by
  have pw : ((lexL n).map lD).Pairwise fun x y => leD x y = true := by
    rw [← lex_eq, sortD_eq]
    exact PySem.W.sort_pairwise leD_total _
  exact (List.pairwise_map (f := lD) (R := fun x y => leD x y = true)).mp pw
/-! rooms near, each once -/
theorem allP_nodup {n : Nat} (n2 : 2 ≤ n) (n7 : n ≤ 7) : (allP n).Nodup := by
  have hn : n = 2 ∨ n = 3 ∨ n = 4 ∨ n = 5 ∨ n = 6 ∨ n = 7 := by omega
  rcases hn with rfl | rfl | rfl | rfl | rfl | rfl
  all_goals decide +kernel
theorem near_nodup {n : Nat} {ds : List Lot} (o : HouseOk n ds) (r : Nat) : (nearL ds r).Nodup := by
  unfold nearL
  rw [(srt_perm _).nodup_iff, List.nodup_append]
  have dn : ds.Nodup := (allP_nodup o.n2 o.n7).sublist o.sub
  refine ⟨by simp, ?_, fun x hx y hy e => ?_⟩
  · unfold otherL
    refine List.pairwise_map.mpr (List.Pairwise.imp_of_mem (fun {g k} hg hk ne e => ne ?_) (dn.sublist List.filter_sublist))
    obtain ⟨g1, g2⟩ := List.mem_filter.mp hg
    obtain ⟨k1, k2⟩ := List.mem_filter.mp hk
    obtain ⟨a, b, rfl, ab, _⟩ := o.mem g1
    obtain ⟨c, d, rfl, cd, _⟩ := o.mem k1
    rw [List.contains_iff_mem] at g2 k2
    have g2 : r = a ∨ r = b := by simpa using g2
    have k2 : r = c ∨ r = d := by simpa using k2
    have e : a + b - r = c + d - r := e
    have : a = c ∧ b = d := by omega
    rw [this.1, this.2]
  · rw [List.mem_singleton.mp hx] at e
    unfold otherL at hy
    obtain ⟨g, hg, z⟩ := List.mem_map.mp hy
    obtain ⟨g1, g2⟩ := List.mem_filter.mp hg
    obtain ⟨a, b, rfl, ab, _⟩ := o.mem g1
    rw [List.contains_iff_mem] at g2
    have g2 : r = a ∨ r = b := by simpa using g2
    have z : a + b - r = y := z
    omega
theorem eq_lots (a b : Lot) : cmpD .eq (lD a) (lD b) = some (decide (a = b)) := by
  show (if PyData.plainAll (nD a) && PyData.plainAll (nD b) && shallowAll 99 (nD a) then some (PyData.eqvAll (nD a) (nD b)) else none) = _
  rw [pl_nD, pl_nD, sh_nD, eqv_nD]
  rfl
theorem notin_ls (g : Lot) (L : List Lot) : cmpD .notIn (lD g) (.list (L.map lD)) = some (!decide (g ∈ L)) := (inn_ls g L).2
def isLotB (n : Nat) (t : Lot) : Bool := (t.all fun k => decide (k < n)) && ((t.zip (t.drop 1)).all fun p => decide (p.1 < p.2))
theorem zip_asc : ∀ {t : Lot}, (∀ p ∈ t.zip (t.drop 1), p.1 < p.2) → t.Pairwise (· < ·)
  | [], _ => List.Pairwise.nil
  | [a], _ => List.pairwise_singleton _ _
  | a :: b :: t, h => by
    have ih := zip_asc (t := b :: t) fun p hp => h p (List.mem_cons_of_mem _ hp)
    have ab : a < b := h (a, b) (List.mem_cons_self ..)
    refine List.pairwise_cons.mpr ⟨fun x hx => ?_, ih⟩
    rcases List.mem_cons.mp hx with rfl | hx
    · exact ab
    · exact Nat.lt_trans ab ((List.pairwise_cons.mp ih).1 x hx)
theorem sub_of_asc : ∀ {m l : Lot}, m.Pairwise (· < ·) → l.Pairwise (· < ·) → (∀ x ∈ m, x ∈ l) → m.Sublist l
  | [], l, _, _, _ => List.nil_sublist _
  | x :: m, [], _, _, h => by
    have := h x (List.mem_cons_self ..)
    cases this
  | x :: m, y :: l, pm, pl, h => by
    have pm' := List.pairwise_cons.mp pm
    have pl' := List.pairwise_cons.mp pl
    rcases List.mem_cons.mp (h x (List.mem_cons_self ..)) with rfl | hx
    · refine (sub_of_asc pm'.2 pl'.2 fun z hz => ?_).cons_cons x
      rcases List.mem_cons.mp (h z (List.mem_cons_of_mem _ hz)) with rfl | q
      · exact absurd (pm'.1 z hz) (Nat.lt_irrefl _)
      · exact q
    · refine (sub_of_asc pm pl'.2 fun z hz => ?_).cons y
      rcases List.mem_cons.mp (h z hz) with rfl | q
      · have a := pl'.1 x hx
        rcases List.mem_cons.mp hz with e | hz
        · omega
        · have := pm'.1 z hz
          omega
      · exact q
theorem lot_iff {n : Nat} {t : Lot} : isLotB n t = true ↔ t.Sublist (List.range n) := by
  unfold isLotB
  rw [Bool.and_eq_true, List.all_eq_true, List.all_eq_true]
  constructor
  · rintro ⟨h1, h2⟩
    exact sub_of_asc (zip_asc fun p hp => of_decide_eq_true (h2 p hp)) List.pairwise_lt_range fun x hx => List.mem_range.mpr (of_decide_eq_true (h1 x hx))
  · intro s
    obtain ⟨a, b⟩ := sub_asc s
    exact ⟨fun x hx => decide_eq_true (b x hx), fun p hp => decide_eq_true (zip_pair t a p hp)⟩
section
variable {P : List Fn} {fu d n : Nat} {th : Pv.Thunk} {h : HS} {lot : Lot}
theorem zip_ev {C : Pv.Callee} {env : Pv.Env} (e0 : env[0]? = some (vS (lD lot))) : evSrc C th false (.sZip (.var 0) (.slice (.var 0) (.cst (.int 1)) (.cst .none))) env h = .ok ((lot.zip (lot.drop 1)).map fun p => .tuple [.int (p.1 : Nat), .int (p.2 : Nat)]) h := by
  have ec : cutL (nD lot) (some 1) none = nD (lot.drop 1) := by
    unfold nD
    rw [cutL_map]
    congr 1
    unfold cutL cutAt
    cases lot with
    | nil => rfl
    | cons a l =>
      have e1 : (if (1 : Int) < 0 then ((1 : Int) + ((a :: l).length : Int)).toNat else min (1 : Int).toNat (a :: l).length) = 1 := by
        rw [if_neg (by decide)]; simp
      simp only [e1]
      rw [List.take_of_length_le (by simp)]
  have v : evE C th false (.var 0) env h = .ok (.d (lD lot), false) h := var_ok e0
  have e : evSrc C th false (.sZip (.var 0) (.slice (.var 0) (.cst (.int 1)) (.cst .none))) env h = .ok (((nD lot).zip (cutL (nD lot) (some 1) none)).map fun p => .tuple [p.1, p.2]) h := by
    simp only [evSrc, evE, e0, Pv.R.bind, optV, optI, sliceD, one]
  rw [e, ec]
  unfold nD
  rw [List.zip_map, List.map_map]; rfl
/-- is_lot of any row of numbers -/
theorem lot_any {g : Nat} (bas : Basic P) (hg : P[g]? = some fnIsLot) (l100 : lot.length ≤ 300) : evF P fu (d + 3) g [.d (lD lot), iP n] th h = .ok (.d (.bool (isLotB n lot)), true) h := by
  let E : Pv.Env := [vS (lD lot), vS (.int (n : Nat)), none, none]
  have c0 : evE (evF P fu (d + 2)) th false (.prim .isTuple (.cons (.var 0) .nil)) E h = .ok (.d (.bool true), true) h := prim1 (x := lD lot) (fa := false) (var_ok rfl) rfl
  have a1 := all_G (C := evF P fu (d + 2)) (th := th) (h := h) (env := E) (t := .v 2) (src := .sVal (.var 0)) (elt := .call 1 (.cons (.var 2) (.cons (.cst (.int 0)) (.cons (.bin .sub (.var 1) (.cst (.int 1))) .nil)))) (L := lot) (fun k : Nat => PyData.int (k : Nat)) (fun k => decide (k < n)) (src_val (x := lD lot) (fa := false) (var_ok rfl) rfl) (by unfold lineN; omega) fun k hk => by
    refine ⟨E.set 2 (vS (.int (k : Nat))), true, rfl, (callE_ok (vs := [(iP k, false), (.d (.int 0), true), (.d (.int ((n : Int) - 1)), true)]) rfl rfl).trans ((bas.within (k : Nat) 0 ((n : Int) - 1)).trans ?_)⟩
    rw [decide_eq_true (show (0 : Int) ≤ (k : Int) by omega), Bool.true_and, show decide ((k : Int) ≤ (n : Int) - 1) = decide (k < n) from decide_eq_decide.mpr (by omega)]
  have a2 := all_G (C := evF P fu (d + 2)) (th := th) (h := h) (env := E) (t := .tup (.cons (.v 2) (.cons (.v 3) .nil))) (elt := .cmp .lt (.var 2) (.var 3)) (L := lot.zip (lot.drop 1)) (fun p => .tuple [.int (p.1 : Nat), .int (p.2 : Nat)]) (fun p => decide (p.1 < p.2)) (zip_ev rfl) (by rw [List.length_zip]; unfold lineN; omega) fun p hp =>
    ⟨_, true, rfl, cmp_ok (x := .int (p.1 : Nat)) (y := .int (p.2 : Nat)) (fa := false) (fb := false) (var_ok rfl) (var_ok rfl) (lt_nat _ _)⟩
  have c := (or_f (fa := true) (h' := h) (not_ok (p := true) (fa := true) c0)).trans (not_ok a1)
  refine evF_rt (fn := fnIsLot) (env' := E) hg rfl ?_
  unfold isLotB
  cases z : lot.all fun k => decide (k < n) with
  | false =>
    rw [z] at c
    exact seq_rt ((ite_t (fr := true) (h' := h) c).trans (ret_ok rfl))
  | true =>
    rw [z] at c
    rw [Bool.true_and]
    exact (seq_nx (env' := E) (h' := h) ((ite_f (fr := true) (h' := h) c).trans rfl)).trans (ret_ok a2)
theorem repr_ne {C : Pv.Callee} {env : Pv.Env} {a b : X} {q : Bool} {fa fb : Bool} (e1 : evE C NT0 false a env h = .ok (.d (.bool q), fa) h) (e2 : evE C NT0 false b env h = .ok (.d (.bool q), fb) h) : evE C NT0 false (.cmp .ne (.prim .repr (.cons a .nil)) (.prim .repr (.cons b .nil))) env h = .ok (.d (.bool false), true) h := by
  refine cmp_ok (x := .str (if q then "True" else "False")) (y := .str (if q then "True" else "False")) (fa := true) (fb := true) (prim1 e1 rfl) (prim1 e2 rfl) ?_
  exact ne_self rfl rfl
end
end Pv
/-! text P29 -/
set_option autoImplicit false
set_option linter.all false
set_option maxRecDepth 100000
set_option maxHeartbeats 2000000
namespace K29
open PySem Pv
/-- is_integer: thing -/
def f0 : Fn := ⟨1, 1, (.ret (.and (.prim .isInt (.cons (.var 0) .nil)) (.not (.prim .isBool (.cons (.var 0) .nil)))))⟩
/-- is_within: thing, low, high -/
def f1 : Fn := ⟨3, 3, (.ret (.and (.call 0 (.cons (.var 0) .nil)) (.chain .le .le (.var 1) (.var 0) (.var 2))))⟩
/-- is_sized: thing, low, high -/
def f2 : Fn := ⟨3, 3, (.ret (.and (.prim .isTuple (.cons (.var 0) .nil)) (.chain .le .le (.var 1) (.prim .len (.cons (.var 0) .nil)) (.var 2))))⟩
/-- is_lot: thing, many, one, other -/
def f3 : Fn := ⟨2, 4, (.seq (.ite (.or (.not (.prim .isTuple (.cons (.var 0) .nil))) (.not (.prim .all (.cons (.lc (.v 2) (.sVal (.var 0)) .nil (.call 1 (.cons (.var 2) (.cons (.cst (.int 0)) (.cons (.bin .sub (.var 1) (.cst (.int 1))) .nil))))) .nil))))
 (.ret (.cst (.bool false)))
 .skip)
 (.ret (.prim .all (.cons (.lc (.tup (.cons (.v 2) (.cons (.v 3) .nil))) (.sZip (.var 0) (.slice (.var 0) (.cst (.int 1)) (.cst .none))) .nil (.cmp .lt (.var 2) (.var 3))) .nil))))⟩
/-- all_lots: some, found, one, lot, size -/
def f4 : Fn := ⟨1, 5, (.seq (.set (.v 1) (.lst (.cons (.tup .nil) .nil)))
 (.seq (.frr (.v 2) (.sVal (.var 0))
 (.set (.v 1) (.bin .add (.var 1) (.lc (.v 3) (.sVal (.var 1)) .nil (.bin .add (.var 3) (.tup (.cons (.var 2) .nil)))))))
 (.ret (.lc (.tup (.cons (.v 4) (.cons (.v 3) .nil))) (.sVal (.prim .sorted (.cons (.lc (.v 3) (.sVal (.var 1)) .nil (.tup (.cons (.prim .len (.cons (.var 3) .nil)) (.cons (.var 3) .nil)))) .nil))) .nil (.var 3)))))⟩
/-- is_house: thing, door, a, b, one, other -/
def f5 : Fn := ⟨1, 6, (.seq (.ite (.or (.not (.call 2 (.cons (.var 0) (.cons (.cst (.int 2)) (.cons (.cst (.int 2)) .nil))))) (.or (.not (.call 1 (.cons (.idx (.var 0) (.cst (.int 0))) (.cons (.cst (.int 2)) (.cons (.cst (.int 7)) .nil))))) (.not (.prim .isTuple (.cons (.idx (.var 0) (.cst (.int 1))) .nil)))))
 (.ret (.cst (.bool false)))
 .skip)
 (.seq (.ite (.not (.prim .all (.cons (.lc (.v 1) (.sVal (.idx (.var 0) (.cst (.int 1)))) .nil (.call 2 (.cons (.var 1) (.cons (.cst (.int 2)) (.cons (.cst (.int 2)) .nil))))) .nil)))
 (.ret (.cst (.bool false)))
 .skip)
 (.seq (.ite (.not (.prim .all (.cons (.lc (.tup (.cons (.v 2) (.cons (.v 3) .nil))) (.sVal (.idx (.var 0) (.cst (.int 1)))) .nil (.and (.call 1 (.cons (.var 2) (.cons (.cst (.int 0)) (.cons (.bin .sub (.idx (.var 0) (.cst (.int 0))) (.cst (.int 1))) .nil)))) (.and (.call 1 (.cons (.var 3) (.cons (.cst (.int 0)) (.cons (.bin .sub (.idx (.var 0) (.cst (.int 0))) (.cst (.int 1))) .nil)))) (.cmp .lt (.var 2) (.var 3))))) .nil)))
 (.ret (.cst (.bool false)))
 .skip)
 (.ret (.prim .all (.cons (.lc (.tup (.cons (.v 4) (.cons (.v 5) .nil))) (.sZip (.idx (.var 0) (.cst (.int 1))) (.slice (.idx (.var 0) (.cst (.int 1))) (.cst (.int 1)) (.cst .none))) .nil (.cmp .lt (.var 4) (.var 5))) .nil))))))⟩
/-- check_house: house -/
def f6 : Fn := ⟨1, 1, (.ite (.not (.call 5 (.cons (.var 0) .nil)))
 (.raise 1 .nil)
 .skip)⟩
/-- near_of: house, room, a, b -/
def f7 : Fn := ⟨2, 4, (.ret (.prim .tuple (.cons (.prim .sorted (.cons (.bin .add (.lst (.cons (.var 1) .nil)) (.lc (.tup (.cons (.v 2) (.cons (.v 3) .nil))) (.sVal (.idx (.var 0) (.cst (.int 1)))) (.cons (.cmp .inn (.var 1) (.tup (.cons (.var 2) (.cons (.var 3) .nil)))) .nil) (.bin .sub (.bin .add (.var 2) (.var 3)) (.var 1)))) .nil)) .nil)))⟩
/-- raw_lit: house, lamps, room, lamp -/
def f8 : Fn := ⟨2, 4, (.ret (.prim .tuple (.cons (.lc (.v 2) (.sRng1 (.idx (.var 0) (.cst (.int 0)))) (.cons (.prim .any (.cons (.lc (.v 3) (.sVal (.var 1)) .nil (.cmp .inn (.var 3) (.call 7 (.cons (.var 0) (.cons (.var 2) .nil))))) .nil)) .nil) (.var 2)) .nil)))⟩
/-- check_lamps: house, lamps -/
def f9 : Fn := ⟨2, 2, (.seq (.expr (.call 6 (.cons (.var 0) .nil)))
 (.ite (.not (.call 3 (.cons (.var 1) (.cons (.idx (.var 0) (.cst (.int 0))) .nil))))
 (.raise 2 .nil)
 .skip))⟩
/-- lit: house, lamps -/
def f10 : Fn := ⟨2, 2, (.seq (.expr (.call 9 (.cons (.var 0) (.cons (.var 1) .nil))))
 (.ret (.call 8 (.cons (.var 0) (.cons (.var 1) .nil)))))⟩
/-- rooms_of: house -/
def f11 : Fn := ⟨1, 1, (.ret (.rngL false (.sRng1 (.idx (.var 0) (.cst (.int 0))))))⟩
/-- lights_all: house, lamps -/
def f12 : Fn := ⟨2, 2, (.ret (.cmp .eq (.prim .len (.cons (.call 8 (.cons (.var 0) (.cons (.var 1) .nil))) .nil)) (.idx (.var 0) (.cst (.int 0)))))⟩
/-- lots_of: house, k, lot -/
def f13 : Fn := ⟨2, 3, (.ret (.prim .sorted (.cons (.lc (.v 2) (.sVal (.call 4 (.cons (.call 11 (.cons (.var 0) .nil)) .nil))) (.cons (.cmp .eq (.prim .len (.cons (.var 2) .nil)) (.prim .min2 (.cons (.var 1) (.cons (.idx (.var 0) (.cst (.int 0))) .nil)))) .nil) (.var 2)) .nil)))⟩
/-- raw_all: house, k, lot, found, light, room -/
def f14 : Fn := ⟨2, 6, (.seq (.frr (.v 2) (.sVal (.call 4 (.cons (.call 11 (.cons (.var 0) .nil)) .nil)))
 (.ite (.and (.cmp .le (.prim .len (.cons (.var 2) .nil)) (.var 1)) (.call 12 (.cons (.var 0) (.cons (.var 2) .nil))))
 (.ret (.tup (.cons (.cst (.str "lamps")) (.cons (.var 2) .nil))))
 .skip))
 (.seq (.set (.v 3) (.lst .nil))
 (.seq (.frr (.v 2) (.sVal (.call 13 (.cons (.var 0) (.cons (.var 1) .nil))))
 (.seq (.set (.v 4) (.call 8 (.cons (.var 0) (.cons (.var 2) .nil))))
 (.app 3 (.idx (.lc (.v 5) (.sRng1 (.idx (.var 0) (.cst (.int 0)))) (.cons (.cmp .notIn (.var 5) (.var 4)) .nil) (.var 5)) (.cst (.int 0))))))
 (.ret (.tup (.cons (.cst (.str "dark")) (.cons (.prim .tuple (.cons (.var 3) .nil)) .nil)))))))⟩
/-- check_count: house, k -/
def f15 : Fn := ⟨2, 2, (.seq (.expr (.call 6 (.cons (.var 0) .nil)))
 (.ite (.not (.call 1 (.cons (.var 1) (.cons (.cst (.int 0)) (.cons (.cst (.int 7)) .nil)))))
 (.raise 3 .nil)
 .skip))⟩
/-- all_lit: house, k -/
def f16 : Fn := ⟨2, 2, (.seq (.expr (.call 15 (.cons (.var 0) (.cons (.var 1) .nil))))
 (.ret (.call 14 (.cons (.var 0) (.cons (.var 1) .nil)))))⟩
/-- is_all_lit: house, k, thing, lots, room, lot -/
def f17 : Fn := ⟨3, 6, (.seq (.expr (.call 15 (.cons (.var 0) (.cons (.var 1) .nil))))
 (.seq (.ite (.or (.not (.call 2 (.cons (.var 2) (.cons (.cst (.int 2)) (.cons (.cst (.int 2)) .nil))))) (.not (.prim .isStr (.cons (.idx (.var 2) (.cst (.int 0))) .nil))))
 (.ret (.cst (.bool false)))
 .skip)
 (.seq (.ite (.cmp .eq (.idx (.var 2) (.cst (.int 0))) (.cst (.str "lamps")))
 (.ret (.and (.call 3 (.cons (.idx (.var 2) (.cst (.int 1))) (.cons (.idx (.var 0) (.cst (.int 0))) .nil))) (.and (.cmp .le (.prim .len (.cons (.idx (.var 2) (.cst (.int 1))) .nil)) (.var 1)) (.call 12 (.cons (.var 0) (.cons (.idx (.var 2) (.cst (.int 1))) .nil))))))
 .skip)
 (.seq (.set (.v 3) (.call 13 (.cons (.var 0) (.cons (.var 1) .nil))))
 (.seq (.ite (.or (.cmp .ne (.idx (.var 2) (.cst (.int 0))) (.cst (.str "dark"))) (.not (.call 2 (.cons (.idx (.var 2) (.cst (.int 1))) (.cons (.prim .len (.cons (.var 3) .nil)) (.cons (.prim .len (.cons (.var 3) .nil)) .nil))))))
 (.ret (.cst (.bool false)))
 .skip)
 (.seq (.ite (.not (.prim .all (.cons (.lc (.v 4) (.sVal (.idx (.var 2) (.cst (.int 1)))) .nil (.call 1 (.cons (.var 4) (.cons (.cst (.int 0)) (.cons (.bin .sub (.idx (.var 0) (.cst (.int 0))) (.cst (.int 1))) .nil))))) .nil)))
 (.ret (.cst (.bool false)))
 .skip)
 (.ret (.not (.prim .any (.cons (.lc (.tup (.cons (.v 4) (.cons (.v 5) .nil))) (.sZip (.idx (.var 2) (.cst (.int 1))) (.var 3)) .nil (.cmp .inn (.var 4) (.call 8 (.cons (.var 0) (.cons (.var 5) .nil))))) .nil))))))))))⟩
/-- _law_hand: script, cells, cell -/
def f18 : Fn := ⟨1, 3, (.seq (.set (.v 1) (.lc (.v 2) (.sVal (.slice (.var 0) (.cst .none) (.cst (.int 63)))) .nil (.prim .abs (.cons (.prim .int (.cons (.var 2) .nil)) .nil))))
 (.ret (.lst (.cons (.var 1) (.cons (.cst (.int 0)) (.cons (.cst (.int 0)) (.cons (.bin .add (.cst (.int 83)) (.bin .mul (.cst (.int 5)) (.prim .len (.cons (.var 1) .nil)))) (.cons (.cst (.int 0)) .nil))))))))⟩
/-- _law_draw: hand, many, cell, digit, number -/
def f19 : Fn := ⟨2, 5, (.seq (.ite (.and (.cmp .eq (.idx (.var 0) (.cst (.int 2))) (.cst (.int 0))) (.cmp .lt (.idx (.var 0) (.cst (.int 1))) (.prim .len (.cons (.idx (.var 0) (.cst (.int 0))) .nil))))
 (.seq (.set (.v 2) (.idx (.idx (.var 0) (.cst (.int 0))) (.idx (.var 0) (.cst (.int 1)))))
 (.seq (.sto 0 (.cst (.int 1)) (.bin .add (.idx (.var 0) (.cst (.int 1))) (.cst (.int 1))))
 (.seq (.sto 0 (.cst (.int 3)) (.bin .mod (.prim .int (.cons (.bin .add (.bin .add (.bin .mul (.idx (.var 0) (.cst (.int 3))) (.cst (.int 69621))) (.bin .mul (.var 2) (.cst (.int 40692)))) (.cst (.int 17))) .nil)) (.cst (.int 2147483629))))
 (.ite (.cmp .ge (.var 2) (.bin .pow (.cst (.int 10)) (.cst (.int 18))))
 (.sto 0 (.cst (.int 2)) (.var 2))
 .skip))))
 .skip)
 (.seq (.ite (.cmp .gt (.idx (.var 0) (.cst (.int 2))) (.cst (.int 0)))
 (.seq (.set (.v 3) (.bin .mod (.prim .int (.cons (.idx (.var 0) (.cst (.int 2))) .nil)) (.var 1)))
 (.seq (.sto 0 (.cst (.int 2)) (.bin .fdiv (.idx (.var 0) (.cst (.int 2))) (.var 1)))
 (.retV 3)))
 .skip)
 (.seq (.sto 0 (.cst (.int 4)) (.bin .add (.idx (.var 0) (.cst (.int 4))) (.cst (.int 1))))
 (.seq (.set (.v 4) (.bin .mod (.prim .int (.cons (.bin .mul (.prim .int (.cons (.bin .add (.idx (.var 0) (.cst (.int 3))) (.bin .mul (.cst (.int 7919)) (.idx (.var 0) (.cst (.int 4))))) .nil)) (.cst (.int 48271))) .nil)) (.cst (.int 2147483647))))
 (.seq (.set (.v 4) (.bin .mod (.prim .int (.cons (.bin .mul (.var 4) (.bin .add (.bin .fdiv (.var 4) (.cst (.int 1009))) (.cst (.int 69621)))) .nil)) (.cst (.int 2147483647))))
 (.seq (.set (.v 4) (.bin .mod (.prim .int (.cons (.bin .mul (.var 4) (.bin .add (.bin .fdiv (.var 4) (.cst (.int 2003))) (.cst (.int 40014)))) .nil)) (.cst (.int 2147483563))))
 (.ret (.bin .mod (.prim .int (.cons (.bin .fdiv (.var 4) (.cst (.int 16))) .nil)) (.var 1)))))))))⟩
/-- _law_any: hand, some -/
def f20 : Fn := ⟨2, 2, (.ret (.idx (.var 1) (.call 19 (.cons (.var 0) (.cons (.prim .len (.cons (.var 1) .nil)) .nil)))))⟩
/-- _law_is_int: thing -/
def f21 : Fn := ⟨1, 1, (.ret (.and (.prim .isInt (.cons (.var 0) .nil)) (.not (.prim .isBool (.cons (.var 0) .nil)))))⟩
/-- _law_deep: hand, deep, lap -/
def f22 : Fn := ⟨1, 3, (.seq (.set (.v 1) (.call 20 (.cons (.var 0) (.cons (.lst (.cons (.cst (.str "?")) (.cons (.cst (.str "X x")) .nil))) .nil))))
 (.seq (.frr (.v 2) (.sRng1 (.bin .add (.cst (.int 5)) (.call 19 (.cons (.var 0) (.cons (.cst (.int 20)) .nil)))))
 (.set (.v 1) (.ite (.cmp .eq (.call 19 (.cons (.var 0) (.cons (.cst (.int 2)) .nil))) (.cst (.int 0))) (.lst (.cons (.var 1) .nil)) (.tup (.cons (.var 1) .nil)))))
 (.retV 1)))⟩
/-- _law_house: hand, most, n, often, doors, a, b -/
def f23 : Fn := ⟨2, 7, (.seq (.seq (.set (.v 2) (.bin .add (.cst (.int 2)) (.call 19 (.cons (.var 0) (.cons (.bin .sub (.var 1) (.cst (.int 1))) .nil)))))
 (.seq (.set (.v 3) (.call 20 (.cons (.var 0) (.cons (.lst (.cons (.cst (.int 2)) (.cons (.cst (.int 2)) (.cons (.cst (.int 4)) .nil)))) .nil))))
 (.set (.v 4) (.lst .nil))))
 (.seq (.frr (.v 5) (.sRng1 (.var 2))
 (.ext 4 (.lc (.v 6) (.sRng2 (.bin .add (.var 5) (.cst (.int 1))) (.var 2)) (.cons (.cmp .eq (.call 19 (.cons (.var 0) (.cons (.var 3) .nil))) (.cst (.int 0))) .nil) (.tup (.cons (.var 5) (.cons (.var 6) .nil))))))
 (.ret (.tup (.cons (.var 2) (.cons (.prim .tuple (.cons (.var 4) .nil)) .nil))))))⟩
/-- _law_near: house, room, n, doors, one -/
def f24 : Fn := ⟨2, 5, (.seq (.set (.tup (.cons (.v 2) (.cons (.v 3) .nil))) (.var 0))
 (.ret (.lc (.v 4) (.sRng1 (.var 2)) (.cons (.or (.cmp .eq (.var 4) (.var 1)) (.cmp .inn (.tup (.cons (.prim .min2 (.cons (.var 4) (.cons (.var 1) .nil))) (.cons (.prim .max2 (.cons (.var 4) (.cons (.var 1) .nil))) .nil))) (.var 3))) .nil) (.var 4))))⟩
/-- _law_lots: n, found, one, lot -/
def f25 : Fn := ⟨1, 4, (.seq (.set (.v 1) (.lst (.cons (.tup .nil) .nil)))
 (.seq (.frr (.v 2) (.sRng1 (.var 0))
 (.set (.v 1) (.bin .add (.var 1) (.lc (.v 3) (.sVal (.var 1)) .nil (.bin .add (.var 3) (.tup (.cons (.var 2) .nil)))))))
 (.ret (.prim .sorted (.cons (.var 1) .nil)))))⟩
/-- _law_smallest: lots, lot -/
def f26 : Fn := ⟨1, 2, (.ret (.idx (.prim .min1 (.cons (.lc (.v 1) (.sVal (.var 0)) .nil (.tup (.cons (.prim .len (.cons (.var 1) .nil)) (.cons (.var 1) .nil)))) .nil)) (.cst (.int 1))))⟩
/-- _law_lit: house, lamps, room, one -/
def f27 : Fn := ⟨2, 4, (.ret (.prim .tuple (.cons (.lc (.v 2) (.sRng1 (.idx (.var 0) (.cst (.int 0)))) (.cons (.prim .any (.cons (.lc (.v 3) (.sVal (.call 24 (.cons (.var 0) (.cons (.var 2) .nil)))) .nil (.cmp .inn (.var 3) (.var 1))) .nil)) .nil) (.var 2)) .nil)))⟩
/-- _law_lights: house, lot -/
def f28 : Fn := ⟨1, 2, (.ret (.lc (.v 1) (.sVal (.call 25 (.cons (.idx (.var 0) (.cst (.int 0))) .nil))) (.cons (.cmp .eq (.prim .len (.cons (.call 27 (.cons (.var 0) (.cons (.var 1) .nil))) .nil)) (.idx (.var 0) (.cst (.int 0)))) .nil) (.var 1)))⟩
/-- _law_no_house: hand, some -/
def f29 : Fn := ⟨1, 2, (.seq (.set (.v 1) (.lst (.cons (.cst .none) (.cons (.tup .nil) (.cons (.tup (.cons (.cst (.int 1)) (.cons (.tup .nil) .nil))) (.cons (.tup (.cons (.cst (.int 8)) (.cons (.tup .nil) .nil))) (.cons (.tup (.cons (.cst (.int 2)) (.cons (.lst (.cons (.tup (.cons (.cst (.int 0)) (.cons (.cst (.int 1)) .nil))) .nil)) .nil))) (.cons (.tup (.cons (.cst (.int 2)) (.cons (.tup (.cons (.tup (.cons (.cst (.int 1)) (.cons (.cst (.int 0)) .nil))) .nil)) .nil))) (.cons (.tup (.cons (.cst (.int 2)) (.cons (.tup (.cons (.tup (.cons (.cst (.int 0)) (.cons (.cst (.int 2)) .nil))) .nil)) .nil))) (.cons (.lst (.cons (.cst (.int 2)) (.cons (.tup .nil) .nil))) (.cons (.tup (.cons (.cst (.int 2)) .nil)) (.cons (.cst (.int 2)) (.cons (.cst (.str "2 -")) (.cons (.cst (.str "x")) .nil))))))))))))))
 (.seq (.set (.v 1) (.bin .add (.var 1) (.lst (.cons (.tup (.cons (.cst (.int 3)) (.cons (.tup (.cons (.tup (.cons (.cst (.int 1)) (.cons (.cst (.int 2)) .nil))) (.cons (.tup (.cons (.cst (.int 0)) (.cons (.cst (.int 1)) .nil))) .nil))) .nil))) (.cons (.tup (.cons (.cst (.int 2)) (.cons (.tup (.cons (.tup (.cons (.cst (.int 0)) (.cons (.cst (.int 1)) .nil))) (.cons (.tup (.cons (.cst (.int 0)) (.cons (.cst (.int 1)) .nil))) .nil))) .nil))) (.cons (.tup (.cons (.cst (.bool true)) (.cons (.tup .nil) .nil))) (.cons (.tup (.cons (.cst (.str "2")) (.cons (.tup .nil) .nil))) (.cons (.tup (.cons (.cst (.int 2)) (.cons (.tup (.cons (.tup (.cons (.cst (.int 0)) (.cons (.cst (.int 0)) .nil))) .nil)) .nil))) (.cons (.dsp .nil .nil) .nil)))))))))
 (.ret (.call 20 (.cons (.var 0) (.cons (.bin .add (.var 1) (.lst (.cons (.call 22 (.cons (.var 0) .nil)) .nil))) .nil))))))⟩
/-- _law_no_lot: hand, n, some -/
def f30 : Fn := ⟨2, 3, (.seq (.set (.v 2) (.lst (.cons (.cst .none) (.cons (.lst (.cons (.cst (.int 0)) .nil)) (.cons (.tup (.cons (.var 1) .nil)) (.cons (.tup (.cons (.neg (.cst (.int 1))) .nil)) (.cons (.tup (.cons (.cst (.int 0)) (.cons (.cst (.int 0)) .nil))) (.cons (.tup (.cons (.cst (.int 1)) (.cons (.cst (.int 0)) .nil))) (.cons (.tup (.cons (.cst (.bool true)) .nil)) (.cons (.tup (.cons (.cst (.str "0")) .nil)) (.cons (.cst (.int 0)) (.cons (.cst (.str "x")) (.cons (.dsp .nil .nil) (.cons (.tup (.cons (.cst .none) .nil)) .nil))))))))))))))
 (.ret (.call 20 (.cons (.var 0) (.cons (.bin .add (.var 2) (.lst (.cons (.call 22 (.cons (.var 0) .nil)) .nil))) .nil)))))⟩
/-- _law_said: call, e, flags -/
def f31 : Fn := ⟨1, 3, (.seq (.try1 (.expr .thunk)
 (.hnd (some 0) 1 (.seq (.ite (.not (.isE (.var 1) [none]))
 (.ret (.cst (.str "other")))
 .skip)
 (.seq (.ite (.isE (.var 1) [some 4])
 (.ret (.fld (.var 1)))
 .skip)
 (.seq (.set (.v 2) (.lst (.cons (.isE (.var 1) [some 1]) (.cons (.isE (.var 1) [some 2]) (.cons (.isE (.var 1) [some 3]) .nil)))))
 (.ret (.ite (.cmp .eq (.mth .count (.var 2) (.cons (.cst (.bool true)) .nil)) (.cst (.int 1))) (.idx (.lst (.cons (.cst (.str "house")) (.cons (.cst (.str "lamps")) (.cons (.cst (.str "number")) .nil)))) (.mth .index (.var 2) (.cons (.cst (.bool true)) .nil))) (.cst (.str "other")))))))
 .hnil))
 (.ret (.cst (.str "let"))))⟩
/-- _law_some: n, k, lot -/
def f32 : Fn := ⟨2, 3, (.ret (.lc (.v 2) (.sVal (.call 25 (.cons (.var 0) .nil))) (.cons (.cmp .eq (.prim .len (.cons (.var 2) .nil)) (.prim .min2 (.cons (.var 1) (.cons (.var 0) .nil)))) .nil) (.var 2)))⟩
/-- _law_told: house, k, lot, good, rooms, room -/
def f33 : Fn := ⟨2, 6, (.seq (.set (.v 3) (.lc (.v 2) (.sVal (.call 28 (.cons (.var 0) .nil))) (.cons (.cmp .le (.prim .len (.cons (.var 2) .nil)) (.var 1)) .nil) (.var 2)))
 (.seq (.ite (.cmp .gt (.prim .len (.cons (.var 3) .nil)) (.cst (.int 0)))
 (.ret (.tup (.cons (.cst (.str "lamps")) (.cons (.call 26 (.cons (.var 3) .nil)) .nil))))
 .skip)
 (.seq (.set (.v 4) (.lst .nil))
 (.seq (.frr (.v 2) (.sVal (.call 32 (.cons (.idx (.var 0) (.cst (.int 0))) (.cons (.var 1) .nil))))
 (.app 4 (.idx (.lc (.v 5) (.sRng1 (.idx (.var 0) (.cst (.int 0)))) (.cons (.cmp .notIn (.var 5) (.call 27 (.cons (.var 0) (.cons (.var 2) .nil)))) .nil) (.var 5)) (.cst (.int 0)))))
 (.ret (.tup (.cons (.cst (.str "dark")) (.cons (.prim .tuple (.cons (.var 4) .nil)) .nil))))))))⟩
/-- _law_is_told: house, k, thing, lots, one, lot -/
def f34 : Fn := ⟨3, 6, (.seq (.ite (.or (.not (.prim .isTuple (.cons (.var 2) .nil))) (.or (.cmp .ne (.prim .len (.cons (.var 2) .nil)) (.cst (.int 2))) (.not (.prim .isTuple (.cons (.idx (.var 2) (.cst (.int 1))) .nil)))))
 (.ret (.cst (.bool false)))
 .skip)
 (.seq (.ite (.not (.prim .all (.cons (.lc (.v 4) (.sVal (.idx (.var 2) (.cst (.int 1)))) .nil (.call 21 (.cons (.var 4) .nil))) .nil)))
 (.ret (.cst (.bool false)))
 .skip)
 (.seq (.ite (.cmp .eq (.idx (.var 2) (.cst (.int 0))) (.cst (.str "lamps")))
 (.ret (.and (.cmp .le (.prim .len (.cons (.idx (.var 2) (.cst (.int 1))) .nil)) (.var 1)) (.cmp .inn (.idx (.var 2) (.cst (.int 1))) (.call 28 (.cons (.var 0) .nil)))))
 .skip)
 (.seq (.set (.v 3) (.call 32 (.cons (.idx (.var 0) (.cst (.int 0))) (.cons (.var 1) .nil))))
 (.seq (.ite (.or (.cmp .ne (.idx (.var 2) (.cst (.int 0))) (.cst (.str "dark"))) (.cmp .ne (.prim .len (.cons (.idx (.var 2) (.cst (.int 1))) .nil)) (.prim .len (.cons (.var 3) .nil))))
 (.ret (.cst (.bool false)))
 .skip)
 (.ret (.prim .all (.cons (.lc (.tup (.cons (.v 4) (.cons (.v 5) .nil))) (.sZip (.idx (.var 2) (.cst (.int 1))) (.var 3)) .nil (.and (.chain .le .lt (.cst (.int 0)) (.var 4) (.idx (.var 0) (.cst (.int 0)))) (.cmp .notIn (.var 4) (.call 27 (.cons (.var 0) (.cons (.var 5) .nil)))))) .nil))))))))⟩
/-- _law_is_right: hand, house, lamps, k, due, told, drawn, things, part, thing, one -/
def f35 : Fn := ⟨2, 11, (.seq (.seq (.set (.v 2) (.call 20 (.cons (.var 0) (.cons (.call 25 (.cons (.idx (.var 1) (.cst (.int 0))) .nil)) .nil))))
 (.set (.v 3) (.call 19 (.cons (.var 0) (.cons (.cst (.int 4)) .nil)))))
 (.seq (.set (.v 4) (.call 27 (.cons (.var 1) (.cons (.var 2) .nil))))
 (.seq (.ite (.cmp .ne (.lst (.cons (.call 10 (.cons (.var 1) (.cons (.var 2) .nil))) (.cons (.call 10 (.cons (.var 1) (.cons (.var 2) .nil))) .nil))) (.lst (.cons (.var 4) (.cons (.var 4) .nil))))
 (.ret (.cst (.bool false)))
 .skip)
 (.seq (.set (.v 5) (.call 33 (.cons (.var 1) (.cons (.var 3) .nil))))
 (.seq (.ite (.cmp .ne (.lst (.cons (.call 16 (.cons (.var 1) (.cons (.var 3) .nil))) (.cons (.call 16 (.cons (.var 1) (.cons (.var 3) .nil))) .nil))) (.lst (.cons (.var 5) (.cons (.var 5) .nil))))
 (.ret (.cst (.bool false)))
 .skip)
 (.seq (.set (.v 6) (.prim .tuple (.cons (.lc (.v 10) (.sRng1 (.prim .len (.cons (.idx (.var 5) (.cst (.int 1))) .nil))) .nil (.call 19 (.cons (.var 0) (.cons (.idx (.var 1) (.cst (.int 0))) .nil)))) .nil)))
 (.seq (.set (.v 7) (.lst (.cons (.var 5) (.cons (.tup (.cons (.cst (.str "lamps")) (.cons (.var 2) .nil))) (.cons (.tup (.cons (.cst (.str "dark")) (.cons (.var 6) .nil))) (.cons (.prim .list (.cons (.var 5) .nil)) (.cons (.slice (.var 5) (.cst .none) (.cst (.int 1))) (.cons (.tup (.cons (.idx (.var 5) (.cst (.int 0))) (.cons (.prim .list (.cons (.idx (.var 5) (.cst (.int 1))) .nil)) .nil))) (.cons (.tup (.cons (.cst (.str "lamps")) (.cons (.tup .nil) .nil))) .nil)))))))))
 (.seq (.frr (.v 8) (.sVal (.tup (.cons (.idx (.var 1) (.cst (.int 0))) (.cons (.neg (.cst (.int 1))) (.cons (.cst .none) (.cons (.cst (.bool true)) (.cons (.cst (.str "0")) .nil)))))))
 (.app 7 (.tup (.cons (.idx (.var 5) (.cst (.int 0))) (.cons (.bin .add (.slice (.idx (.var 5) (.cst (.int 1))) (.cst .none) (.neg (.cst (.int 1)))) (.tup (.cons (.var 8) .nil))) .nil)))))
 (.seq (.frr (.v 9) (.sVal (.bin .add (.var 7) (.lst (.cons (.tup (.cons (.cst (.str "dark")) (.cons (.slice (.idx (.var 5) (.cst (.int 1))) (.cst (.int 1)) (.cst .none)) .nil))) (.cons (.cst .none) (.cons (.cst (.int 0)) (.cons (.cst (.str "x")) (.cons (.dsp .nil .nil) (.cons (.tup .nil) (.cons (.call 22 (.cons (.var 0) .nil)) .nil))))))))))
 (.ite (.cmp .ne (.prim .repr (.cons (.call 17 (.cons (.var 1) (.cons (.var 3) (.cons (.var 9) .nil)))) .nil)) (.prim .repr (.cons (.call 34 (.cons (.var 1) (.cons (.var 3) (.cons (.var 9) .nil)))) .nil)))
 (.ret (.cst (.bool false)))
 .skip))
 (.ret (.cst (.bool true))))))))))))⟩
/-- law: script, hand, row, lap, said, bad, house, k, none -/
def f36 : Fn := ⟨1, 9, (.seq (.set (.v 1) (.call 18 (.cons (.var 0) .nil)))
 (.seq (.set (.v 2) (.tup (.cons (.cst (.int 3)) (.cons (.tup (.cons (.tup (.cons (.cst (.int 0)) (.cons (.cst (.int 1)) .nil))) (.cons (.tup (.cons (.cst (.int 1)) (.cons (.cst (.int 2)) .nil))) .nil))) .nil))))
 (.seq (.ite (.or (.cmp .ne (.call 16 (.cons (.var 2) (.cons (.cst (.int 1)) .nil))) (.tup (.cons (.cst (.str "lamps")) (.cons (.tup (.cons (.cst (.int 1)) .nil)) .nil)))) (.or (.cmp .ne (.call 16 (.cons (.var 2) (.cons (.cst (.int 0)) .nil))) (.tup (.cons (.cst (.str "dark")) (.cons (.tup (.cons (.cst (.int 0)) .nil)) .nil)))) (.cmp .ne (.call 10 (.cons (.var 2) (.cons (.tup (.cons (.cst (.int 0)) .nil)) .nil))) (.tup (.cons (.cst (.int 0)) (.cons (.cst (.int 1)) .nil))))))
 (.ret (.cst (.bool false)))
 .skip)
 (.seq (.ite (.cmp .ne (.call 16 (.cons (.tup (.cons (.cst (.int 2)) (.cons (.tup .nil) .nil))) (.cons (.cst (.int 1)) .nil))) (.tup (.cons (.cst (.str "dark")) (.cons (.tup (.cons (.cst (.int 1)) (.cons (.cst (.int 0)) .nil))) .nil))))
 (.ret (.cst (.bool false)))
 .skip)
 (.seq (.frr (.v 3) (.sRng1 (.cst (.int 4)))
 (.seq (.set (.v 6) (.call 23 (.cons (.var 1) (.cons (.cst (.int 6)) .nil))))
 (.seq (.ite (.not (.call 35 (.cons (.var 1) (.cons (.var 6) .nil))))
 (.ret (.cst (.bool false)))
 .skip)
 (.seq (.seq (.set (.v 8) (.call 29 (.cons (.var 1) .nil)))
 (.seq (.set (.v 5) (.call 30 (.cons (.var 1) (.cons (.idx (.var 6) (.cst (.int 0))) .nil))))
 (.set (.v 7) (.call 20 (.cons (.var 1) (.cons (.lst (.cons (.cst (.int 8)) (.cons (.neg (.cst (.int 1))) (.cons (.cst .none) (.cons (.cst (.bool true)) (.cons (.cst (.str "1")) .nil)))))) .nil))))))
 (.seq (.set (.v 4) (.lst (.cons (.lam 31 (.call 10 (.cons (.var 8) (.cons (.var 5) .nil)))) (.cons (.lam 31 (.call 10 (.cons (.var 6) (.cons (.var 5) .nil)))) .nil))))
 (.seq (.app 4 (.lam 31 (.call 16 (.cons (.var 8) (.cons (.var 7) .nil)))))
 (.seq (.app 4 (.lam 31 (.call 16 (.cons (.var 6) (.cons (.var 7) .nil)))))
 (.seq (.app 4 (.lam 31 (.call 17 (.cons (.var 6) (.cons (.var 7) (.cons (.tup .nil) .nil))))))
 (.ite (.cmp .ne (.var 4) (.lst (.cons (.cst (.str "house")) (.cons (.cst (.str "lamps")) (.cons (.cst (.str "house")) (.cons (.cst (.str "number")) (.cons (.cst (.str "number")) .nil)))))))
 (.ret (.cst (.bool false)))
 .skip)))))))))
 (.ret (.cst (.bool true))))))))⟩

def P : List Fn := [f0, f1, f2, f3, f4, f5, f6, f7, f8, f9, f10, f11, f12, f13, f14, f15, f16, f17, f18, f19, f20, f21, f22, f23, f24, f25, f26, f27, f28, f29, f30, f31, f32, f33, f34, f35, f36]
end K29
/-! text D29 -/
set_option autoImplicit false
set_option linter.all false
set_option maxRecDepth 100000
set_option maxHeartbeats 2000000
namespace K29
open PySem Pv
theorem dD : Draws P 19 := Draws.C2 rfl
theorem bas : Basic P := ⟨rfl, rfl, rfl⟩
/-! lit rooms -/
def litB (ds : List Lot) (lot : Lot) (r : Nat) : Bool := lot.any fun x => nearB ds r x
def litL (n : Nat) (ds : List Lot) (lot : Lot) : Lot := (List.range n).filter (litB ds lot)
def allB (n : Nat) (ds : List Lot) (lot : Lot) : Bool := (litL n ds lot).length == n
def okK (n : Nat) (ds : List Lot) (k : Nat) (lot : Lot) : Bool := decide (lot.length ≤ k) && allB n ds lot
def goodA (n : Nat) (ds : List Lot) (k : Nat) : List Lot := (allL n).filter (okK n ds k)
def lightsL (n : Nat) (ds : List Lot) : List Lot := (lexL n).filter (allB n ds)
def goodX (n : Nat) (ds : List Lot) (k : Nat) : List Lot := (lightsL n ds).filter fun lot => decide (lot.length ≤ k)
def rowK (n k : Nat) : List Lot := (lexL n).filter fun l => l.length == min k n
def darkL (n : Nat) (ds : List Lot) (lot : Lot) : Lot := (List.range n).filter fun r => !(litL n ds lot).contains r
def darkR (n : Nat) (ds : List Lot) (lot : Lot) : Nat := (darkL n ds lot).headD 0
def toldP (n : Nat) (ds : List Lot) (k : Nat) : Str × Lot := match goodA n ds k with
  | g :: _ => ("lamps", g)
  | [] => ("dark", (rowK n k).map (darkR n ds))
abbrev wD (p : Str × Lot) : PyData := .tuple [.str p.1, lD p.2]
section
variable {n k : Nat} {ds : List Lot} {lot : Lot}
theorem lit_law (s : lot.Sublist (List.range n)) (r : Nat) : ((lnearL n ds r).any fun x => lot.contains x) = litB ds lot r := by
  unfold litB lnearL
  rw [Bool.eq_iff_iff, List.any_eq_true, List.any_eq_true]
  constructor
  · rintro ⟨x, hx, c⟩
    exact ⟨x, List.contains_iff_mem.mp c, (List.mem_filter.mp hx).2⟩
  · rintro ⟨x, hx, c⟩
    exact ⟨x, List.mem_filter.mpr ⟨s.subset hx, c⟩, List.contains_iff_mem.mpr hx⟩
theorem lit_len : (litL n ds lot).length ≤ n := by
  have := List.length_filter_le (litB ds lot) (List.range n)
  rw [List.length_range] at this
  exact this
theorem good_iff {x : Lot} : x ∈ goodX n ds k ↔ x ∈ goodA n ds k := by
  unfold goodX goodA lightsL okK
  rw [List.mem_filter, List.mem_filter, List.mem_filter, lex_mem, lots_mem, Bool.and_eq_true]
  constructor
  · rintro ⟨⟨a, b⟩, c⟩; exact ⟨a, c, b⟩
  · rintro ⟨a, c, b⟩; exact ⟨⟨a, b⟩, c⟩
theorem least_eq {m g : Lot} {r : List Lot} (e : goodA n ds k = g :: r) (hm : m ∈ goodX n ds k) (le : ∀ x ∈ goodX n ds k, leP m x) : m = g := by
  have hg : g ∈ goodA n ds k := by rw [e]; exact List.mem_cons_self ..
  have fl := first_least (lots_pw (List.range n)) e
  obtain ⟨h1, h2⟩ := List.mem_filter.mp (good_iff.mp hm)
  exact leP_anti (le g (good_iff.mpr hg)) (fl m h1 h2)
theorem row_mem {x : Lot} : x ∈ rowK n k ↔ x.Sublist (List.range n) ∧ x.length = min k n := by
  unfold rowK
  rw [List.mem_filter, lex_mem, beq_iff_eq]
theorem dark_ne (e : goodA n ds k = []) (h : lot ∈ rowK n k) : ∃ r t, darkL n ds lot = r :: t := by
  obtain ⟨s, l⟩ := row_mem.mp h
  cases z : darkL n ds lot with
  | cons r t => exact ⟨r, t, rfl⟩
  | nil =>
    exfalso
    have all : ∀ r, r < n → (litL n ds lot).contains r = true := fun r hr => by
      cases c : (litL n ds lot).contains r with
      | true => rfl
      | false =>
        have : r ∈ darkL n ds lot := List.mem_filter.mpr ⟨List.mem_range.mpr hr, by rw [c]; rfl⟩
        rw [z] at this
        cases this
    have full : litL n ds lot = List.range n := by
      unfold litL
      refine List.filter_eq_self.mpr fun r hr => ?_
      have := List.contains_iff_mem.mp (all r (List.mem_range.mp hr))
      exact (List.mem_filter.mp this).2
    have : lot ∈ goodA n ds k := List.mem_filter.mpr ⟨(lots_mem _ _).mpr s, by
      unfold okK allB
      rw [full, List.length_range, Bool.and_eq_true, decide_eq_true_iff]
      exact ⟨by omega, by simp⟩⟩
    rw [e] at this
    cases this
theorem dark_lt (e : goodA n ds k = []) (h : lot ∈ rowK n k) : darkR n ds lot < n := by
  obtain ⟨r, t, z⟩ := dark_ne e h
  unfold darkR
  rw [z]
  have : r ∈ darkL n ds lot := by rw [z]; exact List.mem_cons_self ..
  exact List.mem_range.mp (List.mem_filter.mp this).1
theorem row_len (n7 : n ≤ 7) : (rowK n k).length ≤ 128 := Nat.le_trans (List.length_filter_le _ _) (lex_len n7)
theorem told_word : (toldP n ds k).1 = ("lamps" : Str) ∨ (toldP n ds k).1 = ("dark" : Str) := by
  unfold toldP
  cases goodA n ds k with
  | nil => exact .inr rfl
  | cons a r => exact .inl rfl
theorem told_len (n7 : n ≤ 7) : (toldP n ds k).2.length ≤ 128 := by
  unfold toldP
  cases e : goodA n ds k with
  | nil =>
    show ((rowK n k).map (darkR n ds)).length ≤ 128
    rw [List.length_map]
    exact row_len n7
  | cons a r =>
    have : a ∈ goodA n ds k := by rw [e]; exact List.mem_cons_self ..
    have s := (lots_mem _ _).mp (List.mem_filter.mp this).1
    have := s.length_le
    rw [List.length_range] at this
    show a.length ≤ 128
    omega
end
end K29
/-! text M29 -/
set_option autoImplicit false
set_option linter.all false
set_option maxRecDepth 100000
set_option maxHeartbeats 4000000
namespace K29
open PySem Pv
section
variable {fu d n k : Nat} {th : Pv.Thunk} {h : HS} {ds : List Lot} {lot : Lot}
theorem flat_one {α β : Type} (f : α → β) : ∀ l : List α, l.flatMap (fun x => [f x]) = l.map f
  | [] => rfl
  | a :: l => by rw [List.flatMap_cons, flat_one f l]; rfl
theorem any_n {C : Pv.Callee} {env : Pv.Env} {t : T} {src elt : X} {L : Lot} (b : Nat → Bool) (hs : evSrc C th false src env h = .ok (nD L) h) (l : L.length ≤ 200) (he : ∀ g ∈ L, ∃ env' fr, bindT t (.int (g : Nat)) env = some env' ∧ evE C th false elt env' h = .ok (.d (.bool (b g)), fr) h) :
    evE C th false (.prim .any (.cons (.lc t src .nil elt) .nil)) env h = .ok (.d (.bool (L.any b)), true) h := by
  have q := any_G (C := C) (th := th) (h := h) (env := env) (t := t) (src := src) (cond := .nil) (elt := elt) (L := L) (fun x : Nat => PyData.int (x : Nat)) (fun _ => true) b hs (by unfold lineN; omega) fun g hg => by
    obtain ⟨env', fr, q1, q2⟩ := he g hg
    exact ⟨env', fr, q1, evC_nil, q2⟩
  simp only [Bool.true_and] at q
  exact q
theorem rng_ev {C : Pv.Callee} {env : Pv.Env} (n7 : n ≤ 7) (e0 : env[0]? = some (vS (hD n ds))) : evSrc C th false (.sRng1 (.idx (.var 0) (.cst (.int 0)))) env h = .ok (nD (List.range n)) h := by
  rw [← rng_nD]
  exact rngE_ok (i := ((n : Nat) : Int)) (fa := false) (idx_is (x := hD n ds) (y := .int 0) (fa := false) (fb := true) (var_ok e0) rfl rfl) (rng_small (by omega))
theorem n_ev {C : Pv.Callee} {env : Pv.Env} (e0 : env[0]? = some (vS (hD n ds))) : evE C th false (.idx (.var 0) (.cst (.int 0))) env h = .ok (iP n, false) h := idx_is (x := hD n ds) (y := .int 0) (fa := false) (fb := true) (var_ok e0) rfl rfl
theorem raw_ok (o : HouseOk n ds) (l : lot.length ≤ 128) : evF P fu (d + 2) 8 [.d (hD n ds), .d (lD lot)] th h = .ok (.d (lD (litL n ds lot)), true) h := by
  have n7 := o.n7
  let E (e2 e3 : SL) : Pv.Env := [vS (hD n ds), vS (lD lot), e2, e3]
  have q := lc_G (C := evF P fu (d + 1)) (th := th) (h := h) (env := E none none) (t := .v 2) (src := .sRng1 (.idx (.var 0) (.cst (.int 0)))) (cond := .cons (.prim .any (.cons (.lc (.v 3) (.sVal (.var 1)) .nil (.cmp .inn (.var 3) (.call 7 (.cons (.var 0) (.cons (.var 2) .nil))))) .nil)) .nil) (elt := .var 2) (L := List.range n) (fun r : Nat => PyData.int (r : Nat)) (litB ds lot) (fun r => .int (r : Nat)) (rng_ev n7 rfl) (by rw [List.length_range]; unfold lineN; omega) fun r hr =>
    ⟨E (vS (.int (r : Nat))) none, false, rfl, evC_of (any_n (L := lot) (fun x => nearB ds r x) (src_val (x := lD lot) (fa := false) (var_ok rfl) rfl) (by omega) fun x hx =>
      ⟨E (vS (.int (r : Nat))) (vS (.int (x : Nat))), true, rfl, cmp_ok (x := .int (x : Nat)) (y := lD (nearL ds r)) (fa := false) (fb := true) (var_ok rfl) ((callE_ok (vs := [(.d (hD n ds), false), (iP r, false)]) rfl rfl).trans (near_gen (g := 7) rfl o)) (by rw [inn_lot, near_mem o])⟩), var_ok rfl⟩
  exact evF_rt (fn := f8) (env' := E none none) rfl rfl (ret_ok (prim1 (fa := true) q rfl))
theorem len_ev {C : Pv.Callee} {env : Pv.Env} {a : X} {fa : Bool} {l : Lot} (e : evE C th false a env h = .ok (.d (lD l), fa) h) : evE C th false (.prim .len (.cons a .nil)) env h = .ok (iP l.length, true) h := prim1 (x := lD l) e (len_l l)
theorem lights_ok (o : HouseOk n ds) (l : lot.length ≤ 128) : evF P fu (d + 3) 12 [.d (hD n ds), .d (lD lot)] th h = .ok (.d (.bool (allB n ds lot)), true) h := by
  let E : Pv.Env := [vS (hD n ds), vS (lD lot)]
  exact evF_rt (fn := f12) (env' := E) rfl rfl (ret_ok (cmp_ok (x := .int ((litL n ds lot).length : Nat)) (y := .int (n : Nat)) (fa := true) (fb := false) (len_ev (fa := true) ((callE_ok (vs := [(.d (hD n ds), false), (.d (lD lot), false)]) rfl rfl).trans (raw_ok o l))) (n_ev rfl) (eq_nat _ _)))
theorem all_ev {env : Pv.Env} (o : HouseOk n ds) (e0 : env[0]? = some (vS (hD n ds))) : evE (evF P fu (d + 1)) th false (.call 4 (.cons (.call 11 (.cons (.var 0) .nil)) .nil)) env h = .ok (.d (.list ((allL n).map lD)), true) h := by
  have n7 := o.n7
  exact (callE_ok (vs := [(.d (.list (nD (List.range n))), true)]) (cons_ok ((callE_ok (vs := [(.d (hD n ds), false)]) (cons_ok (var_ok e0) rfl) rfl).trans (rooms_gen (g := 11) rfl n7)) rfl) rfl).trans (lots_gen (g := 4) (bs := List.range n) rfl rfl (by rw [List.length_range]; omega))
theorem min_ev {C : Pv.Callee} {env : Pv.Env} {a b : X} {fa fb : Bool} {x y : Nat} (e1 : evE C th false a env h = .ok (iP x, fa) h) (e2 : evE C th false b env h = .ok (iP y, fb) h) : evE C th false (.prim .min2 (.cons a (.cons b .nil))) env h = .ok (iP (min x y), primFresh .min2) h := prim2 e1 e2 (min2_nat x y)
theorem row_ok (o : HouseOk n ds) : evF P fu (d + 2) 13 [.d (hD n ds), iP k] th h = .ok (.d (.list ((rowK n k).map lD)), true) h := by
  have n7 := o.n7
  have la : (allL n).length ≤ 128 := lots_len (by rw [List.length_range]; omega)
  let E (e2 : SL) : Pv.Env := [vS (hD n ds), some (iP k, false), e2]
  have q := lc_G (C := evF P fu (d + 1)) (th := th) (h := h) (env := E none) (t := .v 2) (src := .sVal (.call 4 (.cons (.call 11 (.cons (.var 0) .nil)) .nil))) (cond := .cons (.cmp .eq (.prim .len (.cons (.var 2) .nil)) (.prim .min2 (.cons (.var 1) (.cons (.idx (.var 0) (.cst (.int 0))) .nil)))) .nil) (elt := .var 2) (L := allL n) lD (fun l => l.length == min k n) lD (src_val (x := .list ((allL n).map lD)) (fa := true) (all_ev o rfl) rfl) (by unfold lineN; omega) fun l hl =>
    ⟨E (vS (lD l)), false, rfl, evC_of (cmp_ok (x := .int (l.length : Nat)) (y := .int ((min k n : Nat) : Int)) (fa := true) (len_ev (fa := false) (var_ok rfl)) (min_ev (fa := false) (fb := false) (var_ok rfl) (n_ev rfl)) (eq_nat _ _)), var_ok rfl⟩
  refine evF_rt (fn := f13) (env' := E none) rfl rfl (ret_ok (prim1 (p := .sorted) (fa := true) q ?_))
  rw [sorted_ls, sort_sub (all_lex n)]
  rfl
abbrev S14 : S := .ite (.and (.cmp .le (.prim .len (.cons (.var 2) .nil)) (.var 1)) (.call 12 (.cons (.var 0) (.cons (.var 2) .nil)))) (.ret (.tup (.cons (.cst (.str "lamps")) (.cons (.var 2) .nil)))) .skip
abbrev D14 : S := .seq (.set (.v 4) (.call 8 (.cons (.var 0) (.cons (.var 2) .nil))))
 (.app 3 (.idx (.lc (.v 5) (.sRng1 (.idx (.var 0) (.cst (.int 0)))) (.cons (.cmp .notIn (.var 5) (.var 4)) .nil) (.var 5)) (.cst (.int 0))))
/-- the first dark room -/
theorem first_dark {C : Pv.Callee} {env : Pv.Env} {a : X} {fa : Bool} (n7 : n ≤ 7) (e : goodA n ds k = []) (hl : lot ∈ rowK n k) (e0 : env[0]? = some (vS (hD n ds))) (lt : 5 < env.length) (ea : ∀ r, r < n → evE C th false a (env.set 5 (vS (.int (r : Nat)))) h = .ok (.d (lD (litL n ds lot)), fa) h) :
    evE C th false (.idx (.lc (.v 5) (.sRng1 (.idx (.var 0) (.cst (.int 0)))) (.cons (.cmp .notIn (.var 5) a) .nil) (.var 5)) (.cst (.int 0))) env h = .ok (iP (darkR n ds lot), false) h := by
  have v5 : ∀ r : Nat, (env.set 5 (vS (.int (r : Nat))))[5]? = some (vS (.int (r : Nat))) := fun r => List.getElem?_set_self lt
  have q := lc_G (C := C) (th := th) (h := h) (env := env) (t := .v 5) (src := .sRng1 (.idx (.var 0) (.cst (.int 0)))) (cond := .cons (.cmp .notIn (.var 5) a) .nil) (elt := .var 5) (L := List.range n) (fun r : Nat => PyData.int (r : Nat)) (fun r => !(litL n ds lot).contains r) (fun r => .int (r : Nat)) (rng_ev n7 e0) (by rw [List.length_range]; unfold lineN; omega) fun r hr =>
    ⟨env.set 5 (vS (.int (r : Nat))), false, rfl, evC_of (cmp_ok (x := .int (r : Nat)) (y := lD (litL n ds lot)) (fa := false) (var_ok (v5 r)) (ea r (List.mem_range.mp hr)) (nin_lot _ _)), var_ok (v5 r)⟩
  obtain ⟨r, t, z⟩ := dark_ne e hl
  have q : evE C th false (.lc (.v 5) (.sRng1 (.idx (.var 0) (.cst (.int 0)))) (.cons (.cmp .notIn (.var 5) a) .nil) (.var 5)) env h = .ok (.d (.list (nD (darkL n ds lot))), true) h := q
  unfold darkR
  rw [z] at q ⊢
  exact idx_is (y := .int 0) (fa := true) (fb := true) q rfl rfl
theorem raw_all_ok (o : HouseOk n ds) : evF P fu (d + 5) 14 [.d (hD n ds), iP k] th h = .ok (.d (wD (toldP n ds k)), true) h := by
  have n7 := o.n7
  let C := evF P fu (d + 4)
  have la : (allL n).length ≤ 128 := lots_len (by rw [List.length_range]; omega)
  have l7 : ∀ {l : Lot}, l.Sublist (List.range n) → l.length ≤ 7 := fun s => by have := s.length_le; rw [List.length_range] at this; omega
  let E (e2 : SL) : Pv.Env := [vS (hD n ds), some (iP k, false), e2, none, none, none]
  have src : evSrc C th false (.sVal (.call 4 (.cons (.call 11 (.cons (.var 0) .nil)) .nil))) (E none) h = .ok ((allL n).map lD) h := src_val (x := .list ((allL n).map lD)) (fa := true) (all_ev (d := d + 3) o rfl) rfl
  have st : ∀ x ∈ allL n, ∀ e, (match bindT (.v 2) (lD x) (E e) with
      | some env' => evS C th false fu S14 env' h
      | none => .no) = if okK n ds k x then .ok (.rt (.d (wD ("lamps", x))) true, E (vS (lD x))) h else .ok (.nx, E (vS (lD x))) h := fun x hx e => by
    have s := (lots_mem _ _).mp hx
    have c : evE C th false (.and (.cmp .le (.prim .len (.cons (.var 2) .nil)) (.var 1)) (.call 12 (.cons (.var 0) (.cons (.var 2) .nil)))) (E (vS (lD x))) h = .ok (.d (.bool (okK n ds k x)), true) h :=
      and_b (p := decide (x.length ≤ k)) (fa := true) (h' := h) (cmp_ok (x := .int (x.length : Nat)) (y := .int (k : Nat)) (fa := true) (fb := false) (len_ev (fa := false) (var_ok rfl)) (var_ok rfl) (le_nat _ _)) ((callE_ok (vs := [(.d (hD n ds), false), (.d (lD x), false)]) rfl rfl).trans (lights_ok (d := d + 1) o (by have := l7 s; omega)))
    show evS C th false fu S14 (E (vS (lD x))) h = _
    rw [ite_b c]
    cases okK n ds k x with
    | true => exact ret_ok (tup_ok (vs := [(.d (.str "lamps"), true), (.d (lD x), false)]) (cons_ok rfl (cons_ok (var_ok rfl) rfl)) rfl)
    | false => rfl
  unfold toldP
  cases e : goodA n ds k with
  | cons g r =>
    obtain ⟨e', q⟩ := forL_first (h := h) (step := fun x env h => match bindT (.v 2) x env with
      | some env' => evS C th false fu S14 env' h
      | none => .no) (okK n ds k) E (fun l => .d (wD ("lamps", l))) (allL n) none e st
    exact evF_rt (fn := f14) (env' := E e') rfl rfl (seq_rt ((frr_ok (h' := h) src).trans q))
  | nil =>
    obtain ⟨env', h', ⟨rfl, e2, rfl⟩, q⟩ := for_inv (I := fun env h2 => h2 = h ∧ ∃ e2, env = E e2) (step := fun x env h => match bindT (.v 2) x env with
      | some env' => evS C th false fu S14 env' h
      | none => .no) ((allL n).map lD) (E none) h (fun x hx env h2 ⟨eh, e2, ee⟩ => by
        subst ee; subst eh
        obtain ⟨l, hl, rfl⟩ := List.mem_map.mp hx
        have := st l hl e2
        have z : okK n ds k l = false := by
          cases c : okK n ds k l with
          | false => rfl
          | true =>
            have : l ∈ goodA n ds k := List.mem_filter.mpr ⟨hl, c⟩
            rw [e] at this
            cases this
        rw [z, if_neg Bool.false_ne_true] at this
        exact ⟨_, h2, ⟨rfl, _, rfl⟩, this⟩) ⟨rfl, none, rfl⟩
    let E2 (b : Lot) (g : SL × SL) : Pv.Env := [vS (hD n ds), some (iP k, false), g.1, some (.d (.list (nD b)), true), g.2, none]
    have rl := row_len (n := n) (k := k) n7
    obtain ⟨g', q2, _⟩ := for_acc (h := h') (step := fun x env h => match bindT (.v 2) x env with
      | some env' => evS C th false fu D14 env' h
      | none => .no) 128 lD E2 (fun b l => b ++ [darkR n ds l]) (fun i b => b.length ≤ i) (rowK n k) 0 [] (e2, none) (by omega) (fun l hl i b g hi hb => by
      obtain ⟨sl, _⟩ := row_mem.mp hl
      refine ⟨(vS (lD l), vS (lD (litL n ds l))), ?_, by rw [List.length_append]; simp; omega⟩
      refine (seq_nx (env' := E2 b (vS (lD l), vS (lD (litL n ds l)))) (h' := h') (setI_ok (d := lD (litL n ds l)) (fr := true) ((callE_ok (vs := [(.d (hD n ds), false), (.d (lD l), false)]) rfl rfl).trans (raw_ok (d := d + 2) o (by have := l7 sl; omega))) (imm_lD _))).trans ?_
      refine (appI_ok (xs := nD b) (y := .int (darkR n ds l : Nat)) (fr := false) rfl (first_dark (fa := false) n7 e hl rfl (by show 5 < 6; decide) fun r hr => var_ok rfl) rfl (by rw [List.length_map]; unfold lineN; omega)).trans ?_
      show R.ok (Out.nx, (E2 b (vS (lD l), vS (lD (litL n ds l)))).set 3 (some (.d (.list (nD b ++ [.int (darkR n ds l : Nat)])), true))) h' = _
      rw [show nD b ++ [PyData.int (darkR n ds l : Nat)] = nD (b ++ [darkR n ds l]) by unfold nD; rw [List.map_append]; rfl]
      rfl) (Nat.le_refl _)
    rw [foldl_app, List.nil_append, flat_one] at q2
    have src2 : evSrc C th false (.sVal (.call 13 (.cons (.var 0) (.cons (.var 1) .nil)))) (E2 [] (e2, none)) h' = .ok ((rowK n k).map lD) h' := src_val (x := .list ((rowK n k).map lD)) (fa := true) ((callE_ok (vs := [(.d (hD n ds), false), (iP k, false)]) rfl rfl).trans (row_ok (d := d + 2) o)) rfl
    refine evF_rt (fn := f14) (env' := E2 ((rowK n k).map (darkR n ds)) g') rfl rfl ((seq_nx ((frr_ok (h' := h') src).trans q)).trans ((seq_nx (env' := E2 [] (e2, none)) (h' := h') rfl).trans ((seq_nx ((frr_ok (h' := h') src2).trans q2)).trans (ret_ok ?_))))
    exact tup_ok (vs := [(.d (.str "dark"), true), (.d (lD ((rowK n k).map (darkR n ds))), true)]) (cons_ok rfl (cons_ok (prim1 (x := .list (nD ((rowK n k).map (darkR n ds)))) (fa := false) (var_ok rfl) rfl) rfl)) rfl
end
end K29
/-! text Q29 -/
set_option autoImplicit false
set_option linter.all false
set_option maxRecDepth 100000
set_option maxHeartbeats 4000000
namespace K29
open PySem Pv
section
variable {fu d n k : Nat} {th : Pv.Thunk} {h : HS} {ds : List Lot} {lot : Lot}
theorem l7 (o : HouseOk n ds) (s : lot.Sublist (List.range n)) : lot.length ≤ 7 := by
  have := s.length_le
  have := o.n7
  rw [List.length_range] at *
  omega
theorem lnear_len (n7 : n ≤ 7) (r : Nat) : (lnearL n ds r).length ≤ 7 := by
  have := List.length_filter_le (nearB ds r) (List.range n)
  rw [List.length_range] at this
  unfold lnearL
  omega
theorem llit_ok (o : HouseOk n ds) (s : lot.Sublist (List.range n)) : evF P fu (d + 2) 27 [.d (hD n ds), .d (lD lot)] th h = .ok (.d (lD (litL n ds lot)), true) h := by
  have n7 := o.n7
  let E (e2 e3 : SL) : Pv.Env := [vS (hD n ds), vS (lD lot), e2, e3]
  have q := lc_G (C := evF P fu (d + 1)) (th := th) (h := h) (env := E none none) (t := .v 2) (src := .sRng1 (.idx (.var 0) (.cst (.int 0)))) (cond := .cons (.prim .any (.cons (.lc (.v 3) (.sVal (.call 24 (.cons (.var 0) (.cons (.var 2) .nil)))) .nil (.cmp .inn (.var 3) (.var 1))) .nil)) .nil) (elt := .var 2) (L := List.range n) (fun r : Nat => PyData.int (r : Nat)) (litB ds lot) (fun r => .int (r : Nat)) (rng_ev n7 rfl) (by rw [List.length_range]; unfold lineN; omega) fun r hr => by
    refine ⟨E (vS (.int (r : Nat))) none, false, rfl, ?_, var_ok rfl⟩
    rw [← lit_law s r]
    exact evC_of (any_n (L := lnearL n ds r) (fun x => lot.contains x) (src_val (x := .list (nD (lnearL n ds r))) (fa := true) ((callE_ok (vs := [(.d (hD n ds), false), (iP r, false)]) rfl rfl).trans (lnear_gen (g := 24) rfl n7)) rfl) (by have := lnear_len (ds := ds) n7 r; omega) fun x hx =>
      ⟨E (vS (.int (r : Nat))) (vS (.int (x : Nat))), true, rfl, cmp_ok (x := .int (x : Nat)) (y := lD lot) (fa := false) (fb := false) (var_ok rfl) (var_ok rfl) (inn_lot _ _)⟩)
  exact evF_rt (fn := f27) (env' := E none none) rfl rfl (ret_ok (prim1 (fa := true) q rfl))
theorem lex_ev {C : Pv.Callee} (n7 : n ≤ 7) {a : X} {env : Pv.Env} {fa : Bool} (hC : C = evF P fu (d + 1)) (ea : evE C th false a env h = .ok (iP n, fa) h) : evE C th false (.call 25 (.cons a .nil)) env h = .ok (.d (.list ((lexL n).map lD)), true) h := by
  subst hC
  exact (callE_ok (vs := [(iP n, fa)]) (cons_ok ea rfl) rfl).trans (llots_gen (g := 25) (d := d) rfl n7)
theorem llights_ok (o : HouseOk n ds) : evF P fu (d + 3) 28 [.d (hD n ds)] th h = .ok (.d (.list ((lightsL n ds).map lD)), true) h := by
  have n7 := o.n7
  have ll := lex_len (n := n) n7
  let E (e1 : SL) : Pv.Env := [vS (hD n ds), e1]
  have q := lc_G (C := evF P fu (d + 2)) (th := th) (h := h) (env := E none) (t := .v 1) (src := .sVal (.call 25 (.cons (.idx (.var 0) (.cst (.int 0))) .nil))) (cond := .cons (.cmp .eq (.prim .len (.cons (.call 27 (.cons (.var 0) (.cons (.var 1) .nil))) .nil)) (.idx (.var 0) (.cst (.int 0)))) .nil) (elt := .var 1) (L := lexL n) lD (allB n ds) lD (src_val (x := .list ((lexL n).map lD)) (fa := true) (lex_ev (fa := false) n7 rfl (n_ev rfl)) rfl) (by unfold lineN; omega) fun l hl =>
    ⟨E (vS (lD l)), false, rfl, evC_of (cmp_ok (x := .int ((litL n ds l).length : Nat)) (y := .int (n : Nat)) (fa := true) (fb := false) (len_ev (fa := true) ((callE_ok (vs := [(.d (hD n ds), false), (.d (lD l), false)]) rfl rfl).trans (llit_ok o ((lex_mem n l).mp hl)))) (n_ev rfl) (eq_nat _ _)), var_ok rfl⟩
  exact evF_rt (fn := f28) (env' := E none) rfl rfl (ret_ok q)
theorem lsome_ok (n7 : n ≤ 7) : evF P fu (d + 2) 32 [iP n, iP k] th h = .ok (.d (.list ((rowK n k).map lD)), true) h := by
  have ll := lex_len (n := n) n7
  let E (e2 : SL) : Pv.Env := [some (iP n, false), some (iP k, false), e2]
  have q := lc_G (C := evF P fu (d + 1)) (th := th) (h := h) (env := E none) (t := .v 2) (src := .sVal (.call 25 (.cons (.var 0) .nil))) (cond := .cons (.cmp .eq (.prim .len (.cons (.var 2) .nil)) (.prim .min2 (.cons (.var 1) (.cons (.var 0) .nil)))) .nil) (elt := .var 2) (L := lexL n) lD (fun l => l.length == min k n) lD (src_val (x := .list ((lexL n).map lD)) (fa := true) (lex_ev (fa := false) n7 rfl (var_ok rfl)) rfl) (by unfold lineN; omega) fun l hl =>
    ⟨E (vS (lD l)), false, rfl, evC_of (cmp_ok (x := .int (l.length : Nat)) (y := .int ((min k n : Nat) : Int)) (fa := true) (len_ev (fa := false) (var_ok rfl)) (min_ev (fa := false) (fb := false) (var_ok rfl) (var_ok rfl)) (eq_nat _ _)), var_ok rfl⟩
  exact evF_rt (fn := f32) (env' := E none) rfl rfl (ret_ok q)
theorem small_ok {a : Lot} {r : List Lot} (l : (a :: r).length ≤ 128) : ∃ m ∈ a :: r, (∀ x ∈ a :: r, leP m x) ∧ evF P fu (d + 1) 26 [.d (.list ((a :: r).map lD))] th h = .ok (.d (lD m), false) h := by
  obtain ⟨m, hm, le, e⟩ := min_pairs a r
  refine ⟨m, hm, le, ?_⟩
  let E : Pv.Env := [vS (.list ((a :: r).map lD)), none]
  have q := lc_G (C := evF P fu d) (th := th) (h := h) (env := E) (t := .v 1) (cond := .nil) (src := .sVal (.var 0)) (elt := .tup (.cons (.prim .len (.cons (.var 1) .nil)) (.cons (.var 1) .nil))) (L := a :: r) lD (fun _ => true) pairD (src_val (x := .list ((a :: r).map lD)) (fa := false) (var_ok rfl) rfl) (by unfold lineN; omega) fun g hg =>
    ⟨E.set 1 (vS (lD g)), true, rfl, evC_nil, tup_ok (vs := [(iP g.length, true), (.d (lD g), false)]) (cons_ok (len_ev (fa := false) (var_ok rfl)) (cons_ok (var_ok rfl) rfl)) rfl⟩
  rw [List.filter_eq_self.mpr fun _ _ => rfl] at q
  exact evF_rt (fn := f26) (env' := E) rfl rfl (ret_ok (idx_is (x := pairD m) (y := .int 1) (fa := false) (fb := true) (prim1 (fa := true) q e) rfl rfl))
abbrev D33 : S := .app 4 (.idx (.lc (.v 5) (.sRng1 (.idx (.var 0) (.cst (.int 0)))) (.cons (.cmp .notIn (.var 5) (.call 27 (.cons (.var 0) (.cons (.var 2) .nil)))) .nil) (.var 5)) (.cst (.int 0)))
theorem ltold_ok (o : HouseOk n ds) : evF P fu (d + 5) 33 [.d (hD n ds), iP k] th h = .ok (.d (wD (toldP n ds k)), true) h := by
  have n7 := o.n7
  have ll := lex_len (n := n) n7
  let C := evF P fu (d + 4)
  let G := goodX n ds k
  have lG : G.length ≤ 128 := Nat.le_trans (List.length_filter_le _ _) (Nat.le_trans (List.length_filter_le _ _) ll)
  let E (e2 e3 : SL) : Pv.Env := [vS (hD n ds), some (iP k, false), e2, e3, none, none]
  have q := lc_G (C := C) (th := th) (h := h) (env := E none none) (t := .v 2) (src := .sVal (.call 28 (.cons (.var 0) .nil))) (cond := .cons (.cmp .le (.prim .len (.cons (.var 2) .nil)) (.var 1)) .nil) (elt := .var 2) (L := lightsL n ds) lD (fun l => decide (l.length ≤ k)) lD (src_val (x := .list ((lightsL n ds).map lD)) (fa := true) ((callE_ok (vs := [(.d (hD n ds), false)]) rfl rfl).trans (llights_ok (d := d + 1) o)) rfl) (by have := List.length_filter_le (allB n ds) (lexL n); unfold lightsL lineN; omega) fun l hl =>
    ⟨E (vS (lD l)) none, false, rfl, evC_of (cmp_ok (x := .int (l.length : Nat)) (y := .int (k : Nat)) (fa := true) (fb := false) (len_ev (fa := false) (var_ok rfl)) (var_ok rfl) (le_nat _ _)), var_ok rfl⟩
  have s3 : evS C th false fu (.set (.v 3) (.lc (.v 2) (.sVal (.call 28 (.cons (.var 0) .nil))) (.cons (.cmp .le (.prim .len (.cons (.var 2) .nil)) (.var 1)) .nil) (.var 2))) (E none none) h = .ok (.nx, E none (lS G true)) h := setL_ok q (imm_ls _)
  have c : evE C th false (.cmp .gt (.prim .len (.cons (.var 3) .nil)) (.cst (.int 0))) (E none (lS G true)) h = .ok (.d (.bool (decide (0 < G.length))), true) h :=
    cmp_ok (x := .int (G.length : Nat)) (y := .int 0) (fa := true) (fb := true) (prim1 (x := .list (G.map lD)) (fa := false) (var_ok rfl) (len_ls G)) rfl (gt_zero _)
  unfold toldP
  cases e : goodA n ds k with
  | cons g r =>
    have hg : g ∈ G := good_iff.mpr (by rw [e]; exact List.mem_cons_self ..)
    cases zG : G with
    | nil => rw [zG] at hg; cases hg
    | cons a t =>
      rw [zG] at lG
      obtain ⟨m, hm, le, em⟩ := small_ok (fu := fu) (d := d + 3) (th := fun _ => .no) (h := h) lG
      rw [← zG] at hm le
      have mg := least_eq e hm le
      rw [decide_eq_true (List.length_pos_of_mem hg)] at c
      refine evF_rt (fn := f33) (env' := E none (lS G true)) rfl rfl ((seq_nx s3).trans (seq_rt ((ite_t (fr := true) (h' := h) c).trans (ret_ok ?_))))
      rw [mg] at em
      refine tup_ok (vs := [(.d (.str "lamps"), true), (.d (lD g), false)]) (cons_ok rfl (cons_ok ((callE_ok (vs := [(.d (.list (G.map lD)), false)]) rfl rfl).trans ?_) rfl)) rfl
      rw [← zG] at em
      exact em
  | nil =>
    have zG : G = [] := List.eq_nil_iff_forall_not_mem.mpr fun x hx => by
      have := good_iff.mp hx
      rw [e] at this
      cases this
    rw [decide_eq_false (by rw [zG]; simp)] at c
    let E2 (b : Lot) (g : SL) : Pv.Env := [vS (hD n ds), some (iP k, false), g, lS G true, some (.d (.list (nD b)), true), none]
    have rl := row_len (n := n) (k := k) n7
    obtain ⟨g', q2, _⟩ := for_acc (h := h) (step := fun x env h => match bindT (.v 2) x env with
      | some env' => evS C th false fu D33 env' h
      | none => .no) 128 lD E2 (fun b l => b ++ [darkR n ds l]) (fun i b => b.length ≤ i) (rowK n k) 0 [] none (by omega) (fun l hl i b g hi hb => by
      obtain ⟨sl, _⟩ := row_mem.mp hl
      refine ⟨vS (lD l), ?_, by rw [List.length_append]; simp; omega⟩
      refine (appI_ok (xs := nD b) (y := .int (darkR n ds l : Nat)) (fr := false) rfl (first_dark (fa := true) n7 e hl rfl (by show 5 < 6; decide) fun r hr => (callE_ok (vs := [(.d (hD n ds), false), (.d (lD l), false)]) rfl rfl).trans (llit_ok (d := d + 2) o sl)) rfl (by rw [List.length_map]; unfold lineN; omega)).trans ?_
      show R.ok (Out.nx, (E2 b (vS (lD l))).set 4 (some (.d (.list (nD b ++ [.int (darkR n ds l : Nat)])), true))) h = _
      rw [show nD b ++ [PyData.int (darkR n ds l : Nat)] = nD (b ++ [darkR n ds l]) by unfold nD; rw [List.map_append]; rfl]
      rfl) (Nat.le_refl _)
    rw [foldl_app, List.nil_append, flat_one] at q2
    have src2 : evSrc C th false (.sVal (.call 32 (.cons (.idx (.var 0) (.cst (.int 0))) (.cons (.var 1) .nil)))) (E2 [] none) h = .ok ((rowK n k).map lD) h := src_val (x := .list ((rowK n k).map lD)) (fa := true) ((callE_ok (vs := [(iP n, false), (iP k, false)]) rfl rfl).trans (lsome_ok (d := d + 2) n7)) rfl
    refine evF_rt (fn := f33) (env' := E2 ((rowK n k).map (darkR n ds)) g') rfl rfl ((seq_nx s3).trans ((seq_nx (env' := E none (lS G true)) (h' := h) ((ite_f (fr := true) (h' := h) c).trans rfl)).trans ((seq_nx (env' := E2 [] none) (h' := h) rfl).trans ((seq_nx ((frr_ok (h' := h) src2).trans q2)).trans (ret_ok ?_)))))
    exact tup_ok (vs := [(.d (.str "dark"), true), (.d (lD ((rowK n k).map (darkR n ds))), true)]) (cons_ok rfl (cons_ok (prim1 (x := .list (nD ((rowK n k).map (darkR n ds)))) (fa := false) (var_ok rfl) rfl) rfl)) rfl
end
end K29
/-! text N29 -/
set_option autoImplicit false
set_option linter.all false
set_option maxRecDepth 100000
set_option maxHeartbeats 4000000
namespace K29
open PySem Pv
/-! ### judges: rows of numbers and of odd things -/
def Sc (x : PyData) : Prop := (∃ i : Int, x = .int i) ∨ x = .none ∨ x = .bool true ∨ x = .str "0"
def wB (n : Nat) : PyData → Bool
  | .int i => decide (0 ≤ i) && decide (i ≤ (n : Int) - 1)
  | _ => false
def iB : PyData → Bool
  | .int _ => true
  | _ => false
theorem ints_of_iB : ∀ {xs : List PyData}, xs.all iB = true → ∃ is : List Int, xs = is.map .int
  | [], _ => ⟨[], rfl⟩
  | x :: xs, h => by
    rw [List.all_cons, Bool.and_eq_true] at h
    obtain ⟨is, rfl⟩ := ints_of_iB h.2
    cases x with
    | int i => exact ⟨i :: is, rfl⟩
    | _ => cases h.1
theorem nats_of_wB {n : Nat} : ∀ {xs : List PyData}, xs.all (wB n) = true → ∃ t : Lot, xs = nD t
  | [], _ => ⟨[], rfl⟩
  | x :: xs, h => by
    rw [List.all_cons, Bool.and_eq_true] at h
    obtain ⟨t, rfl⟩ := nats_of_wB h.2
    cases x with
    | int i =>
      have h1 : (decide (0 ≤ i) && decide (i ≤ (n : Int) - 1)) = true := h.1
      rw [Bool.and_eq_true, decide_eq_true_iff] at h1
      refine ⟨i.toNat :: t, ?_⟩
      show PyData.int i :: nD t = PyData.int (i.toNat : Nat) :: nD t
      rw [show ((i.toNat : Nat) : Int) = i by omega]
    | _ => cases h.1
theorem iB_of_wB {n : Nat} {xs : List PyData} (h : xs.all (wB n) = true) : xs.all iB = true := by
  rw [List.all_eq_true] at h ⊢
  intro x hx
  have := h x hx
  cases x <;> first | rfl | (cases this)
theorem wB_nD {n : Nat} {t : Lot} (h : ∀ x ∈ t, x < n) : (nD t).all (wB n) = true := by
  rw [List.all_eq_true]
  intro x hx
  obtain ⟨k, hk, rfl⟩ := List.mem_map.mp hx
  have := h k hk
  show (decide ((0 : Int) ≤ (k : Int)) && decide ((k : Int) ≤ (n : Int) - 1)) = true
  rw [decide_eq_true (by omega), decide_eq_true (by omega)]; rfl
theorem nD_inj {a b : Lot} (h : nD a = nD b) : a = b := by
  have := eqv_nD a b
  rw [h, eqv_nD b b] at this
  simpa using this.symm
theorem eqv_ints : ∀ (l : Lot) (is : List Int), PyData.eqvAll (nD l) (is.map .int) = decide (iL l = is)
  | [], [] => rfl
  | [], _ :: _ => rfl
  | _ :: _, [] => rfl
  | x :: l, i :: is => by
    show ((((x : Nat) : Int) == i) && PyData.eqvAll (nD l) (is.map .int)) = decide (((x : Nat) : Int) :: iL l = i :: is)
    rw [eqv_ints l is, Bool.eq_iff_iff, Bool.and_eq_true, beq_iff_eq, decide_eq_true_iff, decide_eq_true_iff, List.cons.injEq]
theorem nD_iff {l : Lot} {is : List Int} : nD l = is.map .int ↔ iL l = is := by
  rw [nD_ints]
  constructor
  · intro e
    exact List.map_inj_right (fun x y h => PyData.int.inj h) |>.mp e
  · rintro rfl; rfl
theorem pl_ints : ∀ is : List Int, PyData.plainAll (is.map .int) = true
  | [] => rfl
  | i :: is => by show (true && PyData.plainAll (is.map .int)) = true; rw [pl_ints is]; rfl
theorem sh_ints (m : Nat) : ∀ is : List Int, shallowAll m (is.map .int) = true := fun is => shAll_of fun x hx => by
  obtain ⟨i, _, rfl⟩ := List.mem_map.mp hx
  cases m <;> rfl
theorem inn_tup (is : List Int) (L : List Lot) : cmpD .inn (.tuple (is.map .int)) (.list (L.map lD)) = some (L.any fun l => decide (iL l = is)) := by
  have e : ((L.map lD).any fun y => PyData.eqv y (.tuple (is.map .int))) = L.any fun l => decide (iL l = is) := by
    rw [List.any_map]
    exact congrArg (fun f => L.any f) (funext fun l => eqv_ints l is)
  show (if PyData.plainAll (L.map lD) && (PyData.tuple (is.map .int)).plain && shallow maxDepth (.tuple (is.map .int)) then some ((L.map lD).any fun y => PyData.eqv y (.tuple (is.map .int))) else none) = _
  rw [pl_ls, show (PyData.tuple (is.map .int)).plain = true from pl_ints is, show shallow maxDepth (.tuple (is.map .int)) = true from sh_ints _ is, if_pos (show (true && true && true) = true from rfl), e]
def inI (i : Int) (l : Lot) : Bool := l.any fun x => ((x : Nat) : Int) == i
theorem any_int (i : Int) (l : Lot) : ((nD l).any fun y => PyData.eqv y (.int i)) = inI i l := by
  unfold inI nD
  rw [List.any_map]
  rfl
theorem inn_int (i : Int) (l : Lot) : cmpD .inn (.int i) (lD l) = some (inI i l) ∧ cmpD .notIn (.int i) (lD l) = some (!inI i l) := by
  constructor
  · show (if PyData.plainAll (nD l) && true && shallow maxDepth (.int i) then some ((nD l).any fun y => PyData.eqv y (.int i)) else none) = _
    rw [pl_nD, if_pos (show (true && true && shallow maxDepth (.int i)) = true from rfl), any_int]
  · show (if PyData.plainAll (nD l) && true && shallow maxDepth (.int i) then some (!((nD l).any fun y => PyData.eqv y (.int i))) else none) = _
    rw [pl_nD, if_pos (show (true && true && shallow maxDepth (.int i)) = true from rfl), any_int]
theorem zip_all {α β : Type} (w : α → Bool) (c : α × β → Bool) : ∀ (is : List α) (L : List β), is.length = L.length → ((is.zip L).all fun p => w p.1 && !c p) = (is.all w && !((is.zip L).any c))
  | [], [], _ => rfl
  | a :: is, b :: L, h => by
    have := zip_all w c is L (by simpa using h)
    rw [List.zip_cons_cons, List.all_cons, List.all_cons, List.any_cons, this]
    cases w a <;> cases c (a, b) <;> simp
  | [], _ :: _, h => by cases h
  | _ :: _, [], h => by cases h
section
variable {fu d n k : Nat} {th : Pv.Thunk} {h : HS} {ds : List Lot}
theorem within_ok {x : PyData} (s : Sc x) : evF P fu (d + 2) 1 [.d x, .d (.int 0), .d (.int ((n : Int) - 1))] th h = .ok (.d (.bool (wB n x)), true) h := by
  rcases s with ⟨i, rfl⟩ | rfl | rfl | rfl
  · exact bas.within i 0 ((n : Int) - 1)
  all_goals rfl
theorem isint_ok {x : PyData} (s : Sc x) : evF P fu (d + 1) 21 [.d x] th h = .ok (.d (.bool (iB x)), true) h := by
  rcases s with ⟨i, rfl⟩ | rfl | rfl | rfl
  all_goals rfl
theorem id_map (xs : List PyData) : xs.map (fun x => x) = xs := List.map_id _
/-- all([is_within(one, 0, n - 1) for one in xs]) -/
theorem allw {C : Pv.Callee} {env : Pv.Env} {src a : X} {v : Nat} {xs : List PyData} {fa : Bool} (hC : C = evF P fu (d + 2)) (sc : ∀ x ∈ xs, Sc x) (l : xs.length ≤ 400) (hs : evSrc C th false src env h = .ok xs h) (lt : v < env.length) (ea : ∀ x, evE C th false a (env.set v (vS x)) h = .ok (.d (.int ((n : Int) - 1)), fa) h) :
    evE C th false (.prim .all (.cons (.lc (.v v) src .nil (.call 1 (.cons (.var v) (.cons (.cst (.int 0)) (.cons a .nil))))) .nil)) env h = .ok (.d (.bool (xs.all (wB n))), true) h := by
  subst hC
  exact all_G (C := evF P fu (d + 2)) (th := th) (h := h) (env := env) (L := xs) (fun x => x) (wB n) (by rw [id_map]; exact hs) (by unfold lineN; omega) fun x hx =>
    ⟨env.set v (vS x), true, rfl, (callE_ok (vs := [(.d x, false), (.d (.int 0), true), (.d (.int ((n : Int) - 1)), fa)]) (cons_ok (var_ok (List.getElem?_set_self lt)) (cons_ok rfl (cons_ok (ea x) rfl))) rfl).trans (within_ok (sc x hx))⟩
theorem lot_sc {xs : List PyData} (sc : ∀ x ∈ xs, Sc x) (l : xs.length ≤ 300) : ∃ b, evF P fu (d + 3) 3 [.d (.tuple xs), iP n] th h = .ok (.d (.bool b), true) h ∧ (b = true → ∃ t, xs = nD t ∧ t.Sublist (List.range n)) ∧ (∀ t : Lot, xs = nD t → t.Sublist (List.range n) → b = true) := by
  cases z : xs.all (wB n) with
  | true =>
    obtain ⟨t, rfl⟩ := nats_of_wB z
    have lt : t.length ≤ 300 := by unfold nD at l; rw [List.length_map] at l; exact l
    exact ⟨isLotB n t, lot_any (g := 3) bas rfl lt, fun b => ⟨t, rfl, lot_iff.mp b⟩, fun t' e s => by rw [nD_inj e]; exact lot_iff.mpr s⟩
  | false =>
    refine ⟨false, ?_, (fun b => by cases b), fun t e s => ?_⟩
    · let E : Pv.Env := [vS (.tuple xs), vS (.int (n : Nat)), none, none]
      have a := allw (fu := fu) (d := d) (n := n) (th := th) (h := h) (env := E) (src := .sVal (.var 0)) (a := .bin .sub (.var 1) (.cst (.int 1))) (v := 2) (fa := true) rfl sc (by omega) (src_val (x := .tuple xs) (fa := false) (var_ok rfl) rfl) (by show 2 < 4; decide) fun x => rfl
      rw [z] at a
      exact evF_rt (fn := f3) (env' := E) rfl rfl (seq_rt ((ite_t (fr := true) (h' := h) ((or_f (fa := true) (h' := h) (not_ok (p := true) (fa := true) (prim1 (x := .tuple xs) (fa := false) (var_ok rfl) rfl))).trans (not_ok a))).trans (ret_ok rfl)))
    · rw [e, wB_nD fun x hx => List.mem_range.mp (s.subset hx)] at z
      cases z
theorem count_ok (o : HouseOk n ds) (k7 : k ≤ 7) : evF P fu (d + 5) 15 [.d (hD n ds), iP k] th h = .ok (.d .none, true) h := by
  let E : Pv.Env := [vS (hD n ds), some (iP k, false)]
  refine evF_nx (fn := f15) (env' := E) rfl rfl ((seq_nx (env' := E) (h' := h) (expr_ok ((callE_ok (vs := [(.d (hD n ds), false)]) rfl rfl).trans (check_gen (g := 6) (ih := 5) (ce := 1) bas rfl rfl o)))).trans ((ite_f (fr := true) (h' := h) (not_ok (p := true) (fa := true) ?_)).trans rfl))
  exact (callE_ok (vs := [(iP k, false), (.d (.int 0), true), (.d (.int 7), true)]) rfl rfl).trans (bas.within_t (by omega) (by omega))
/-! both judge a thing alike -/
def Both (fu d n : Nat) (ds : List Lot) (k : Nat) (z : PyData) : Prop := ∀ (h : HS), ∃ b, evF P fu (d + 6) 17 [.d (hD n ds), iP k, .d z] NT0 h = .ok (.d (.bool b), true) h ∧ evF P fu (d + 6) 34 [.d (hD n ds), iP k, .d z] NT0 h = .ok (.d (.bool b), true) h
abbrev EJ (n : Nat) (ds : List Lot) (k : Nat) (z : PyData) (e3 : SL) : Pv.Env := [vS (hD n ds), some (iP k, false), vS z, e3, none, none]
abbrev X17 : X := .or (.not (.call 2 (.cons (.var 2) (.cons (.cst (.int 2)) (.cons (.cst (.int 2)) .nil))))) (.not (.prim .isStr (.cons (.idx (.var 2) (.cst (.int 0))) .nil)))
abbrev X34 : X := .or (.not (.prim .isTuple (.cons (.var 2) .nil))) (.or (.cmp .ne (.prim .len (.cons (.var 2) .nil)) (.cst (.int 2))) (.not (.prim .isTuple (.cons (.idx (.var 2) (.cst (.int 1))) .nil))))
theorem pre17 {z : PyData} {r : S} {x : ResS} {e3 : SL} (o : HouseOk n ds) (k7 : k ≤ 7) (e : evS (evF P fu (d + 5)) NT0 false fu r (EJ n ds k z e3) h = x) : evS (evF P fu (d + 5)) NT0 false fu (.seq (.expr (.call 15 (.cons (.var 0) (.cons (.var 1) .nil)))) r) (EJ n ds k z e3) h = x :=
  (seq_nx (expr_ok ((callE_ok (vs := [(.d (hD n ds), false), (iP k, false)]) rfl rfl).trans (count_ok o k7)))).trans e
theorem no17 {z : PyData} (o : HouseOk n ds) (k7 : k ≤ 7) (c : evE (evF P fu (d + 5)) NT0 false X17 (EJ n ds k z none) h = .ok (.d (.bool true), true) h) : evF P fu (d + 6) 17 [.d (hD n ds), iP k, .d z] NT0 h = .ok (.d (.bool false), true) h :=
  evF_rt (fn := f17) (env' := EJ n ds k z none) rfl rfl (pre17 o k7 (seq_rt ((ite_t (fr := true) (h' := h) c).trans (ret_ok rfl))))
theorem no34 {z : PyData} (c : evE (evF P fu (d + 5)) NT0 false X34 (EJ n ds k z none) h = .ok (.d (.bool true), true) h) : evF P fu (d + 6) 34 [.d (hD n ds), iP k, .d z] NT0 h = .ok (.d (.bool false), true) h :=
  evF_rt (fn := f34) (env' := EJ n ds k z none) rfl rfl (seq_rt ((ite_t (fr := true) (h' := h) c).trans (ret_ok rfl)))
theorem nsized {x : PyData} {lo hi : Int} (nt : primD .isTuple [x] = some (.bool false)) : evF P fu (d + 1) 2 [.d x, .d (.int lo), .d (.int hi)] th h = .ok (.d (.bool false), true) h :=
  evF_rt (fn := f2) (env' := [vS x, vS (.int lo), vS (.int hi)]) rfl rfl (ret_ok (and_f (fa := true) (prim1 (x := x) (fa := false) (var_ok rfl) nt)))
theorem both_nt {z : PyData} (o : HouseOk n ds) (k7 : k ≤ 7) (nt : primD .isTuple [z] = some (.bool false)) : Both fu d n ds k z := fun h =>
  ⟨false, no17 o k7 (or_t (fa := true) (not_ok (p := false) (fa := true) ((callE_ok (vs := [(.d z, false), (.d (.int 2), true), (.d (.int 2), true)]) rfl rfl).trans (nsized nt)))), no34 (or_t (fa := true) (not_ok (p := false) (fa := true) (prim1 (x := z) (fa := false) (var_ok rfl) nt)))⟩
theorem both_len {xs : List PyData} (o : HouseOk n ds) (k7 : k ≤ 7) (l : xs.length ≠ 2) : Both fu d n ds k (.tuple xs) := fun h => by
  have c2 := bas.sized (fu := fu) (d := d + 4) (th := fun _ => .no) (h := h) xs 2 2
  have e : (decide ((2 : Int) ≤ xs.length) && decide ((xs.length : Int) ≤ 2)) = false := by
    rw [Bool.and_eq_false_iff, decide_eq_false_iff_not, decide_eq_false_iff_not]
    omega
  rw [e] at c2
  refine ⟨false, no17 o k7 (or_t (fa := true) (not_ok (p := false) (fa := true) ((callE_ok (vs := [(.d (.tuple xs), false), (.d (.int 2), true), (.d (.int 2), true)]) rfl rfl).trans c2))), no34 ((or_f (fa := true) (h' := h) (not_ok (p := true) (fa := true) (prim1 (x := .tuple xs) (fa := false) (var_ok rfl) rfl))).trans (or_t (fa := true) (cmp_ok (x := .int (xs.length : Nat)) (y := .int (2 : Nat)) (q := true) (fa := true) (fb := true) (prim1 (x := .tuple xs) (fa := false) (var_ok rfl) rfl) rfl ?_)))⟩
  rw [ne_nat]
  congr 1
  simpa using l
theorem front17 {w : Str} {x : PyData} {e3 : SL} : evE (evF P fu (d + 5)) NT0 false X17 (EJ n ds k (.tuple [.str w, x]) e3) h = .ok (.d (.bool false), true) h := by
  have c2 := bas.sized_t (fu := fu) (d := d + 4) (th := fun _ => .no) (h := h) (xs := [.str w, x]) (lo := 2) (hi := 2) (by show (2 : Int) ≤ 2; decide) (by show (2 : Int) ≤ 2; decide)
  exact (or_f (fa := true) (h' := h) (not_ok (p := true) (fa := true) ((callE_ok (vs := [(.d (.tuple [.str w, x]), false), (.d (.int 2), true), (.d (.int 2), true)]) rfl rfl).trans c2))).trans (not_ok (p := true) (fa := true) (prim1 (x := .str w) (fa := false) (idx_is (x := .tuple [.str w, x]) (y := .int 0) (fa := false) (fb := true) (var_ok rfl) rfl rfl) rfl))
theorem w_eq {w v : Str} {x : PyData} {e3 : SL} {q : Bool} {op : Cop} (e : cmpD op (.str w) (.str v) = some q) : evE (evF P fu (d + 5)) NT0 false (.cmp op (.idx (.var 2) (.cst (.int 0))) (.cst (.str v))) (EJ n ds k (.tuple [.str w, x]) e3) h = .ok (.d (.bool q), true) h :=
  cmp_ok (x := .str w) (y := .str v) (fa := false) (fb := true) (idx_is (x := .tuple [.str w, x]) (y := .int 0) (fa := false) (fb := true) (var_ok rfl) rfl rfl) rfl e
theorem x1_ev {w : Str} {x : PyData} {e3 : SL} : evE (evF P fu (d + 5)) NT0 false (.idx (.var 2) (.cst (.int 1))) (EJ n ds k (.tuple [.str w, x]) e3) h = .ok (.d x, false) h := idx_is (x := .tuple [.str w, x]) (y := .int 1) (fa := false) (fb := true) (var_ok rfl) rfl rfl
theorem set17 {z : PyData} (o : HouseOk n ds) : evS (evF P fu (d + 5)) NT0 false fu (.set (.v 3) (.call 13 (.cons (.var 0) (.cons (.var 1) .nil)))) (EJ n ds k z none) h = .ok (.nx, EJ n ds k z (lS (rowK n k) true)) h :=
  setL_ok ((callE_ok (vs := [(.d (hD n ds), false), (iP k, false)]) rfl rfl).trans (row_ok (d := d + 3) o)) (imm_ls _)
theorem set34 {z : PyData} (o : HouseOk n ds) : evS (evF P fu (d + 5)) NT0 false fu (.set (.v 3) (.call 32 (.cons (.idx (.var 0) (.cst (.int 0))) (.cons (.var 1) .nil)))) (EJ n ds k z none) h = .ok (.nx, EJ n ds k z (lS (rowK n k) true)) h :=
  setL_ok ((callE_ok (vs := [(iP n, false), (iP k, false)]) rfl rfl).trans (lsome_ok (d := d + 3) o.n7)) (imm_ls _)
theorem len3 {z : PyData} : evE (evF P fu (d + 5)) NT0 false (.prim .len (.cons (.var 3) .nil)) (EJ n ds k z (lS (rowK n k) true)) h = .ok (iP (rowK n k).length, true) h := prim1 (x := .list ((rowK n k).map lD)) (fa := false) (var_ok rfl) (len_ls _)
theorem both_inner {w : Str} {x : PyData} (o : HouseOk n ds) (k7 : k ≤ 7) (hw : w = ("lamps" : Str) ∨ w = ("dark" : Str)) (nt : primD .isTuple [x] = some (.bool false)) : Both fu d n ds k (.tuple [.str w, x]) := fun h => by
  have q : evF P fu (d + 5) 3 [.d x, iP n] NT0 h = .ok (.d (.bool false), true) h :=
    evF_rt (fn := f3) (env' := [vS x, vS (.int (n : Nat)), none, none]) rfl rfl (seq_rt ((ite_t (fr := true) (h' := h) (or_t (fa := true) (not_ok (p := false) (fa := true) (prim1 (x := x) (fa := false) (var_ok rfl) nt)))).trans (ret_ok rfl)))
  refine ⟨false, ?_, no34 ((or_f (fa := true) (h' := h) (not_ok (p := true) (fa := true) (prim1 (x := .tuple [.str w, x]) (fa := false) (var_ok rfl) rfl))).trans ((or_f (fa := true) (h' := h) (cmp_ok (x := .int (2 : Nat)) (y := .int (2 : Nat)) (q := false) (fa := true) (fb := true) (prim1 (x := .tuple [.str w, x]) (fa := false) (var_ok rfl) rfl) rfl rfl)).trans (not_ok (p := false) (fa := true) (prim1 (x := x) (fa := false) x1_ev nt))))⟩
  let E := EJ n ds k (.tuple [.str w, x])
  have s1 : evS (evF P fu (d + 5)) NT0 false fu (.ite X17 (.ret (.cst (.bool false))) .skip) (E none) h = .ok (.nx, E none) h := (ite_f (fr := true) (h' := h) front17).trans rfl
  rcases hw with rfl | rfl
  · exact evF_rt (fn := f17) (env' := E none) rfl rfl (pre17 o k7 ((seq_nx s1).trans (seq_rt ((ite_t (fr := true) (h' := h) (w_eq rfl)).trans (ret_ok (and_f (fa := true) ((callE_ok (vs := [(.d x, false), (iP n, false)]) (cons_ok x1_ev (cons_ok (n_ev rfl) rfl)) rfl).trans q)))))))
  · refine evF_rt (fn := f17) (env' := E (lS (rowK n k) true)) rfl rfl (pre17 o k7 ((seq_nx s1).trans ((seq_nx (env' := E none) (h' := h) ((ite_f (fr := true) (h' := h) (w_eq rfl)).trans rfl)).trans ((seq_nx (set17 o)).trans (seq_rt ((ite_t (fr := true) (h' := h) ((or_f (fa := true) (h' := h) (w_eq rfl)).trans (not_ok (p := false) (fa := true) ?_))).trans (ret_ok rfl)))))))
    exact (callE_ok (vs := [(.d x, false), (iP (rowK n k).length, true), (iP (rowK n k).length, true)]) (cons_ok x1_ev (cons_ok len3 (cons_ok len3 rfl))) rfl).trans (nsized (d := d + 4) nt)
end
end K29
/-! text V29 -/
set_option autoImplicit false
set_option linter.all false
set_option maxRecDepth 100000
set_option maxHeartbeats 4000000
namespace K29
open PySem Pv
section
variable {fu d n k : Nat} {th : Pv.Thunk} {h : HS} {ds : List Lot}
theorem chain_lt {C : Pv.Callee} {env : Pv.Env} {a b c : X} {i j k : Int} {fa fb fc : Bool} (e1 : evE C th false a env h = .ok (.d (.int i), fa) h) (e2 : evE C th false b env h = .ok (.d (.int j), fb) h) (e3 : evE C th false c env h = .ok (.d (.int k), fc) h) :
    evE C th false (.chain .le .lt a b c) env h = .ok (.d (.bool (decide (i ≤ j) && decide (j < k))), true) h := by
  simp only [evE, e1, e2, R.bind, withD, cmpD]
  cases decide (i ≤ j) with
  | false => rfl
  | true => simp only [e3, R.bind, withD, one, Option.map_some, Bool.true_and]
theorem skip34 {w : Str} {xs : List PyData} : evE (evF P fu (d + 5)) NT0 false X34 (EJ n ds k (.tuple [.str w, .tuple xs]) none) h = .ok (.d (.bool false), true) h :=
  (or_f (fa := true) (h' := h) (not_ok (p := true) (fa := true) (prim1 (x := .tuple [.str w, .tuple xs]) (fa := false) (var_ok rfl) rfl))).trans ((or_f (fa := true) (h' := h) (cmp_ok (x := .int (2 : Nat)) (y := .int (2 : Nat)) (q := false) (fa := true) (fb := true) (prim1 (x := .tuple [.str w, .tuple xs]) (fa := false) (var_ok rfl) rfl) rfl rfl)).trans (not_ok (p := true) (fa := true) (prim1 (x := .tuple xs) (fa := false) x1_ev rfl)))
theorem lenx {w : Str} {xs : List PyData} {e3 : SL} : evE (evF P fu (d + 5)) NT0 false (.prim .len (.cons (.idx (.var 2) (.cst (.int 1))) .nil)) (EJ n ds k (.tuple [.str w, .tuple xs]) e3) h = .ok (iP xs.length, true) h := prim1 (x := .tuple xs) (fa := false) x1_ev rfl
theorem alli {w : Str} {xs : List PyData} (sc : ∀ x ∈ xs, Sc x) (l : xs.length ≤ 300) : evE (evF P fu (d + 5)) NT0 false (.not (.prim .all (.cons (.lc (.v 4) (.sVal (.idx (.var 2) (.cst (.int 1)))) .nil (.call 21 (.cons (.var 4) .nil))) .nil))) (EJ n ds k (.tuple [.str w, .tuple xs]) none) h = .ok (.d (.bool (!xs.all iB)), true) h :=
  not_ok (fa := true) (all_G (C := evF P fu (d + 5)) (th := NT0) (h := h) (L := xs) (fun x => x) iB (by rw [id_map]; exact src_val (x := .tuple xs) (fa := false) x1_ev rfl) (by unfold lineN; omega) fun x hx =>
    ⟨(EJ n ds k (.tuple [.str w, .tuple xs]) none).set 4 (vS x), true, rfl, (callE_ok (vs := [(.d x, false)]) rfl rfl).trans (isint_ok (d := d + 4) (sc x hx))⟩)
theorem ib_nD (t : Lot) : (nD t).all iB = true := by
  rw [List.all_eq_true]
  intro x hx
  obtain ⟨k, _, rfl⟩ := List.mem_map.mp hx
  rfl
theorem both_lamps {xs : List PyData} (o : HouseOk n ds) (k7 : k ≤ 7) (sc : ∀ x ∈ xs, Sc x) (l : xs.length ≤ 300) : Both fu d n ds k (.tuple [.str "lamps", .tuple xs]) := fun h => by
  let z : PyData := .tuple [.str "lamps", .tuple xs]
  let E := EJ n ds k z none
  have s17 : evS (evF P fu (d + 5)) NT0 false fu (.ite X17 (.ret (.cst (.bool false))) .skip) E h = .ok (.nx, E) h := (ite_f (fr := true) (h' := h) front17).trans rfl
  have s34 : evS (evF P fu (d + 5)) NT0 false fu (.ite X34 (.ret (.cst (.bool false))) .skip) E h = .ok (.nx, E) h := (ite_f (fr := true) (h' := h) skip34).trans rfl
  obtain ⟨b, qb, b1, b2⟩ := lot_sc (fu := fu) (d := d + 2) (n := n) (th := fun _ => .no) (h := h) sc l
  have c3 : evE (evF P fu (d + 5)) NT0 false (.call 3 (.cons (.idx (.var 2) (.cst (.int 1))) (.cons (.idx (.var 0) (.cst (.int 0))) .nil))) E h = .ok (.d (.bool b), true) h := (callE_ok (vs := [(.d (.tuple xs), false), (iP n, false)]) (cons_ok x1_ev (cons_ok (n_ev rfl) rfl)) rfl).trans qb
  have le : evE (evF P fu (d + 5)) NT0 false (.cmp .le (.prim .len (.cons (.idx (.var 2) (.cst (.int 1))) .nil)) (.var 1)) E h = .ok (.d (.bool (decide (xs.length ≤ k))), true) h :=
    cmp_ok (x := .int (xs.length : Nat)) (y := .int (k : Nat)) (fa := true) (fb := false) lenx (var_ok rfl) (le_nat _ _)
  have fin17 : ∀ {q : Bool} {x : X}, evE (evF P fu (d + 5)) NT0 false x E h = .ok (.d (.bool q), true) h → x = .and (.call 3 (.cons (.idx (.var 2) (.cst (.int 1))) (.cons (.idx (.var 0) (.cst (.int 0))) .nil))) (.and (.cmp .le (.prim .len (.cons (.idx (.var 2) (.cst (.int 1))) .nil)) (.var 1)) (.call 12 (.cons (.var 0) (.cons (.idx (.var 2) (.cst (.int 1))) .nil)))) → evF P fu (d + 6) 17 [.d (hD n ds), iP k, .d z] NT0 h = .ok (.d (.bool q), true) h := fun e ex => by
    subst ex
    exact evF_rt (fn := f17) (env' := E) rfl rfl (pre17 o k7 ((seq_nx s17).trans (seq_rt ((ite_t (fr := true) (h' := h) (w_eq rfl)).trans (ret_ok e)))))
  have ai := alli (fu := fu) (d := d) (n := n) (k := k) (h := h) (ds := ds) (w := "lamps") sc l
  cases zi : xs.all iB with
  | false =>
    rw [zi] at ai
    have eb : b = false := by
      cases b with
      | false => rfl
      | true =>
        obtain ⟨t, e, _⟩ := b1 rfl
        rw [e, ib_nD] at zi
        cases zi
    subst eb
    exact ⟨false, fin17 (and_f (fa := true) c3) rfl, evF_rt (fn := f34) (env' := E) rfl rfl ((seq_nx s34).trans (seq_rt ((ite_t (fr := true) (h' := h) ai).trans (ret_ok rfl))))⟩
  | true =>
    rw [zi] at ai
    obtain ⟨is, rfl⟩ := ints_of_iB zi
    let q := (lightsL n ds).any fun l => decide (iL l = is)
    have inn : evE (evF P fu (d + 5)) NT0 false (.cmp .inn (.idx (.var 2) (.cst (.int 1))) (.call 28 (.cons (.var 0) .nil))) E h = .ok (.d (.bool q), true) h :=
      cmp_ok (x := .tuple (is.map .int)) (y := .list ((lightsL n ds).map lD)) (fa := false) (fb := true) x1_ev ((callE_ok (vs := [(.d (hD n ds), false)]) rfl rfl).trans (llights_ok (d := d + 2) o)) (inn_tup _ _)
    have r34 : evF P fu (d + 6) 34 [.d (hD n ds), iP k, .d z] NT0 h = .ok (.d (.bool (decide ((is.map PyData.int).length ≤ k) && q)), true) h :=
      evF_rt (fn := f34) (env' := E) rfl rfl ((seq_nx s34).trans ((seq_nx (env' := E) (h' := h) ((ite_f (fr := true) (h' := h) ai).trans rfl)).trans (seq_rt ((ite_t (fr := true) (h' := h) (w_eq rfl)).trans (ret_ok (and_b (fa := true) (h' := h) le inn))))))
    refine ⟨_, ?_, r34⟩
    cases b with
    | false =>
      have eq : q = false := by
        cases w : q with
        | false => rfl
        | true =>
          obtain ⟨l, hl, e⟩ := List.any_eq_true.mp w
          have := b2 l (nD_iff.mpr (of_decide_eq_true e)).symm ((lex_mem n l).mp (List.mem_filter.mp hl).1)
          cases this
      rw [eq, Bool.and_false]
      exact fin17 (and_f (fa := true) c3) rfl
    | true =>
      obtain ⟨t, e, st⟩ := b1 rfl
      have eis : iL t = is := nD_iff.mp e.symm
      have eq : q = allB n ds t := by
        show ((lightsL n ds).any fun l => decide (iL l = is)) = _
        rw [Bool.eq_iff_iff, List.any_eq_true]
        constructor
        · rintro ⟨l, hl, e2⟩
          have e2 := of_decide_eq_true e2
          rw [← eis] at e2
          have : l = t := iL_inj _ _ e2
          rw [← this]
          exact (List.mem_filter.mp hl).2
        · intro a
          exact ⟨t, List.mem_filter.mpr ⟨(lex_mem n t).mpr st, a⟩, decide_eq_true eis⟩
      rw [eq]
      refine fin17 ((and_t (fa := true) (h' := h) c3).trans (and_b (fa := true) (h' := h) le ?_)) rfl
      have x1 : evE (evF P fu (d + 5)) NT0 false (.idx (.var 2) (.cst (.int 1))) E h = .ok (.d (lD t), false) h := by
        show _ = Pv.R.ok (PV.d (.tuple (nD t)), false) h
        rw [← e]
        exact x1_ev
      exact (callE_ok (vs := [(.d (hD n ds), false), (.d (lD t), false)]) (cons_ok (var_ok rfl) (cons_ok x1 rfl)) rfl).trans (lights_ok (d := d + 2) o (by have := l7 o st; omega))
def wI (n : Nat) (i : Int) : Bool := decide (0 ≤ i) && decide (i < (n : Int))
theorem wI_all (n : Nat) (is : List Int) : (is.map PyData.int).all (wB n) = is.all (wI n) := by
  rw [List.all_map]
  refine congrArg (fun f => is.all f) (funext fun i => ?_)
  show (decide (0 ≤ i) && decide (i ≤ (n : Int) - 1)) = (decide (0 ≤ i) && decide (i < (n : Int)))
  rw [show decide (i ≤ (n : Int) - 1) = decide (i < (n : Int)) from decide_eq_decide.mpr (by omega)]
def inC (n : Nat) (ds : List Lot) (p : Int × Lot) : Bool := inI p.1 (litL n ds p.2)
theorem zip_src {w : Str} {is : List Int} {L : List Lot} : evSrc (evF P fu (d + 5)) NT0 false (.sZip (.idx (.var 2) (.cst (.int 1))) (.var 3)) (EJ n ds k (.tuple [.str w, .tuple (is.map .int)]) (lS L true)) h = .ok ((is.zip L).map fun p => PyData.tuple [.int p.1, lD p.2]) h := by
  have e : evSrc (evF P fu (d + 5)) NT0 false (.sZip (.idx (.var 2) (.cst (.int 1))) (.var 3)) (EJ n ds k (.tuple [.str w, .tuple (is.map .int)]) (lS L true)) h = .ok (((is.map PyData.int).zip (L.map lD)).map fun p => PyData.tuple [p.1, p.2]) h := rfl
  rw [e, List.zip_map, List.map_map]
  rfl
theorem both_dark {xs : List PyData} (o : HouseOk n ds) (k7 : k ≤ 7) (sc : ∀ x ∈ xs, Sc x) (l : xs.length ≤ 300) : Both fu d n ds k (.tuple [.str "dark", .tuple xs]) := fun h => by
  have n7 := o.n7
  let z : PyData := .tuple [.str "dark", .tuple xs]
  let L := rowK n k
  have lL : L.length ≤ 128 := row_len n7
  let E := EJ n ds k z none
  let E2 := EJ n ds k z (lS L true)
  have s17 : evS (evF P fu (d + 5)) NT0 false fu (.ite X17 (.ret (.cst (.bool false))) .skip) E h = .ok (.nx, E) h := (ite_f (fr := true) (h' := h) front17).trans rfl
  have s34 : evS (evF P fu (d + 5)) NT0 false fu (.ite X34 (.ret (.cst (.bool false))) .skip) E h = .ok (.nx, E) h := (ite_f (fr := true) (h' := h) skip34).trans rfl
  have t17 : ∀ {r : S}, evS (evF P fu (d + 5)) NT0 false fu (.ite (.cmp .eq (.idx (.var 2) (.cst (.int 0))) (.cst (.str "lamps"))) r .skip) E h = .ok (.nx, E) h := (ite_f (fr := true) (h' := h) (w_eq rfl)).trans rfl
  have sz : evE (evF P fu (d + 5)) NT0 false (.or (.cmp .ne (.idx (.var 2) (.cst (.int 0))) (.cst (.str "dark"))) (.not (.call 2 (.cons (.idx (.var 2) (.cst (.int 1))) (.cons (.prim .len (.cons (.var 3) .nil)) (.cons (.prim .len (.cons (.var 3) .nil)) .nil)))))) E2 h = .ok (.d (.bool (!(decide ((L.length : Int) ≤ xs.length) && decide ((xs.length : Int) ≤ L.length)))), true) h :=
    (or_f (fa := true) (h' := h) (w_eq rfl)).trans (not_ok (fa := true) ((callE_ok (vs := [(.d (.tuple xs), false), (iP L.length, true), (iP L.length, true)]) (cons_ok x1_ev (cons_ok len3 (cons_ok len3 rfl))) rfl).trans (bas.sized (d := d + 4) xs _ _)))
  have aw : evE (evF P fu (d + 5)) NT0 false (.not (.prim .all (.cons (.lc (.v 4) (.sVal (.idx (.var 2) (.cst (.int 1)))) .nil (.call 1 (.cons (.var 4) (.cons (.cst (.int 0)) (.cons (.bin .sub (.idx (.var 0) (.cst (.int 0))) (.cst (.int 1))) .nil))))) .nil))) E2 h = .ok (.d (.bool (!xs.all (wB n))), true) h :=
    not_ok (fa := true) (allw (fu := fu) (d := d + 3) (n := n) (fa := true) rfl sc (by omega) (src_val (x := .tuple xs) (fa := false) x1_ev rfl) (by show 4 < 6; decide) fun x => rfl)
  have ai := alli (fu := fu) (d := d) (n := n) (k := k) (h := h) (ds := ds) (w := "dark") sc l
  have bad17 : (xs.length = L.length → xs.all (wB n) = false) → evF P fu (d + 6) 17 [.d (hD n ds), iP k, .d z] NT0 h = .ok (.d (.bool false), true) h := fun hb => by
    by_cases e : xs.length = L.length
    · rw [hb e] at aw
      rw [decide_eq_true (by omega), decide_eq_true (by omega)] at sz
      exact evF_rt (fn := f17) (env' := E2) rfl rfl (pre17 o k7 ((seq_nx s17).trans ((seq_nx t17).trans ((seq_nx (set17 o)).trans ((seq_nx (env' := E2) (h' := h) ((ite_f (fr := true) (h' := h) sz).trans rfl)).trans (seq_rt ((ite_t (fr := true) (h' := h) aw).trans (ret_ok rfl))))))))
    · rw [show (decide ((L.length : Int) ≤ xs.length) && decide ((xs.length : Int) ≤ L.length)) = false by rw [Bool.and_eq_false_iff, decide_eq_false_iff_not, decide_eq_false_iff_not]; omega] at sz
      exact evF_rt (fn := f17) (env' := E2) rfl rfl (pre17 o k7 ((seq_nx s17).trans ((seq_nx t17).trans ((seq_nx (set17 o)).trans (seq_rt ((ite_t (fr := true) (h' := h) sz).trans (ret_ok rfl)))))))
  cases zi : xs.all iB with
  | false =>
    rw [zi] at ai
    refine ⟨false, bad17 fun _ => ?_, evF_rt (fn := f34) (env' := E) rfl rfl ((seq_nx s34).trans (seq_rt ((ite_t (fr := true) (h' := h) ai).trans (ret_ok rfl))))⟩
    cases w : xs.all (wB n) with
    | false => rfl
    | true => rw [iB_of_wB w] at zi; cases zi
  | true =>
    rw [zi] at ai
    obtain ⟨is, rfl⟩ := ints_of_iB zi
    have ln : evE (evF P fu (d + 5)) NT0 false (.or (.cmp .ne (.idx (.var 2) (.cst (.int 0))) (.cst (.str "dark"))) (.cmp .ne (.prim .len (.cons (.idx (.var 2) (.cst (.int 1))) .nil)) (.prim .len (.cons (.var 3) .nil)))) E2 h = .ok (.d (.bool ((is.map PyData.int).length != L.length)), true) h :=
      (or_f (fa := true) (h' := h) (w_eq rfl)).trans (cmp_ok (x := .int ((is.map PyData.int).length : Nat)) (y := .int (L.length : Nat)) (fa := true) (fb := true) lenx len3 (ne_nat _ _))
    by_cases e : (is.map PyData.int).length = L.length
    · have el : is.length = L.length := by rw [List.length_map] at e; exact e
      rw [show ((is.map PyData.int).length != L.length) = false by simp [e]] at ln
      have hz : ∀ p ∈ is.zip L, p.2.Sublist (List.range n) := fun p hp => (row_mem.mp (List.of_mem_zip (a := p.1) (b := p.2) hp).2).1
      have zl : (is.zip L).length ≤ lineN := by rw [List.length_zip]; unfold lineN; omega
      have al := all_G (C := evF P fu (d + 5)) (th := NT0) (h := h) (env := E2) (t := .tup (.cons (.v 4) (.cons (.v 5) .nil))) (src := .sZip (.idx (.var 2) (.cst (.int 1))) (.var 3)) (elt := .and (.chain .le .lt (.cst (.int 0)) (.var 4) (.idx (.var 0) (.cst (.int 0)))) (.cmp .notIn (.var 4) (.call 27 (.cons (.var 0) (.cons (.var 5) .nil))))) (L := is.zip L) (fun p => PyData.tuple [.int p.1, lD p.2]) (fun p => wI n p.1 && !inC n ds p) zip_src zl fun p hp =>
        ⟨[vS (hD n ds), some (iP k, false), vS z, lS L true, vS (.int p.1), vS (lD p.2)], true, rfl, and_b (fa := true) (h' := h) (chain_lt (fa := true) (fb := false) (fc := false) rfl (var_ok rfl) (n_ev rfl)) (cmp_ok (x := .int p.1) (y := lD (litL n ds p.2)) (fa := false) (fb := true) (var_ok rfl) ((callE_ok (vs := [(.d (hD n ds), false), (.d (lD p.2), false)]) rfl rfl).trans (llit_ok (d := d + 3) o (hz p hp))) (inn_int _ _).2)⟩
      rw [zip_all (wI n) (inC n ds) is L el, ← wI_all] at al
      have r34 : evF P fu (d + 6) 34 [.d (hD n ds), iP k, .d z] NT0 h = .ok (.d (.bool ((is.map PyData.int).all (wB n) && !(is.zip L).any (inC n ds))), true) h := evF_rt (fn := f34) (env' := E2) rfl rfl ((seq_nx s34).trans ((seq_nx (env' := E) (h' := h) ((ite_f (fr := true) (h' := h) ai).trans rfl)).trans ((seq_nx t17).trans ((seq_nx (set34 o)).trans ((seq_nx (env' := E2) (h' := h) ((ite_f (fr := true) (h' := h) ln).trans rfl)).trans (ret_ok al))))))
      refine ⟨_, ?_, r34⟩
      cases w : (is.map PyData.int).all (wB n) with
      | false => exact bad17 fun _ => w
      | true =>
        rw [Bool.true_and]
        rw [w] at aw
        rw [decide_eq_true (by omega), decide_eq_true (by omega)] at sz
        have an := any_G (C := evF P fu (d + 5)) (th := NT0) (h := h) (env := E2) (t := .tup (.cons (.v 4) (.cons (.v 5) .nil))) (src := .sZip (.idx (.var 2) (.cst (.int 1))) (.var 3)) (cond := .nil) (elt := .cmp .inn (.var 4) (.call 8 (.cons (.var 0) (.cons (.var 5) .nil)))) (L := is.zip L) (fun p => PyData.tuple [.int p.1, lD p.2]) (fun _ => true) (inC n ds) zip_src zl fun p hp =>
          ⟨[vS (hD n ds), some (iP k, false), vS z, lS L true, vS (.int p.1), vS (lD p.2)], true, rfl, evC_nil, cmp_ok (x := .int p.1) (y := lD (litL n ds p.2)) (fa := false) (fb := true) (var_ok rfl) ((callE_ok (vs := [(.d (hD n ds), false), (.d (lD p.2), false)]) rfl rfl).trans (raw_ok (d := d + 3) o (by have := l7 o (hz p hp); omega))) (inn_int _ _).1⟩
        simp only [Bool.true_and] at an
        exact evF_rt (fn := f17) (env' := E2) rfl rfl (pre17 o k7 ((seq_nx s17).trans ((seq_nx t17).trans ((seq_nx (set17 o)).trans ((seq_nx (env' := E2) (h' := h) ((ite_f (fr := true) (h' := h) sz).trans rfl)).trans ((seq_nx (env' := E2) (h' := h) ((ite_f (fr := true) (h' := h) aw).trans rfl)).trans (ret_ok (not_ok (fa := true) an))))))))
    · rw [show ((is.map PyData.int).length != L.length) = true by simpa using e] at ln
      exact ⟨false, bad17 fun q => absurd q e, evF_rt (fn := f34) (env' := E2) rfl rfl ((seq_nx s34).trans ((seq_nx (env' := E) (h' := h) ((ite_f (fr := true) (h' := h) ai).trans rfl)).trans ((seq_nx t17).trans ((seq_nx (set34 o)).trans (seq_rt ((ite_t (fr := true) (h' := h) ln).trans (ret_ok rfl)))))))⟩
end
end K29
/-! text R29 -/
set_option autoImplicit false
set_option linter.all false
set_option maxRecDepth 100000
set_option maxHeartbeats 4000000
namespace K29
open PySem Pv
theorem imm_wD (p : Str × Lot) : imm (wD p) = true := by
  show (true && (immAll (nD p.2) && true)) = true
  rw [imm_nD]; rfl
theorem sh_wD (p : Str × Lot) : shallow 99 (wD p) = true := by
  show (true && (shallowAll 97 (nD p.2) && true)) = true
  rw [sh_nD]; rfl
theorem cut_last {α : Type} (l : List α) : cutL l none (some (-1)) = l.dropLast := by
  have e : cutL l none (some (-1)) = l.take ((-1 + (l.length : Int)).toNat) := by
    show List.take ((if (-1 : Int) < 0 then ((-1 : Int) + (l.length : Int)).toNat else min (-1 : Int).toNat l.length) - 0) (List.drop 0 l) = _
    rw [if_pos (by decide)]
    rfl
  rw [e, List.dropLast_eq_take]
  congr 1
  omega
theorem cut_tail {α : Type} (l : List α) : cutL l (some 1) none = l.drop 1 := by
  unfold cutL cutAt
  cases l with
  | nil => rfl
  | cons a l =>
    have e1 : (if (1 : Int) < 0 then ((1 : Int) + ((a :: l).length : Int)).toNat else min (1 : Int).toNat (a :: l).length) = 1 := by
      rw [if_neg (by decide)]; simp
    simp only [e1]
    rw [List.take_of_length_le (by simp)]
abbrev partsL (n : Nat) : List PyData := [.int (n : Nat), .int (-1), .none, .bool true, .str "0"]
abbrev yD (p : Str × Lot) (x : PyData) : PyData := .tuple [.str p.1, .tuple (nD p.2.dropLast ++ [x])]
abbrev v1 (p : Str × Lot) (l t : Lot) : List PyData := [wD p, wD ("lamps", l), wD ("dark", t), .list [.str p.1, lD p.2], .tuple [.str p.1], .tuple [.str p.1, .list (nD p.2)], wD ("lamps", [])]
abbrev v3 (p : Str × Lot) (y : PyData) : List PyData := [wD ("dark", p.2.drop 1), .none, .int 0, .str "x", .dict [], .tuple [], y]
def thingsL (n : Nat) (p : Str × Lot) (l t : Lot) (y : PyData) : List PyData := v1 p l t ++ (partsL n).map (yD p) ++ v3 p y
theorem sc_nD (t : Lot) : ∀ x ∈ nD t, Sc x := fun x hx => by
  obtain ⟨k, _, rfl⟩ := List.mem_map.mp hx
  exact .inl ⟨_, rfl⟩
section
variable {fu d n k : Nat} {h : HS} {ds : List Lot}
theorem both_w {w : Str} {xs : List PyData} (o : HouseOk n ds) (k7 : k ≤ 7) (hw : w = ("lamps" : Str) ∨ w = ("dark" : Str)) (sc : ∀ x ∈ xs, Sc x) (l : xs.length ≤ 300) : Both fu d n ds k (.tuple [.str w, .tuple xs]) := by
  rcases hw with rfl | rfl
  · exact both_lamps o k7 sc l
  · exact both_dark o k7 sc l
theorem both_row {w : Str} {t : Lot} (o : HouseOk n ds) (k7 : k ≤ 7) (hw : w = ("lamps" : Str) ∨ w = ("dark" : Str)) (l : t.length ≤ 200) : Both fu d n ds k (wD (w, t)) := both_w o k7 hw (sc_nD t) (by unfold nD; rw [List.length_map]; show t.length ≤ 300; omega)
theorem things_both {p : Str × Lot} {l t : Lot} {y x z : PyData} (o : HouseOk n ds) (k7 : k ≤ 7) (hw : p.1 = ("lamps" : Str) ∨ p.1 = ("dark" : Str)) (sp : p.2.length ≤ 128) (sl : l.length ≤ 128) (st : t.length ≤ 128) (hy : Hold y x) (hz : z ∈ thingsL n p l t y) : Both fu d n ds k z := by
  have part : ∀ x, Sc x → Both fu d n ds k (yD p x) := fun x hx => by
    refine both_w o k7 hw (fun u hu => ?_) ?_
    · rcases List.mem_append.mp hu with hu | hu
      · exact sc_nD _ u hu
      · rw [List.mem_singleton.mp hu]; exact hx
    · unfold nD
      rw [List.length_append, List.length_map, List.length_dropLast, List.length_singleton]
      omega
  unfold thingsL at hz
  simp only [List.mem_cons, List.mem_append, List.not_mem_nil, or_false, List.map_cons, List.map_nil] at hz
  rcases hz with ((e | e | e | e | e | e | e) | (e | e | e | e | e)) | (e | e | e | e | e | e | e)
  · subst e; exact both_row o k7 hw (by omega)
  · subst e; exact both_row o k7 (.inl rfl) (by omega)
  · subst e; exact both_row o k7 (.inr rfl) (by omega)
  · subst e; exact both_nt o k7 rfl
  · subst e; exact both_len o k7 (by simp)
  · subst e; exact both_inner o k7 hw rfl
  · subst e; exact both_row o k7 (.inl rfl) (by simp)
  · subst e; exact part _ (.inl ⟨_, rfl⟩)
  · subst e; exact part _ (.inl ⟨_, rfl⟩)
  · subst e; exact part _ (.inr (.inl rfl))
  · subst e; exact part _ (.inr (.inr (.inl rfl)))
  · subst e; exact part _ (.inr (.inr (.inr rfl)))
  · subst e; exact both_row o k7 (.inr rfl) (by rw [List.length_drop]; omega)
  · subst e; exact both_nt o k7 rfl
  · subst e; exact both_nt o k7 rfl
  · subst e; exact both_nt o k7 rfl
  · subst e; exact both_nt o k7 rfl
  · subst e; exact both_len o k7 (by simp)
  · subst e
    rcases hy with rfl | rfl
    · exact both_nt o k7 rfl
    · exact both_len o k7 (by simp)
abbrev rE (n : Nat) (ds : List Lot) (e2 e3 e4 e5 e6 e7 e8 e9 e10 : SL) : Pv.Env := [some (.hand, false), vS (hD n ds), e2, e3, e4, e5, e6, e7, e8, e9, e10]
theorem lots_pos (n : Nat) : 0 < ((lexL n).map lD).length := by
  rw [List.length_map]
  exact List.length_pos_of_mem ((lex_mem n []).mpr (List.nil_sublist _))
theorem lit_ok (o : HouseOk n ds) {lot : Lot} (s : lot.Sublist (List.range n)) {th : Pv.Thunk} : evF P fu (d + 6) 10 [.d (hD n ds), .d (lD lot)] th h = .ok (.d (lD (litL n ds lot)), true) h := by
  let E : Pv.Env := [vS (hD n ds), vS (lD lot)]
  exact evF_rt (fn := f10) (env' := E) rfl rfl ((seq_nx (env' := E) (h' := h) (expr_ok ((callE_ok (vs := [(.d (hD n ds), false), (.d (lD lot), false)]) rfl rfl).trans (lamps_gen (g := 9) (ch := 6) (ih := 5) (ce := 1) (il := 3) (ce2 := 2) bas rfl rfl rfl rfl o s)))).trans (ret_ok ((callE_ok (vs := [(.d (hD n ds), false), (.d (lD lot), false)]) rfl rfl).trans (raw_ok (d := d + 3) o (by have := l7 o s; omega)))))
theorem alit_ok (o : HouseOk n ds) (k7 : k ≤ 7) {th : Pv.Thunk} : evF P fu (d + 6) 16 [.d (hD n ds), iP k] th h = .ok (.d (wD (toldP n ds k)), true) h := by
  let E : Pv.Env := [vS (hD n ds), some (iP k, false)]
  exact evF_rt (fn := f16) (env' := E) rfl rfl ((seq_nx (env' := E) (h' := h) (expr_ok ((callE_ok (vs := [(.d (hD n ds), false), (iP k, false)]) rfl rfl).trans (count_ok o k7)))).trans (ret_ok ((callE_ok (vs := [(.d (hD n ds), false), (iP k, false)]) rfl rfl).trans (raw_all_ok o))))
abbrev XD : X := .prim .tuple (.cons (.lc (.v 10) (.sRng1 (.prim .len (.cons (.idx (.var 5) (.cst (.int 1))) .nil))) .nil (.call 19 (.cons (.var 0) (.cons (.idx (.var 1) (.cst (.int 0))) .nil)))) .nil)
abbrev X7 : X := .lst (.cons (.var 5) (.cons (.tup (.cons (.cst (.str "lamps")) (.cons (.var 2) .nil))) (.cons (.tup (.cons (.cst (.str "dark")) (.cons (.var 6) .nil))) (.cons (.prim .list (.cons (.var 5) .nil)) (.cons (.slice (.var 5) (.cst .none) (.cst (.int 1))) (.cons (.tup (.cons (.idx (.var 5) (.cst (.int 0))) (.cons (.prim .list (.cons (.idx (.var 5) (.cst (.int 1))) .nil)) .nil))) (.cons (.tup (.cons (.cst (.str "lamps")) (.cons (.tup .nil) .nil))) .nil)))))))
abbrev B8 : S := .app 7 (.tup (.cons (.idx (.var 5) (.cst (.int 0))) (.cons (.bin .add (.slice (.idx (.var 5) (.cst (.int 1))) (.cst .none) (.neg (.cst (.int 1)))) (.tup (.cons (.var 8) .nil))) .nil)))
abbrev X9 : X := .bin .add (.var 7) (.lst (.cons (.tup (.cons (.cst (.str "dark")) (.cons (.slice (.idx (.var 5) (.cst (.int 1))) (.cst (.int 1)) (.cst .none)) .nil))) (.cons (.cst .none) (.cons (.cst (.int 0)) (.cons (.cst (.str "x")) (.cons (.dsp .nil .nil) (.cons (.tup .nil) (.cons (.call 22 (.cons (.var 0) .nil)) .nil))))))))
abbrev B9 : S := .ite (.cmp .ne (.prim .repr (.cons (.call 17 (.cons (.var 1) (.cons (.var 3) (.cons (.var 9) .nil)))) .nil)) (.prim .repr (.cons (.call 34 (.cons (.var 1) (.cons (.var 3) (.cons (.var 9) .nil)))) .nil)))
 (.ret (.cst (.bool false)))
 .skip
theorem right_ok (o : HouseOk n ds) (hv : HV h) : ∃ h', HV h' ∧ evF P fu (d + 7) 35 [.hand, .d (hD n ds)] NT0 h = .ok (.d (.bool true), true) h' := by
  have n2 := o.n2
  have n7 := o.n7
  have ll := lex_len (n := n) n7
  let C := evF P fu (d + 6)
  obtain ⟨zl, h1, hl, hv1, ql⟩ := any_gen dD (g := 20) rfl (fu := fu) (d := d + 4) (th := NT0) hv (lots_pos n) (by rw [List.length_map]; omega)
  obtain ⟨l, hl', rfl⟩ := List.mem_map.mp hl
  have sl := (lex_mem n l).mp hl'
  have l7' := l7 o sl
  let R (e3 e4 e5 e6 e7 e8 e9 : SL) : Pv.Env := rE n ds (vS (lD l)) e3 e4 e5 e6 e7 e8 e9 none
  obtain ⟨k, b2, h2, k0, k4, hv2, qk⟩ := dr_gen (d := d + 5) (fu := fu) (th := NT0) dD (env := R none none none none none none none) (mx := .cst (.int 4)) (m := 4) (i := 0) (o := false) (fr := true) hv1 (by decide) (by decide) rfl rfl
  obtain ⟨k, rfl⟩ : ∃ m : Nat, k = (m : Nat) := ⟨k.toNat, by omega⟩
  have k7 : k ≤ 7 := by omega
  let p := toldP n ds k
  have sp : p.2.length ≤ 128 := told_len n7
  let K3 : SL := vS (.int (k : Nat))
  let L4 : SL := vS (lD (litL n ds l))
  let P5 : SL := vS (wD p)
  have s2 : evS C NT0 false fu (.set (.v 2) (.call 20 (.cons (.var 0) (.cons (.call 25 (.cons (.idx (.var 1) (.cst (.int 0))) .nil)) .nil)))) (rE n ds none none none none none none none none none) h = .ok (.nx, R none none none none none none none) h1 :=
    setI_ok (d := lD l) (fr := false) ((callE_ok (vs := [(.hand, false), (.d (.list ((lexL n).map lD)), true)]) (cons_ok (var_ok rfl) (cons_ok ((callE_ok (vs := [(iP n, false)]) rfl rfl).trans (llots_gen (g := 25) (d := d + 5) rfl n7)) rfl)) rfl).trans ql) (imm_lD l)
  have s3 : evS C NT0 false fu (.set (.v 3) (.call 19 (.cons (.var 0) (.cons (.cst (.int 4)) .nil)))) (R none none none none none none none) h1 = .ok (.nx, R K3 none none none none none none) h2 := setI_ok qk rfl
  have s4 : evS C NT0 false fu (.set (.v 4) (.call 27 (.cons (.var 1) (.cons (.var 2) .nil)))) (R K3 none none none none none none) h2 = .ok (.nx, R K3 L4 none none none none none) h2 :=
    setI_ok (d := lD (litL n ds l)) (fr := true) ((callE_ok (vs := [(.d (hD n ds), false), (.d (lD l), false)]) rfl rfl).trans (llit_ok (d := d + 4) o sl)) (imm_lD _)
  have q10 : evE C NT0 false (.call 10 (.cons (.var 1) (.cons (.var 2) .nil))) (R K3 L4 none none none none none) h2 = .ok (.d (lD (litL n ds l)), true) h2 := (callE_ok (vs := [(.d (hD n ds), false), (.d (lD l), false)]) rfl rfl).trans (lit_ok o sl)
  have c1 : evE C NT0 false (.cmp .ne (.lst (.cons (.call 10 (.cons (.var 1) (.cons (.var 2) .nil))) (.cons (.call 10 (.cons (.var 1) (.cons (.var 2) .nil))) .nil))) (.lst (.cons (.var 4) (.cons (.var 4) .nil)))) (R K3 L4 none none none none none) h2 = .ok (.d (.bool false), true) h2 :=
    cmp_ok (x := .list [lD (litL n ds l), lD (litL n ds l)]) (y := .list [lD (litL n ds l), lD (litL n ds l)]) (fa := true) (fb := true) (lst_ok (vs := [(.d (lD (litL n ds l)), true), (.d (lD (litL n ds l)), true)]) (cons_ok q10 (cons_ok q10 rfl)) rfl) (lst_ok (vs := [(.d (lD (litL n ds l)), false), (.d (lD (litL n ds l)), false)]) rfl rfl) (two_ne (imm_lD _) (sh_nD _ _))
  have s5 : evS C NT0 false fu (.set (.v 5) (.call 33 (.cons (.var 1) (.cons (.var 3) .nil)))) (R K3 L4 none none none none none) h2 = .ok (.nx, R K3 L4 P5 none none none none) h2 :=
    setI_ok (d := wD p) (fr := true) ((callE_ok (vs := [(.d (hD n ds), false), (iP k, false)]) rfl rfl).trans (ltold_ok (d := d + 1) o)) (imm_wD p)
  have q16 : evE C NT0 false (.call 16 (.cons (.var 1) (.cons (.var 3) .nil))) (R K3 L4 P5 none none none none) h2 = .ok (.d (wD p), true) h2 := (callE_ok (vs := [(.d (hD n ds), false), (iP k, false)]) rfl rfl).trans (alit_ok o k7)
  have c2 : evE C NT0 false (.cmp .ne (.lst (.cons (.call 16 (.cons (.var 1) (.cons (.var 3) .nil))) (.cons (.call 16 (.cons (.var 1) (.cons (.var 3) .nil))) .nil))) (.lst (.cons (.var 5) (.cons (.var 5) .nil)))) (R K3 L4 P5 none none none none) h2 = .ok (.d (.bool false), true) h2 :=
    cmp_ok (x := .list [wD p, wD p]) (y := .list [wD p, wD p]) (fa := true) (fb := true) (lst_ok (vs := [(.d (wD p), true), (.d (wD p), true)]) (cons_ok q16 (cons_ok q16 rfl)) rfl) (lst_ok (vs := [(.d (wD p), false), (.d (wD p), false)]) rfl rfl) (two_ne (imm_wD p) (sh_wD p))
  have i1 : ∀ (e6 e7 e8 e9 : SL) (h : HS), evE C NT0 false (.idx (.var 5) (.cst (.int 1))) (R K3 L4 P5 e6 e7 e8 e9) h = .ok (.d (lD p.2), false) h := fun e6 e7 e8 e9 h => idx_is (x := wD p) (y := .int 1) (fa := false) (fb := true) (var_ok rfl) rfl rfl
  have i0 : ∀ (e6 e7 e8 e9 : SL) (h : HS), evE C NT0 false (.idx (.var 5) (.cst (.int 0))) (R K3 L4 P5 e6 e7 e8 e9) h = .ok (.d (.str p.1), false) h := fun e6 e7 e8 e9 h => idx_is (x := wD p) (y := .int 0) (fa := false) (fb := true) (var_ok rfl) rfl rfl
  -- the drawn rooms
  obtain ⟨ys, h3, hv3, ly, py, qy⟩ := lc_hand (C := C) (th := NT0) (h := h2) (h' := h2) (env := R K3 L4 P5 none none none none) (t := .v 10) (src := .sRng1 (.prim .len (.cons (.idx (.var 5) (.cst (.int 1))) .nil))) (elt := .call 19 (.cons (.var 0) (.cons (.idx (.var 1) (.cst (.int 0))) .nil))) (xs := nD (List.range p.2.length)) (I := HV) (Pr := fun y => ∃ m : Nat, y = .int (m : Nat)) (by
      rw [← rng_nD]
      exact rngE_ok (i := ((p.2.length : Nat) : Int)) (fa := true) (len_ev (i1 _ _ _ _ _)) (rng_small (by omega))) (by unfold nD; rw [List.length_map, List.length_range]; unfold lineN; omega) hv2 fun x hx h hv => by
    let E10 : Pv.Env := rE n ds (vS (lD l)) K3 L4 P5 none none none none (some (.d x, false))
    obtain ⟨r, b, h', r0, r1, hv', q⟩ := dr_gen (d := d + 5) (fu := fu) (th := NT0) dD (env := E10) (mx := .idx (.var 1) (.cst (.int 0))) (m := (n : Nat)) (i := 0) (o := false) (fr := false) hv (by omega) (by omega) rfl (idx_is (x := hD n ds) (y := .int 0) (fa := false) (fb := true) (var_ok rfl) rfl rfl)
    exact ⟨E10, .int r, b, h', rfl, hv', ⟨r.toNat, by rw [show ((r.toNat : Nat) : Int) = r by omega]⟩, q⟩
  obtain ⟨t, rfl⟩ : ∃ t : Lot, ys = nD t := by
    clear qy ly
    induction ys with
    | nil => exact ⟨[], rfl⟩
    | cons y ys ih =>
      obtain ⟨m, rfl⟩ := py y (List.mem_cons_self ..)
      obtain ⟨t, rfl⟩ := ih fun z hz => py z (List.mem_cons_of_mem _ hz)
      exact ⟨m :: t, rfl⟩
  have st : t.length ≤ 128 := by
    unfold nD at ly
    rw [List.length_map, List.length_map, List.length_range] at ly
    omega
  let T6 : SL := vS (lD t)
  have s6 : evS C NT0 false fu (.set (.v 6) XD) (R K3 L4 P5 none none none none) h2 = .ok (.nx, R K3 L4 P5 T6 none none none) h3 := setI_ok (d := lD t) (fr := true) (prim1 (p := .tuple) (fa := true) qy rfl) (imm_lD t)
  obtain ⟨y, x, _, oy, h4, hy, _, hv4, qd⟩ := deep_gen (fu := fu) (dr := 19) (an := 20) (g := 22) dD rfl rfl (d := d + 3) hv3
  have x7 : evE C NT0 false X7 (R K3 L4 P5 T6 none none none) h3 = .ok (.d (.list (v1 p l t)), true) h3 := by
    refine lst_ok (vs := [(.d (wD p), false), (.d (wD ("lamps", l)), true), (.d (wD ("dark", t)), true), (.d (.list [.str p.1, lD p.2]), true), (.d (.tuple [.str p.1]), true), (.d (.tuple [.str p.1, .list (nD p.2)]), true), (.d (wD ("lamps", [])), true)]) ?_ rfl
    have t1 : evE C NT0 false (.tup (.cons (.idx (.var 5) (.cst (.int 0))) (.cons (.prim .list (.cons (.idx (.var 5) (.cst (.int 1))) .nil)) .nil))) (R K3 L4 P5 T6 none none none) h3 = .ok (.d (.tuple [.str p.1, .list (nD p.2)]), true) h3 := tup_ok (vs := [(.d (.str p.1), false), (.d (.list (nD p.2)), true)]) (cons_ok (i0 _ _ _ _ _) (cons_ok (prim1 (p := .list) (x := lD p.2) (fa := false) (i1 _ _ _ _ _) rfl) rfl)) rfl
    exact cons_ok (var_ok rfl) (cons_ok rfl (cons_ok rfl (cons_ok (prim1 (x := wD p) (fa := false) (var_ok rfl) rfl) (cons_ok rfl (cons_ok t1 (cons_ok rfl rfl))))))
  have s7 : evS C NT0 false fu (.set (.v 7) X7) (R K3 L4 P5 T6 none none none) h3 = .ok (.nx, R K3 L4 P5 T6 (wS (v1 p l t)) none none) h3 := by
    rw [set_ok x7]
    rcases leak_or (.list (v1 p l t)) true (vars X7) (R K3 L4 P5 T6 none none none) with e | e
    · rw [e]; rfl
    · rw [e]; rfl
  let E8 (b : List PyData) (g : SL) : Pv.Env := R K3 L4 P5 T6 (wS b) g none
  obtain ⟨g8, q8, _⟩ := for_acc (h := h3) (step := fun x env h => match bindT (.v 8) x env with
      | some env' => evS C NT0 false fu B8 env' h
      | none => .no) 5 (fun x : PyData => x) E8 (fun b x => b ++ [yD p x]) (fun i b => b.length ≤ 7 + i) (partsL n) 0 (v1 p l t) none (by show 0 + 5 ≤ 5; decide) (fun x hx i b g hi hb => by
    have im : imm x = true := by
      simp only [List.mem_cons, List.not_mem_nil, or_false] at hx
      rcases hx with e | e | e | e | e <;> (subst e; rfl)
    refine ⟨vS x, ?_, by rw [List.length_append, List.length_singleton]; omega⟩
    have sx : evE C NT0 false (.slice (.idx (.var 5) (.cst (.int 1))) (.cst .none) (.neg (.cst (.int 1)))) (E8 b (vS x)) h3 = .ok (.d (.tuple (nD p.2.dropLast)), true) h3 := by
      have e : evE C NT0 false (.slice (.idx (.var 5) (.cst (.int 1))) (.cst .none) (.neg (.cst (.int 1)))) (E8 b (vS x)) h3 = .ok (.d (.tuple (cutL (nD p.2) none (some (-1)))), true) h3 := rfl
      rw [e]
      unfold nD
      rw [cutL_map, cut_last]
    have ad : evE C NT0 false (.bin .add (.slice (.idx (.var 5) (.cst (.int 1))) (.cst .none) (.neg (.cst (.int 1)))) (.tup (.cons (.var 8) .nil))) (E8 b (vS x)) h3 = .ok (.d (.tuple (nD p.2.dropLast ++ [x])), true) h3 := by
      refine bin_is (x := .tuple (nD p.2.dropLast)) (y := .tuple [x]) (fa := true) (fb := true) sx (tup_ok (vs := [(.d x, false)]) (cons_ok (var_ok rfl) rfl) rfl) ?_
      show (if (nD p.2.dropLast).length + 1 ≤ lineN then some (PyData.tuple (nD p.2.dropLast ++ [x])) else none) = _
      rw [if_pos (by unfold nD; rw [List.length_map, List.length_dropLast]; unfold lineN; omega)]
    have yx : evE C NT0 false (.tup (.cons (.idx (.var 5) (.cst (.int 0))) (.cons (.bin .add (.slice (.idx (.var 5) (.cst (.int 1))) (.cst .none) (.neg (.cst (.int 1)))) (.tup (.cons (.var 8) .nil))) .nil))) (E8 b (vS x)) h3 = .ok (.d (yD p x), true) h3 := tup_ok (vs := [(.d (.str p.1), false), (.d (.tuple (nD p.2.dropLast ++ [x])), true)]) (cons_ok (i0 _ _ _ _ _) (cons_ok ad rfl)) rfl
    have iy : imm (yD p x) = true := by
      show (true && (immAll (nD p.2.dropLast ++ [x]) && true)) = true
      have ia : immAll (nD p.2.dropLast ++ [x]) = true := immAll_of fun u hu => by
        rcases List.mem_append.mp hu with hu | hu
        · obtain ⟨m, _, rfl⟩ := List.mem_map.mp hu; rfl
        · rw [List.mem_singleton.mp hu]; exact im
      rw [ia]; rfl
    exact (appI_ok (xs := b) (y := yD p x) (fr := true) rfl yx iy (by unfold lineN; omega)).trans rfl) (by show 7 ≤ 7 + 0; decide)
  have ef : (partsL n).foldl (fun b x => b ++ [yD p x]) (v1 p l t) = v1 p l t ++ (partsL n).map (yD p) := rfl
  rw [ef] at q8
  let V2 := v1 p l t ++ (partsL n).map (yD p)
  have src8 : evSrc C NT0 false (.sVal (.tup (.cons (.idx (.var 1) (.cst (.int 0))) (.cons (.neg (.cst (.int 1))) (.cons (.cst .none) (.cons (.cst (.bool true)) (.cons (.cst (.str "0")) .nil))))))) (E8 (v1 p l t) none) h3 = .ok ((partsL n).map fun x => x) h3 := rfl
  have x9 : evE C NT0 false X9 (R K3 L4 P5 T6 (wS V2) g8 none) h3 = .ok (.d (.list (thingsL n p l t y)), true) h4 := by
    have sx : evE C NT0 false (.slice (.idx (.var 5) (.cst (.int 1))) (.cst (.int 1)) (.cst .none)) (R K3 L4 P5 T6 (wS V2) g8 none) h3 = .ok (.d (lD (p.2.drop 1)), true) h3 := by
      have e : evE C NT0 false (.slice (.idx (.var 5) (.cst (.int 1))) (.cst (.int 1)) (.cst .none)) (R K3 L4 P5 T6 (wS V2) g8 none) h3 = .ok (.d (.tuple (cutL (nD p.2) (some 1) none)), true) h3 := rfl
      rw [e]
      unfold nD
      rw [cutL_map, cut_tail]
    have tx : evE C NT0 false (.tup (.cons (.cst (.str "dark")) (.cons (.slice (.idx (.var 5) (.cst (.int 1))) (.cst (.int 1)) (.cst .none)) .nil))) (R K3 L4 P5 T6 (wS V2) g8 none) h3 = .ok (.d (wD ("dark", p.2.drop 1)), true) h3 := tup_ok (vs := [(.d (.str "dark"), true), (.d (lD (p.2.drop 1)), true)]) (cons_ok rfl (cons_ok sx rfl)) rfl
    refine bin_is (x := .list V2) (y := .list (v3 p y)) (fa := false) (fb := true) (var_ok rfl) (lst_ok (vs := [(.d (wD ("dark", p.2.drop 1)), true), (.d .none, true), (.d (.int 0), true), (.d (.str "x"), true), (.d (.dict []), true), (.d (.tuple []), true), (.d y, oy)]) (cons_ok tx (cons_ok rfl (cons_ok rfl (cons_ok rfl (cons_ok rfl (cons_ok rfl (cons_ok ((callE_ok (vs := [(.hand, false)]) rfl rfl).trans qd) rfl))))))) rfl) ?_
    show (if 12 + 7 ≤ lineN then some (PyData.list (thingsL n p l t y)) else none) = _
    rw [if_pos (by unfold lineN; decide)]
  let sT : SL := some (.d (.list V2), false)
  obtain ⟨env', h', ⟨rfl, e9, rfl⟩, q9⟩ := for_inv (I := fun env h5 => h5 = h4 ∧ ∃ e9, env = R K3 L4 P5 T6 sT g8 e9) (step := fun x env h => match bindT (.v 9) x env with
      | some env' => evS C NT0 false fu B9 env' h
      | none => .no) (thingsL n p l t y) (R K3 L4 P5 T6 sT g8 none) h4 (fun z hz env h5 ⟨eh, e9, e⟩ => by
        subst e; subst eh
        obtain ⟨b, b1, b2⟩ := things_both (fu := fu) (d := d) o k7 told_word sp (by omega) st hy hz h5
        exact ⟨R K3 L4 P5 T6 sT g8 (vS z), h5, ⟨rfl, _, rfl⟩, (ite_f (fr := true) (h' := h5) (repr_ne (q := b) (fa := true) (fb := true) ((callE_ok (vs := [(.d (hD n ds), false), (iP k, false), (.d z, false)]) rfl rfl).trans b1) ((callE_ok (vs := [(.d (hD n ds), false), (iP k, false), (.d z, false)]) rfl rfl).trans b2))).trans rfl⟩) ⟨rfl, none, rfl⟩
  refine ⟨h', hv4, evF_rt (fn := f35) (env' := R K3 L4 P5 T6 sT g8 e9) rfl rfl ?_⟩
  refine (seq_nx ((seq_nx s2).trans s3)).trans ((seq_nx s4).trans ?_)
  refine (seq_nx (env' := R K3 L4 none none none none none) (h' := h2) ((ite_f (fr := true) (h' := h2) c1).trans rfl)).trans ((seq_nx s5).trans ?_)
  refine (seq_nx (env' := R K3 L4 P5 none none none none) (h' := h2) ((ite_f (fr := true) (h' := h2) c2).trans rfl)).trans ((seq_nx s6).trans ((seq_nx s7).trans ?_))
  refine (seq_nx ((frr_ok (h' := h3) src8).trans q8)).trans ((seq_nx ((frr_ok (h' := h') (xs := thingsL n p l t y) (src_val (x := .list (thingsL n p l t y)) (fa := true) x9 rfl)).trans q9)).trans (ret_ok rfl))
end
end K29
/-! text T29 -/
set_option autoImplicit false
set_option linter.all false
set_option maxRecDepth 100000
set_option maxHeartbeats 4000000
namespace K29
open PySem Pv
abbrev CC := evF P 1 16
abbrev NT : Pv.Thunk := fun _ => .no
section
variable {h : HS} {d n : Nat} {ds : List Lot}
theorem no_house {z y x : PyData} (hy : Hold y x) (hz : z ∈ badsH y) : evF P 1 (d + 4) 5 [.d z] NT h = .ok (.d (.bool false), true) h := by
  unfold badsH badsH1 badsH2 at hz
  simp only [List.mem_cons, List.mem_append, List.not_mem_nil, or_false, List.cons_append, List.nil_append] at hz
  rcases hz with e | e | e | e | e | e | e | e | e | e | e | e | e | e | e | e | e | e | e
  iterate 18
    · subst e
      kernel_rfl
  subst e
  rcases hy with rfl | rfl
  · kernel_rfl
  · kernel_rfl
theorem no_lot {z y x x2 : PyData} (n2 : 2 ≤ n) (n7 : n ≤ 7) (hy : Hold y x) (hy2 : Hold x x2) (hz : z ∈ badsL n y) : evF P 1 (d + 4) 3 [.d z, iP n] NT h = .ok (.d (.bool false), true) h := by
  unfold badsL badsL0 at hz
  simp only [List.mem_cons, List.mem_append, List.not_mem_nil, or_false, List.cons_append, List.nil_append] at hz
  have hn : n = 2 ∨ n = 3 ∨ n = 4 ∨ n = 5 ∨ n = 6 ∨ n = 7 := by omega
  rcases hn with rfl | rfl | rfl | rfl | rfl | rfl
  all_goals
    rcases hz with e | e | e | e | e | e | e | e | e | e | e | e | e
    iterate 12
      · subst e
        kernel_rfl
    subst e
    rcases hy with rfl | rfl
    · kernel_rfl
    · rcases hy2 with rfl | rfl
      · kernel_rfl
      · kernel_rfl
theorem x6 {z y x : PyData} (hy : Hold y x) (hz : z ∈ badsH y) : evF P 1 (d + 5) 6 [.d z] NT h = .ex 1 none h :=
  evF_ex (fn := f6) rfl rfl ((ite_t (fr := true) (h' := h) (not_ok (p := false) (fa := true) ((callE_ok (vs := [(.d z, false)]) rfl rfl).trans (no_house hy hz)))).trans rfl)
theorem x9 {z y x k : PyData} (hy : Hold y x) (hz : z ∈ badsH y) : evF P 1 (d + 6) 9 [.d z, .d k] NT h = .ex 1 none h := evF_ex (fn := f9) rfl rfl (seq_ex (expr_ex ((callE_ok (vs := [(.d z, false)]) rfl rfl).trans (x6 hy hz))))
theorem x15 {z y x k : PyData} (hy : Hold y x) (hz : z ∈ badsH y) : evF P 1 (d + 6) 15 [.d z, .d k] NT h = .ex 1 none h := evF_ex (fn := f15) rfl rfl (seq_ex (expr_ex ((callE_ok (vs := [(.d z, false)]) rfl rfl).trans (x6 hy hz))))
theorem x10 {c : Nat} {z k : PyData} (e : evF P 1 (d + 6) 9 [.d z, .d k] NT h = .ex c none h) : evF P 1 (d + 7) 10 [.d z, .d k] NT h = .ex c none h := evF_ex (fn := f10) rfl rfl (seq_ex (expr_ex ((callE_ok (vs := [(.d z, false), (.d k, false)]) rfl rfl).trans e)))
theorem x16 {c : Nat} {z k : PyData} (e : evF P 1 (d + 6) 15 [.d z, .d k] NT h = .ex c none h) : evF P 1 (d + 7) 16 [.d z, .d k] NT h = .ex c none h := evF_ex (fn := f16) rfl rfl (seq_ex (expr_ex ((callE_ok (vs := [(.d z, false), (.d k, false)]) rfl rfl).trans e)))
theorem x17 {c : Nat} {z k t : PyData} (e : evF P 1 (d + 6) 15 [.d z, .d k] NT h = .ex c none h) : evF P 1 (d + 7) 17 [.d z, .d k, .d t] NT h = .ex c none h := evF_ex (fn := f17) rfl rfl (seq_ex (expr_ex ((callE_ok (vs := [(.d z, false), (.d k, false)]) rfl rfl).trans e)))
theorem x9l {z y x x2 : PyData} (o : HouseOk n ds) (hy : Hold y x) (hy2 : Hold x x2) (hz : z ∈ badsL n y) : evF P 1 (d + 6) 9 [.d (hD n ds), .d z] NT h = .ex 2 none h := by
  let E : Pv.Env := [vS (hD n ds), vS z]
  refine evF_ex (fn := f9) rfl rfl ((seq_nx (env' := E) (h' := h) (expr_ok ((callE_ok (vs := [(.d (hD n ds), false)]) rfl rfl).trans (check_gen (g := 6) (ih := 5) (ce := 1) bas rfl rfl o)))).trans ((ite_t (fr := true) (h' := h) (not_ok (p := false) (fa := true) ?_)).trans rfl))
  exact (callE_ok (vs := [(.d z, false), (iP n, false)]) rfl rfl).trans (no_lot (d := d + 1) o.n2 o.n7 hy hy2 hz)
abbrev badsK : List PyData := [.int 8, .int (-1), .none, .bool true, .str "1"]
theorem no_k {z : PyData} (hz : z ∈ badsK) : evF P 1 (d + 2) 1 [.d z, .d (.int 0), .d (.int 7)] NT h = .ok (.d (.bool false), true) h := by
  simp only [List.mem_cons, List.not_mem_nil, or_false] at hz
  rcases hz with e | e | e | e | e <;> (subst e; kernel_rfl)
theorem imm_k {z : PyData} (hz : z ∈ badsK) : imm z = true := by
  simp only [List.mem_cons, List.not_mem_nil, or_false] at hz
  rcases hz with e | e | e | e | e <;> (subst e; rfl)
theorem x15k {z : PyData} (o : HouseOk n ds) (hz : z ∈ badsK) : evF P 1 (d + 6) 15 [.d (hD n ds), .d z] NT h = .ex 3 none h := by
  let E : Pv.Env := [vS (hD n ds), vS z]
  refine evF_ex (fn := f15) rfl rfl ((seq_nx (env' := E) (h' := h) (expr_ok ((callE_ok (vs := [(.d (hD n ds), false)]) rfl rfl).trans (check_gen (g := 6) (ih := 5) (ce := 1) bas rfl rfl o)))).trans ((ite_t (fr := true) (h' := h) (not_ok (p := false) (fa := true) ?_)).trans rfl))
  exact (callE_ok (vs := [(.d z, false), (.d (.int 0), true), (.d (.int 7), true)]) rfl rfl).trans (no_k (d := d + 3) hz)
/-! words -/
def wordOf : Nat → Str
  | 1 => "house" | 2 => "lamps" | _ => "number"
theorem word_ok {th : Pv.Thunk} {h' : HS} {c : Nat} (e : th h = .ex c none h') (hc : c = 1 ∨ c = 2 ∨ c = 3) : CC 31 [.fn] th h = .ok (.d (.str (wordOf c)), false) h' := by
  let E2 : Pv.Env := [none, none, some (.d (.list [.bool (c == 1), .bool (c == 2), .bool (c == 3)]), false)]
  refine evF_rt (d := 15) (fn := f31) (env' := E2) rfl rfl ?_
  refine seq_rt ((try_ex (expr_ex ((thunk_ok (o := false) rfl).trans e))).trans ?_)
  rcases hc with rfl | rfl | rfl
  all_goals kernel_rfl
theorem lam_ok {th : Pv.Thunk} {env : Pv.Env} {body : X} {h' : HS} {c : Nat} (e : evE CC NT false body env h = .ex c none h') (hc : c = 1 ∨ c = 2 ∨ c = 3) : evE CC th false (.lam 31 body) env h = .ok (.d (.str (wordOf c)), false) h' := by
  refine lam_eq.trans ?_
  refine (congrArg lamEnd (word_ok (h := h) (h' := h') (c := c) ?_ hc)).trans rfl
  exact e
/-! the turn -/
abbrev EL (e0 e2 e3 e4 e5 e6 e7 e8 : SL) : Pv.Env := [e0, some (.hand, false), e2, e3, e4, e5, e6, e7, e8]
def EI (env : Pv.Env) : Prop := ∃ e0 e2 e3 e4 e5 e6 e7 e8 : SL, env = EL e0 e2 e3 e4 e5 e6 e7 e8
def restS : S := match f36.body with
  | .seq _ r => r
  | _ => .skip
def turnS : S := match f36.body with
  | .seq _ (.seq _ (.seq _ (.seq _ (.seq (.frr _ _ b) _)))) => b
  | _ => .skip
theorem law_is : f36.body = .seq (.set (.v 1) (.call 18 (.cons (.var 0) .nil))) restS := rfl
variable {e0 e2 e3 e4 e5 e6 e7 e8 : SL}
theorem set_any {i : Nat} {env : Pv.Env} {x : X} {z : PyData} {h' : HS} {f : SL → Pv.Env} (q : evE CC NT false x env h = .ok (.d z, false) h') (l : leak (.d z) false (vars x) env = env) (s : env.set i (vS z) = f (vS z)) : evS CC NT false 1 (.set (.v i) x) env h = .ok (.nx, f (vS z)) h' := by
  rw [set_old q, l]
  exact congrArg (fun e => R.ok (Out.nx, e) h') s
theorem turn_ok (hv : HV h) : ∃ h' env', HV h' ∧ EI env' ∧ evS CC NT false 1 turnS (EL e0 e2 e3 e4 e5 e6 e7 e8) h = .ok (.nx, env') h' := by
  obtain ⟨n, ds, h1, o, _, hv1, q1⟩ := lhouse_gen (fu := 1) (g := 23) dD (an := 20) rfl rfl (d := 13) hv (m := 6) (by decide) (by decide)
  obtain ⟨h2, hv2, q2⟩ := right_ok (fu := 1) (d := 9) o hv1
  obtain ⟨z, y, x, h3, hy, hz, hv3, q3⟩ := nohouse_gen (fu := 1) (g := 29) (an := 20) (de := 22) dD rfl rfl rfl (d := 12) hv2
  obtain ⟨b, w, u, h4, hw, ⟨u2, hw2⟩, hb, hv4, q4⟩ := nolot_gen (fu := 1) (g := 30) (an := 20) (de := 22) dD rfl rfl rfl (d := 12) hv3 (n := n)
  obtain ⟨k, h5, hk, hv5, q5⟩ := any_gen (fu := 1) (d := 14) (th := NT) dD (g := 20) rfl hv4 (xs := badsK) (by show 0 < 5; decide) (by show 5 < 1000000; decide)
  let H6 : SL := vS (hD n ds)
  let EB (e4 : SL) : Pv.Env := EL e0 e2 e3 e4 (vS b) H6 (vS k) (vS z)
  let W5 : List PyData := [.str "house", .str "lamps", .str "house", .str "number", .str "number"]
  refine ⟨h5, EB (wS W5), hv5, ⟨_, _, _, _, _, _, _, _, rfl⟩, ?_⟩
  have lk : ∀ (v : PyData) (e4 e5 e7 e8 : SL) (vs : List Nat), (∀ i ∈ vs, i = 1 ∨ i = 6) → leak (.d v) false vs (EL e0 e2 e3 e4 e5 H6 e7 e8) = EL e0 e2 e3 e4 e5 H6 e7 e8 := fun v e4 e5 e7 e8 vs hvs => by
    rcases leak_or v false vs (EL e0 e2 e3 e4 e5 H6 e7 e8) with e | e
    · exact e
    · rw [e]
      clear e
      unfold disownAll
      induction vs with
      | nil => rfl
      | cons i vs ih =>
        have : disown (EL e0 e2 e3 e4 e5 H6 e7 e8) i = EL e0 e2 e3 e4 e5 H6 e7 e8 := by
          rcases hvs i (List.mem_cons_self ..) with rfl | rfl <;> rfl
        rw [List.foldl_cons, this]
        exact ih fun j hj => hvs j (List.mem_cons_of_mem _ hj)
  refine (seq_nx (env' := EL e0 e2 e3 e4 e5 H6 e7 e8) (h' := h1) (setI_ok (fr := true) ((callE_ok (vs := [(.hand, false), (.d (.int 6), true)]) rfl rfl).trans q1) (imm_hD n ds))).trans ?_
  refine (seq_nx (env' := EL e0 e2 e3 e4 e5 H6 e7 e8) (h' := h2) ((ite_f (fr := true) (h' := h2) (not_ok (p := true) (fa := true) ((callE_ok (vs := [(.hand, false), (.d (hD n ds), false)]) rfl rfl).trans q2))).trans rfl)).trans ?_
  refine (seq_nx (env' := EB e4) (h' := h5) ((seq_nx (env' := EL e0 e2 e3 e4 e5 H6 e7 (vS z)) (h' := h3) ?_).trans ((seq_nx (env' := EL e0 e2 e3 e4 (vS b) H6 e7 (vS z)) (h' := h4) ?_).trans ?_))).trans ?_
  · exact set_any (f := fun s => EL e0 e2 e3 e4 e5 H6 e7 s) ((callE_ok (vs := [(.hand, false)]) rfl rfl).trans q3) (lk z e4 e5 e7 e8 _ (by simp [vars])) rfl
  · exact set_any (f := fun s => EL e0 e2 e3 e4 s H6 e7 (vS z)) ((callE_ok (vs := [(.hand, false), (iP n, false)]) rfl rfl).trans q4) (lk b e4 e5 e7 (vS z) _ (by simp [vars])) rfl
  · exact setI_ok (d := k) (fr := false) ((callE_ok (vs := [(.hand, false), (.d (.list badsK), true)]) rfl rfl).trans q5) (imm_k hk)
  have w1 := lam_ok (th := NT) (h := h5) (env := EB e4) (body := .call 10 (.cons (.var 8) (.cons (.var 5) .nil))) ((callE_ok (vs := [(.d z, false), (.d b, false)]) rfl rfl).trans (x10 (d := 9) (x9 hy hz))) (.inl rfl)
  have w2 := lam_ok (th := NT) (h := h5) (env := EB e4) (body := .call 10 (.cons (.var 6) (.cons (.var 5) .nil))) ((callE_ok (vs := [(.d (hD n ds), false), (.d b, false)]) rfl rfl).trans (x10 (d := 9) (x9l o hw hw2 hb))) (.inr (.inl rfl))
  let V2 : List PyData := [.str "house", .str "lamps"]
  let V3 : List PyData := [.str "house", .str "lamps", .str "house"]
  let V4 : List PyData := [.str "house", .str "lamps", .str "house", .str "number"]
  have w3 := lam_ok (th := NT) (h := h5) (env := EB (wS V2)) (body := .call 16 (.cons (.var 8) (.cons (.var 7) .nil))) ((callE_ok (vs := [(.d z, false), (.d k, false)]) rfl rfl).trans (x16 (d := 9) (x15 hy hz))) (.inl rfl)
  have w4 := lam_ok (th := NT) (h := h5) (env := EB (wS V3)) (body := .call 16 (.cons (.var 6) (.cons (.var 7) .nil))) ((callE_ok (vs := [(.d (hD n ds), false), (.d k, false)]) rfl rfl).trans (x16 (d := 9) (x15k o hk))) (.inr (.inr rfl))
  have w5 := lam_ok (th := NT) (h := h5) (env := EB (wS V4)) (body := .call 17 (.cons (.var 6) (.cons (.var 7) (.cons (.tup .nil) .nil)))) ((callE_ok (vs := [(.d (hD n ds), false), (.d k, false), (.d (.tuple []), true)]) rfl rfl).trans (x17 (d := 9) (x15k o hk))) (.inr (.inr rfl))
  refine (seq_nx (env' := EB (wS V2)) (h' := h5) (setL_ok (xs := V2) (lst_ok (vs := [(.d (.str "house"), false), (.d (.str "lamps"), false)]) (cons_ok w1 (cons_ok w2 rfl)) rfl) rfl)).trans ?_
  refine (seq_nx (env' := EB (wS V3)) (h' := h5) (appI_ok (xs := V2) (y := .str "house") (fr := false) rfl w3 rfl (by unfold lineN; decide))).trans ?_
  refine (seq_nx (env' := EB (wS V4)) (h' := h5) (appI_ok (xs := V3) (y := .str "number") (fr := false) rfl w4 rfl (by unfold lineN; decide))).trans ?_
  refine (seq_nx (env' := EB (wS W5)) (h' := h5) (appI_ok (xs := V4) (y := .str "number") (fr := false) rfl w5 rfl (by unfold lineN; decide))).trans ?_
  exact (ite_f (fr := true) (h' := h5) (by kernel_rfl)).trans rfl
end
end K29
/-! text X29 -/
set_option autoImplicit false
set_option linter.all false
set_option maxRecDepth 1000000
set_option maxHeartbeats 0
namespace K29
open PySem Pv
def row3 : PyData := .tuple [.int 3, .tuple [.tuple [.int 0, .int 1], .tuple [.int 1, .int 2]]]
abbrev E3 : Pv.Env := EL none (vS row3) none none none none none none
theorem rest_is : ∃ a b c, restS = .seq a (.seq b (.seq c (.seq (.frr (.v 3) (.sRng1 (.cst (.int 4))) turnS) (.ret (.cst (.bool true)))))) ∧ (∀ h : HS, evS CC NT false 1 a ((List.replicate 9 none).set 1 (some (.hand, false))) h = .ok (.nx, E3) h) ∧
    (∀ h : HS, evS CC NT false 1 b E3 h = .ok (.nx, E3) h) ∧ (∀ h : HS, evS CC NT false 1 c E3 h = .ok (.nx, E3) h) := by
  refine ⟨_, _, _, rfl, fun h => ?_, fun h => ?_, fun h => ?_⟩
  all_goals kernel_rfl
theorem round_ok {h : HS} (hv : HV h) : ∃ env2 h2, evS CC NT false 1 restS ((List.replicate 9 none).set 1 (some (.hand, false))) h = .ok (.rt (.d (.bool true)) true, env2) h2 := by
  obtain ⟨a, b, c, er, ha, hb, hc⟩ := rest_is
  obtain ⟨env', h', ⟨hv', _⟩, q⟩ := for_inv (I := fun env h => HV h ∧ EI env) (step := fun x env h => match bindT (.v 3) x env with
      | some env' => evS CC NT false 1 turnS env' h
      | none => .no) (rangeL 0 4) E3 h (fun x _ env h ⟨hv, e0, e2, e3, e4, e5, e6, e7, e8, e⟩ => by
        subst e
        obtain ⟨h', env', hv', ei, q⟩ := turn_ok (e0 := e0) (e2 := e2) (e3 := some (.d x, false)) (e4 := e4) (e5 := e5) (e6 := e6) (e7 := e7) (e8 := e8) hv
        exact ⟨env', h', ⟨hv', ei⟩, q⟩) ⟨hv, none, _, none, none, none, none, none, none, rfl⟩
  refine ⟨env', h', ?_⟩
  rw [er]
  exact (seq_nx (ha h)).trans ((seq_nx (hb h)).trans ((seq_nx (hc h)).trans ((seq_nx (env' := env') (h' := h') ((frr_ok (h' := h) (xs := rangeL 0 4) rfl).trans q)).trans (ret_ok rfl))))
def absD : PyData → PyData
  | .int i => .int (if i < 0 then -i else i)
  | _ => .none
theorem imm_ints : ∀ cs : List Int, immAll (cs.map .int) = true
  | [] => rfl
  | _ :: r => imm_ints r
theorem hand18 (ns : List Int) (hn : ns.length ≤ 63) : ∃ (cs : List Int) (m : Int), (∀ z ∈ cs, 0 ≤ z) ∧ CC 18 [.scr (ns.map .int)] NT [] = .ok (.d (.list [.list (cs.map .int), .int 0, .int 0, .int m, .int 0]), true) [] := by
  let zs := cutL ns none (some 63)
  let cs : List Int := zs.map fun i => if i < 0 then -i else i
  have ef : (zs.map PyData.int).map absD = cs.map .int := by simp [cs, absD]
  have hl : (zs.map PyData.int).length ≤ 63 := by rw [List.length_map]; exact Nat.le_trans (cutL_len ns none (some 63)) hn
  refine ⟨cs, 83 + 5 * ((cs.map PyData.int).length : Int), fun z hz => ?_, ?_⟩
  · obtain ⟨i, _, rfl⟩ := List.mem_map.mp hz
    split <;> omega
  · let E0 : Pv.Env := [some (.scr (ns.map .int), false), none, none]
    let E1 : Pv.Env := [some (.scr (ns.map .int), false), some (.d (.list (cs.map .int)), true), none]
    have q1 : evE (evF P 1 15) NT false (.lc (.v 2) (.sVal (.slice (.var 0) (.cst .none) (.cst (.int 63)))) .nil (.prim .abs (.cons (.prim .int (.cons (.var 2) .nil)) .nil))) E0 [] = .ok (.d (.list (cs.map .int)), true) [] := by
      rw [← ef]
      refine lc_map (fu := 1) (xs := zs.map .int) absD ?_ (Nat.le_trans hl (by decide)) fun x hx => ?_
      · show R.ok (cutL (ns.map PyData.int) none (some 63)) ([] : HS) = _
        rw [cutL_map]
      · obtain ⟨i, _, rfl⟩ := List.mem_map.mp hx
        exact ⟨_, true, rfl, rfl, rfl⟩
    have q2 : leak (.d (.list (cs.map .int))) true [0, 2] E0 = E0 := by
      simp [leak, aliasD, imm_ints]
    refine evF_rt (fn := f18) (d := 15) (env' := E1) rfl rfl ((seq_nx (env' := E1) (h' := []) ((set_ok q1).trans ?_)).trans ?_)
    · show R.ok (Out.nx, (leak (.d (.list (cs.map .int))) true [0, 2] E0).set 1 _) _ = _
      rw [q2]; rfl
    · exact ret_ok rfl
theorem hand_ok (ns : List Int) (hn : ns.length ≤ 63) : ∃ (cs : List Int) (m : Int), (∀ z ∈ cs, 0 ≤ z) ∧ evS CC NT false 1 (.set (.v 1) (.call 18 (.cons (.var 0) .nil))) (Pv.start 9 [.scr (ns.map .int)]) [] = .ok (.nx, (disownAll (Pv.start 9 [.scr (ns.map .int)]) [0]).set 1 (some (.d (.list [.list (cs.map .int), .int 0, .int 0, .int m, .int 0]), true))) [] := by
  obtain ⟨cs, m, h1, h2⟩ := hand18 ns hn
  exact ⟨cs, m, h1, set_ok ((callE_ok (vs := [(.scr (ns.map .int), false)]) rfl rfl).trans h2)⟩
end K29
/-! text H29 -/
set_option Elab.async false
set_option linter.all false
set_option maxRecDepth 100000
set_option maxHeartbeats 0
namespace H29
open PySem PySem.W PySem.Calls PyProof.Rows Pv
abbrev L : OpenLaw := PySem.Challenge.rw_watchhouse_k29_whole_houses_lit_by_lamps
abbrev R : OpenRow := OpenLaw.row L
abbrev B : List Stmt := R.prog.main.body
abbrev G : Pv.Top := Pv.topOf B
def loose : List PySem.Str := (R.prog.main.body.flatMap fun st => match st with | .FunctionDef n .. => [n] | .ClassDef n .. => [n] | .Assign [.Name n _] _ _ => [n] | _ => []).filter fun n => n != ("law" : PySem.Str) && n != ("__name__" : PySem.Str)
abbrev qv : Program := view R.prog [50]
abbrev nn : Nat := 5
abbrev hk : Hook := He.hookX nn [] (Pv.defsOf B) [] (Pv.lamT B) (Pv.exB B G)
def ob (s : SharedT) : He.AlX := He.obsX nn [] (Pv.defsOf B) [] (Pv.lamT B) (Pv.exB B G) (HandSHeadRun.getT s)
theorem ob_eq (s : SharedT) : ob s = hk.obs s.abs := He.obsX_eq (HandSHeadRun.getT_eq s)
theorem tx : Pv.textB B = true := by kernel_rfl
theorem run (w : World) : HandSHeadRun.RunEq R qv hk ob 20000 loose w := by
  intro os
  kernel_rfl
end H29
/-! text F29 -/
set_option Elab.async false
set_option linter.all false
set_option maxRecDepth 100000
set_option maxHeartbeats 0
namespace H29
open PySem PySem.W PySem.Calls PyProof.Rows Pv
theorem nLaw : 36 < (sds B).length := by decide +kernel
def sL : Sd := (sds B)[36]'nLaw
theorem bL : 0 < sL.b.length := by decide +kernel
def stL : Stmt := sL.b[0]'bL
theorem fs_eq : FsOf B G = K29.P := by kernel_rfl
theorem st_eq : cS 60 (sL.cc G) stL = .set (.v 1) (.call 18 (.cons (.var 0) .nil)) := by kernel_rfl
theorem rest_eq : cB 60 (sL.cc G) sL.b.tail = K29.restS := by kernel_rfl
theorem len_eq : sL.N.length = 9 := by kernel_rfl
theorem val (ns : List Int) (hn : ns.length ≤ 63) : LawVal B G 1 16 sL 1 stL sL.b.tail ns := by
  obtain ⟨cs, m, h1, h2⟩ := K29.hand_ok ns hn
  obtain ⟨env2, h2', h3⟩ := K29.round_ok (h := [.list (cs.map .int), .int 0, .int 0, .int m, .int 0]) ⟨cs, 0, 0, m, 0, rfl, h1, by decide, by decide⟩
  refine ⟨(disownAll (Pv.start 9 [.scr (ns.map .int)]) [0]).set 1 (some (.d (.list [.list (cs.map .int), .int 0, .int 0, .int m, .int 0]), true)), cs.map .int, [.int 0, .int 0, .int m, .int 0], true, env2, h2', ?_, ?_, K29.imm_ints cs, rfl, ?_⟩
  · rw [fs_eq, st_eq, len_eq]; exact h2
  · rfl
  · rw [fs_eq, rest_eq, len_eq]; exact h3
end H29
open PySem PySem.W PySem.Calls PyProof.Rows
theorem PySem.Challenge.cw_watchhouse_k29_whole_houses_lit_by_lamps_holds : PySem.Challenge.rw_watchhouse_k29_whole_houses_lit_by_lamps.Holds := by
  w_on; o_law
  refine HandSHeadRun.head_any (r := H29.R) (q := H29.qv) (H := H29.hk) (ob := H29.ob) (M := 20000) (loose := H29.loose) (d := HandSHeadRun.topDef H29.R.prog 50) (kwd := []) H29.ob_eq (by kernel_rfl) (fun s => by kernel_rfl) H29.run (by kernel_rfl) (by kernel_rfl) (by kernel_rfl) (by rfl) (by first | assumption | decide +kernel) (by decide +kernel) ⟨rfl, rfl, rfl, rfl, rfl, by decide +kernel⟩ ?hw ?hc
  case hw => w_witness2
  case hc =>
    exact Pv.law_walk (l := H29.L) (n := 63) (fu := 1) (d := 16) (i := 1) (f := 36) (s := H29.sL) (st := H29.stL) (rest := H29.sL.b.tail) (x := ("script" : PySem.Str)) rfl (by decide) (by kernel_rfl) ⟨by decide, by decide, by decide⟩ (by kernel_rfl) H29.tx rfl (List.getElem?_eq_getElem H29.nLaw) (by kernel_rfl) (by kernel_rfl) (by kernel_rfl) (by rw [H29.len_eq]; decide) (fun ns hn _ => H29.val ns hn)
