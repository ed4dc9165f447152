import PyProof.Rows.All
import Wide.All
import OpenK.AllK
import Wide.FinOn
import PySem.Challenge.RW_nodetour_k44_whole_lit_and_dark
import HandS.ForMost
import HandS.DictComp
import HandS.Flow
import HandS.Style
import HandS.Star
import HandS.Conv
import HandS.TupAny
import HandS.FStr
import HandS.IsInst
import HandS.Wide
import HandS.WideMore
import KE.SortData
import KE.DataMinMax
import KE.DataFind
import KE.DataCmp
import KE.DataIsa
import KE.KDictKeyed
import KE.KDictDisplayH
import KE.KeyNested
import KE.GoesDict
import KE.DatumIndex
import KE.KDictSum
import KE.GoesNewDict
import KE.GoesNew
import KE.GoesEnum
import KE.GoesZip
import HandS.Records
import HandS.Codes
import HandS.Ends
set_option Elab.async false
set_option linter.all false
set_option maxRecDepth 100000
set_option autoImplicit false
/-! N1. The small language: expressions and statements without places, an interpreter over pure data. -/
namespace N
open PySem

abbrev D := PyData
/-- the largest length -/
abbrev LIM : Nat := 16777216

/-- what a name holds: data, and how much of its container is the name's own (0: nothing, 1: the container itself, 2: with all within); or the law's source of draws -/
inductive Slot where
  | dat (d : D) (o : Nat)
  | src

/-- the source of draws -/
structure Src where
  cells : List Int
  left : Int
  mixed : Int
  turn : Int

abbrev Env := List (Option Slot)

inductive B where
  | len | abs | int | sum | any | all | sorted | tuple | list | min | max | repr | srtset | lenset | strI
  | isStr | isInt | isBool | isTuple | isList | isDict
  deriving DecidableEq
inductive M where
  | get | join | count | index
  deriving DecidableEq
inductive Mu where
  | append | extend | update | popKey
  deriving DecidableEq

mutual
inductive X where
  | v (i : Nat)
  | k (d : D)
  | tup (es : Xs)
  | lst (es : Xs)
  | dic (own : Bool) (ps : Ps)
  | bin (op : Operator) (a b : X)
  | neg (a : X)
  | nt (a : X)
  | and (a b : X)
  | or (a b : X)
  | ite (c a b : X)
  | cmp (op : CmpOp) (a b : X)
  | chn (op op' : CmpOp) (a b c : X)
  | sub (a i : X)
  | sl (a : X) (lo hi : Xs)
  | rev (a : X)
  | call (f : Nat) (as : Xs)
  | bi (f : B) (as : Xs)
  | me (m : M) (r : X) (as : Xs)
  | lc (e : X) (t : T) (it : It) (ifs : Xs) (own : List Nat)
  | lc2 (e : X) (t : T) (it : It) (t1 : T) (it1 : It) (ifs : Xs) (own : List Nat) (own1 : List Nat)
  | dc (own2 : Bool) (ke ve : X) (t : T) (it : It) (ifs : Xs) (own : List Nat)
  | dc2 (ke ve : X) (t : T) (it : It) (t1 : T) (it1 : It) (own : List Nat) (own1 : List Nat)
  | dlc (own2 : Bool) (ke ve : X) (t : T) (it : It) (ifs : Xs) (own : List Nat)
  | dOf (a : X)
inductive Xs where
  | nil
  | cons (star : Bool) (e : X) (es : Xs)
inductive Ps where
  | nil
  | cons (k v : X) (ps : Ps)
inductive T where
  | nm (i : Nat)
  | tp (ts : Ts)
  | sb (x : Nat) (k : X)
  | sb2 (x : Nat) (k k' : X)
inductive Ts where
  | nil
  | cons (t : T) (ts : Ts)
inductive It where
  | e (a : X)
  | r1 (a : X)
  | r2 (a b : X)
  | r3 (a b c : X)
  | en (a : X)
  | zp (strict : Bool) (a b : X)
  | its (a : X)
  | vals (a : X)
end

mutual
inductive S where
  | asg (t : T) (e : X)
  | par (ts : Ts) (es : Xs)
  | pop (t : T) (x : Nat)
  | popAt (t : T) (x : Nat) (i : X)
  | mut (m : Mu) (x : Nat) (e : X)
  | sdf (x : Nat) (k v : X)
  | sdfa (x : Nat) (k a : X)
  | catpop (x : Nat) (ka kb : X)
  | aug (i : Nat) (op : Operator) (e : X)
  | ex (e : X)
  | ret (e : X)
  | retn
  | ite (c : X) (a b : Ss)
  | wh (c : X) (b : Ss) (ws : List Nat)
  | for (t : T) (it : It) (b : Ss) (ws : List Nat)
  | brk
  | cont
  | pass
inductive Ss where
  | nil
  | cons (s : S) (ss : Ss)
end

/-! ### data -/
def truth : D → Option Bool
  | .none => some false
  | .bool b => some b
  | .int i => some (i != 0)
  | .str _ => none
  | .list xs => some (!xs.isEmpty)
  | .tuple xs => some (!xs.isEmpty)
  | .dict _ => none

mutual
def nk : D → NestedKey
  | .none => .none
  | .bool b => .num (if b then 1 else 0)
  | .int i => .num i
  | .str x => .text x
  | .tuple xs => .tup (nks xs)
  | .list _ => .none
  | .dict _ => .none
def nks : List D → List NestedKey
  | [] => []
  | x :: xs => nk x :: nks xs
end
mutual
/-- may be a key: no list, no dict within -/
def hashable : D → Bool
  | .none | .bool _ | .int _ | .str _ => true
  | .tuple xs => hashableAll xs
  | .list _ | .dict _ => false
def hashableAll : List D → Bool
  | [] => true
  | x :: xs => hashable x && hashableAll xs
end
/-- a key that is a tuple (with nothing but keys in it) -/
def tkey : D → Bool
  | .tuple xs => hashableAll xs && decide ((nk (.tuple xs)).depth ≤ 8)
  | _ => false
/-- a key that is a text -/
def skey : D → Bool
  | .str _ => true
  | .int _ => true
  | _ => false
mutual
/-- no list, no dict within -/
def imm : D → Bool
  | .none | .bool _ | .int _ | .str _ => true
  | .tuple xs => immAll xs
  | .list _ | .dict _ => false
def immAll : List D → Bool
  | [] => true
  | x :: xs => imm x && immAll xs
end

/-- the key goes with the keys that are there -/
def goes (kvs : List (D × D)) (k : D) : Bool := (tkey k && kvs.all (fun p => tkey p.1)) || (skey k && kvs.all (fun p => skey p.1))
def dget (kvs : List (D × D)) (k : D) : Option D := (kvs.find? (fun p => decide (nk p.1 = nk k))).map (·.2)
def dhas (kvs : List (D × D)) (k : D) : Bool := kvs.any (fun p => decide (nk p.1 = nk k))
def dput (kvs : List (D × D)) (k v : D) : List (D × D) :=
  if dhas kvs k then kvs.map (fun p => if nk p.1 = nk k then (p.1, v) else p) else kvs ++ [(k, v)]
def dout (kvs : List (D × D)) (k : D) : List (D × D) := kvs.filter (fun p => !decide (nk p.1 = nk k))

abbrev R := Option (Slot × Src)
@[inline] def bD {β : Type} (x : R) (f : D → Nat → Src → Option β) : Option β := match x with
  | some (.dat d o, s) => f d o s
  | _ => none
theorem bD_some {β : Type} (d : D) (o : Nat) (s : Src) (f : D → Nat → Src → Option β) : bD (some (.dat d o, s)) f = f d o s := rfl
theorem bD_none {β : Type} (f : D → Nat → Src → Option β) : bD none f = none := rfl

def b2i (b : Bool) : Int := if b then 1 else 0
def smallI (i : Int) : Bool := decide (-(2 ^ 64) < i) && decide (i < 2 ^ 64)
def binD (op : Operator) (a b : D) : Option (D × Nat) := match op, a, b with
  | .Add, .int i, .int j => some (.int (i + j), 0)
  | .Add, .int i, .bool j => some (.int (i + b2i j), 0)
  | .Add, .str x, .str y => if x.length + y.length ≤ LIM then some (.str (x ++ y), 0) else none
  | .Add, .tuple xs, .tuple ys => if xs.length + ys.length ≤ LIM then some (.tuple (xs ++ ys), 0) else none
  | .Add, .list xs, .list ys => if xs.length + ys.length ≤ LIM then some (.list (xs ++ ys), 1) else none
  | .Sub, .int i, .int j => some (.int (i - j), 0)
  | .Mult, .int i, .int j => if smallI i || smallI j then some (.int (i * j), 0) else none
  | .Mult, .list xs, .int j => if xs.length * j.toNat ≤ LIM ∧ -(2 ^ 63) ≤ j ∧ j < 2 ^ 63 then some (.list (List.replicate j.toNat xs).flatten, 1) else none
  | .FloorDiv, .int i, .int j => if 0 < j ∧ j < 1073741824 then some (.int (i / j), 0) else none
  | .Mod, .int i, .int j => if 0 < j then some (.int (i % j), 0) else none
  | _, _, _ => none

/-- order and == -/
def ordOk (a b : D) : Bool := PySem.W.alike a b && a.plain && b.plain && (match a with | .none => false | _ => true) && decide (min a.depth b.depth ≤ 60)
def eqOk (a b : D) : Bool := a.plain && b.plain && decide (min a.depth b.depth ≤ 60)
def isNoneD : D → Bool
  | .none => true
  | _ => false
def oneSign (x : Str) : Option Nat := match x.cps.toList with
  | [c] => some c
  | _ => none
def hasD (c x : D) : Option Bool := match c with
  | .list ds => if PyData.plainAll ds && x.plain && decide (x.depth ≤ 60) then some (ds.any fun z => PyData.eqv z x) else none
  | .tuple ds => if PyData.plainAll ds && x.plain && decide (x.depth ≤ 60) then some (ds.any fun z => PyData.eqv z x) else none
  | .dict kvs => if goes kvs x then some (dhas kvs x) else none
  | .str y => match x with
    | .str z => (match oneSign z with | some c => some (decide (c ∈ y.cps.toList)) | none => none)
    | _ => none
  | _ => none
def cmpD (op : CmpOp) (a b : D) : Option Bool := match op with
  | .Eq => if eqOk a b then some (PyData.eqv a b) else none
  | .NotEq => if eqOk a b then some (!PyData.eqv a b) else none
  | .Lt => if ordOk a b then some (PySem.W.dataLt a b) else none
  | .LtE => if ordOk a b then some (!PySem.W.dataLt b a) else none
  | .Gt => if ordOk a b then some (PySem.W.dataLt b a) else none
  | .GtE => if ordOk a b then some (!PySem.W.dataLt a b) else none
  | .In => hasD b a
  | .NotIn => (hasD b a).map (!·)
  | .Is => match b with
    | .none => some (isNoneD a)
    | .bool y => (match a with | .bool x => some (x == y) | _ => none)
    | _ => none
  | .IsNot => match b with
    | .none => some (!isNoneD a)
    | .bool y => (match a with | .bool x => some (!(x == y)) | _ => none)
    | _ => none

def itemD (a i : D) : Option D := match a, i with
  | .list xs, .int j => L2.atI xs j
  | .tuple xs, .int j => L2.atI xs j
  | .str x, .int j => if x.length ≤ LIM then (L2.atI x.cps.toList j).map fun c => .str ⟨#[c]⟩ else none
  | .dict kvs, k => if goes kvs k then dget kvs k else none
  | _, _ => none
def cutD (xs : List D) (lo hi : Option Int) : List D := (xs.drop (HT.sIx xs.length 0 lo)).take (HT.sIx xs.length xs.length hi - HT.sIx xs.length 0 lo)
def cutC (xs : List Nat) (lo hi : Option Int) : List Nat := (xs.drop (HT.sIx xs.length 0 lo)).take (HT.sIx xs.length xs.length hi - HT.sIx xs.length 0 lo)
def sliceD (a : D) (lo hi : Option Int) : Option (D × Nat) := match a with
  | .list xs => some (.list (cutD xs lo hi), 1)
  | .tuple xs => some (.tuple (cutD xs lo hi), 0)
  | .str x => if x.length ≤ LIM then some (.str ⟨(cutC x.cps.toList lo hi).toArray⟩, 0) else none
  | _ => none
def revD (a : D) : Option (D × Nat) := match a with
  | .list xs => some (.list xs.reverse, 1)
  | .tuple xs => some (.tuple xs.reverse, 0)
  | _ => none

def intsOf : List D → Option (List Int)
  | [] => some []
  | .int i :: r => (intsOf r).map (i :: ·)
  | _ :: _ => none
def boolsOf : List D → Option (List Bool)
  | [] => some []
  | .bool i :: r => (boolsOf r).map (i :: ·)
  | _ :: _ => none
def strsOf : List D → Option (List Str)
  | [] => some []
  | .str i :: r => (strsOf r).map (i :: ·)
  | _ :: _ => none
/-- the items of a thing that is walked -/
def itemsOf : D → Option (List D)
  | .list xs => some xs
  | .tuple xs => some xs
  | .dict kvs => some (kvs.map (·.1))
  | .str x => if x.length ≤ LIM then some (x.cps.toList.map fun c => .str ⟨#[c]⟩) else none
  | _ => none
def allAlike (ds : List D) : Bool := ds.all fun d => ds.all fun e => PySem.W.alike d e
def sortable (ds : List D) : Bool := (ds.all fun d => match d with | .tuple (_ :: _) => true | _ => false) || (ds.all fun d => match d with | .none => false | .tuple _ => false | _ => true)
def sortD (ds : List D) : Option (List D) :=
  if allAlike ds && sortable ds && decide (PyData.depthAll ds ≤ 60) then some (ds.mergeSort (PySem.W.dataLe false id)) else none
def bestD (f : D → List D → D) (ds : List D) : Option D := match ds with
  | x :: xs => if allAlike ds && (ds.all fun d => match d with | .none => false | _ => true) && decide (PyData.depthAll ds ≤ 60) then some (f x xs) else none
  | [] => none

def isStrD : D → Bool | .str _ => true | _ => false
def isIntD : D → Bool | .int _ => true | .bool _ => true | _ => false
def isBoolD : D → Bool | .bool _ => true | _ => false
def isTupleD : D → Bool | .tuple _ => true | _ => false
def isListD : D → Bool | .list _ => true | _ => false
def isDictD : D → Bool | .dict _ => true | _ => false

def biD (f : B) (as : List D) : Option (D × Nat) := match f, as with
  | .len, [.list xs] => some (.int xs.length, 0)
  | .len, [.tuple xs] => some (.int xs.length, 0)
  | .len, [.str x] => if x.length ≤ LIM then some (.int x.length, 0) else none
  | .len, [.dict xs] => some (.int xs.length, 0)
  | .abs, [.int i] => some (.int (if i < 0 then -i else i), 0)
  | .int, [.int i] => some (.int i, 0)
  | .int, [.bool b] => some (.int (if b then 1 else 0), 0)
  | .sum, [.list xs] => (intsOf xs).map fun ns => (.int ns.sum, 0)
  | .any, [.list xs] => (boolsOf xs).map fun bs => (.bool (bs.any id), 0)
  | .all, [.list xs] => (boolsOf xs).map fun bs => (.bool (bs.all id), 0)
  | .sorted, [a] => (match a with
    | .str _ => none
    | _ => (itemsOf a).bind fun ds => (sortD ds).map fun es => (.list es, 1))
  | .tuple, [.list xs] => some (.tuple xs, 0)
  | .tuple, [.tuple xs] => some (.tuple xs, 0)
  | .list, [.list xs] => some (.list xs, 1)
  | .list, [.tuple xs] => some (.list xs, 1)
  | .list, [.dict kvs] => some (.list (kvs.map (·.1)), 1)
  | .min, [.list xs] => (bestD PySem.W.minD xs).map fun d => (d, 0)
  | .min, [.tuple xs] => (bestD PySem.W.minD xs).map fun d => (d, 0)
  | .max, [.list xs] => (bestD PySem.W.maxD xs).map fun d => (d, 0)
  | .max, [.tuple xs] => (bestD PySem.W.maxD xs).map fun d => (d, 0)
  | .min, [a, b] => (bestD PySem.W.minD [a, b]).map fun d => (d, 0)
  | .max, [a, b] => (bestD PySem.W.maxD [a, b]).map fun d => (d, 0)
  | .repr, [a] => if a.showable && !a.hasDict && decide (a.depth ≤ 60) && decide (a.shown.length ≤ 1000000) then some (.str a.shown, 0) else none
  | .isStr, [a] => some (.bool (isStrD a), 0)
  | .isInt, [a] => some (.bool (isIntD a), 0)
  | .isBool, [a] => some (.bool (isBoolD a), 0)
  | .isTuple, [a] => some (.bool (isTupleD a), 0)
  | .isList, [a] => some (.bool (isListD a), 0)
  | .isDict, [a] => some (.bool (isDictD a), 0)
  | _, _ => none
def joinS (a : Str) : List Str → Str
  | [] => ⟨#[]⟩
  | [x] => x
  | x :: y :: r => x ++ a ++ joinS a (y :: r)
def meD (m : M) (r : D) (as : List D) : Option (D × Nat) := match m, r, as with
  | .get, .dict kvs, [k, d] => if goes kvs k then some ((dget kvs k).getD d, 0) else none
  | .index, .list xs, [.int i] => (intsOf xs).bind fun ns => if i ∈ ns ∧ ns.length ≤ LIM then some (.int (ns.idxOf i : Nat), 0) else none
  | .count, .list xs, [x] => if PyData.plainAll xs && x.plain && decide (x.depth ≤ 60) then some (.int (xs.countP fun z => PyData.eqv z x), 0) else none
  | _, _, _ => none

def lcRun (step : D → Src → Option (Option D × Src)) : List D → Src → Option (List D × Src)
  | [], s => some ([], s)
  | x :: xs, s => match step x s with
    | some (o, s1) => (match lcRun step xs s1 with
      | some (ys, s2) => some ((match o with | some y => y :: ys | none => ys), s2)
      | none => none)
    | none => none
/-- two clauses: the items of each turn of the outer one -/
def lc2Run (step : D → Src → Option (List D × Src)) : List D → Src → Option (List D × Src)
  | [], s => some ([], s)
  | x :: xs, s => match step x s with
    | some (zs, s1) => (match lc2Run step xs s1 with
      | some (ys, s2) => some (zs ++ ys, s2)
      | none => none)
    | none => none
/-- pairs into a dict, one after another -/
def dputs : List (D × D) → List D → Option (List (D × D))
  | acc, [] => some acc
  | acc, .tuple [k, v] :: r => if goes acc k && decide ((dput acc k v).length ≤ LIM) then dputs (dput acc k v) r else none
  | _, _ :: _ => none

/-- the same, every key a tuple -/
def tpair : D → Bool
  | .tuple [k, _] => tkey k
  | _ => false
def dputsT (acc : List (D × D)) (ps : List D) : Option (List (D × D)) := if ps.all tpair && decide (acc.length + ps.length ≤ LIM) then dputs acc ps else none
/-- a pair whose key is a text -/
def spair : D → Bool
  | .tuple [.str _, _] => true
  | _ => false
/-- the pairs of a display -/
def dputsD (ps : List D) : Option (List (D × D)) := match ps with
  | [] => dputsT [] []
  | [p] => dputsT [] [p]
  | ps => if ps.all spair then dputs [] ps else none

def zipD (xs ys : List D) : List D := (xs.zip ys).map fun p => .tuple [p.1, p.2]
def enumD (n : Int) : List D → List D
  | [] => []
  | x :: xs => .tuple [.int n, x] :: enumD (n + 1) xs
def rangeD (a : Int) : Nat → List D
  | 0 => []
  | n + 1 => .int a :: rangeD (a + 1) n
def rangeC (a c : Int) : Nat → List D
  | 0 => []
  | n + 1 => .int a :: rangeC (a + c) c n

def getv (env : Env) (i : Nat) : Option Slot := (env[i]?).getD none
def wipe (env : Env) : List Nat → Env
  | [] => env
  | i :: r => (wipe env r).set i none
def lower (n : Nat) : Option Slot → Option Slot
  | some (.dat d o) => some (.dat d (min o n))
  | x => x
def demote (env : Env) : List Nat → Env
  | [] => env
  | i :: r => (demote env r).modify i (lower 0)

/-- nothing is own -/
def flat (env : Env) : Env := env.map (lower 0)

mutual
/-- the names whose containers may be within what an expression gives -/
def al : X → List Nat
  | .v i => [i]
  | .k _ => []
  | .tup es => als es
  | .lst es => als es
  | .dic _ ps => alp ps
  | .bin _ a b => al a ++ al b
  | .neg _ => []
  | .nt _ => []
  | .and a b => al a ++ al b
  | .or a b => al a ++ al b
  | .ite _ a b => al a ++ al b
  | .cmp _ _ _ => []
  | .chn _ _ _ _ _ => []
  | .sub a _ => al a
  | .sl a _ _ => al a
  | .rev a => al a
  | .call _ as => als as
  | .bi _ as => als as
  | .me _ r as => al r ++ als as
  | .lc e _ it _ _ => al e ++ alI it
  | .lc2 e _ it _ it1 _ _ _ => al e ++ alI it ++ alI it1
  | .dc _ _ ve _ it _ _ => al ve ++ alI it
  | .dc2 _ ve _ it _ it1 _ _ => al ve ++ alI it ++ alI it1
  | .dlc _ _ ve _ it _ _ => al ve ++ alI it
  | .dOf a => al a
def als : Xs → List Nat
  | .nil => []
  | .cons _ e es => al e ++ als es
def alp : Ps → List Nat
  | .nil => []
  | .cons _ v ps => al v ++ alp ps
def alI : It → List Nat
  | .e a => al a
  | .r1 _ => []
  | .r2 _ _ => []
  | .r3 _ _ _ => []
  | .en a => al a
  | .zp _ a b => al a ++ al b
  | .its a => al a
  | .vals a => al a
end
def ownAt (env : Env) (i : Nat) : Bool := match getv env i with
  | some (.dat _ o) => o != 0
  | _ => false
/-- behind an expression whose value is kept -/
def kept (env : Env) (a : List Nat) (d : D) : Env := if a.any (ownAt env) then (if imm d then env else demote env a) else env
/-- a list whose things have no containers -/
def shallow : D → Bool
  | .list xs => immAll xs
  | _ => false
/-- a new list of such things has none of the names' containers within it -/
def alK (env : Env) (a : List Nat) (d : D) (o : Nat) : List Nat := if a.any (ownAt env) then (if o != 0 && shallow d then [] else a) else a

mutual
/-- a value to a target -/
def bindT : T → D → Env → Option Env
  | .nm i, d, env => some (env.set i (some (.dat d 0)))
  | .tp ts, d, env => match d with
    | .tuple xs => bindTs ts xs env
    | _ => none
  | .sb _ _, _, _ => none
  | .sb2 _ _ _, _, _ => none
def bindTs : Ts → List D → Env → Option Env
  | .nil, [], env => some env
  | .cons t ts, x :: xs, env => match bindT t x env with
    | some env1 => bindTs ts xs env1
    | none => none
  | _, _, _ => none
end

abbrev CF := Nat → List Slot → Src → R

mutual
def ev (cf : CF) : X → Env → Src → R
  | .v i, env, s => match getv env i with
    | some (.dat d _) => some (.dat d 0, s)
    | some .src => some (.src, s)
    | none => none
  | .k d, _, s => some (.dat d 0, s)
  | .tup es, env, s => match evs cf es env s with
    | some (ds, s1) => if ds.length ≤ LIM then some (.dat (.tuple ds) 0, s1) else none
    | none => none
  | .lst es, env, s => match evs cf es env s with
    | some (ds, s1) => if ds.length ≤ LIM then some (.dat (.list ds) 1, s1) else none
    | none => none
  | .dic own ps, env, s => match evp cf ps env s with
    | some (ps, s1) => (match dputsD ps with
      | some kvs => if ps.length ≤ 15 then (if own then (if ps.length = 0 then some (.dat (.dict kvs) 2, s1) else none) else some (.dat (.dict kvs) 1, s1)) else none
      | none => none)
    | none => none
  | .bin op a b, env, s => bD (ev cf a env s) fun d _ s1 => bD (ev cf b env s1) fun e _ s2 => match binD op d e with
    | some (r, o) => some (.dat r o, s2)
    | none => none
  | .neg a, env, s => bD (ev cf a env s) fun d _ s1 => match d with
    | .int i => some (.dat (.int (-i)) 0, s1)
    | _ => none
  | .nt a, env, s => bD (ev cf a env s) fun d _ s1 => match truth d with
    | some t => some (.dat (.bool (!t)) 0, s1)
    | none => none
  | .and a b, env, s => bD (ev cf a env s) fun d _ s1 => match truth d with
    | some true => ev cf b env s1
    | some false => some (.dat d 0, s1)
    | none => none
  | .or a b, env, s => bD (ev cf a env s) fun d _ s1 => match truth d with
    | some true => some (.dat d 0, s1)
    | some false => ev cf b env s1
    | none => none
  | .ite c a b, env, s => bD (ev cf c env s) fun d _ s1 => match truth d with
    | some true => ev cf a env s1
    | some false => ev cf b env s1
    | none => none
  | .cmp op a b, env, s => bD (ev cf a env s) fun d _ s1 => bD (ev cf b env s1) fun e _ s2 => match cmpD op d e with
    | some r => some (.dat (.bool r) 0, s2)
    | none => none
  | .chn op op' a b c, env, s => bD (ev cf a env s) fun d _ s1 => bD (ev cf b env s1) fun e _ s2 => match cmpD op d e with
    | some r => if r then bD (ev cf c env s2) fun f _ s3 => (match cmpD op' e f with
        | some r' => some (.dat (.bool r') 0, s3)
        | none => none) else some (.dat (.bool false) 0, s2)
    | none => none
  | .sub a i, env, s => bD (ev cf a env s) fun d o s1 => bD (ev cf i env s1) fun e _ s2 => match itemD d e with
    | some r => some (.dat r 0, s2)
    | none => none
  | .sl a lo hi, env, s => bD (ev cf a env s) fun d _ s1 => match evo cf lo env s1 with
    | some (l, s2) => (match evo cf hi env s2 with
      | some (h, s3) => (match sliceD d l h with
        | some (r, o) => some (.dat r o, s3)
        | none => none)
      | none => none)
    | none => none
  | .rev a, env, s => bD (ev cf a env s) fun d _ s1 => match revD d with
    | some (r, o) => some (.dat r o, s1)
    | none => none
  | .call f as, env, s => match evc cf as env s with
    | some (vs, s1) => cf f vs s1
    | none => none
  | .bi f as, env, s => match evs cf as env s with
    | some (ds, s1) => (match biD f ds with
      | some (r, o) => some (.dat r o, s1)
      | none => none)
    | none => none
  | .me m r as, env, s => bD (ev cf r env s) fun d _ s1 => match evs cf as env s1 with
    | some (ds, s2) => (match meD m d ds with
      | some (r, o) => some (.dat r o, s2)
      | none => none)
    | none => none
  | .lc e t it ifs own, env, s => match evi cf it env s with
    | some (ds, s1) => (match lcRun (fun d s2 => match bindT t d (wipe (flat env) own) with
        | some env1 => (match tests cf ifs env1 s2 with
          | some (true, s4) => bD (ev cf e env1 s4) fun r _ s5 => some (some r, s5)
          | some (false, s4) => some (none, s4)
          | none => none)
        | none => none) ds s1 with
      | some (rs, s2) => some (.dat (.list rs) 1, s2)
      | none => none)
    | none => none
  | .lc2 e t it t1 it1 ifs own own1, env, s => match evi cf it env s with
    | some (ds, s1) => (match lc2Run (fun d s2 => match bindT t d (wipe (flat env) own) with
        | some env1 => (match evi cf it1 env1 s2 with
          | some (ds1, s4) => lcRun (fun d1 s5 => match bindT t1 d1 (wipe (flat env1) own1) with
              | some env2 => (match tests cf ifs env2 s5 with
                | some (true, s7) => bD (ev cf e env2 s7) fun r _ s8 => if imm r then some (some r, s8) else none
                | some (false, s7) => some (none, s7)
                | none => none)
              | none => none) ds1 s4
          | none => none)
        | none => none) ds s1 with
      | some (rs, s2) => if rs.length ≤ LIM then some (.dat (.list rs) 1, s2) else none
      | none => none)
    | none => none
  | .dc own2 ke ve t it ifs own, env, s => match evi cf it env s with
    | some (ds, s1) => (match lcRun (fun d s2 => match bindT t d (wipe (flat env) own) with
        | some env1 => (match tests cf ifs env1 s2 with
          | some (true, s4) => bD (ev cf ke env1 s4) fun kd _ s5 => bD (ev cf ve env1 s5) fun vd o s6 => if !imm kd || (own2 && o != 2) then none else some (some (.tuple [kd, vd]), s6)
          | some (false, s4) => some (none, s4)
          | none => none)
        | none => none) ds s1 with
      | some (rs, s2) => (match dputsT [] rs with
        | some kvs => if own2 && decide (kvs.length ≠ rs.length) then none else some (.dat (.dict kvs) (if own2 then 2 else 1), s2)
        | none => none)
      | none => none)
    | none => none
  | .dc2 ke ve t it t1 it1 own own1, env, s => match evi cf it env s with
    | some (ds, s1) => (match lc2Run (fun d s2 => match bindT t d (wipe (flat env) own) with
        | some env1 => (match evi cf it1 env1 s2 with
          | some (ds1, s4) => lcRun (fun d1 s5 => match bindT t1 d1 (wipe (flat env1) own1) with
              | some env2 => bD (ev cf ke env2 s5) fun kd _ s7 => bD (ev cf ve env2 s7) fun vd _ s8 => if imm kd && imm vd then some (some (.tuple [kd, vd]), s8) else none
              | none => none) ds1 s4
          | none => none)
        | none => none) ds s1 with
      | some (rs, s2) => (match dputsT [] rs with
        | some kvs => some (.dat (.dict kvs) 1, s2)
        | none => none)
      | none => none)
    | none => none
  | .dlc own2 ke ve t it ifs own, env, s => match evi cf it env s with
    | some (ds, s1) => (match lcRun (fun d s2 => match bindT t d (wipe (flat env) own) with
        | some env1 => (match tests cf ifs env1 s2 with
          | some (true, s4) => bD (ev cf ke env1 s4) fun kd _ s5 => bD (ev cf ve env1 s5) fun vd o s6 => if !imm kd || (own2 && o != 2) then none else some (some (.tuple [kd, vd]), s6)
          | some (false, s4) => some (none, s4)
          | none => none)
        | none => none) ds s1 with
      | some (rs, s2) => (match dputsT [] rs with
        | some kvs => if own2 && decide (kvs.length ≠ rs.length) then none else some (.dat (.dict kvs) (if own2 then 2 else 1), s2)
        | none => none)
      | none => none)
    | none => none
  | .dOf a, env, s => bD (ev cf a env s) fun d _ s1 => match d with
    | .list xs => (match dputsT [] xs with
      | some kvs => some (.dat (.dict kvs) 1, s1)
      | none => none)
    | _ => none
/-- the values of written items; a star's are spliced -/
def evs (cf : CF) : Xs → Env → Src → Option (List D × Src)
  | .nil, _, s => some ([], s)
  | .cons st e es, env, s => bD (ev cf e env s) fun d _ s1 => match evs cf es env s1 with
    | some (ds, s2) => (match st, d with
      | false, _ => some (d :: ds, s2)
      | true, .list xs => some (xs ++ ds, s2)
      | true, .tuple xs => some (xs ++ ds, s2)
      | true, _ => none)
    | none => none
/-- the arguments of a call: the source may be among them -/
def evc (cf : CF) : Xs → Env → Src → Option (List Slot × Src)
  | .nil, _, s => some ([], s)
  | .cons st e es, env, s => match ev cf e env s with
    | some (v, s1) => (match evc cf es env s1 with
      | some (vs, s2) => (match st, v with
        | false, .dat d _ => some (.dat d 0 :: vs, s2)
        | false, .src => some (.src :: vs, s2)
        | true, .dat (.tuple xs) _ => some (xs.map (fun d => Slot.dat d 0) ++ vs, s2)
        | true, _ => none)
      | none => none)
    | none => none
/-- keys and values, each pair in its turn -/
def evp (cf : CF) : Ps → Env → Src → Option (List D × Src)
  | .nil, _, s => some ([], s)
  | .cons a b ps, env, s => bD (ev cf a env s) fun k _ s1 => bD (ev cf b env s1) fun v _ s2 => match evp cf ps env s2 with
    | some (ps, s3) => some (.tuple [k, v] :: ps, s3)
    | none => none
/-- an end of a slice -/
def evo (cf : CF) : Xs → Env → Src → Option (Option Int × Src)
  | .nil, _, s => some (none, s)
  | .cons false e .nil, env, s => bD (ev cf e env s) fun d _ s1 => match d with
    | .int i => some (some i, s1)
    | _ => none
  | _, _, _ => none
def tests (cf : CF) : Xs → Env → Src → Option (Bool × Src)
  | .nil, _, s => some (true, s)
  | .cons false e .nil, env, s => bD (ev cf e env s) fun d _ s1 => match truth d with
    | some t => some (t, s1)
    | none => none
  | _, _, _ => none
/-- what is walked -/
def evi (cf : CF) : It → Env → Src → Option (List D × Src)
  | .e a, env, s => bD (ev cf a env s) fun d _ s1 => match itemsOf d with
    | some ds => some (ds, s1)
    | none => none
  | .r1 a, env, s => bD (ev cf a env s) fun d _ s1 => match d with
    | .int n => if -(2 ^ 61) < n ∧ n < 16777216 then some (rangeD 0 n.toNat, s1) else none
    | _ => none
  | .r2 a b, env, s => bD (ev cf a env s) fun d _ s1 => bD (ev cf b env s1) fun e _ s2 => match d, e with
    | .int n, .int m => if -(2 ^ 61) < n ∧ n < 2 ^ 61 ∧ -(2 ^ 61) < m ∧ m < 2 ^ 61 ∧ m - n < 16777216 then some (rangeD n (m - n).toNat, s2) else none
    | _, _ => none
  | .r3 a b c, env, s => bD (ev cf a env s) fun d _ s1 => bD (ev cf b env s1) fun e _ s2 => bD (ev cf c env s2) fun f _ s3 => match d, e, f with
    | .int n, .int m, .int (.negSucc 0) => if -(2 ^ 61) < n ∧ n < 2 ^ 61 ∧ -(2 ^ 61) < m ∧ m < 2 ^ 61 ∧ n - m < 16777216 then some (rangeC n (-1) (n - m).toNat, s3) else none
    | _, _, _ => none
  | .en a, env, s => bD (ev cf a env s) fun d _ s1 => match itemsOf d with
    | some ds => if isDictD d then none else some (enumD 0 ds, s1)
    | none => none
  | .zp st a b, env, s => bD (ev cf a env s) fun d _ s1 => bD (ev cf b env s1) fun e _ s2 => match itemsOf d, itemsOf e with
    | some xs, some ys => if (!st || decide (xs.length = ys.length)) && !isDictD d && !isDictD e then some (zipD xs ys, s2) else none
    | _, _ => none
  | .its a, env, s => bD (ev cf a env s) fun d _ s1 => match d with
    | .dict kvs => some (kvs.map fun p => .tuple [p.1, p.2], s1)
    | _ => none
  | .vals a, env, s => bD (ev cf a env s) fun d _ s1 => match d with
    | .dict kvs => some (kvs.map (·.2), s1)
    | _ => none
end

/-! ### statements -/
inductive Fl where
  | nx (env : Env)
  | rt (r : Slot)
  | bk (env : Env)
  | ct (env : Env)
abbrev RS := Option (Fl × Src)

/-- x[k] = v, x a name that has its container for its own; o: v is new with all within -/
def putD (env : Env) (x : Nat) (k v : D) (o : Nat) : Option Env := match getv env x with
  | some (.dat (.dict kvs) 1) => if goes kvs k && decide ((dput kvs k v).length ≤ LIM) then some (env.set x (some (.dat (.dict (dput kvs k v)) 1))) else none
  | some (.dat (.list xs) 1) => (match k with
    | .int i => (match L2.ixN xs.length i with
      | some j => some (env.set x (some (.dat (.list (xs.set j v)) 1)))
      | none => none)
    | _ => none)
  | _ => none
/-- x[k][k'] = v, v without containers -/
def put2D (env : Env) (x : Nat) (k k' v : D) : Option Env := match getv env x with
  | some (.dat (.dict kvs) 2) => if goes kvs k then (match dget kvs k with
    | some (.dict ls) => if goes ls k' && imm v && ls.all (fun p => imm p.2) && decide ((dput ls k' v).length ≤ LIM) then some (env.set x (some (.dat (.dict (dput kvs k (.dict (dput ls k' v)))) 2))) else none
    | _ => none) else none
  | _ => none
/-- a value to a target of a statement; o: how much of it is new -/
def store (cf : CF) (a : List Nat) : T → D → Nat → Env → Src → Option (Env × Src)
  | .nm i, d, o, env, s => some ((kept env a d).set i (some (.dat d o)), s)
  | .tp ts, d, _, env, s => (bindT (.tp ts) d (kept env a d)).map fun e => (e, s)
  | .sb x k, d, o, env, s => bD (ev cf k env s) fun kd _ s1 => match putD (kept env a d) x kd d o with
    | some env1 => some (env1, s1)
    | none => none
  | .sb2 x k k', d, o, env, s => bD (ev cf k env s) fun kd _ s1 => bD (ev cf k' env s1) fun kd' _ s2 => match put2D env x kd kd' d with
    | some env1 => some (env1, s2)
    | none => none
def stores (cf : CF) : Ts → List (List Nat × D × Nat) → Env → Src → Option (Env × Src)
  | .nil, [], env, s => some (env, s)
  | .cons t ts, x :: xs, env, s => match store cf x.1 t x.2.1 x.2.2 env s with
    | some (env1, s1) => stores cf ts xs env1 s1
    | none => none
  | _, _, _, _ => none
/-- the values of a row of expressions, each with its names and how much of it is new -/
def evr (cf : CF) : Xs → Env → Src → Option (List (List Nat × D × Nat) × Src)
  | .nil, _, s => some ([], s)
  | .cons false e es, env, s => bD (ev cf e env s) fun d o s1 => match evr cf es env s1 with
    | some (ds, s2) => some ((al e, d, o) :: ds, s2)
    | none => none
  | .cons true _ _, _, _ => none

/-- all that is kept -/
def keptAll (env : Env) : List (List Nat × D × Nat) → Env
  | [] => env
  | x :: xs => kept (keptAll env xs) x.1 x.2.1

def forL (body : D → Env → Src → RS) : List D → Env → Src → RS
  | [], env, s => some (.nx env, s)
  | x :: xs, env, s => match body x env s with
    | some (.nx e, s1) => forL body xs e s1
    | some (.ct e, s1) => forL body xs e s1
    | some (.bk e, s1) => some (.nx e, s1)
    | some (.rt r, s1) => some (.rt r, s1)
    | none => none
/-- while: test, body -/
def whL (test : Env → Src → Option (Bool × Src)) (body : Env → Src → RS) (env : Env) (s : Src) : RS :=
  match test env s with
  | none => none
  | some (false, s1) => some (.nx env, s1)
  | some (true, s1) => match body env s1 with
    | some (.nx e, s2) => whL test body e s2
    | some (.ct e, s2) => whL test body e s2
    | some (.bk e, s2) => some (.nx e, s2)
    | some (.rt r, s2) => some (.rt r, s2)
    | none => none partial_fixpoint

def namesOnly : Ts → Bool
  | .nil => true
  | .cons (.nm _) ts => namesOnly ts
  | .cons _ _ => false
def wipeF (ws : List Nat) : Fl → Fl
  | .nx env => .nx (wipe env ws)
  | .ct env => .ct (wipe env ws)
  | f => f

mutual
def exec (cf : CF) : S → Env → Src → RS
  | .asg t e, env, s => bD (ev cf e env s) fun d o s1 => match store cf (alK env (al e) d o) t d o env s1 with
    | some (env1, s2) => some (.nx env1, s2)
    | none => none
  | .par ts es, env, s => match evr cf es env s with
    | some (ds, s1) => if namesOnly ts || ds.all (fun x => imm x.2.1) then (match stores cf ts ds (keptAll env ds) s1 with
      | some (env1, s2) => some (.nx env1, s2)
      | none => none) else none
    | none => none
  | .pop t x, env, s => match getv env x with
    | some (.dat (.list xs) 1) => (match xs.getLast? with
      | some d => (match bindT t d (env.set x (some (.dat (.list xs.dropLast) 1))) with
        | some env1 => some (.nx env1, s)
        | none => none)
      | none => none)
    | _ => none
  | .popAt t x i, env, s => bD (ev cf i env s) fun e _ s1 => match getv env x, e with
    | some (.dat (.list xs) 1), .int j => if LIM < xs.length then none else (match L2.ixN xs.length j with
      | some n => (match xs[n]? with
        | some d => (match bindT t d (env.set x (some (.dat (.list (xs.eraseIdx n)) 1))) with
          | some env1 => some (.nx env1, s1)
          | none => none)
        | none => none)
      | none => none)
    | _, _ => none
  | .mut m x e, env, s => bD (ev cf e env s) fun d o s1 => match m, getv (kept env (al e) d) x, d with
    | .append, some (.dat (.list xs) 1), d => if xs.length < LIM then some (.nx ((kept env (al e) d).set x (some (.dat (.list (xs ++ [d])) 1))), s1) else none
    | .extend, some (.dat (.list xs) 1), .list ys => if xs.length + ys.length ≤ LIM then some (.nx ((kept env (al e) d).set x (some (.dat (.list (xs ++ ys)) 1))), s1) else none
    | .update, some (.dat (.dict kvs) 1), .list ps => if kvs.all (fun p => tkey p.1) then (match dputsT kvs ps with
      | some ls => some (.nx ((kept env (al e) d).set x (some (.dat (.dict ls) 1))), s1)
      | none => none) else none
    | .popKey, some (.dat (.dict kvs) 1), d => if goes kvs d && dhas kvs d then some (.nx ((kept env (al e) d).set x (some (.dat (.dict (dout kvs d)) 1))), s1) else none
    | .popKey, some (.dat (.list xs) 1), .int j => (match L2.ixN xs.length j with
      | some n => if LIM < xs.length then none else some (.nx ((kept env (al e) d).set x (some (.dat (.list (xs.eraseIdx n)) 1))), s1)
      | none => none)
    | .update, some (.dat (.dict kvs) 1), .dict qs => if kvs.all (fun p => tkey p.1) && qs.all (fun p => tkey p.1) && decide (kvs.length + qs.length ≤ LIM) then some (.nx ((kept env (al e) d).set x (some (.dat (.dict (qs.foldl (fun l p => dput l p.1 p.2) kvs)) 1))), s1) else none
    | _, _, _ => none
  | .sdf x k v, env, s => bD (ev cf k env s) fun kd _ s1 => bD (ev cf v env s1) fun d o s2 => match getv (kept env (al v) d) x with
    | some (.dat (.dict kvs) 1) => if tkey kd && kvs.all (fun p => tkey p.1) && decide (kvs.length < LIM) then some (.nx ((kept env (al v) d).set x (some (.dat (.dict (if dhas kvs kd then kvs else kvs ++ [(kd, d)])) 1))), s2) else none
    | _ => none
  | .sdfa x k a, env, s => none
  | .catpop x ka kb, env, s => bD (ev cf ka env s) fun a _ s1 => bD (ev cf kb env s1) fun b _ s2 => bD (ev cf ka env s2) fun a' _ s3 => match getv env x with
    | some (.dat (.dict kvs) 1) => if goes kvs a && goes kvs b && goes kvs a' then (match dget kvs a, dget kvs b with
      | some (.list us), some (.list vs) => if us.length + vs.length ≤ LIM ∧ (dput (dout kvs b) a' (.list (us ++ vs))).length ≤ LIM then some (.nx (env.set x (some (.dat (.dict (dput (dout kvs b) a' (.list (us ++ vs)))) 1))), s3) else none
      | _, _ => none) else none
    | _ => none
  | .aug i op e, env, s => bD (ev cf e env s) fun d _ s1 => match op, getv env i, d with
    | .Add, some (.dat (.int n) _), .int m => some (.nx (env.set i (some (.dat (.int (n + m)) 0))), s1)
    | .Sub, some (.dat (.int n) _), .int m => some (.nx (env.set i (some (.dat (.int (n - m)) 0))), s1)
    | .Add, some (.dat (.str n) _), .str m => if n.length + m.length ≤ LIM then some (.nx (env.set i (some (.dat (.str (n ++ m)) 0))), s1) else none
    | _, _, _ => none
  | .ex e, env, s => match ev cf e env s with
    | some (_, s1) => some (.nx env, s1)
    | none => none
  | .ret e, env, s => (match e with
    | .v i => (match getv env i with
      | some (.dat d o) => some (.rt (.dat d o), s)
      | some .src => some (.rt .src, s)
      | none => none)
    | e => (match ev cf e env s with
      | some (r, s1) => some (.rt r, s1)
      | none => none))
  | .retn, _, s => some (.rt (.dat .none 0), s)
  | .ite c a b, env, s => bD (ev cf c env s) fun d _ s1 => match truth d with
    | some true => execs cf a env s1
    | some false => execs cf b env s1
    | none => none
  | .wh c b ws, env, s => whL (fun e s' => bD (ev cf c e s') fun d _ s2 => match truth d with
      | some t => some (t, s2)
      | none => none) (fun e s' => (execs cf b e s').map fun p => (wipeF ws p.1, p.2)) (wipe env ws) s
  | .for t it b ws, env, s => match evi cf it env s with
    | some (ds, s1) => forL (fun d e s' => match bindT t d e with
        | some e1 => (execs cf b e1 s').map fun p => (wipeF ws p.1, p.2)
        | none => none) ds (wipe (kept env (alI it) (.list ds)) ws) s1
    | none => none
  | .brk, env, s => some (.bk env, s)
  | .cont, env, s => some (.ct env, s)
  | .pass, env, s => some (.nx env, s)
def execs (cf : CF) : Ss → Env → Src → RS
  | .nil, env, s => some (.nx env, s)
  | .cons st ss, env, s => match exec cf st env s with
    | some (.nx env1, s1) => execs cf ss env1 s1
    | r => r
end

structure Def where
  np : Nat
  ns : Nat
  body : Ss
def enter (d : Def) (vs : List Slot) : Env := vs.map some ++ List.replicate (d.ns - vs.length) none
def runDef (cf : CF) (d : Def) (vs : List Slot) (s : Src) : R :=
  if vs.length = d.np then (match execs cf d.body (enter d vs) s with
    | some (.rt r, s1) => some (r, s1)
    | some (.nx _, s1) => some (.dat .none 0, s1)
    | _ => none) else none

/-- the draw: others // most, others % most; mixed anew where the numbers are spent -/
def refill : Int → List Int → Int × List Int
  | l, [] => (l, [])
  | l, c :: cs => if l < 2 then refill c cs else (l, c :: cs)
def mixIt (m lap : Int) : Int :=
  let st := (m + lap * 104729) % 998244353
  (st * st + lap * 17) % 2147483647
def pick (s : Src) (most : Int) : Int × Src :=
  if most < 2 then (0, s) else
  let p := refill s.left s.cells
  if 1 < p.1 then (p.1 % most, { s with left := p.1 / most, cells := p.2 })
  else ((mixIt s.mixed (s.turn + 1) / 16) % most, { s with left := p.1, cells := p.2, turn := s.turn + 1 })

/-- the things in a drawn order: as many draws as things are left -/
def anyRun (cf : CF) : Nat → List D → Src → Option (List D × Src)
  | 0, _, s => some ([], s)
  | n + 1, xs, s => bD (cf 0 [.src, .dat (.int xs.length) 0] s) fun d _ s1 => match d with
    | .int i => (match L2.ixN xs.length i with
      | some j => (match xs[j]? with
        | some x => (match anyRun cf n (xs.eraseIdx j) s1 with
          | some (r, s2) => some (x :: r, s2)
          | none => none)
        | none => none)
      | none => none)
    | _ => none
def anyOrd (cf : CF) (vs : List Slot) (s : Src) : R := match vs with
  | [.src, .dat (.list xs) _] => if xs.length ≤ LIM then (match anyRun cf xs.length xs s with
    | some (r, s1) => some (.dat (.list r) 1, s1)
    | none => none) else none
  | [.src, .dat (.tuple xs) _] => if xs.length ≤ LIM then (match anyRun cf xs.length xs s with
    | some (r, s1) => some (.dat (.list r) 1, s1)
    | none => none) else none
  | _ => none
/-- the program: each def by its number; number 0 is the draw, number 1 the drawn order -/
def callN (P : Nat → Option Def) : Nat → CF
  | 0, _, _, _ => none
  | k + 1, f, vs, s => if f = 0 then (match vs with
      | [.src, .dat (.int m) _] => if m ≤ 1000000 ∧ s.turn < 2 ^ 62 then some (.dat (.int (pick s m).1) 0, (pick s m).2) else none
      | _ => none)
    else if f = 1 then anyOrd (callN P k) vs s
    else match P f with
      | some d => runDef (callN P k) d vs s
      | none => none
end N
/-! N2. How data lie in the abstract heap: footprints, the relation of a row of slots to the frame, steps. -/
namespace N
open PySem PySem.Spec PyProof.Rows L2

/-- the dict's own object bears just these entries -/
def DictAt (a : Addr) (es : Array DictEntry) (ep : Nat) (h : Heap) : Prop := ∃ o, h.get? a = some o ∧ o.ExactDict ∧ o.data = .dict es ep
def DO (a : Addr) (es : Array DictEntry) (ep : Nat) : HO := .ext (DictAt a es ep)

/-- the world, the places of the source: its dict and its list -/
structure Cfg where
  prog : Program
  w : World
  sa : Addr
  ca : Addr
def Cfg.Live (c : Cfg) (a : Addr) : Prop := a ≠ c.sa ∧ a ≠ c.ca

section
variable (c : Cfg)
mutual
inductive Rep (H : Hp) : V → D → List Addr → Prop
  | non : Rep H .non .none []
  | bl (b : Bool) : Rep H (.bl b) (.bool b) []
  | int (i : Int) : Rep H (.int i) (.int i) []
  | str (x : Str) : Rep H (.str x) (.str x) []
  | tup {a vs ds as} : c.Live a → H a = some (.tup vs) → RepAll H vs ds as → Rep H (.ref a) (.tuple ds) as
  | lst {a vs ds as} : c.Live a → H a = some (.lst vs) → RepAll H vs ds as → Rep H (.ref a) (.list ds) (a :: as)
  | dct {a es ep kvs as} : c.Live a → (a == sysModules) = false → H a = some (DO a es ep) → es.size ≤ sizeLine → RepEs H es.toList kvs as →
      (kvs.map fun p => nk p.1).Nodup → (kvs.all (fun p => tkey p.1) || kvs.all (fun p => skey p.1)) = true → Rep H (.ref a) (.dict kvs) (a :: as)
inductive RepAll (H : Hp) : List V → List D → List Addr → Prop
  | nil : RepAll H [] [] []
  | cons {v vs d ds as bs} : Rep H v d as → RepAll H vs ds bs → RepAll H (v :: vs) (d :: ds) (as ++ bs)
inductive RepEs (H : Hp) : List DictEntry → List (D × D) → List Addr → Prop
  | nil : RepEs H [] [] []
  | cons {e es k d kvs v u as bs} : RelV u e.key → Rep H u k [] → e.hash = (nk k).hash c.w → RelV v e.val → Rep H v d as → RepEs H es kvs bs → RepEs H (e :: es) ((k, d) :: kvs) (as ++ bs)
end
end

section
variable {c : Cfg} {H H' : Hp}

/-- what a thing at v leans on: the tuples, and the footprint -/
def Kp (c : Cfg) (H H' : Hp) (as : List Addr) : Prop := ∀ a o, H a = some o → c.Live a → (∃ vs, o = .tup vs) ∨ a ∈ as → H' a = some o
theorem Kp.sub {as bs : List Addr} (k : Kp c H H' as) (h : ∀ a ∈ bs, a ∈ as) : Kp c H H' bs := fun a o e l q => k a o e l (q.imp id (h a))
mutual
theorem Rep.keep : ∀ {v : V} {d : D} {as : List Addr}, Kp c H H' as → Rep c H v d as → Rep c H' v d as
  | _, _, _, k, .non => .non
  | _, _, _, k, .bl b => .bl b
  | _, _, _, k, .int i => .int i
  | _, _, _, k, .str x => .str x
  | _, _, _, k, .tup l e r => .tup l (k _ _ e l (.inl ⟨_, rfl⟩)) (RepAll.keep k r)
  | _, _, _, k, .lst l e r => .lst l (k _ _ e l (.inr List.mem_cons_self)) (RepAll.keep (k.sub fun a h => List.mem_cons_of_mem _ h) r)
  | _, _, _, k, .dct l m e z r n g => .dct l m (k _ _ e l (.inr List.mem_cons_self)) z (RepEs.keep (k.sub fun a h => List.mem_cons_of_mem _ h) r) n g
theorem RepAll.keep : ∀ {vs : List V} {ds : List D} {as : List Addr}, Kp c H H' as → RepAll c H vs ds as → RepAll c H' vs ds as
  | _, _, _, k, .nil => .nil
  | _, _, _, k, .cons r t => .cons (Rep.keep (k.sub fun a h => List.mem_append_left _ h) r) (RepAll.keep (k.sub fun a h => List.mem_append_right _ h) t)
theorem RepEs.keep : ∀ {es : List DictEntry} {kvs : List (D × D)} {as : List Addr}, Kp c H H' as → RepEs c H es kvs as → RepEs c H' es kvs as
  | _, _, _, k, .nil => .nil
  | _, _, _, k, .cons r q hh rv r2 t => .cons r (Rep.keep (k.sub fun a h => nomatch h) q) hh rv (Rep.keep (k.sub fun a h => List.mem_append_left _ h) r2) (RepEs.keep (k.sub fun a h => List.mem_append_right _ h) t)
end
theorem RepAll.length : ∀ {vs : List V} {ds : List D} {as : List Addr}, RepAll c H vs ds as → vs.length = ds.length
  | _, _, _, .nil => rfl
  | _, _, _, .cons _ t => by rw [List.length_cons, List.length_cons, t.length]
theorem RepEs.length : ∀ {es : List DictEntry} {kvs : List (D × D)} {as : List Addr}, RepEs c H es kvs as → es.length = kvs.length
  | _, _, _, .nil => rfl
  | _, _, _, .cons _ _ _ _ _ t => by rw [List.length_cons, List.length_cons, t.length]
/-- the item at a place -/
theorem RepAll.get : ∀ {vs : List V} {ds : List D} {as : List Addr} {i : Nat} {v : V}, RepAll c H vs ds as → vs[i]? = some v → ∃ d bs, ds[i]? = some d ∧ Rep c H v d bs ∧ ∀ a ∈ bs, a ∈ as
  | _, _, _, i, v, .nil, e => by simp at e
  | _, _, _, 0, v, .cons r _, e => by
    simp at e; subst e
    exact ⟨_, _, rfl, r, fun a h => List.mem_append_left _ h⟩
  | _, _, _, i + 1, v, .cons _ t, e => by
    obtain ⟨d, bs, h1, h2, h3⟩ := t.get (i := i) (v := v) (by simpa using e)
    exact ⟨d, bs, by simpa using h1, h2, fun a h => List.mem_append_right _ (h3 a h)⟩
theorem RepAll.get' {vs : List V} {ds : List D} {as : List Addr} {i : Nat} {d : D} (r : RepAll c H vs ds as) (h : ds[i]? = some d) : ∃ v bs, vs[i]? = some v ∧ Rep c H v d bs ∧ ∀ a ∈ bs, a ∈ as := by
  have hi : i < ds.length := (List.getElem?_eq_some_iff.mp h).1
  have hi' : i < vs.length := by rw [r.length]; exact hi
  obtain ⟨d', bs, h1, h2, h3⟩ := r.get (List.getElem?_eq_getElem hi')
  rw [h] at h1; cases h1
  exact ⟨_, bs, List.getElem?_eq_getElem hi', h2, h3⟩
theorem RepAll.append : ∀ {vs : List V} {ds : List D} {as : List Addr} {ws : List V} {es : List D} {bs : List Addr}, RepAll c H vs ds as → RepAll c H ws es bs → RepAll c H (vs ++ ws) (ds ++ es) (as ++ bs)
  | _, _, _, _, _, _, .nil, t => t
  | _, _, _, _, _, _, .cons r q, t => by
    rw [List.cons_append, List.cons_append, List.append_assoc]
    exact .cons r (RepAll.append q t)
theorem RepEs.append : ∀ {vs : List DictEntry} {ds : List (D × D)} {as : List Addr} {ws : List DictEntry} {es : List (D × D)} {bs : List Addr}, RepEs c H vs ds as → RepEs c H ws es bs → RepEs c H (vs ++ ws) (ds ++ es) (as ++ bs)
  | _, _, _, _, _, _, .nil, t => t
  | _, _, _, _, _, _, .cons r q hh rv r2 t', t => by
    rw [List.cons_append, List.cons_append, List.append_assoc]
    exact .cons r q hh rv r2 (RepEs.append t' t)
/-- some of the items, with a footprint within -/
theorem RepAll.part {vs : List V} {ds : List D} {as : List Addr} (r : RepAll c H vs ds as) : ∀ (js : List Nat) (ws : List V) (es : List D), (∀ j ∈ js, j < vs.length) → ws = js.filterMap (fun j => vs[j]?) → es = js.filterMap (fun j => ds[j]?) → ∃ bs, RepAll c H ws es bs ∧ ∀ a ∈ bs, a ∈ as
  | [], _, _, _, h1, h2 => by subst h1; subst h2; exact ⟨[], .nil, fun _ h => nomatch h⟩
  | j :: js, ws, es, hj, h1, h2 => by
    have q : j < vs.length := hj j List.mem_cons_self
    obtain ⟨d, bs, e1, e2, e3⟩ := r.get (List.getElem?_eq_getElem q)
    obtain ⟨cs, e4, e5⟩ := RepAll.part r js _ _ (fun i h => hj i (List.mem_cons_of_mem _ h)) rfl rfl
    subst h1; subst h2
    rw [List.filterMap_cons, List.filterMap_cons, List.getElem?_eq_getElem q, e1]
    exact ⟨_, .cons e2 e4, fun a h => (List.mem_append.mp h).elim (e3 a) (e5 a)⟩
theorem RepAll.take {vs : List V} {ds : List D} {as : List Addr} : ∀ (n : Nat), RepAll c H vs ds as → ∃ bs, RepAll c H (vs.take n) (ds.take n) bs ∧ bs.Sublist as
  | 0, _ => ⟨[], by rw [List.take_zero, List.take_zero]; exact .nil, List.nil_sublist _⟩
  | n + 1, .nil => ⟨[], .nil, List.nil_sublist _⟩
  | n + 1, .cons r t => by
    obtain ⟨bs, h1, h2⟩ := RepAll.take n t
    exact ⟨_, .cons r h1, (List.Sublist.refl _).append h2⟩
theorem RepAll.drop {vs : List V} {ds : List D} {as : List Addr} : ∀ (n : Nat), RepAll c H vs ds as → ∃ bs, RepAll c H (vs.drop n) (ds.drop n) bs ∧ bs.Sublist as
  | 0, r => ⟨as, r, List.Sublist.refl _⟩
  | n + 1, .nil => ⟨[], .nil, List.nil_sublist _⟩
  | n + 1, .cons r t => by
    obtain ⟨bs, h1, h2⟩ := RepAll.drop n t
    exact ⟨_, h1, h2.trans (List.sublist_append_right _ _)⟩
mutual
/-- the footprint is tracked, and live -/
theorem Rep.foot : ∀ {v : V} {d : D} {as : List Addr}, Rep c H v d as → ∀ a ∈ as, H a ≠ Option.none ∧ c.Live a ∧ ∀ ws, H a ≠ some (HO.tup ws)
  | _, _, _, .non, _, h => nomatch h
  | _, _, _, .bl b, _, h => nomatch h
  | _, _, _, .int i, _, h => nomatch h
  | _, _, _, .str x, _, h => nomatch h
  | _, _, _, .tup l e r, a, h => RepAll.foot r a h
  | _, _, _, .lst l e r, a, h => by
    rcases List.mem_cons.mp h with rfl | h
    · exact ⟨fun z => (by rw [e] at z; cases z), l, fun ws z => (by rw [e] at z; cases z)⟩
    · exact RepAll.foot r a h
  | _, _, _, .dct l m e z r n g, a, h => by
    rcases List.mem_cons.mp h with rfl | h
    · exact ⟨fun z => (by rw [e] at z; cases z), l, fun ws z => (by rw [e] at z; cases z)⟩
    · exact RepEs.foot r a h
theorem RepAll.foot : ∀ {vs : List V} {ds : List D} {as : List Addr}, RepAll c H vs ds as → ∀ a ∈ as, H a ≠ Option.none ∧ c.Live a ∧ ∀ ws, H a ≠ some (HO.tup ws)
  | _, _, _, .nil, _, h => nomatch h
  | _, _, _, .cons r t, a, h => (List.mem_append.mp h).elim (Rep.foot r a) (RepAll.foot t a)
theorem RepEs.foot : ∀ {es : List DictEntry} {kvs : List (D × D)} {as : List Addr}, RepEs c H es kvs as → ∀ a ∈ as, H a ≠ Option.none ∧ c.Live a ∧ ∀ ws, H a ≠ some (HO.tup ws)
  | _, _, _, .nil, _, h => nomatch h
  | _, _, _, .cons r q hh rv r2 t, a, h => (List.mem_append.mp h).elim (Rep.foot r2 a) (RepEs.foot t a)
end
mutual
/-- data without containers have no footprint -/
theorem Rep.imm : ∀ {v : V} {d : D} {as : List Addr}, Rep c H v d as → imm d = true → as = []
  | _, _, _, .non, _ => rfl
  | _, _, _, .bl b, _ => rfl
  | _, _, _, .int i, _ => rfl
  | _, _, _, .str x, _ => rfl
  | _, _, _, .tup l e r, h => RepAll.imm r (by simpa [N.imm] using h)
  | _, _, _, .lst l e r, h => by simp [N.imm] at h
  | _, _, _, .dct l m e z r n g, h => by simp [N.imm] at h
theorem RepAll.imm : ∀ {vs : List V} {ds : List D} {as : List Addr}, RepAll c H vs ds as → immAll ds = true → as = []
  | _, _, _, .nil, _ => rfl
  | _, _, _, .cons r t, h => by
    rw [N.immAll, Bool.and_eq_true] at h
    rw [Rep.imm r h.1, RepAll.imm t h.2]
    rfl
end

/-- what stood, but the source, stands -/
def Ext (c : Cfg) (H H' : Hp) : Prop := (∀ a o, H a = some o → c.Live a → H' a = some o) ∧ ∀ a, H a ≠ none → H' a ≠ none
theorem Ext.refl : Ext c H H := ⟨fun _ _ e _ => e, fun _ e => e⟩
theorem Ext.trans {H1 H2 H3 : Hp} (a : Ext c H1 H2) (b : Ext c H2 H3) : Ext c H1 H3 := ⟨fun x o e l => b.1 x o (a.1 x o e l) l, fun x e => b.2 x (a.2 x e)⟩
theorem Ext.kp (a : Ext c H H') (as : List Addr) : Kp c H H' as := fun x o e l _ => a.1 x o e l
theorem Ext.upd {p : Addr} {o : HO} (n : H p = none) : Ext c H (upd H p o) := ⟨fun a o' e _ => by rw [upd_ne (ne_of_none e n)]; exact e, fun a e => by
  by_cases h : a = p
  · subst h; rw [upd_same]; exact fun z => nomatch z
  · rw [upd_ne h]; exact e⟩
theorem Ext.none (e : Ext c H H') {a : Addr} (n : H' a = none) : H a = none := by
  cases q : H a with
  | none => rfl
  | some o => exact absurd n (e.2 a (by rw [q]; exact fun z => nomatch z))
theorem Rep.ext {v : V} {d : D} {as : List Addr} (r : Rep c H v d as) (e : Ext c H H') : Rep c H' v d as := r.keep (e.kp _)
theorem RepAll.ext {vs : List V} {ds : List D} {as : List Addr} (r : RepAll c H vs ds as) (e : Ext c H H') : RepAll c H' vs ds as := r.keep (e.kp _)
theorem RepEs.ext {vs : List DictEntry} {ds : List (D × D)} {as : List Addr} (r : RepEs c H vs ds as) (e : Ext c H H') : RepEs c H' vs ds as := r.keep (e.kp _)

/-! ### the source of draws -/
def srcKvs (c : Cfg) (s : Src) : List (Key × V) := [(.inr "cells", .ref c.ca), (.inr "left", .int s.left), (.inr "mixed", .int s.mixed), (.inr "turn", .int s.turn)]
structure SrcAt (c : Cfg) (H : Hp) (s : Src) : Prop where
  d : H c.sa = some (.dK (srcKvs c s))
  l : H c.ca = some (.lst (s.cells.reverse.map V.int))
  ne : c.sa ≠ c.ca
  turn : 0 ≤ s.turn
theorem SrcAt.ext {s : Src} (x : SrcAt c H s) (h1 : H' c.sa = H c.sa) (h2 : H' c.ca = H c.ca) : SrcAt c H' s := ⟨h1.trans x.d, h2.trans x.l, x.ne, x.turn⟩
theorem SrcAt.upd {s : Src} {p : Addr} {o : HO} (x : SrcAt c H s) (n : H p = none) : SrcAt c (upd H p o) s :=
  x.ext (upd_ne (ne_of_none x.d n)) (upd_ne (ne_of_none x.l n))

/-! ### slots -/
def SlotRep (c : Cfg) (H : Hp) (x : Option (Option V)) : Option Slot → List Addr → Prop
  | none, as => as = []
  | some (.dat d o), as => ∃ v, x = some (some v) ∧ Rep c H v d as
  | some .src, as => x = some (some (.ref c.sa)) ∧ as = []
/-- what of a slot's footprint is its own -/
def ownA : Option Slot → List Addr → List Addr
  | some (.dat _ 0), _ => []
  | some (.dat _ 1), F => F.take 1
  | some (.dat _ (_ + 2)), F => F
  | _, _ => []
theorem ownA_sub {x : Option Slot} {F : List Addr} {a : Addr} (h : a ∈ ownA x F) : a ∈ F := by
  unfold ownA at h
  split at h
  · nomatch h
  · exact List.mem_of_mem_take h
  · exact h
  · nomatch h
abbrev Foot := Nat → List Addr
def Owned (env : Env) (F : Foot) (a : Addr) : Prop := ∃ i, a ∈ ownA (getv env i) (F i)
structure Rel (c : Cfg) (env : Env) (σ : L2.St) (H : Hp) (F : Foot) : Prop where
  len : env.length = σ.length
  rep : ∀ i, SlotRep c H σ[i]? (getv env i) (F i)
  one : ∀ i a, a ∈ ownA (getv env i) (F i) → (F i).count a = 1
  apart : ∀ i a, a ∈ ownA (getv env i) (F i) → ∀ j, j ≠ i → a ∉ F j
theorem SlotRep.keep {x : Option (Option V)} {sl : Option Slot} {as : List Addr} (r : SlotRep c H x sl as) (k : Kp c H H' as) : SlotRep c H' x sl as := by
  cases sl with
  | none => exact r
  | some y =>
    cases y with
    | dat d o => obtain ⟨v, e, q⟩ := r; exact ⟨v, e, q.keep k⟩
    | src => exact r
theorem Rel.ext {env : Env} {σ : L2.St} {F : Foot} (r : Rel c env σ H F) (e : Ext c H H') : Rel c env σ H' F := ⟨r.len, fun i => (r.rep i).keep (e.kp _), r.one, r.apart⟩
theorem Rel.foot {env : Env} {σ : L2.St} {F : Foot} (r : Rel c env σ H F) {i : Nat} {a : Addr} (h : a ∈ F i) : H a ≠ Option.none ∧ c.Live a ∧ ∀ ws, H a ≠ some (HO.tup ws) := by
  have q := r.rep i
  cases e : getv env i with
  | none => rw [e] at q; rw [show F i = [] from q] at h; nomatch h
  | some x =>
    rw [e] at q
    cases x with
    | dat d o => obtain ⟨v, _, q⟩ := q; exact q.foot a h
    | src => rw [q.2] at h; nomatch h

/-- a value that came of an expression: its footprint is new, or of the names' -/
structure Val (c : Cfg) (env : Env) (F : Foot) (al : List Nat) (H : Hp) (v : V) (r : Slot) (G : List Addr) (H' : Hp) : Prop where
  ext : Ext c H H'
  rep : SlotRep c H' (some (some v)) (some r) G
  foot : ∀ a ∈ G, H a = none ∨ ∃ i ∈ al, a ∈ F i
  own : ∀ a ∈ ownA (some r) G, H a = none ∧ G.count a = 1

/-- a step of statements: only own containers are changed -/
structure Step (c : Cfg) (env : Env) (F : Foot) (H : Hp) (env' : Env) (F' : Foot) (H' : Hp) : Prop where
  frame : ∀ a o, H a = some o → c.Live a → ¬ Owned env F a → H' a = some o
  tr : ∀ a, H a ≠ none → H' a ≠ none
  own : ∀ a, Owned env' F' a → Owned env F a ∨ H a = none
  foot : ∀ i a, a ∈ F' i → (∃ j, a ∈ F j) ∨ H a = none
theorem Step.none {env env' : Env} {F F' : Foot} (s : Step c env F H env' F' H') {a : Addr} (n : H' a = none) : H a = none := by
  cases q : H a with
  | none => rfl
  | some o => exact absurd n (s.tr a (by rw [q]; exact fun z => nomatch z))
theorem Step.refl {env : Env} {F : Foot} : Step c env F H env F H := ⟨fun _ _ e _ _ => e, fun _ e => e, fun _ h => .inl h, fun i _ h => .inl ⟨i, h⟩⟩
theorem Step.trans {e1 e2 e3 : Env} {F1 F2 F3 : Foot} {H1 H2 H3 : Hp} (a : Step c e1 F1 H1 e2 F2 H2) (b : Step c e2 F2 H2 e3 F3 H3) : Step c e1 F1 H1 e3 F3 H3 where
  frame := fun x o e l n => b.frame x o (a.frame x o e l n) l fun z => (a.own x z).elim n fun q => by rw [e] at q; cases q
  tr := fun x e => b.tr x (a.tr x e)
  own := fun x h => (b.own x h).elim (a.own x) fun q => .inr (a.none q)
  foot := fun i x h => by
    rcases b.foot i x h with ⟨j, q⟩ | q
    · exact a.foot j x q
    · exact .inr (a.none q)
theorem Ext.step {env : Env} {F : Foot} (e : Ext c H H') : Step c env F H env F H' := ⟨fun a o h l _ => e.1 a o h l, e.2, fun _ h => .inl h, fun i _ h => .inl ⟨i, h⟩⟩
end
end N
/-! N3. Operators on data: the rules of the layer, said of the interpreter's own operations. -/
namespace N
open PySem PySem.Spec PyProof.Rows L2

structure Tk (c : Cfg) (H : Hp) : Prop where
  s : H c.sa ≠ none
  l : H c.ca ≠ none
theorem SrcAt.tk {c : Cfg} {H : Hp} {s : Src} (x : SrcAt c H s) : Tk c H := ⟨fun z => (by rw [x.d] at z; cases z), fun z => (by rw [x.l] at z; cases z)⟩
theorem Tk.live {c : Cfg} {H : Hp} (k : Tk c H) {p : Addr} (n : H p = none) : c.Live p := ⟨fun e => k.s (e ▸ n), fun e => k.l (e ▸ n)⟩
theorem Tk.same {c : Cfg} {H H' : Hp} (k : Tk c H) (e : Same H H') : Tk c H' := by
  constructor
  · intro z; exact k.s (e.free z)
  · intro z; exact k.l (e.free z)
theorem same_upd {H : Hp} {p : Addr} {o : HO} (h : H p = none) : Same H (upd H p o) := fun b x e => by rw [upd_ne (ne_of_none e h)]; exact e
theorem same_ext {c : Cfg} {H H' : Hp} (e : Same H H') : Ext c H H' := ⟨fun a o q _ => e a o q, fun a q z => q (e.free z)⟩

/-- what is wanted of an operation's result: new objects, the footprint within U or new -/
def Res (c : Cfg) (H : Hp) (U : List Addr) (r : D) (o : Nat) (Q : VK) : Prop :=
  ∀ v H' A, Same H H' → Rep c H' v r A → (∀ a ∈ A, H a = none ∨ a ∈ U) → (∀ a ∈ ownA (some (.dat r o)) A, H a = none ∧ A.count a = 1) → Q v H'
theorem ownA_nil {r : D} {o : Nat} {a : Addr} (h : a ∈ ownA (some (.dat r o)) []) : False := nomatch ownA_sub h
theorem Res.flat {c : Cfg} {H : Hp} {U : List Addr} {r : D} {o : Nat} {Q : VK} (h : Res c H U r o Q) {v : V} (e : Rep c H v r []) : Q v H :=
  h v H [] (Same.refl H) e (fun _ z => nomatch z) fun _ z => (ownA_nil z).elim
/-- a new tuple -/
theorem Res.newT {c : Cfg} {H : Hp} {U : List Addr} {ds : List D} {Q : VK} (h : Res c H U (.tuple ds) 0 Q) (k : Tk c H) {p : Addr} (n : H p = none) {vs : List V} {A : List Addr} (r : RepAll c H vs ds A) (u : ∀ a ∈ A, a ∈ U) : Q (.ref p) (upd H p (.tup vs)) :=
  h _ _ A (same_upd n) (.tup (k.live n) upd_same (r.ext (same_ext (same_upd n)))) (fun a z => .inr (u a z)) fun _ z => nomatch z
/-- a new list -/
theorem Res.newL {c : Cfg} {H : Hp} {U : List Addr} {ds : List D} {Q : VK} (h : Res c H U (.list ds) 1 Q) (k : Tk c H) {p : Addr} (n : H p = none) {vs : List V} {A : List Addr} (r : RepAll c H vs ds A) (u : ∀ a ∈ A, a ∈ U) : Q (.ref p) (upd H p (.lst vs)) := by
  have np : p ∉ A := fun z => (RepAll.foot r p z).1 n
  refine h _ _ (p :: A) (same_upd n) (.lst (k.live n) upd_same (r.ext (same_ext (same_upd n)))) (fun a z => ?_) fun a z => ?_
  · rcases List.mem_cons.mp z with rfl | z
    · exact .inl n
    · exact .inr (u a z)
  · have e : a = p := by simpa [ownA] using z
    subst e
    exact ⟨n, by rw [List.count_cons_self, List.count_eq_zero.mpr np]⟩
theorem Res.mono {c : Cfg} {H : Hp} {U U' : List Addr} {r : D} {o : Nat} {Q : VK} (h : Res c H U r o Q) (s : ∀ a ∈ U', a ∈ U) : Res c H U' r o Q := fun v H' A e q f w => h v H' A e q (fun a z => (f a z).imp id (s a)) w
/-- a part of what stands -/
theorem Res.part {c : Cfg} {H : Hp} {U : List Addr} {r : D} {Q : VK} (h : Res c H U r 0 Q) {v : V} {A : List Addr} (e : Rep c H v r A) (u : ∀ a ∈ A, a ∈ U) : Q v H := h v H A (Same.refl H) e (fun a z => .inr (u a z)) fun _ z => nomatch z

theorem Rep.int_inv {c : Cfg} {H : Hp} {v : V} {i : Int} {A : List Addr} (r : Rep c H v (.int i) A) : v = .int i ∧ A = [] := by cases r; exact ⟨rfl, rfl⟩
theorem Rep.bool_inv {c : Cfg} {H : Hp} {v : V} {i : Bool} {A : List Addr} (r : Rep c H v (.bool i) A) : v = .bl i ∧ A = [] := by cases r; exact ⟨rfl, rfl⟩
theorem Rep.str_inv {c : Cfg} {H : Hp} {v : V} {i : Str} {A : List Addr} (r : Rep c H v (.str i) A) : v = .str i ∧ A = [] := by cases r; exact ⟨rfl, rfl⟩
theorem Rep.none_inv {c : Cfg} {H : Hp} {v : V} {A : List Addr} (r : Rep c H v .none A) : v = .non ∧ A = [] := by cases r; exact ⟨rfl, rfl⟩
theorem Rep.tup_inv {c : Cfg} {H : Hp} {v : V} {ds : List D} {A : List Addr} (r : Rep c H v (.tuple ds) A) : ∃ a vs, v = .ref a ∧ H a = some (.tup vs) ∧ RepAll c H vs ds A := by cases r with | tup l e q => exact ⟨_, _, rfl, e, q⟩
theorem Rep.lst_inv {c : Cfg} {H : Hp} {v : V} {ds : List D} {A : List Addr} (r : Rep c H v (.list ds) A) : ∃ a vs B, v = .ref a ∧ A = a :: B ∧ c.Live a ∧ H a = some (.lst vs) ∧ RepAll c H vs ds B := by cases r with | lst l e q => exact ⟨_, _, _, rfl, rfl, l, e, q⟩
theorem Rep.dct_inv {c : Cfg} {H : Hp} {v : V} {kvs : List (D × D)} {A : List Addr} (r : Rep c H v (.dict kvs) A) : ∃ a es B, v = .ref a ∧ A = a :: B ∧ c.Live a ∧ (a == sysModules) = false ∧ (∃ ep, H a = some (DO a es ep)) ∧ es.size ≤ sizeLine ∧ RepEs c H es.toList kvs B ∧ (kvs.map fun p => nk p.1).Nodup ∧ (kvs.all (fun p => tkey p.1) || kvs.all (fun p => skey p.1)) = true := by
  cases r with | dct l m e z q n g => exact ⟨_, _, _, rfl, rfl, l, m, ⟨_, e⟩, z, q, n, g⟩
theorem lim_eq : LIM = sizeLine := sizeLine_eq.symm

def rBin (c : Cfg) (op : Operator) : R2 := fun x y H Q => Tk c H ∧ ∃ d e F G r o, Rep c H x d F ∧ Rep c H y e G ∧ binD op d e = some (r, o) ∧ Res c H (F ++ G) r o Q
theorem smallI_ok {i j : Int} (h : (smallI i || smallI j) = true) : CMul i j := by
  unfold smallI at h
  simp only [Bool.or_eq_true, Bool.and_eq_true, decide_eq_true_eq] at h
  exact h
section
variable {X : Cx} {c : Cfg}
theorem op_bin {op : Operator} : OpR X (binaryOp op) (rBin c op) := by
  intro pins s σ H x y v u Q I rx ry h
  obtain ⟨k, d, e, F, G, r, o, hx, hy, hb, q⟩ := h
  unfold binD at hb
  split at hb
  · obtain ⟨rfl, rfl⟩ := hx.int_inv; obtain ⟨rfl, rfl⟩ := hy.int_inv
    cases hb
    exact op_add pins s σ H _ _ v u Q I rx ry ⟨_, _, rfl, rfl, q.flat (.int _)⟩
  · obtain ⟨rfl, rfl⟩ := hx.int_inv; obtain ⟨rfl, rfl⟩ := hy.bool_inv
    cases hb
    exact op_add_ib pins s σ H _ _ v u Q I rx ry ⟨_, _, rfl, rfl, q.flat (by show Rep c H (.int _) (.int _) []; exact .int _)⟩
  · obtain ⟨rfl, rfl⟩ := hx.str_inv; obtain ⟨rfl, rfl⟩ := hy.str_inv
    split at hb
    · rename_i hl
      cases hb
      exact op_add_str pins s σ H _ _ v u Q I rx ry ⟨_, _, rfl, rfl, by rw [← lim_eq]; exact hl, q.flat (.str _)⟩
    · cases hb
  · obtain ⟨a, vs, rfl, ha, ra⟩ := hx.tup_inv; obtain ⟨b, ws, rfl, hb', rb⟩ := hy.tup_inv
    split at hb
    · rename_i hl
      cases hb
      refine op_catA pins s σ H _ _ v u Q I rx ry ⟨a, b, vs, ws, rfl, rfl, .of ha, .of hb', by rw [ra.length, rb.length, ← lim_eq]; exact hl, ?_⟩
      refine ⟨fun z => ?_, fun _ z => ?_, fun _ _ p np => ?_⟩
      · subst z
        cases ra
        exact q.part (.tup (by cases hy; assumption) hb' rb) fun a z => List.mem_append_right _ z
      · subst z
        cases rb
        exact q.part (.tup (by cases hx; assumption) ha (by rw [List.append_nil]; exact ra)) fun a z => List.mem_append_left _ z
      · exact q.newT k np (ra.append rb) fun _ z => z
    · cases hb
  · obtain ⟨a, vs, A, rfl, rfl, la, ha, ra⟩ := hx.lst_inv; obtain ⟨b, ws, B, rfl, rfl, lb, hb', rb⟩ := hy.lst_inv
    split at hb
    · rename_i hl
      cases hb
      exact op_cat pins s σ H _ _ v u Q I rx ry ⟨a, b, vs, ws, rfl, rfl, ha, hb', by rw [ra.length, rb.length, ← lim_eq]; exact hl, fun p np => q.newL k np (ra.append rb) fun x z => by
        rcases List.mem_append.mp z with z | z
        · exact List.mem_append_left _ (List.mem_cons_of_mem _ z)
        · exact List.mem_append_right _ (List.mem_cons_of_mem _ z)⟩
    · cases hb
  · obtain ⟨rfl, rfl⟩ := hx.int_inv; obtain ⟨rfl, rfl⟩ := hy.int_inv
    cases hb
    exact op_sub pins s σ H _ _ v u Q I rx ry ⟨_, _, rfl, rfl, q.flat (.int _)⟩
  · obtain ⟨rfl, rfl⟩ := hx.int_inv; obtain ⟨rfl, rfl⟩ := hy.int_inv
    split at hb
    · rename_i hl
      cases hb
      exact op_mul pins s σ H _ _ v u Q I rx ry ⟨_, _, rfl, rfl, smallI_ok hl, q.flat (.int _)⟩
    · cases hb
  · rename_i xs j
    obtain ⟨a, vs, A, rfl, rfl, la, ha, ra⟩ := hx.lst_inv; obtain ⟨rfl, rfl⟩ := hy.int_inv
    split at hb
    · rename_i hl
      cases hb
      refine op_rep pins s σ H _ _ v u Q I rx ry ⟨a, _, vs, rfl, rfl, ha, hl.2.1, hl.2.2, by rw [ra.length, ← lim_eq]; exact hl.1, fun p np => ?_⟩
      have rep : ∀ n : Nat, ∃ B, RepAll c H (List.replicate n vs).flatten (List.replicate n xs).flatten B ∧ ∀ x ∈ B, x ∈ A := fun n => by
        induction n with
        | zero => exact ⟨[], .nil, fun _ z => nomatch z⟩
        | succ n ih =>
          obtain ⟨B, h1, h2⟩ := ih
          rw [List.replicate_succ, List.replicate_succ, List.flatten_cons, List.flatten_cons]
          exact ⟨A ++ B, ra.append h1, fun x z => (List.mem_append.mp z).elim id (h2 x)⟩
      obtain ⟨B, h1, h2⟩ := rep _
      exact q.newL k np h1 fun x z => List.mem_append_left _ (List.mem_cons_of_mem _ (h2 x z))
    · cases hb
  · obtain ⟨rfl, rfl⟩ := hx.int_inv; obtain ⟨rfl, rfl⟩ := hy.int_inv
    split at hb
    · rename_i hl
      cases hb
      exact op_fdiv pins s σ H _ _ v u Q I rx ry ⟨_, _, rfl, rfl, hl, q.flat (.int _)⟩
    · cases hb
  · obtain ⟨rfl, rfl⟩ := hx.int_inv; obtain ⟨rfl, rfl⟩ := hy.int_inv
    split at hb
    · rename_i hl
      cases hb
      exact op_mod pins s σ H _ _ v u Q I rx ry ⟨_, _, rfl, rfl, hl, q.flat (.int _)⟩
    · cases hb
  · cases hb

/-! ### comparisons -/
mutual
/-- data without dicts, as the library's rules ask them -/
theorem Rep.dp {K : PySem.W.Frag} {H : Hp} : ∀ {v : V} {d : D} {A : List Addr}, Rep c H v d A → d.plain = true → Dp K H v d
  | _, _, _, .non, _ => .non
  | _, _, _, .bl b, _ => .bl b
  | _, _, _, .int i, _ => .int i
  | _, _, _, .str x, _ => .str x
  | _, _, _, .tup l e r, h => .tup (.of e) (RepAll.dp r (by simpa [PyData.plain] using h))
  | _, _, _, .lst l e r, h => .lst (.of e) (RepAll.dp r (by simpa [PyData.plain] using h))
  | _, _, _, .dct l m e z r n g, h => by simp [PyData.plain] at h
theorem RepAll.dp {K : PySem.W.Frag} {H : Hp} : ∀ {vs : List V} {ds : List D} {A : List Addr}, RepAll c H vs ds A → PyData.plainAll ds = true → DpAll K H vs ds
  | _, _, _, .nil, _ => .nil
  | _, _, _, .cons r t, h => by
    rw [PyData.plainAll, Bool.and_eq_true] at h
    exact .cons (Rep.dp r h.1) (RepAll.dp t h.2)
end
theorem Rep.reads {pins : List (Addr × Obj)} {s : Shared} {σ : L2.St} {H : Hp} {v : V} {u : Value} {d : D} {A : List Addr} (r : Rep c H v d A) (I : Inv X pins σ H s) (rv : RelV v u) (h : d.plain = true) : ∃ as, Reads s.heap u d as := Dp.reads I d v u (r.dp h) rv
theorem RepAll.reads {pins : List (Addr × Obj)} {s : Shared} {σ : L2.St} {H : Hp} {vs : List V} {us : List Value} {ds : List D} {A : List Addr} (r : RepAll c H vs ds A) (I : Inv X pins σ H s) (rv : Vals vs us) (h : PyData.plainAll ds = true) : ∃ as, ReadsAll s.heap us ds as := Dp.readsAll I ds vs us (r.dp h) rv

theorem all_of {p : D → Bool} {ds : List D} (h : ds.all p = true) : ∀ d ∈ ds, p d = true := List.all_eq_true.mp h

/-- a comparison of data -/
def rCmp (c : Cfg) (op : CmpOp) : R2 := fun x y H Q => Tk c H ∧ ∃ d e F G r, Rep c H x d F ∧ Rep c H y e G ∧ cmpD op d e = some r ∧ Q (.bl r) H
theorem ordOk_out {a b : D} (h : ordOk a b = true) : PySem.W.alike a b = true ∧ a.plain = true ∧ b.plain = true ∧ a ≠ .none ∧ min a.depth b.depth ≤ 60 := by
  unfold ordOk at h
  simp only [Bool.and_eq_true, decide_eq_true_eq] at h
  obtain ⟨⟨⟨⟨h1, h2⟩, h3⟩, h4⟩, h5⟩ := h
  exact ⟨h1, h2, h3, fun z => (by subst z; cases h4), h5⟩
theorem eqOk_out {a b : D} (h : eqOk a b = true) : a.plain = true ∧ b.plain = true ∧ min a.depth b.depth ≤ 60 := by
  unfold eqOk at h
  simp only [Bool.and_eq_true, decide_eq_true_eq] at h
  exact ⟨h.1.1, h.1.2, h.2⟩
theorem op_cmp_ord {op : CmpOp} (hu : X.A.units + 70 < cLine) (ho : op ≠ .In) (hn : op ≠ .NotIn) (hi : op ≠ .Is) (hj : op ≠ .IsNot) : OpR X (compareOp op) (rCmp c op) := by
  intro pins s σ H x y v u Q I rx ry h
  obtain ⟨k, d, e, F, G, r, hx, hy, hb, q⟩ := h
  have fin : EP X pins σ Q (.bool r) s := ⟨.bl r, H, I, rfl, q⟩
  cases op with
  | Eq =>
    have hb : (if eqOk d e = true then some (PyData.eqv d e) else none) = some r := hb
    split at hb
    · rename_i g
      cases hb
      obtain ⟨p1, p2, p3⟩ := eqOk_out g
      obtain ⟨as, h1⟩ := hx.reads I rx p1
      obtain ⟨bs, h2⟩ := hy.reads I ry p2
      exact SeqAt.eq_plain h1 h2 p1 p2 (by omega) fin
    · cases hb
  | NotEq =>
    have hb : (if eqOk d e = true then some (!PyData.eqv d e) else none) = some r := hb
    split at hb
    · rename_i g
      cases hb
      obtain ⟨p1, p2, p3⟩ := eqOk_out g
      obtain ⟨as, h1⟩ := hx.reads I rx p1
      obtain ⟨bs, h2⟩ := hy.reads I ry p2
      exact SeqAt.ne_plain h1 h2 p1 p2 (by omega) fin
    · cases hb
  | Lt =>
    have hb : (if ordOk d e = true then some (PySem.W.dataLt d e) else none) = some r := hb
    split at hb
    · rename_i g
      cases hb
      obtain ⟨p0, p1, p2, p4, p3⟩ := ordOk_out g
      obtain ⟨as, h1⟩ := hx.reads I rx p1
      obtain ⟨bs, h2⟩ := hy.reads I ry p2
      exact PySem.W.lt_data h1 h2 p0 p4 (by omega) fin
    · cases hb
  | LtE =>
    have hb : (if ordOk d e = true then some (!PySem.W.dataLt e d) else none) = some r := hb
    split at hb
    · rename_i g
      cases hb
      obtain ⟨p0, p1, p2, p4, p3⟩ := ordOk_out g
      obtain ⟨as, h1⟩ := hx.reads I rx p1
      obtain ⟨bs, h2⟩ := hy.reads I ry p2
      exact PySem.W.le_data h1 h2 p0 p4 (by omega) fin
    · cases hb
  | Gt =>
    have hb : (if ordOk d e = true then some (PySem.W.dataLt e d) else none) = some r := hb
    split at hb
    · rename_i g
      cases hb
      obtain ⟨p0, p1, p2, p4, p3⟩ := ordOk_out g
      obtain ⟨as, h1⟩ := hx.reads I rx p1
      obtain ⟨bs, h2⟩ := hy.reads I ry p2
      exact PySem.W.gt_data h1 h2 p0 p4 (by omega) fin
    · cases hb
  | GtE =>
    have hb : (if ordOk d e = true then some (!PySem.W.dataLt d e) else none) = some r := hb
    split at hb
    · rename_i g
      cases hb
      obtain ⟨p0, p1, p2, p4, p3⟩ := ordOk_out g
      obtain ⟨as, h1⟩ := hx.reads I rx p1
      obtain ⟨bs, h2⟩ := hy.reads I ry p2
      exact PySem.W.ge_data h1 h2 p0 p4 (by omega) fin
    · cases hb
  | Is => exact absurd rfl hi
  | IsNot => exact absurd rfl hj
  | In => exact absurd rfl ho
  | NotIn => exact absurd rfl hn

theorem isN_of {x : V} {H : Hp} {d : D} {A : List Addr} (r : Rep c H x d A) : decide (x = .non) = isNoneD d := by
  cases r <;> rfl
theorem op_is : OpR X (compareOp .Is) (rCmp c .Is) := by
  intro pins s σ H x y v u Q I rx ry h
  obtain ⟨k, d, e, F, G, r, hx, hy, hb, q⟩ := h
  simp only [cmpD] at hb
  split at hb
  · obtain ⟨rfl, rfl⟩ := hy.none_inv
    cases hb
    exact op_isN pins s σ H x _ v u Q I rx ry ⟨rfl, by rw [isN_of hx]; exact q⟩
  · obtain ⟨rfl, rfl⟩ := hy.bool_inv
    split at hb
    · obtain ⟨rfl, rfl⟩ := hx.bool_inv
      cases hb
      exact op_isBl pins s σ H _ _ v u Q I rx ry ⟨_, _, rfl, rfl, by rw [← Bool.beq_eq_decide_eq]; exact q⟩
    · cases hb
  · cases hb
theorem op_isnot : OpR X (compareOp .IsNot) (rCmp c .IsNot) := by
  intro pins s σ H x y v u Q I rx ry h
  obtain ⟨k, d, e, F, G, r, hx, hy, hb, q⟩ := h
  simp only [cmpD] at hb
  split at hb
  · obtain ⟨rfl, rfl⟩ := hy.none_inv
    cases hb
    exact op_notN pins s σ H x _ v u Q I rx ry ⟨rfl, by rw [isN_of hx]; exact q⟩
  · obtain ⟨rfl, rfl⟩ := hy.bool_inv
    split at hb
    · obtain ⟨rfl, rfl⟩ := hx.bool_inv
      cases hb
      exact op_notBl pins s σ H _ _ v u Q I rx ry ⟨_, _, rfl, rfl, by rw [← Bool.beq_eq_decide_eq]; exact q⟩
    · cases hb
  · cases hb
end
end N
/-! N4. Dicts of data: facts of the heap, look-ups, stores, removals. -/
namespace N
open PySem PySem.Spec PyProof.Rows L2

section
variable {X : Cx} {c : Cfg} {pins : List (Addr × Obj)} {s : Shared} {σ : L2.St} {H : Hp}

mutual
/-- what may be a key is one in the heap -/
theorem Rep.nested (I : Inv X pins σ H s) : ∀ {v : V} {d : D} {A : List Addr}, Rep c H v d A → ∀ {u : Value}, hashable d = true → RelV v u → NestedIs s.heap (nk d) u
  | _, _, _, .non, u, _, r => by cases r; exact .none
  | _, _, _, .bl b, u, _, r => by cases r; exact .bool rfl
  | _, _, _, .int i, u, _, r => by obtain ⟨t, rfl⟩ := r; exact .int i t
  | _, _, _, .str x, u, _, r => by obtain ⟨t, rfl⟩ := r; exact .text x t
  | _, _, _, .tup l e q, u, h, r => by
    cases r
    obtain ⟨its, rv, ⟨o, ho, hc, n, hd⟩, _⟩ := I.tuple (SqT.of e)
    exact .tup ho hc hd (by simpa using RepAll.nested I q (by simpa [hashable] using h) rv)
  | _, _, _, .lst l e q, u, h, r => by simp [hashable] at h
  | _, _, _, .dct l m e z q n g, u, h, r => by simp [hashable] at h
theorem RepAll.nested (I : Inv X pins σ H s) : ∀ {vs : List V} {ds : List D} {A : List Addr}, RepAll c H vs ds A → ∀ {us : List Value}, hashableAll ds = true → Vals vs us → NestedAll s.heap (nks ds) us
  | _, _, _, .nil, _, _, r => by cases r; exact .nil
  | _, _, _, .cons q t, _, h, r => by
    rw [hashableAll, Bool.and_eq_true] at h
    cases r with
    | cons r1 r2 => exact .cons (Rep.nested I q h.1 r1) (RepAll.nested I t h.2 r2)
end

theorem tkey_out {k : D} (h : tkey k = true) : (∃ xs, k = .tuple xs) ∧ hashable k = true ∧ (nk k).depth ≤ 8 := by
  cases k with
  | tuple xs =>
    unfold tkey at h
    simp only [Bool.and_eq_true, decide_eq_true_eq] at h
    exact ⟨⟨xs, rfl⟩, by simpa [hashable] using h.1, h.2⟩
  | _ => simp [tkey] at h
theorem Rep.tref {v : V} {k : D} {A : List Addr} (r : Rep c H v k A) (h : tkey k = true) : ∃ b, v = .ref b := by
  obtain ⟨⟨xs, rfl⟩, _⟩ := tkey_out h
  obtain ⟨a, vs, rfl, _⟩ := r.tup_inv
  exact ⟨a, rfl⟩
theorem Rep.isKey (I : Inv X pins σ H s) {b : Addr} {k : D} {A : List Addr} (r : Rep c H (.ref b) k A) (h : tkey k = true) : (nestedKind X.prog X.w).is s.heap (nk k) b :=
  ⟨r.nested I (tkey_out h).2.1 rfl, (tkey_out h).2.2⟩

/-! ### keys that are tuples -/
def refOf : Value → Addr
  | .ref b => b
  | _ => 0
def xsOf : List DictEntry → List (D × D) → List (NestedKey × Addr × Value)
  | e :: es, p :: kvs => (nk p.1, refOf e.key, e.val) :: xsOf es kvs
  | _, _ => []
abbrev ent (c : Cfg) : NestedKey × Addr × Value → DictEntry := entryOfKey (nestedKind c.prog c.w)
theorem xs_facts (I : Inv X pins σ H s) (hp : X.prog = c.prog) (hw : X.w = c.w) : ∀ {es : List DictEntry} {kvs : List (D × D)} {B : List Addr}, RepEs c H es kvs B → kvs.all (fun p => tkey p.1) = true →
    es = (xsOf es kvs).map (ent c) ∧ (∀ x ∈ xsOf es kvs, (nestedKind c.prog c.w).is s.heap x.1 x.2.1) ∧ (xsOf es kvs).map (·.1) = kvs.map fun p => nk p.1
  | _, _, _, .nil, _ => ⟨rfl, fun _ h => (nomatch h), rfl⟩
  | _, _, _, @RepEs.cons _ _ e es k d kvs v u as bs r1 r2 hh r3 r4 t, ha => by
    rw [List.all_cons, Bool.and_eq_true] at ha
    obtain ⟨h1, h2, h3⟩ := xs_facts I hp hw t ha.2
    obtain ⟨b, rfl⟩ := r2.tref ha.1
    have ek : e.key = .ref b := r1
    refine ⟨?_, fun x hx => ?_, ?_⟩
    · rw [xsOf, List.map_cons, ← h1]
      congr 1
      obtain ⟨eh, ekk, ev⟩ := e
      cases ek
      cases hh
      rfl
    · rw [xsOf] at hx
      rcases List.mem_cons.mp hx with rfl | hx
      · rw [← hp, ← hw]
        show (nestedKind X.prog X.w).is s.heap (nk k) (refOf e.key)
        rw [ek]
        exact r2.isKey I ha.1
      · exact h2 x hx
    · rw [xsOf, List.map_cons, List.map_cons, h3]
theorem dict_T (I : Inv X pins σ H s) (hp : X.prog = c.prog) (hw : X.w = c.w) {a : Addr} {es : Array DictEntry} {kvs : List (D × D)} {B : List Addr} (e : ∃ ep, H a = some (DO a es ep)) (r : RepEs c H es.toList kvs B) (n : (kvs.map fun p => nk p.1).Nodup) (ha : kvs.all (fun p => tkey p.1) = true) :
    s.heap.DictOfH (nestedKind c.prog c.w) a (xsOf es.toList kvs) := by
  obtain ⟨ep, e⟩ := e
  obtain ⟨o, h1, h2, h3⟩ := (show ObjOk X.prog X.w H s.heap a (DO a es ep) from I.hok a _ e).1
  obtain ⟨q1, q2, q3⟩ := xs_facts I hp hw r ha
  exact ⟨o, es, ep, h1, h2, h3, q1, q2, by rw [q3]; exact n⟩
/-- a look-up -/
theorem at_some : ∀ {es : List DictEntry} {kvs : List (D × D)} {B : List Addr}, RepEs c H es kvs B → ∀ (k : D) {p : Addr × Value}, atKey (xsOf es kvs) (nk k) = some p →
    ∃ d v A, dget kvs k = some d ∧ RelV v p.2 ∧ Rep c H v d A ∧ A.Sublist B
  | _, _, _, .nil, k, p, h => by simp [xsOf, atKey] at h
  | _, _, _, @RepEs.cons _ _ e es k' d kvs v u as bs r1 r2 hh r3 r4 t, k, p, h => by
    unfold atKey at h
    rw [xsOf, List.find?_cons] at h
    unfold dget
    rw [List.find?_cons]
    by_cases hk : nk k' = nk k
    · simp only [hk, decide_true] at h ⊢
      cases h
      exact ⟨d, v, as, rfl, r3, r4, List.sublist_append_left _ _⟩
    · simp only [hk, decide_false] at h ⊢
      obtain ⟨d', v', A, q1, q2, q3, q4⟩ := at_some t k (p := p) h
      exact ⟨d', v', A, q1, q2, q3, q4.trans (List.sublist_append_right _ _)⟩
theorem at_has : ∀ {es : List DictEntry} {kvs : List (D × D)} {B : List Addr}, RepEs c H es kvs B → ∀ (k : D), (atKey (xsOf es kvs) (nk k)).isSome = dhas kvs k
  | _, _, _, .nil, k => rfl
  | _, _, _, @RepEs.cons _ _ e es k' d kvs v u as bs r1 r2 hh r3 r4 t, k => by
    have ih := at_has t k
    unfold atKey at ih ⊢
    unfold dhas at ih ⊢
    rw [xsOf, List.find?_cons, List.any_cons]
    by_cases hk : nk k' = nk k
    · simp [hk]
    · simp only [hk, decide_false, Bool.false_or]
      exact ih
theorem at_none {es : List DictEntry} {kvs : List (D × D)} {B : List Addr} (r : RepEs c H es kvs B) (k : D) (h : dhas kvs k = false) : atKey (xsOf es kvs) (nk k) = none := by
  have q := at_has r k
  rw [h] at q
  exact Option.isSome_eq_false_iff.mp q |> fun z => by simpa using z
theorem dget_has (kvs : List (D × D)) (k : D) : (dget kvs k).isSome = dhas kvs k := by
  unfold dget dhas
  rw [Option.isSome_map]
  induction kvs with
  | nil => rfl
  | cons p r ih =>
    rw [List.find?_cons, List.any_cons]
    by_cases h : nk p.1 = nk k
    · simp [h]
    · simp only [h, decide_false, Bool.false_or]; exact ih
theorem at_found {es : List DictEntry} {kvs : List (D × D)} {B : List Addr} (r : RepEs c H es kvs B) {k d : D} (h : dget kvs k = some d) : ∃ p v A, atKey (xsOf es kvs) (nk k) = some p ∧ RelV v p.2 ∧ Rep c H v d A ∧ A.Sublist B := by
  have q := at_has r k
  rw [← dget_has, h] at q
  obtain ⟨p, hp⟩ := Option.isSome_iff_exists.mp (show (atKey (xsOf es kvs) (nk k)).isSome = true from q)
  obtain ⟨d', v, A, q1, q2, q3, q4⟩ := at_some r k hp
  rw [h] at q1
  cases q1
  exact ⟨p, v, A, hp, q2, q3, q4⟩
/-- a store -/
theorem put_map {b : Addr} {k d : D} {v : V} {u : Value} {A : List Addr} (rv : RelV v u) (rd : Rep c H v d A) : ∀ {es : List DictEntry} {kvs : List (D × D)} {B : List Addr}, RepEs c H es kvs B → kvs.all (fun p => tkey p.1) = true →
    ∃ B', RepEs c H (((xsOf es kvs).map (putAt (nk k) u)).map (ent c)) (kvs.map fun p => if nk p.1 = nk k then (p.1, d) else p) B' ∧ ∀ x ∈ B', x ∈ B ∨ x ∈ A
  | _, _, _, .nil, _ => ⟨[], .nil, fun _ h => nomatch h⟩
  | _, _, _, @RepEs.cons _ _ e es k' d' kvs v' u' as bs r1 r2 hh r3 r4 t, ha => by
    rw [List.all_cons, Bool.and_eq_true] at ha
    obtain ⟨B', q1, q2⟩ := put_map (k := k) (b := b) rv rd t ha.2
    obtain ⟨b', rfl⟩ := r2.tref ha.1
    have ek : e.key = .ref b' := r1
    rw [xsOf, List.map_cons, List.map_cons, List.map_cons]
    by_cases hk : nk k' = nk k
    · have e1 : putAt (nk k) u (nk k', refOf e.key, e.val) = (nk k', b', u) := by unfold putAt; rw [if_pos hk, ek]; rfl
      rw [e1, if_pos hk]
      exact ⟨A ++ B', .cons (u := .ref b') rfl r2 rfl rv rd q1, fun x z => (List.mem_append.mp z).elim .inr fun z => (q2 x z).imp (List.mem_append_right _) id⟩
    · have e1 : putAt (nk k) u (nk k', refOf e.key, e.val) = (nk k', b', e.val) := by unfold putAt; rw [if_neg hk, ek]; rfl
      rw [e1, if_neg hk]
      exact ⟨as ++ B', .cons (u := .ref b') rfl r2 rfl r3 r4 q1, fun x z => (List.mem_append.mp z).elim (fun z => .inl (List.mem_append_left _ z)) fun z => (q2 x z).imp (List.mem_append_right _) id⟩
theorem xs_ent : ∀ {es : List DictEntry} {kvs : List (D × D)} {B : List Addr}, RepEs c H es kvs B → kvs.all (fun p => tkey p.1) = true → RepEs c H ((xsOf es kvs).map (ent c)) kvs B
  | _, _, _, .nil, _ => .nil
  | _, _, _, @RepEs.cons _ _ e es k d kvs v u as bs r1 r2 hh r3 r4 t, ha => by
    rw [List.all_cons, Bool.and_eq_true] at ha
    obtain ⟨b, rfl⟩ := r2.tref ha.1
    have ek : e.key = .ref b := r1
    rw [xsOf, List.map_cons]
    refine .cons (u := .ref b) ?_ r2 rfl r3 r4 (xs_ent t ha.2)
    show RelV (V.ref b) (Value.ref (refOf e.key))
    rw [ek]
    rfl
theorem put_T {b : Addr} {k d : D} {v : V} {u : Value} {A B : List Addr} {es : List DictEntry} {kvs : List (D × D)} (rk : Rep c H (.ref b) k []) (rv : RelV v u) (rd : Rep c H v d A) (r : RepEs c H es kvs B) (ha : kvs.all (fun p => tkey p.1) = true) :
    ∃ B', RepEs c H ((storedH (xsOf es kvs) (nk k) b u).map (ent c)) (dput kvs k d) B' ∧ ∀ x ∈ B', x ∈ B ∨ x ∈ A := by
  unfold storedH dput
  rw [at_has r k]
  cases hd : dhas kvs k with
  | true =>
    rw [if_pos rfl, if_pos rfl]
    exact put_map (b := b) rv rd r ha
  | false =>
    rw [if_neg Bool.false_ne_true, if_neg Bool.false_ne_true, List.map_append]
    refine ⟨B ++ (A ++ []), (xs_ent r ha).append (.cons (u := .ref b) rfl rk rfl rv rd .nil), fun x z => ?_⟩
    rw [List.append_nil] at z
    exact List.mem_append.mp z
theorem out_T {k : D} : ∀ {es : List DictEntry} {kvs : List (D × D)} {B : List Addr}, RepEs c H es kvs B → kvs.all (fun p => tkey p.1) = true →
    ∃ B', RepEs c H ((withoutH (xsOf es kvs) (nk k)).map (ent c)) (dout kvs k) B' ∧ B'.Sublist B
  | _, _, _, .nil, _ => ⟨[], .nil, List.Sublist.refl _⟩
  | _, _, _, @RepEs.cons _ _ e es k' d kvs v u as bs r1 r2 hh r3 r4 t, ha => by
    rw [List.all_cons, Bool.and_eq_true] at ha
    obtain ⟨B', q1, q2⟩ := out_T (k := k) t ha.2
    obtain ⟨b, rfl⟩ := r2.tref ha.1
    have ek : e.key = .ref b := r1
    unfold withoutH dout at q1 ⊢
    rw [xsOf, List.filter_cons, List.filter_cons]
    by_cases hk : nk k' = nk k
    · simp only [hk, ne_eq, not_true, decide_false, Bool.false_eq_true, if_false, decide_true, Bool.not_true]
      exact ⟨B', by simpa using q1, q2.trans (List.sublist_append_right _ _)⟩
    · simp only [hk, ne_eq, not_false_iff, decide_true, if_true, decide_false, Bool.not_false, List.map_cons]
      refine ⟨as ++ B', .cons (u := .ref b) ?_ r2 rfl r3 r4 (by simpa using q1), (List.Sublist.refl _).append q2⟩
      show RelV (V.ref b) (Value.ref (refOf e.key))
      rw [ek]
      rfl

/-! ### keys that are numbers or texts -/
def sk : D → Key
  | .int i => .inl i
  | .str x => .inr x
  | _ => .inl 0
theorem Rep.sref {v : V} {k : D} {A : List Addr} (r : Rep c H v k A) (h : skey k = true) : v = kV (sk k) ∧ A = [] := by
  cases r with
  | int i => exact ⟨rfl, rfl⟩
  | str x => exact ⟨rfl, rfl⟩
  | _ => simp [skey] at h
theorem sk_nk {k l : D} (h : skey k = true) (g : skey l = true) : sk k = sk l ↔ nk k = nk l := by
  cases k with
  | int i =>
    cases l with
    | int j => exact ⟨fun e => (by cases e; rfl), fun e => (by cases e; rfl)⟩
    | str y => exact ⟨fun e => (nomatch e), fun e => (nomatch e)⟩
    | _ => simp [skey] at g
  | str x =>
    cases l with
    | int j => exact ⟨fun e => (nomatch e), fun e => (nomatch e)⟩
    | str y => exact ⟨fun e => (by cases e; rfl), fun e => (by cases e; rfl)⟩
    | _ => simp [skey] at g
  | _ => simp [skey] at h
theorem sk_hash {k : D} (h : skey k = true) : keyH c.w (sk k) = (nk k).hash c.w := by
  cases k with
  | int i => rfl
  | str x => rfl
  | _ => simp [skey] at h
theorem rep_sk (k : D) (h : skey k = true) : Rep c H (kV (sk k)) k [] := by
  cases k with
  | int i => exact .int i
  | str x => exact .str x
  | _ => simp [skey] at h
/-- the pairs by keys that are carried by value -/
inductive PsRep (c : Cfg) (H : Hp) : List (Key × Value) → List (D × D) → List Addr → Prop
  | nil : PsRep c H [] [] []
  | cons {k d v u ps kvs as bs} : skey k = true → RelV v u → Rep c H v d as → PsRep c H ps kvs bs → PsRep c H ((sk k, u) :: ps) ((k, d) :: kvs) (as ++ bs)
theorem ps_of (hw : X.w = c.w) (hp : X.prog = c.prog) : ∀ {es : List DictEntry} {kvs : List (D × D)} {B : List Addr}, RepEs c H es kvs B → kvs.all (fun p => skey p.1) = true →
    ∃ ps, PsRep c H ps kvs B ∧ Pairs (mixKind c.prog c.w) es ps ∧ (∀ e ∈ es, ∃ k, (mixKind c.prog c.w).is k e.key = true ∧ e.hash = (mixKind c.prog c.w).hash k) ∧ ps.map (·.1) = kvs.map fun p => sk p.1
  | _, _, _, .nil, _ => ⟨[], .nil, .nil, fun _ h => (nomatch h), rfl⟩
  | _, _, _, @RepEs.cons _ _ e es k d kvs v u as bs r1 r2 hh r3 r4 t, ha => by
    rw [List.all_cons, Bool.and_eq_true] at ha
    obtain ⟨ps, q1, q2, q3, q4⟩ := ps_of hw hp t ha.2
    obtain ⟨rfl, _⟩ := r2.sref ha.1
    have kis := kV_is (P := c.prog) (w := c.w) r1
    refine ⟨(sk k, e.val) :: ps, .cons ha.1 r3 r4 q1, .cons kis rfl q2, fun x hx => ?_, by rw [List.map_cons, List.map_cons, q4]⟩
    rcases List.mem_cons.mp hx with rfl | hx
    · exact ⟨sk k, kis, by rw [hh]; exact (sk_hash ha.1).symm⟩
    · exact q3 x hx
theorem es_of_ps : ∀ {ps : List (Key × Value)} {kvs : List (D × D)} {B : List Addr}, PsRep c H ps kvs B → ∀ {es : List DictEntry}, Pairs (mixKind c.prog c.w) es ps →
    (∀ e ∈ es, ∃ k, (mixKind c.prog c.w).is k e.key = true ∧ e.hash = (mixKind c.prog c.w).hash k) → RepEs c H es kvs B
  | _, _, _, .nil, _, p, _ => by cases p; exact .nil
  | _, _, _, @PsRep.cons _ _ k d v u ps kvs as bs hk rv rd t, _, p, hh => by
    cases p with
    | @cons e _ es _ p1 p2 p3 =>
      have ih := es_of_ps t p3 fun x hx => hh x (List.mem_cons_of_mem _ hx)
      obtain ⟨k', h1, h2⟩ := hh e List.mem_cons_self
      have ek : k' = sk k := (mixKind c.prog c.w).inj e.key _ _ h1 p1
      subst ek
      refine .cons (u := kV (sk k)) ?_ (rep_sk k hk) (h2.trans (sk_hash hk)) (by rw [p2]; exact rv) rd ih
      have p1' : keyIs (sk k) e.key = true := p1
      rcases keyIs_shape p1' with ⟨i, t', e1, e2⟩ | ⟨x, t', e1, e2⟩
      · rw [e1, e2]; exact ⟨t', rfl⟩
      · rw [e1, e2]; exact ⟨t', rfl⟩
theorem PsRep.all {ps : List (Key × Value)} {kvs : List (D × D)} {B : List Addr} (r : PsRep c H ps kvs B) : kvs.all (fun p => skey p.1) = true ∧ ps.length = kvs.length := by
  induction r with
  | nil => exact ⟨rfl, rfl⟩
  | cons h _ _ _ ih => exact ⟨by rw [List.all_cons, h, ih.1]; rfl, by rw [List.length_cons, List.length_cons, ih.2]⟩
theorem ps_at {k : D} (hk : skey k = true) : ∀ {ps : List (Key × Value)} {kvs : List (D × D)} {B : List Addr}, PsRep c H ps kvs B → (valueAt ps (sk k)).isSome = dhas kvs k ∧
    ∀ d, dget kvs k = some d → ∃ u v A, valueAt ps (sk k) = some u ∧ RelV v u ∧ Rep c H v d A ∧ A.Sublist B
  | _, _, _, .nil => ⟨rfl, fun d h => by simp [dget] at h⟩
  | _, _, _, @PsRep.cons _ _ k' d v u ps kvs as bs hk' rv rd t => by
    obtain ⟨i1, i2⟩ := ps_at hk t
    unfold valueAt dhas at i1
    unfold valueAt dget at i2
    unfold valueAt dhas dget
    rw [List.find?_cons, List.any_cons, List.find?_cons]
    by_cases e : nk k' = nk k
    · have e' : sk k' = sk k := (sk_nk hk' hk).mpr e
      simp only [e, e', decide_true, Bool.true_or, Option.map_some, Option.isSome_some, true_and]
      intro d' h
      cases h
      exact ⟨u, v, as, rfl, rv, rd, List.sublist_append_left _ _⟩
    · have e' : ¬ sk k' = sk k := fun z => e ((sk_nk hk' hk).mp z)
      simp only [e, e', decide_false, Bool.false_or]
      refine ⟨i1, fun d' h => ?_⟩
      obtain ⟨u', v', A, q1, q2, q3, q4⟩ := i2 d' h
      exact ⟨u', v', A, q1, q2, q3, q4.trans (List.sublist_append_right _ _)⟩
theorem PsRep.append : ∀ {ps qs : List (Key × Value)} {kvs ls : List (D × D)} {B C : List Addr}, PsRep c H ps kvs B → PsRep c H qs ls C → PsRep c H (ps ++ qs) (kvs ++ ls) (B ++ C)
  | _, _, _, _, _, _, .nil, r => r
  | _, _, _, _, _, _, .cons hk rv rd t, r => by
    rw [List.cons_append, List.cons_append, List.append_assoc]
    exact .cons hk rv rd (t.append r)
theorem ps_put {k d : D} {v : V} {u : Value} {A : List Addr} (hk : skey k = true) (rv : RelV v u) (rd : Rep c H v d A) {ps : List (Key × Value)} {kvs : List (D × D)} {B : List Addr} (r : PsRep c H ps kvs B) :
    ∃ B', PsRep c H (stored ps (sk k) u) (dput kvs k d) B' ∧ ∀ x ∈ B', x ∈ B ∨ x ∈ A := by
  have any : ps.any (fun kv => kv.1 = sk k) = dhas kvs k := by
    unfold dhas
    clear rd rv
    induction r with
    | nil => rfl
    | @cons k' d v u ps kvs as bs hk' _ _ _ ih =>
      rw [List.any_cons, List.any_cons, ih]
      congr 1
      exact decide_eq_decide.mpr (sk_nk hk' hk)
  unfold stored dput
  rw [any]
  cases hd : dhas kvs k with
  | true =>
    rw [if_pos rfl, if_pos rfl]
    clear any hd
    induction r with
    | nil => exact ⟨[], .nil, fun _ h => (nomatch h)⟩
    | @cons k' d' v' u' ps kvs as bs hk' rv' rd' t ih =>
      obtain ⟨B', q1, q2⟩ := ih
      rw [List.map_cons, List.map_cons]
      by_cases e : nk k' = nk k
      · have e' : sk k' = sk k := (sk_nk hk' hk).mpr e
        simp only [e, e', if_true]
        rw [← e']
        exact ⟨A ++ B', .cons hk' rv rd (by rw [e']; exact q1), fun x z => (List.mem_append.mp z).elim .inr fun z => (q2 x z).imp (List.mem_append_right _) id⟩
      · have e' : ¬ sk k' = sk k := fun z => e ((sk_nk hk' hk).mp z)
        simp only [e, e', if_false]
        exact ⟨as ++ B', .cons hk' rv' rd' q1, fun x z => (List.mem_append.mp z).elim (fun z => .inl (List.mem_append_left _ z)) fun z => (q2 x z).imp (List.mem_append_right _) id⟩
  | false =>
    rw [if_neg Bool.false_ne_true, if_neg Bool.false_ne_true]
    refine ⟨B ++ (A ++ []), r.append (.cons hk rv rd .nil), fun x z => ?_⟩
    rw [List.append_nil] at z
    exact List.mem_append.mp z
theorem ps_out {k : D} (hk : skey k = true) {ps : List (Key × Value)} {kvs : List (D × D)} {B : List Addr} (r : PsRep c H ps kvs B) :
    ∃ B', PsRep c H (without ps (sk k)) (dout kvs k) B' ∧ B'.Sublist B := by
  induction r with
  | nil => exact ⟨[], .nil, List.Sublist.refl _⟩
  | @cons k' d' v' u' ps kvs as bs hk' rv' rd' t ih =>
    obtain ⟨B', q1, q2⟩ := ih
    unfold without dout at q1 ⊢
    rw [List.filter_cons, List.filter_cons]
    by_cases e : nk k' = nk k
    · have e' : sk k' = sk k := (sk_nk hk' hk).mpr e
      simp only [e, e', ne_eq, not_true, decide_false, Bool.false_eq_true, if_false, decide_true, Bool.not_true]
      exact ⟨B', by simpa using q1, q2.trans (List.sublist_append_right _ _)⟩
    · have e' : ¬ sk k' = sk k := fun z => e ((sk_nk hk' hk).mp z)
      simp only [e, e', ne_eq, not_false_iff, decide_true, if_true, decide_false, Bool.not_false]
      exact ⟨as ++ B', .cons hk' rv' rd' (by simpa using q1), (List.Sublist.refl _).append q2⟩
theorem sk_nodup {kvs : List (D × D)} (ha : kvs.all (fun p => skey p.1) = true) (n : (kvs.map fun p => nk p.1).Nodup) : (kvs.map fun p => sk p.1).Nodup := by
  induction kvs with
  | nil => exact List.nodup_nil
  | cons p r ih =>
    rw [List.all_cons, Bool.and_eq_true] at ha
    rw [List.map_cons, List.nodup_cons] at n ⊢
    refine ⟨fun h => n.1 ?_, ih ha.2 n.2⟩
    obtain ⟨q, hq, e⟩ := List.mem_map.mp h
    exact List.mem_map.mpr ⟨q, hq, ((sk_nk (List.all_eq_true.mp ha.2 q hq) ha.1).mp e)⟩
theorem dict_S (I : Inv X pins σ H s) (hp : X.prog = c.prog) (hw : X.w = c.w) {a : Addr} {es : Array DictEntry} {kvs : List (D × D)} {B : List Addr} (e : ∃ ep, H a = some (DO a es ep)) (r : RepEs c H es.toList kvs B) (n : (kvs.map fun p => nk p.1).Nodup) (ha : kvs.all (fun p => skey p.1) = true) :
    ∃ ps, PsRep c H ps kvs B ∧ s.heap.DictOf (mixKind c.prog c.w) a ps := by
  obtain ⟨ep, e⟩ := e
  obtain ⟨o, h1, h2, h3⟩ := (show ObjOk X.prog X.w H s.heap a (DO a es ep) from I.hok a _ e).1
  obtain ⟨ps, q1, q2, q3, q4⟩ := ps_of hw hp r ha
  exact ⟨ps, q1, o, es, ep, h1, h2, h3, fun x hx => q3 x (by simpa using hx), q2, by rw [q4]; exact sk_nodup ha n⟩

/-! ### rules -/
theorem goes_out {kvs : List (D × D)} {k : D} (h : goes kvs k = true) : (tkey k = true ∧ kvs.all (fun p => tkey p.1) = true) ∨ (skey k = true ∧ kvs.all (fun p => skey p.1) = true) := by
  unfold goes at h
  simpa only [Bool.or_eq_true, Bool.and_eq_true] using h
variable {A : Around} {E : Value → Shared → Prop} {a : Addr} {kvs : List (D × D)} {F G : List Addr} {k : D} {y : V} {u : Value}
theorem room1 (hu : A.units + 20 < cLine) : (nestedKind c.prog c.w).room A.in1 := by
  show A.in1.units + 8 < cLine
  have e : A.in1.units = A.units + 1 := rfl
  omega
theorem d_in {Q : Value → Shared → Prop} (hu : A.units + 20 < cLine) (I : Inv X pins σ H s) (hp : X.prog = c.prog) (hw : X.w = c.w) (rd : Rep c H (.ref a) (.dict kvs) F) (rk : Rep c H y k G) (ry : RelV y u) (g : goes kvs k = true)
    (h : ∀ s', Inv X pins σ H s' → Q (.bool (dhas kvs k)) s') : wpAny (model X.prog X.w) A (compareOp .In u (.ref a)) Q E s := by
  obtain ⟨_, es, B, ea, _, l, m, e, z, r, n, _⟩ := rd.dct_inv
  cases ea
  rw [hp, hw]
  rcases goes_out g with ⟨tk, ta⟩ | ⟨tk, ta⟩
  · obtain ⟨b, rfl⟩ := rk.tref tk
    cases (show u = Value.ref b from ry)
    refine wpAny_in_heap (k := nk k) (room1 (c := c) hu) ?_ m (dict_T I hp hw e r n ta) ?_
    · have q := rk.isKey I tk
      rw [hp, hw] at q
      exact q
    · rw [at_has r k]
      exact h _ (I.tok _)
  · obtain ⟨rfl, _⟩ := rk.sref tk
    obtain ⟨ps, q1, q2⟩ := dict_S I hp hw e r n ta
    refine wpAny_in_of (kV_is ry) m q2.mapOf ?_
    rw [(ps_at tk q1).1]
    exact h _ (I.tok _)
theorem d_notIn {Q : Value → Shared → Prop} (hu : A.units + 20 < cLine) (I : Inv X pins σ H s) (hp : X.prog = c.prog) (hw : X.w = c.w) (rd : Rep c H (.ref a) (.dict kvs) F) (rk : Rep c H y k G) (ry : RelV y u) (g : goes kvs k = true)
    (h : ∀ s', Inv X pins σ H s' → Q (.bool (!dhas kvs k)) s') : wpAny (model X.prog X.w) A (compareOp .NotIn u (.ref a)) Q E s := by
  obtain ⟨_, es, B, ea, _, l, m, e, z, r, n, _⟩ := rd.dct_inv
  cases ea
  rw [hp, hw]
  rcases goes_out g with ⟨tk, ta⟩ | ⟨tk, ta⟩
  · obtain ⟨b, rfl⟩ := rk.tref tk
    cases (show u = Value.ref b from ry)
    refine wpAny_notIn_heap (k := nk k) (room1 (c := c) hu) ?_ m (dict_T I hp hw e r n ta) ?_
    · have q := rk.isKey I tk
      rw [hp, hw] at q
      exact q
    · rw [at_has r k]
      exact h _ (I.tok _)
  · obtain ⟨rfl, _⟩ := rk.sref tk
    obtain ⟨ps, q1, q2⟩ := dict_S I hp hw e r n ta
    refine wpAny_notIn_of (kV_is ry) m q2.mapOf ?_
    rw [(ps_at tk q1).1]
    exact h _ (I.tok _)
theorem d_get {d : D} {Q : Value → Shared → Prop} (hu : A.units + 20 < cLine) (I : Inv X pins σ H s) (hp : X.prog = c.prog) (hw : X.w = c.w) (rd : Rep c H (.ref a) (.dict kvs) F) (rk : Rep c H y k G) (ry : RelV y u) (g : goes kvs k = true) (hd : dget kvs k = some d)
    (h : ∀ w' v s' C, Inv X pins σ H s' → RelV v w' → Rep c H v d C → C.Sublist F → Q w' s') : wpAny (model X.prog X.w) A (getItem (.ref a) u) Q E s := by
  obtain ⟨_, es, B, ea, eF, l, m, e, z, r, n, _⟩ := rd.dct_inv
  cases ea
  subst eF
  rw [hp, hw]
  rcases goes_out g with ⟨tk, ta⟩ | ⟨tk, ta⟩
  · obtain ⟨b, rfl⟩ := rk.tref tk
    cases (show u = Value.ref b from ry)
    obtain ⟨p, v, C, q1, q2, q3, q4⟩ := at_found r hd
    refine wpAny_getItem_heap (k := nk k) (room1 (c := c) hu) ?_ (dict_T I hp hw e r n ta) q1 (h _ v _ C (I.tok _) q2 q3 (q4.trans (List.sublist_cons_self _ _)))
    have q := rk.isKey I tk
    rw [hp, hw] at q
    exact q
  · obtain ⟨rfl, _⟩ := rk.sref tk
    obtain ⟨ps, q1, q2⟩ := dict_S I hp hw e r n ta
    obtain ⟨w', v, C, p1, p2, p3, p4⟩ := (ps_at tk q1).2 d hd
    exact wpAny_getItem_of (kV_is ry) q2.mapOf p1 (h _ v _ C (I.tok _) p2 p3 (p4.trans (List.sublist_cons_self _ _)))
theorem d_getOr {x : V} {r0 : Value} {Q : Value → Shared → Prop} (hu : A.units + 20 < cLine) (I : Inv X pins σ H s) (hp : X.prog = c.prog) (hw : X.w = c.w) (rd : Rep c H (.ref a) (.dict kvs) F) (rk : Rep c H y k G) (ry : RelV y u) (rx : RelV x r0) (g : goes kvs k = true)
    (h1 : ∀ d w' v s' C, dget kvs k = some d → Inv X pins σ H s' → RelV v w' → Rep c H v d C → C.Sublist F → Q w' s') (h2 : ∀ s', dget kvs k = none → Inv X pins σ H s' → Q r0 s') :
    wpAny (model X.prog X.w) A (call (.builtin "dict.get") [.ref a, u, r0]) Q E s := by
  obtain ⟨_, es, B, ea, eF, l, m, e, z, r, n, _⟩ := rd.dct_inv
  cases ea
  subst eF
  rw [hp, hw]
  rcases goes_out g with ⟨tk, ta⟩ | ⟨tk, ta⟩
  · obtain ⟨b, rfl⟩ := rk.tref tk
    cases (show u = Value.ref b from ry)
    have hk := rk.isKey I tk
    rw [hp, hw] at hk
    refine call_meetsIn PySem.F.slot_dict_get (dict_T I hp hw e r n ta).typeIs PySem.F.entry_dict_get (PySem.F.args_dict_get_3 _ _ _) (meetsH_dict_get_default (nestedKind c.prog c.w) a b m r0) ⟨room1 (c := c) hu, nk k, _, hk, dict_T I hp hw e r n ta, ?_⟩
    cases hd : dget kvs k with
    | some d =>
      obtain ⟨p, v, C, q1, q2, q3, q4⟩ := at_found r hd
      rw [q1]
      exact h1 d _ v _ C hd (I.tok _) q2 q3 (q4.trans (List.sublist_cons_self _ _))
    | none =>
      have q := dget_has kvs k
      rw [hd] at q
      rw [at_none r k q.symm]
      exact h2 _ hd (I.tok _)
  · obtain ⟨rfl, _⟩ := rk.sref tk
    obtain ⟨ps, q1, q2⟩ := dict_S I hp hw e r n ta
    refine call_meetsIn PySem.F.slot_dict_get q2.typeIs PySem.F.entry_dict_get (PySem.F.args_dict_get_3 _ _ _) (meets_dict_get_default (mixKind c.prog c.w) a (kV_is ry) m r0) ⟨_, q2.mapOf, ?_⟩
    cases hd : dget kvs k with
    | some d =>
      obtain ⟨w', v, C, p1, p2, p3, p4⟩ := (ps_at tk q1).2 d hd
      rw [p1]
      exact h1 d _ v _ C hd (I.tok _) p2 p3 (p4.trans (List.sublist_cons_self _ _))
    | none =>
      have q := (ps_at tk q1).1
      rw [← dget_has, hd] at q
      rw [show valueAt ps (sk k) = none by simpa using q]
      exact h2 _ hd (I.tok _)

/-! ### writes: the dict's own object is replaced -/
/-- behind a write at a: what a dict of kvs' is there -/
structure Wr (c : Cfg) (X : Cx) (pins : List (Addr × Obj)) (σ : L2.St) (H : Hp) (a : Addr) (kvs : List (D × D)) (B : List Addr) (s' : Shared) (es' : Array DictEntry) (ep' : Nat) : Prop where
  inv : Inv X pins σ (upd H a (DO a es' ep')) s'
  rep : Rep c (upd H a (DO a es' ep')) (.ref a) (.dict kvs) (a :: B)
theorem obj_DO {P : Program} {w : World} {H' : Hp} {h' : Heap} {a : Addr} {es : Array DictEntry} {ep : Nat} (h : DictAt a es ep h') : ObjOk P w H' h' a (DO a es ep) := by
  refine ⟨h, ?_, fun h1 h2 ⟨o, e1, e2⟩ k => ⟨o, k o e1, e2⟩⟩
  obtain ⟨o, e, _⟩ := h
  exact ⟨o, e⟩
theorem kp_write {H : Hp} {a : Addr} {o o' : HO} {B : List Addr} (e : H a = some o) (nt : ∀ vs, o ≠ .tup vs) (nB : a ∉ B) : Kp c H (upd H a o') B := fun b ob eb _ q => by
  have ne : b ≠ a := by
    rintro rfl
    rcases q with ⟨vs, z⟩ | q
    · rw [e] at eb; cases eb; exact nt vs z
    · exact nB q
  rw [upd_ne ne]
  exact eb
theorem nodup_dput {kvs : List (D × D)} {k d : D} (n : (kvs.map fun p => nk p.1).Nodup) : ((dput kvs k d).map fun p => nk p.1).Nodup := by
  unfold dput
  cases hd : dhas kvs k with
  | true =>
    rw [if_pos rfl]
    have e : ((kvs.map fun p => if nk p.1 = nk k then (p.1, d) else p).map fun p => nk p.1) = kvs.map fun p => nk p.1 := by
      rw [List.map_map]
      refine List.map_congr_left fun p _ => ?_
      show nk (if nk p.1 = nk k then (p.1, d) else p).1 = nk p.1
      split <;> rfl
    rw [e]
    exact n
  | false =>
    rw [if_neg Bool.false_ne_true, List.map_append, List.nodup_append]
    refine ⟨n, by simp, fun x hx y hy => ?_⟩
    rw [List.map_singleton, List.mem_singleton] at hy
    subst hy
    rintro rfl
    obtain ⟨q, hq, e⟩ := List.mem_map.mp hx
    have z : dhas kvs k = true := List.any_eq_true.mpr ⟨q, hq, by simpa using e⟩
    rw [hd] at z
    cases z
theorem keys_dput {f : D → Bool} {kvs : List (D × D)} {k d : D} (h : kvs.all (fun p => f p.1) = true) (hk : f k = true) : (dput kvs k d).all (fun p => f p.1) = true := by
  unfold dput
  split
  · rw [List.all_map]
    refine List.all_eq_true.mpr fun p hp => ?_
    have q := List.all_eq_true.mp h p hp
    show f (if nk p.1 = nk k then (p.1, d) else p).1 = true
    split <;> exact q
  · rw [List.all_append, h]
    simp [hk]
theorem nodup_dout {kvs : List (D × D)} {k : D} (n : (kvs.map fun p => nk p.1).Nodup) : ((dout kvs k).map fun p => nk p.1).Nodup := n.sublist (List.Sublist.map _ List.filter_sublist)
theorem keys_dout {f : D → Bool} {kvs : List (D × D)} {k : D} (h : kvs.all (fun p => f p.1) = true) : (dout kvs k).all (fun p => f p.1) = true := List.all_eq_true.mpr fun p hp => List.all_eq_true.mp h p (List.mem_filter.mp hp).1
theorem or_T {kvs : List (D × D)} (h : kvs.all (fun p => tkey p.1) = true) : (kvs.all (fun p => tkey p.1) || kvs.all (fun p => skey p.1)) = true := by rw [h]; rfl
theorem or_S {kvs : List (D × D)} (h : kvs.all (fun p => skey p.1) = true) : (kvs.all (fun p => tkey p.1) || kvs.all (fun p => skey p.1)) = true := by rw [h, Bool.or_true]
theorem DO_tup {a : Addr} {es : Array DictEntry} {ep : Nat} (vs : List V) : DO a es ep ≠ .tup vs := fun z => nomatch z
/-- the object laid, tuple keys -/
theorem wr_T {kvs' : List (D × D)} {B' : List Addr} {es es' : Array DictEntry} {ep' : Nat} {h' : Heap} {t' : Nat} (I : Inv X pins σ H s) (l : c.Live a) (m : (a == sysModules) = false) (e : ∃ ep, H a = some (DO a es ep)) (nB : a ∉ B')
    (hs : Heap.SameBut a s.heap h') (ho : DictAt a es' ep' h') (z : es'.size ≤ sizeLine) (r : RepEs c H es'.toList kvs' B') (n : (kvs'.map fun p => nk p.1).Nodup) (g : (kvs'.all (fun p => tkey p.1) || kvs'.all (fun p => skey p.1)) = true) :
    Wr c X pins σ H a kvs' B' { s with heap := h', toks := t' } es' ep' := by
  obtain ⟨ep, e⟩ := e
  refine ⟨d_write I (by rw [e]; exact True.intro) hs (let ⟨o, q, _⟩ := ho; ⟨o, q⟩) (obj_DO ho), ?_⟩
  exact .dct l m upd_same z (r.keep (kp_write e (fun vs => DO_tup vs) nB)) n g
theorem size_es {es : Array DictEntry} {kvs : List (D × D)} {B : List Addr} (r : RepEs c H es.toList kvs B) : es.size = kvs.length := by rw [← r.length, Array.length_toList]
/-- d[k] = v -/
theorem d_set {d : D} {v : V} {r0 : Value} {C : List Addr} {Q : Unit → Shared → Prop} (hu : A.units + 20 < cLine) (I : Inv X pins σ H s) (hp : X.prog = c.prog) (hw : X.w = c.w) (rd : Rep c H (.ref a) (.dict kvs) F) (own : F.count a = 1) (nC : a ∉ C) (rk : Rep c H y k []) (ry : RelV y u)
    (rv : Rep c H v d C) (rr : RelV v r0) (g : goes kvs k = true) (hl : (dput kvs k d).length ≤ LIM)
    (h : ∀ s' es' ep' B', Wr c X pins σ H a (dput kvs k d) B' s' es' ep' → (∀ x ∈ B', x ∈ F ∨ x ∈ C) → a ∉ B' → Q () s') : wpAny (model X.prog X.w) A (setItem (.ref a) u r0) Q E s := by
  obtain ⟨_, es, B, ea, eF, l, m, e, z, r, n, _⟩ := rd.dct_inv
  cases ea
  subst eF
  have nB : a ∉ B := by
    rw [List.count_cons_self] at own
    exact List.count_eq_zero.mp (by omega)
  have hz : kvs.length ≤ sizeLine := by rw [← size_es r]; exact z
  have hl' : (dput kvs k d).length ≤ sizeLine := by rw [← lim_eq]; exact hl
  rcases goes_out g with ⟨tk, ta⟩ | ⟨tk, ta⟩
  · obtain ⟨b, rfl⟩ := rk.tref tk
    cases (show u = Value.ref b from ry)
    have hk := rk.isKey I tk
    have xl : (xsOf es.toList kvs).length ≤ sizeLine := by
      have q := congrArg List.length (xs_facts I hp hw r ta).2.2
      rw [List.length_map, List.length_map] at q
      rw [q]; exact hz
    rw [hp, hw] at hk ⊢
    refine wpAny_setItem_heap (hsz := xl) (k := nk k) (room1 (c := c) hu) hk (dict_T I hp hw e r n ta) fun h' dd hs => ?_
    obtain ⟨o, es', ep, h1, h2, h3, h4, _, _⟩ := dd
    obtain ⟨B', q1, q2⟩ := put_T rk rr rv r ta
    rw [← h4] at q1
    have nB' : a ∉ B' := fun x => (q2 a x).elim nB nC
    refine h _ es' ep B' (wr_T I l m e nB' hs ⟨o, h1, h2, h3⟩ (by rw [size_es q1]; exact hl') q1 (nodup_dput n) (or_T (keys_dput ta tk))) (fun x hx => (q2 x hx).imp (List.mem_cons_of_mem _) id) nB'
  · obtain ⟨rfl, _⟩ := rk.sref tk
    obtain ⟨ps, q1, q2⟩ := dict_S I hp hw e r n ta
    rw [hp, hw]
    refine wpAny_setItem_pairs (hsz := by rw [q1.all.2]; exact hz) (kV_is ry) q2 fun h' dd hs => ?_
    obtain ⟨o, es', ep, h1, h2, h3, h4, h5, _⟩ := dd
    obtain ⟨B', p1, p2⟩ := ps_put tk rr rv q1
    have q3 := es_of_ps p1 h5 fun x hx => h4 x (by simpa using hx)
    have nB' : a ∉ B' := fun x => (p2 a x).elim nB nC
    exact h _ es' ep B' (wr_T I l m e nB' hs ⟨o, h1, h2, h3⟩ (by rw [size_es q3]; exact hl') q3 (nodup_dput n) (or_S (keys_dput ta tk))) (fun x hx => (p2 x hx).imp (List.mem_cons_of_mem _) id) nB'
/-- d.pop(k), k there -/
theorem d_popK {d : D} {Q : Value → Shared → Prop} (hu : A.units + 20 < cLine) (I : Inv X pins σ H s) (hp : X.prog = c.prog) (hw : X.w = c.w) (rd : Rep c H (.ref a) (.dict kvs) F) (own : F.count a = 1) (rk : Rep c H y k []) (ry : RelV y u) (g : goes kvs k = true) (hd : dget kvs k = some d)
    (h : ∀ w' v s' es' ep' B' C, Wr c X pins σ H a (dout kvs k) B' s' es' ep' → RelV v w' → Rep c H v d C → C.Sublist F → a ∉ C → (∀ x ∈ B', x ∈ F) → a ∉ B' → Q w' s') : wpAny (model X.prog X.w) A (call (.builtin "dict.pop") [.ref a, u]) Q E s := by
  obtain ⟨_, es, B, ea, eF, l, m, e, z, r, n, _⟩ := rd.dct_inv
  cases ea
  subst eF
  have nB : a ∉ B := by
    rw [List.count_cons_self] at own
    exact List.count_eq_zero.mp (by omega)
  have hz : kvs.length ≤ sizeLine := by rw [← size_es r]; exact z
  have hlo : (dout kvs k).length ≤ sizeLine := Nat.le_trans (List.length_filter_le _ _) hz
  rcases goes_out g with ⟨tk, ta⟩ | ⟨tk, ta⟩
  · obtain ⟨b, rfl⟩ := rk.tref tk
    cases (show u = Value.ref b from ry)
    have hk := rk.isKey I tk
    have xl : (xsOf es.toList kvs).length ≤ sizeLine := by
      have q := congrArg List.length (xs_facts I hp hw r ta).2.2
      rw [List.length_map, List.length_map] at q
      rw [q]; exact hz
    obtain ⟨p, v, C, p1, p2, p3, p4⟩ := at_found r hd
    rw [hp, hw] at hk ⊢
    refine call_pop_heap (hsz := xl) (.inl rfl) (PySem.F.args_dict_pop_2 _ _) (room1 (c := c) hu) hk m (dict_T I hp hw e r n ta) p1 fun h' dd hs => ?_
    obtain ⟨o, es', ep, h1, h2, h3, h4, _, _⟩ := dd
    obtain ⟨B', q1, q2⟩ := out_T (k := k) r ta
    rw [← h4] at q1
    have nB' : a ∉ B' := fun x => nB (q2.subset x)
    exact h _ v _ es' ep B' C (wr_T I l m e nB' hs ⟨o, h1, h2, h3⟩ (by rw [size_es q1]; exact hlo) q1 (nodup_dout n) (or_T (keys_dout ta))) p2 p3 (p4.trans (List.sublist_cons_self _ _)) (fun x => nB (p4.subset x)) (fun x hx => List.mem_cons_of_mem _ (q2.subset hx)) nB'
  · obtain ⟨rfl, _⟩ := rk.sref tk
    obtain ⟨ps, q1, q2⟩ := dict_S I hp hw e r n ta
    obtain ⟨w', v, C, p1, p2, p3, p4⟩ := (ps_at tk q1).2 d hd
    have hpt : (keyPart u).isSome = true := by
      cases k with
      | int i => obtain ⟨t, q⟩ := (show ∃ t, u = Value.int i t from ry); subst q; rfl
      | str x => obtain ⟨t, q⟩ := (show ∃ t, u = Value.str x t from ry); subst q; rfl
      | _ => simp [skey] at tk
    rw [hp, hw]
    refine call_meetsIn PySem.F.slot_dict_pop q2.typeIs PySem.F.entry_dict_pop (PySem.F.args_dict_pop_2 _ _) (meets_dict_pop_there (mixKind c.prog c.w) a (kV_is ry) [] (.inl rfl) hpt) ⟨ps, w', q2, by rw [q1.all.2]; exact hz, p1, fun h' dd hs => ?_⟩
    obtain ⟨o, es', ep, h1, h2, h3, h4, h5, _⟩ := dd
    obtain ⟨B', r1, r2⟩ := ps_out tk q1
    have q3 := es_of_ps r1 h5 fun x hx => h4 x (by simpa using hx)
    have nB' : a ∉ B' := fun x => nB (r2.subset x)
    exact h _ v _ es' ep B' C (wr_T I l m e nB' hs ⟨o, h1, h2, h3⟩ (by rw [size_es q3]; exact hlo) q3 (nodup_dout n) (or_S (keys_dout ta))) p2 p3 (p4.trans (List.sublist_cons_self _ _)) (fun x => nB (p4.subset x)) (fun x hx => List.mem_cons_of_mem _ (r2.subset hx)) nB'
/-- d.setdefault(k, v), a tuple as key -/
theorem d_sdf {d : D} {v : V} {r0 : Value} {C : List Addr} {Q : Value → Shared → Prop} (hu : A.units + 20 < cLine) (I : Inv X pins σ H s) (hp : X.prog = c.prog) (hw : X.w = c.w) (rd : Rep c H (.ref a) (.dict kvs) F) (own : F.count a = 1) (nC : a ∉ C) (rk : Rep c H y k []) (ry : RelV y u)
    (rv : Rep c H v d C) (rr : RelV v r0) (tk : tkey k = true) (ta : kvs.all (fun p => tkey p.1) = true) (hl : kvs.length < LIM)
    (h1 : ∀ w' s' x d' C', dhas kvs k = true → Inv X pins σ H s' → RelV x w' → dget kvs k = some d' → Rep c H x d' C' → C'.Sublist F → Q w' s')
    (h2 : ∀ s' es' ep' B', dhas kvs k = false → Wr c X pins σ H a (kvs ++ [(k, d)]) B' s' es' ep' → (∀ x ∈ B', x ∈ F ∨ x ∈ C) → a ∉ B' → Q r0 s') : wpAny (model X.prog X.w) A (call (.builtin "dict.setdefault") [.ref a, u, r0]) Q E s := by
  obtain ⟨_, es, B, ea, eF, l, m, e, z, r, n, _⟩ := rd.dct_inv
  cases ea
  subst eF
  have nB : a ∉ B := by
    rw [List.count_cons_self] at own
    exact List.count_eq_zero.mp (by omega)
  have hz : kvs.length ≤ sizeLine := by rw [← size_es r]; exact z
  obtain ⟨b, rfl⟩ := rk.tref tk
  cases (show u = Value.ref b from ry)
  have hk := rk.isKey I tk
  have xl : (xsOf es.toList kvs).length ≤ sizeLine := by
    have q := congrArg List.length (xs_facts I hp hw r ta).2.2
    rw [List.length_map, List.length_map] at q
    rw [q]; exact hz
  rw [hp, hw] at hk ⊢
  refine call_setdefault_heap (hsz := xl) (k := nk k) (room1 (c := c) hu) hk m (dict_T I hp hw e r n ta) (fun p hp' => ?_) fun hn h' dd hs => ?_
  · obtain ⟨d', v', C', q1, q2, q3, q4⟩ := at_some r k hp'
    refine h1 _ _ v' d' C' ?_ (I.tok _) q2 q1 q3 (q4.trans (List.sublist_cons_self _ _))
    rw [← at_has r k, hp']
    rfl
  · have nh : dhas kvs k = false := by rw [← at_has r k, hn]; rfl
    obtain ⟨o, es', ep, g1, g2, g3, g4, _, _⟩ := dd
    obtain ⟨B', q1, q2⟩ := put_T rk rr rv r ta
    rw [← g4] at q1
    have nB' : a ∉ B' := fun x => (q2 a x).elim nB nC
    have e1 : dput kvs k d = kvs ++ [(k, d)] := by unfold dput; rw [nh]; rfl
    rw [e1] at q1
    have hl' : (kvs ++ [(k, d)]).length ≤ sizeLine := by rw [List.length_append, List.length_singleton, ← lim_eq]; omega
    refine h2 _ es' ep B' nh (wr_T I l m e nB' hs ⟨o, g1, g2, g3⟩ (by rw [size_es q1]; exact hl') q1 ?_ (or_T ?_)) (fun x hx => (q2 x hx).imp (List.mem_cons_of_mem _) id) nB'
    · rw [← e1]; exact nodup_dput n
    · rw [← e1]; exact keys_dput ta tk
end
end N
/-! N5. Subscripts, slices, membership, truth of data. -/
namespace N
open PySem PySem.Spec PyProof.Rows L2

section
variable {X : Cx} {c : Cfg} {pins : List (Addr × Obj)} {s : Shared} {σ : L2.St} {H : Hp}

/-- x[i] -/
def rItem (c : Cfg) : R2 := fun x y H Q => Tk c H ∧ ∃ d e F G r, Rep c H x d F ∧ Rep c H y e G ∧ itemD d e = some r ∧ ∀ v C, Rep c H v r C → C.Sublist F → Q v H
theorem imm_of_tkey {k : D} (h : tkey k = true) : imm k = true := by
  have all : (∀ d : D, hashable d = true → imm d = true) ∧ (∀ ds : List D, hashableAll ds = true → immAll ds = true) := by
    have key : ∀ n : Nat, (∀ d : D, sizeOf d < n → hashable d = true → imm d = true) ∧ (∀ ds : List D, sizeOf ds < n → hashableAll ds = true → immAll ds = true) := by
      intro n
      induction n with
      | zero => exact ⟨fun _ h => absurd h (Nat.not_lt_zero _), fun _ h => absurd h (Nat.not_lt_zero _)⟩
      | succ n ih =>
        refine ⟨fun d hs h => ?_, fun ds hs h => ?_⟩
        · cases d with
          | tuple xs =>
            have q : sizeOf xs < n := by simp at hs; omega
            simpa [imm] using ih.2 xs q (by simpa [hashable] using h)
          | list _ => simp [hashable] at h
          | dict _ => simp [hashable] at h
          | _ => rfl
        · cases ds with
          | nil => rfl
          | cons d ds =>
            rw [hashableAll, Bool.and_eq_true] at h
            rw [immAll, ih.1 d (by simp at hs; omega) h.1, ih.2 ds (by simp at hs; omega) h.2]
            rfl
    exact ⟨fun d => (key (sizeOf d + 1)).1 d (Nat.lt_succ_self _), fun ds => (key (sizeOf ds + 1)).2 ds (Nat.lt_succ_self _)⟩
  exact all.1 k (tkey_out h).2.1
theorem imm_of_goes {kvs : List (D × D)} {k : D} (h : goes kvs k = true) : imm k = true := by
  rcases goes_out h with ⟨h, _⟩ | ⟨h, _⟩
  · exact imm_of_tkey h
  · cases k <;> first | rfl | simp [skey] at h
theorem RepAll.getS {d : D} : ∀ {vs : List V} {ds : List D} {A : List Addr} {j : Nat}, RepAll c H vs ds A → ds[j]? = some d → ∃ v C, vs[j]? = some v ∧ Rep c H v d C ∧ C.Sublist A
  | _, _, _, j, .nil, h => by simp at h
  | _, _, _, 0, .cons r1 r2, h => by simp at h; subst h; exact ⟨_, _, rfl, r1, List.sublist_append_left _ _⟩
  | _, _, _, j + 1, .cons r1 r2, h => by
    obtain ⟨v, C, q1, q2, q3⟩ := r2.getS (j := j) (by simpa using h)
    exact ⟨v, C, by simpa using q1, q2, q3.trans (List.sublist_append_right _ _)⟩
theorem atI_rep {vs : List V} {ds : List D} {A : List Addr} (r : RepAll c H vs ds A) {i : Int} {d : D} (h : atI ds i = some d) : ∃ v C, atI vs i = some v ∧ Rep c H v d C ∧ C.Sublist A := by
  unfold atI at h ⊢
  rw [r.length]
  cases e : ixN ds.length i with
  | none => rw [e] at h; cases h
  | some j =>
    rw [e] at h
    have h : ds[j]? = some d := h
    show ∃ v C, vs[j]? = some v ∧ Rep c H v d C ∧ C.Sublist A
    exact r.getS h
theorem ix_data (hu : X.A.units + 20 < cLine) (hp : X.prog = c.prog) (hw : X.w = c.w) : IxR X (rItem c) := by
  intro value slice pins s σ H x y v u Q I rx ry h hs
  obtain ⟨k, d, e, F, G, r, hx, hy, hb, q⟩ := h
  unfold itemD at hb
  split at hb
  · obtain ⟨a, vs, B, rfl, rfl, la, ha, ra⟩ := hx.lst_inv
    obtain ⟨rfl, rfl⟩ := hy.int_inv
    obtain ⟨w', C, h1, h2, h3⟩ := atI_rep ra hb
    exact ix_list value slice pins s σ H _ _ v u Q I rx ry ⟨a, vs, _, w', rfl, rfl, .of ha, h1, q w' C h2 (h3.trans (List.sublist_cons_self _ _))⟩ hs
  · obtain ⟨a, vs, rfl, ha, ra⟩ := hx.tup_inv
    obtain ⟨rfl, rfl⟩ := hy.int_inv
    obtain ⟨w', C, h1, h2, h3⟩ := atI_rep ra hb
    exact ix_tup value slice pins s σ H _ _ v u Q I rx ry ⟨a, vs, _, w', rfl, rfl, .of ha, h1, q w' C h2 h3⟩ hs
  · rename_i z j
    obtain ⟨rfl, rfl⟩ := hx.str_inv
    obtain ⟨rfl, rfl⟩ := hy.int_inv
    split at hb
    · rename_i hl
      cases e : atI z.cps.toList j with
      | none => rw [e] at hb; cases hb
      | some ch =>
        rw [e] at hb
        cases hb
        exact ix_str value slice pins s σ H _ _ v u Q I rx ry ⟨z, j, ch, rfl, rfl, by rw [← lim_eq]; exact hl, e, q _ [] (.str _) (List.Sublist.refl _)⟩ hs
    · cases hb
  · split at hb
    · rename_i g
      obtain ⟨a, es, B, rfl, rfl, la, m, ha, z, rr, n, _⟩ := hx.dct_inv
      cases (show v = Value.ref a from rx)
      obtain ⟨ep, ha'⟩ := id ha
      obtain ⟨o, h1, h2, h3⟩ := (show ObjOk X.prog X.w H s.heap a (DO a es ep) from I.hok a _ ha').1
      have ht : s.TypeIs (.ref a) "dict" := ⟨o, h1, h2.1⟩
      exact tail_any ht slot_dict_getitem.lookup (d_get hu I hp hw hx hy ry g hb fun w' v' s' C I' rv rd sub => ⟨v', H, I', rv, q v' C rd sub⟩) hs
    · cases hb
  · cases hb

/-! ### slices -/
theorem cut_rep {vs : List V} {ds : List D} {A : List Addr} (r : RepAll c H vs ds A) (lo hi : Option Int) : ∃ B, RepAll c H (cutV vs lo hi) (cutD ds lo hi) B ∧ B.Sublist A := by
  unfold cutV cutD
  rw [r.length]
  obtain ⟨B, h1, h2⟩ := r.drop (HT.sIx ds.length 0 lo)
  obtain ⟨C, h3, h4⟩ := h1.take (HT.sIx ds.length ds.length hi - HT.sIx ds.length 0 lo)
  exact ⟨C, h3, h4.trans h2⟩
theorem cut_whole {ds : List D} {lo hi : Option Int} (h0 : HT.sIx ds.length 0 lo = 0) (h1 : HT.sIx ds.length ds.length hi = ds.length) : cutD ds lo hi = ds := by
  unfold cutD
  rw [h0, h1, List.drop_zero, Nat.sub_zero, List.take_length]
def rSl (c : Cfg) : V → Option Int → Option Int → Hp → VK → Prop := fun x lo hi H Q => Tk c H ∧ ∃ d F r o, Rep c H x d F ∧ sliceD d lo hi = some (r, o) ∧ Res c H F r o Q
theorem sl_data : SlR X (rSl c) := by
  intro pins s σ H x v vl vu lo hi sl Q I rx hs pl pu h
  obtain ⟨k, d, F, r, o, hx, hb, q⟩ := h
  unfold sliceD at hb
  split at hb
  · obtain ⟨a, vs, B, rfl, rfl, la, ha, ra⟩ := hx.lst_inv
    cases hb
    obtain ⟨C, h1, h2⟩ := cut_rep ra lo hi
    exact sl_list pins s σ H _ v vl vu lo hi sl Q I rx hs pl pu ⟨a, vs, rfl, .of ha, fun p np => q.newL k np h1 fun x z => List.mem_cons_of_mem _ (h2.subset z)⟩
  · obtain ⟨a, vs, rfl, ha, ra⟩ := hx.tup_inv
    cases hb
    obtain ⟨C, h1, h2⟩ := cut_rep ra lo hi
    refine sl_tupA pins s σ H _ v vl vu lo hi sl Q I rx hs pl pu ⟨a, vs, rfl, .of ha, fun z => ?_, fun _ p np => q.newT k np h1 fun x z => h2.subset z⟩
    have e : cutD _ lo hi = _ := cut_whole (ds := _) (by rw [← ra.length]; exact z.1) (by rw [← ra.length]; exact z.2)
    rw [e] at q
    exact q.part hx fun _ z => z
  · obtain ⟨rfl, rfl⟩ := hx.str_inv
    split at hb
    · rename_i hl
      cases hb
      exact sl_str pins s σ H _ v vl vu lo hi sl Q I rx hs pl pu ⟨_, rfl, by rw [← lim_eq]; exact hl, q.flat (.str _)⟩
    · cases hb
  · cases hb

/-! ### x[::-1] -/
theorem adjust_rev (n : Nat) : Builtin.Slice.sliceAdjust none none (-1) (n : Int) = ((n : Int) - 1, -1) := by
  unfold Builtin.Slice.sliceAdjust
  simp
theorem places_rev (n : Nat) : Builtin.Slice.slicePlaces ((n : Int) - 1) (-1) (-1) = n := by
  unfold Builtin.Slice.slicePlaces
  simp
  split <;> omega
theorem fm_congr {α β : Type} {f g : α → Option β} : ∀ {l : List α}, (∀ x ∈ l, f x = g x) → l.filterMap f = l.filterMap g
  | [], _ => rfl
  | x :: l, h => by rw [List.filterMap_cons, List.filterMap_cons, h x List.mem_cons_self, fm_congr fun y hy => h y (List.mem_cons_of_mem _ hy)]
theorem pick_rev (xs : Array Value) : ((List.range xs.size).filterMap fun (m : Nat) => xs[(((xs.size : Int) - 1) + (m : Int) * (-1)).toNat]?).toArray = xs.toList.reverse.toArray := by
  congr 1
  obtain ⟨l⟩ := xs
  simp only [List.size_toArray, List.getElem?_toArray]
  have e : (List.range l.length).filterMap (fun (m : Nat) => l[(((l.length : Int) - 1) + (m : Int) * (-1)).toNat]?) = (List.range l.length).filterMap (fun m => l.reverse[m]?) := by
    refine fm_congr fun m hm => ?_
    have h : m < l.length := List.mem_range.mp hm
    rw [List.getElem?_reverse h]
    congr 1
    omega
  rw [e]
  have q : ∀ r : List Value, (List.range r.length).filterMap (fun m => r[m]?) = r := fun r => by
    induction r with
    | nil => rfl
    | cons x r ih =>
      rw [List.length_cons, List.range_succ_eq_map, List.filterMap_cons, List.filterMap_map]
      show x :: (List.range r.length).filterMap (fun m => (x :: r)[m + 1]?) = x :: r
      simp only [List.getElem?_cons_succ]
      rw [ih]
  have z := q l.reverse
  rw [List.length_reverse] at z
  exact z
theorem getItem_tup_rev {prog : Program} {w : World} {A : Around} {E : Value → Shared → Prop} {t sl : Addr} {items : Array Value} {u : Tok} {Q : Value → Shared → Prop} (ht : IsTup s.heap t items) (hs : s.heap.IsSliceOf sl .none .none (.int (-1) u))
    (hsz : items.size ≤ sizeLine) (h : Q (.ref s.heap.objs.size) { s with heap := s.heap.push { cls := .type "tuple", data := .seq items.toList.reverse.toArray } }) : wpAny (model prog w) A (getItem (.ref t) (.ref sl)) Q E s := by
  obtain ⟨os, hos, hcs, hds⟩ := id hs
  have hTs : s.TypeIs (.ref sl) "slice" := ⟨os, hos, hcs⟩
  unfold getItem
  try with_reducible refine wpAny_holding ?_
  first | refine wpAny_bind (wpAny_pure ?_) | skip
  refine wpAny_bind (wpAny_sequenceKey ht.typeIs (by decide) ?_)
  refine wpAny_bind (wpAny_callSpecial?_slot (name := Str.ofString "__getitem__") ht.typeIs PyProof.Rows.slot_tuple_getitem
    (wpAny_call_entry PyProof.Rows.slot_tuple_getitem ht.typeIs entry_tuple_getitem ?_ (args_tuple_getitem _ _)))
  show wpAny _ _ (Builtin.Tuple.tupleItemsOf (.ref t) >>= _) _ _ s
  refine wpAny_bind (tupleItemsOf_ ht ?_)
  refine wpAny_bind (wpAny_typeOf hTs ?_)
  rw [if_pos (by decide)]
  refine wpAny_bind ?_
  unfold Builtin.Slice.sliceApplied Builtin.Slice.sliceFields
  refine wpAny_bind (wpAny_bind (wpAny_field hos hds (x := .none) rfl (wpAny_bind (wpAny_field hos hds (x := .none) rfl (wpAny_bind (wpAny_field hos hds (x := .int (-1) u) rfl (wpAny_pure ?_)))))))
  refine wpAny_bind (slicePart_int ?_)
  show wpAny _ _ (if ((-1 : Int) == 0) = true then _ else _) _ _ s
  rw [if_neg (by decide)]
  refine wpAny_bind (slicePart_none (wpAny_bind (slicePart_none (wpAny_bind (wpAny_pure ?_)))))
  show wpAny _ _ (match Builtin.Slice.sliceAdjust none none (-1) (items.size : Int) with | (lo, hi) => pure (lo, (-1 : Int), Builtin.Slice.slicePlaces lo hi (-1))) _ _ s
  rw [adjust_rev]
  show wpAny _ _ (pure ((items.size : Int) - 1, (-1 : Int), Builtin.Slice.slicePlaces ((items.size : Int) - 1) (-1) (-1))) _ _ s
  rw [places_rev]
  refine wpAny_pure ?_
  have hno : ¬ ((((items.size : Int) - 1) == 0 && (-1 : Int) == 1 && items.size == items.size) = true) := by
    intro q
    simp at q
  show wpAny _ _ (if (((items.size : Int) - 1) == 0 && (-1 : Int) == 1 && items.size == items.size) = true then _ else _) _ _ s
  rw [if_neg hno, pick_rev]
  have hz : sizeOk (.seq items.toList.reverse.toArray) := by
    show items.toList.reverse.toArray.size ≤ sizeLine
    rw [List.size_toArray, List.length_reverse, Array.length_toList]
    exact hsz
  first
    | exact wpAny_bind (m := Builtin.Tuple.tupleExact _) (wpAny_newObj_type (wpAny_pure ⟨_, rfl, wpAny_pure h⟩) hz)
    | exact wpAny_bind (wpAny_bind (m := Builtin.Tuple.tupleExact _) (wpAny_newObj_type (wpAny_pure ⟨_, rfl, wpAny_pure h⟩) hz))
    | exact wpAny_bind (wpAny_bind (m := Builtin.Tuple.tupleExact _) (wpAny_newObj_type (wpAny_pure (wpAny_pure ⟨_, rfl, wpAny_pure h⟩)) hz))
/-- the reading of x[::-1] -/
def tRev (c : Cfg) (te : TE) : TE := fun σ H Q => te σ H fun x H1 => Tk c H1 ∧ ∃ d F r o, Rep c H1 x d F ∧ revD d = some (r, o) ∧ Res c H1 F r o Q
theorem RepAll.reverse {vs : List V} {ds : List D} {A : List Addr} (r : RepAll c H vs ds A) : ∃ B, RepAll c H vs.reverse ds.reverse B ∧ ∀ a ∈ B, a ∈ A := by
  have go : ∀ {vs : List V} {ds : List D} {A : List Addr}, RepAll c H vs ds A → ∀ {ws : List V} {es : List D} {C : List Addr}, RepAll c H ws es C → ∃ B, RepAll c H (vs.reverse ++ ws) (ds.reverse ++ es) B ∧ ∀ a ∈ B, a ∈ A ∨ a ∈ C := by
    intro vs
    induction vs with
    | nil => intro ds A r ws es C q; cases r; exact ⟨C, q, fun _ z => .inr z⟩
    | cons v vs ih =>
      intro ds A r ws es C q
      cases r with
      | cons r1 r2 =>
        obtain ⟨B, h1, h2⟩ := ih r2 (RepAll.cons r1 q)
        rw [List.reverse_cons, List.reverse_cons, List.append_assoc, List.append_assoc]
        refine ⟨B, h1, fun a z => ?_⟩
        rcases h2 a z with z | z
        · exact .inl (List.mem_append_right _ z)
        · rcases List.mem_append.mp z with z | z
          · exact .inl (List.mem_append_left _ z)
          · exact .inr z
  obtain ⟨B, h1, h2⟩ := go r (RepAll.nil)
  rw [List.append_nil, List.append_nil] at h1
  exact ⟨B, h1, fun a z => (h2 a z).elim id fun z => (nomatch z)⟩
theorem pe_rev {e : Expr} {te : TE} {k : Nat} {p1 p2 p3 pos : Pos} (he : PE X e te) : PE X (.Subscript e (.Slice none none (some (.UnaryOp .USub (.Constant (.int 1) k p1) p2)) p3) pos) (tRev c te) := by
  constructor
  intro pins s σ H Q I h
  refine Subscript_ (thn (he.run pins s σ H _ I h) fun v s1 ⟨x, H1, I1, r1, tk, d, F, r, o, rx, hb, q⟩ => ?_)
  have hst : PO X (some (.UnaryOp .USub (.Constant (.int 1) k p1) p2)) (tPart (tUn (rU fun i => .int (-i)) (tC (.int 1)))) := po_some (pe_un un_neg pe_int)
  refine wpAny_Slice (thn (po_none.run pins s1 σ H1 (fun o H2 => o = none ∧ H2 = H1) I1 ⟨rfl, rfl⟩) fun vl s2 ⟨l, H2, I2, pl, el, e2⟩ => ?_)
  subst el e2
  refine thn (po_none.run pins s2 σ H2 (fun o H3 => o = none ∧ H3 = H2) I2 ⟨rfl, rfl⟩) fun vu s3 ⟨u, H3, I3, pu, eu, e3⟩ => ?_
  subst eu e3
  refine thn (hst.run pins s3 σ H3 (fun o H4 => o = some (-1) ∧ H4 = H3) I3 ⟨1, rfl, -1, rfl, rfl, rfl⟩) fun vs s4 ⟨o', H4, I4, ps, eo, e4⟩ => ?_
  subst eo e4
  have I5 : Inv X pins σ H4 { s4 with heap := s4.heap.push { cls := .type "slice", data := .fields #[vl, vu, vs] } } := I4.kept (t' := s4.toks) fun b ob q => Heap.get?_push_of_some _ q
  show wpAny (model X.prog X.w) X.A (subscriptTail e (.Slice none none (some (.UnaryOp .USub (.Constant (.int 1) k p1) p2)) p3) v (.ref s4.heap.objs.size)) (EP X pins σ Q) X.xe { s4 with heap := s4.heap.push { cls := .type "slice", data := .fields #[vl, vu, vs] } }
  unfold revD at hb
  split at hb
  · obtain ⟨a, xs, B, rfl, rfl, la, ha, ra⟩ := rx.lst_inv
    cases r1
    cases hb
    obtain ⟨its, rv, ht, hz⟩ := I5.list (SqL.of ha)
    have hlen := rv.length
    refine tail_any (ops := [.ref a, .ref s4.heap.objs.size]) ht.isList.typeIs (PySem.slot_list_getitem.lookup) ?_ (by with_unfolding_all rfl)
    refine wpAny_getItem_list_slice ht.isList (Heap.IsSliceOf.new _ vl vu vs) pl pu ps (by decide) ?_ (by rw [List.size_toArray]; omega)
    rw [PySem.W.krv_pick]
    obtain ⟨C, h1, h2⟩ := ra.reverse
    refine ⟨.ref _, _, I5.laid (t' := s4.toks) (o := .lst xs.reverse) (fun b ob q => Heap.get?_push_of_some _ q) (Nat.le_refl _) ?_, rfl, q.newL tk (I5.hok.fresh (Nat.le_refl _)) h1 fun x z => List.mem_cons_of_mem _ (h2 x z)⟩
    exact ⟨by rw [List.length_reverse]; exact hz, _, 0, rv.reverse, Heap.get?_push_size _ rfl⟩
  · obtain ⟨a, xs, rfl, ha, ra⟩ := rx.tup_inv
    cases r1
    cases hb
    obtain ⟨its, rv, ht, hz⟩ := I5.tuple (SqT.of ha)
    have hlen := rv.length
    cases pl
    cases pu
    cases ps
    refine tail_any (ops := [.ref a, .ref s4.heap.objs.size]) ht.typeIs (PyProof.Rows.slot_tuple_getitem.lookup) ?_ (by with_unfolding_all rfl)
    refine getItem_tup_rev ht (Heap.IsSliceOf.new _ .none .none _) (by rw [List.size_toArray]; omega) ?_
    obtain ⟨C, h1, h2⟩ := ra.reverse
    refine ⟨.ref _, _, I5.laid (t' := s4.toks) (o := .tup xs.reverse) (fun b ob q => Heap.get?_push_of_some _ q) (Nat.le_refl _) ?_, rfl, q.newT tk (I5.hok.fresh (Nat.le_refl _)) h1 h2⟩
    exact ⟨by rw [List.length_reverse]; exact hz, _, by simpa using rv.reverse, IsTup.new _ _⟩
  · cases hb

/-! ### x in y -/
theorem hasD_rule {neg : Bool} (hu : X.A.units + 70 < cLine) (hp : X.prog = c.prog) (hw : X.w = c.w) {x y : V} {v u : Value} {Q : VK} {d e : D} {F G : List Addr} {r : Bool} (I : Inv X pins σ H s) (rx : RelV x v) (ry : RelV y u) (hx : Rep c H x d F) (hy : Rep c H y e G) (hb : hasD e d = some r)
    (q : Q (.bl (if neg then !r else r)) H) : wpAny (model X.prog X.w) X.A (compareOp (if neg then .NotIn else .In) v u) (EP X pins σ Q) X.xe s := by
  unfold hasD at hb
  split at hb
  · split at hb
    · rename_i ds g
      simp only [Bool.and_eq_true, decide_eq_true_eq] at g
      cases hb
      obtain ⟨as, h1⟩ := hy.reads I ry (by simpa [PyData.plain] using g.1.1)
      obtain ⟨bs, h2⟩ := hx.reads I rx g.1.2
      cases neg with
      | true => exact SeqAt.notIn_list_data h1 h2 g.1.1 g.1.2 (by omega) ⟨.bl _, H, I, rfl, q⟩
      | false => exact SeqAt.in_list_data h1 h2 g.1.1 g.1.2 (by omega) ⟨.bl _, H, I, rfl, q⟩
    · cases hb
  · split at hb
    · rename_i ds g
      simp only [Bool.and_eq_true, decide_eq_true_eq] at g
      cases hb
      obtain ⟨as, h1⟩ := hy.reads I ry (by simpa [PyData.plain] using g.1.1)
      obtain ⟨bs, h2⟩ := hx.reads I rx g.1.2
      cases neg with
      | true => exact SeqAt.notIn_tuple_data h1 h2 g.1.1 g.1.2 (by omega) ⟨.bl _, H, I, rfl, q⟩
      | false => exact SeqAt.in_tuple_data h1 h2 g.1.1 g.1.2 (by omega) ⟨.bl _, H, I, rfl, q⟩
    · cases hb
  · split at hb
    · rename_i g
      cases hb
      obtain ⟨a, es, B, rfl, _⟩ := hy.dct_inv
      cases (show u = Value.ref a from ry)
      cases neg with
      | true => exact d_notIn (by omega) I hp hw hy hx rx g fun s' I' => ⟨.bl _, H, I', rfl, q⟩
      | false => exact d_in (by omega) I hp hw hy hx rx g fun s' I' => ⟨.bl _, H, I', rfl, q⟩
    · cases hb
  · split at hb
    · split at hb
      · rename_i z _ ch e1
        obtain ⟨rfl, _⟩ := hx.str_inv
        obtain ⟨rfl, _⟩ := hy.str_inv
        cases hb
        have ez : z = ⟨#[ch]⟩ := by
          unfold oneSign at e1
          split at e1
          · rename_i c' e2
            cases e1
            obtain ⟨⟨l⟩⟩ := z
            have e3 : l = [ch] := e2
            rw [e3]
          · cases e1
        subst ez
        cases neg with
        | true => exact op_notIn_sign pins s σ H _ _ v u Q I rx ry ⟨ch, _, rfl, rfl, q⟩
        | false => exact op_in_sign pins s σ H _ _ v u Q I rx ry ⟨ch, _, rfl, rfl, q⟩
      · cases hb
    · cases hb
  · cases hb
/-- any comparison -/
theorem op_cmp {op : CmpOp} (hu : X.A.units + 70 < cLine) (hp : X.prog = c.prog) (hw : X.w = c.w) : OpR X (compareOp op) (rCmp c op) := by
  by_cases h1 : op = .In
  · subst h1
    intro pins s σ H x y v u Q I rx ry ⟨k, d, e, F, G, r, hx, hy, hb, q⟩
    exact hasD_rule (neg := false) hu hp hw I rx ry hx hy hb q
  by_cases h2 : op = .NotIn
  · subst h2
    intro pins s σ H x y v u Q I rx ry ⟨k, d, e, F, G, r, hx, hy, hb, q⟩
    have hb : (hasD e d).map (!·) = some r := hb
    obtain ⟨r', h3, h4⟩ := Option.map_eq_some_iff.mp hb
    exact hasD_rule (neg := true) hu hp hw I rx ry hx hy h3 (by rw [if_pos rfl, h4]; exact q)
  by_cases h3 : op = .Is
  · subst h3; exact op_is
  by_cases h4 : op = .IsNot
  · subst h4; exact op_isnot
  exact op_cmp_ord hu h1 h2 h3 h4

/-! ### truth -/
theorem tru_data : TruR X (fun x H Q => ∃ d F t, Rep c H x d F ∧ truth d = some t ∧ Q t H) := by
  intro pins s σ H x v Q I rx ⟨d, F, t, r, ht, q⟩
  refine tru_ok pins s σ H x v Q I rx ⟨t, ?_, q⟩
  cases r with
  | non => cases ht; rfl
  | bl b => cases ht; rfl
  | int i => cases ht; rfl
  | str x => cases ht
  | @tup a vs ds as l e r =>
    cases ht
    refine .inr (.inl ⟨vs, .of e, ?_⟩)
    have q := r.length
    cases vs <;> cases ds <;> first | rfl | simp at q
  | @lst a vs ds as l e r =>
    cases ht
    refine .inl ⟨vs, .of e, ?_⟩
    have q := r.length
    cases vs <;> cases ds <;> first | rfl | simp at q
  | dct l m e z r n g => cases ht
end
end N
/-! N6. Built-in functions on data. -/
namespace N
open PySem PySem.Spec PyProof.Rows L2

section
variable {X : Cx} {c : Cfg} {pins : List (Addr × Obj)} {s : Shared} {σ : L2.St} {H : Hp}

def rBi (c : Cfg) (f : B) : List V → Hp → VK → Prop := fun xs H Q => Tk c H ∧ ∃ ds A r o, RepAll c H xs ds A ∧ biD f ds = some (r, o) ∧ Res c H A r o Q
theorem one_arg {xs : List V} {d : D} {A : List Addr} (r : RepAll c H xs [d] A) : ∃ x, xs = [x] ∧ Rep c H x d A := by
  cases r with
  | cons r1 r2 =>
    cases r2
    exact ⟨_, rfl, by rw [List.append_nil]; exact r1⟩
theorem two_args {xs : List V} {d e : D} {A : List Addr} (r : RepAll c H xs [d, e] A) : ∃ x y F G, xs = [x, y] ∧ Rep c H x d F ∧ Rep c H y e G ∧ A = F ++ G := by
  cases r with
  | cons r1 r2 =>
    obtain ⟨y, rfl, q⟩ := one_arg r2
    exact ⟨_, _, _, _, rfl, r1, q, rfl⟩
theorem ints_rep : ∀ {ds : List D} {ns : List Int} {xs : List V} {A : List Addr}, intsOf ds = some ns → RepAll c H xs ds A → xs = ns.map V.int
  | [], ns, _, _, h, r => by cases h; cases r; rfl
  | .int i :: ds, ns, _, _, h, r => by
    obtain ⟨ms, h1, rfl⟩ := Option.map_eq_some_iff.mp (show (intsOf ds).map (i :: ·) = some ns from h)
    cases r with
    | cons r1 r2 =>
      obtain ⟨rfl, _⟩ := r1.int_inv
      rw [ints_rep h1 r2]
      rfl
  | .none :: _, _, _, _, h, _ => nomatch h
  | .bool _ :: _, _, _, _, h, _ => nomatch h
  | .str _ :: _, _, _, _, h, _ => nomatch h
  | .list _ :: _, _, _, _, h, _ => nomatch h
  | .tuple _ :: _, _, _, _, h, _ => nomatch h
  | .dict _ :: _, _, _, _, h, _ => nomatch h
theorem bools_rep : ∀ {ds : List D} {ns : List Bool} {xs : List V} {A : List Addr}, boolsOf ds = some ns → RepAll c H xs ds A → xs = ns.map V.bl
  | [], ns, _, _, h, r => by cases h; cases r; rfl
  | .bool i :: ds, ns, _, _, h, r => by
    obtain ⟨ms, h1, rfl⟩ := Option.map_eq_some_iff.mp (show (boolsOf ds).map (i :: ·) = some ns from h)
    cases r with
    | cons r1 r2 =>
      obtain ⟨rfl, _⟩ := r1.bool_inv
      rw [bools_rep h1 r2]
      rfl
  | .none :: _, _, _, _, h, _ => nomatch h
  | .int _ :: _, _, _, _, h, _ => nomatch h
  | .str _ :: _, _, _, _, h, _ => nomatch h
  | .list _ :: _, _, _, _, h, _ => nomatch h
  | .tuple _ :: _, _, _, _, h, _ => nomatch h
  | .dict _ :: _, _, _, _, h, _ => nomatch h
theorem ext_of {H : Hp} {a : Addr} {es : Array DictEntry} (I : Inv X pins σ H s) (e : ∃ ep, H a = some (DO a es ep)) : ∃ ep, s.heap.DictRaw a es ep := by
  obtain ⟨ep, e⟩ := e
  obtain ⟨o, h1, h2, h3⟩ := (show ObjOk X.prog X.w H s.heap a (DO a es ep) from I.hok a _ e).1
  exact ⟨ep, o, h1, h2, h3⟩
theorem call_len_data : CallR X (.builtin "len") (rBi c .len) := by
  intro pins s σ H xs us Q I r ⟨k, ds, A, d, o, rr, hb, q⟩
  unfold biD at hb
  split at hb <;> first | contradiction | skip
  · obtain ⟨x, rfl, r1⟩ := one_arg rr
    obtain ⟨a, vs, B, rfl, rfl, la, ha, ra⟩ := r1.lst_inv
    cases hb
    exact call_len_seq pins s σ H _ us Q I r ⟨a, vs, rfl, .inl (.of ha), by rw [ra.length]; exact q.flat (.int _)⟩
  · obtain ⟨x, rfl, r1⟩ := one_arg rr
    obtain ⟨a, vs, rfl, ha, ra⟩ := r1.tup_inv
    cases hb
    exact call_len_seq pins s σ H _ us Q I r ⟨a, vs, rfl, .inr (.of ha), by rw [ra.length]; exact q.flat (.int _)⟩
  · obtain ⟨x, rfl, r1⟩ := one_arg rr
    obtain ⟨rfl, rfl⟩ := r1.str_inv
    split at hb
    · rename_i hl
      cases hb
      exact call_len_str pins s σ H _ us Q I r ⟨_, rfl, by rw [← lim_eq]; exact hl, q.flat (.int _)⟩
    · cases hb
  · obtain ⟨x, rfl, r1⟩ := one_arg rr
    obtain ⟨a, es, B, rfl, rfl, la, m, ha, z, re, _⟩ := r1.dct_inv
    cases hb
    obtain ⟨u, rfl, rx⟩ := vals1 r
    cases rx
    obtain ⟨ep, hr⟩ := ext_of I ha
    have hz := size_es re
    have hs : sizeLine = 16777216 := sizeLine_eq
    refine PyProof.Rows.call_len_slot (n := es.size) hr.typeIs PySem.F.slot_dict_len (fun Q' hq => call_len_raw m hr hq) (by omega) (by omega) ?_
    rw [hz]
    exact ⟨.int _, H, I.tok _, ⟨_, rfl⟩, q.flat (.int _)⟩
theorem call_abs_data : CallR X (.builtin "abs") (rBi c .abs) := by
  intro pins s σ H xs us Q I r ⟨k, ds, A, d, o, rr, hb, q⟩
  unfold biD at hb
  split at hb <;> first | contradiction | skip
  obtain ⟨x, rfl, r1⟩ := one_arg rr
  obtain ⟨rfl, rfl⟩ := r1.int_inv
  cases hb
  exact call_abs pins s σ H _ us Q I r ⟨_, rfl, q.flat (.int _)⟩
theorem call_int_data : CallR X (.type "int") (rBi c .int) := by
  intro pins s σ H xs us Q I r ⟨k, ds, A, d, o, rr, hb, q⟩
  unfold biD at hb
  split at hb <;> first | contradiction | skip
  · obtain ⟨x, rfl, r1⟩ := one_arg rr
    obtain ⟨rfl, rfl⟩ := r1.int_inv
    cases hb
    exact call_int1 pins s σ H _ us Q I r (.inl ⟨_, rfl, q.flat (.int _)⟩)
  · obtain ⟨x, rfl, r1⟩ := one_arg rr
    obtain ⟨rfl, rfl⟩ := r1.bool_inv
    cases hb
    exact call_int1 pins s σ H _ us Q I r (.inr ⟨_, rfl, q.flat (.int _)⟩)
theorem call_sum_data (hc : X.calm = true) : CallR X (.builtin "sum") (rBi c .sum) := by
  intro pins s σ H xs us Q I r ⟨k, ds, A, d, o, rr, hb, q⟩
  unfold biD at hb
  split at hb <;> first | contradiction | skip
  obtain ⟨x, rfl, r1⟩ := one_arg rr
  obtain ⟨a, vs, B, rfl, rfl, la, ha, ra⟩ := r1.lst_inv
  obtain ⟨ns, h1, h2⟩ := Option.map_eq_some_iff.mp hb
  cases h2
  have e := ints_rep h1 ra
  subst e
  exact cr_sum hc pins s σ H _ us Q I r ⟨a, ns, rfl, .of ha, q.flat (.int _)⟩
theorem call_any_data (hc : X.calm = true) : CallR X (.builtin "any") (rBi c .any) := by
  intro pins s σ H xs us Q I r ⟨k, ds, A, d, o, rr, hb, q⟩
  unfold biD at hb
  split at hb <;> first | contradiction | skip
  obtain ⟨x, rfl, r1⟩ := one_arg rr
  obtain ⟨a, vs, B, rfl, rfl, la, ha, ra⟩ := r1.lst_inv
  obtain ⟨ns, h1, h2⟩ := Option.map_eq_some_iff.mp hb
  cases h2
  have e := bools_rep h1 ra
  subst e
  exact cr_any hc pins s σ H _ us Q I r ⟨a, ns, rfl, .of ha, q.flat (.bl _)⟩
theorem call_all_data (hc : X.calm = true) : CallR X (.builtin "all") (rBi c .all) := by
  intro pins s σ H xs us Q I r ⟨k, ds, A, d, o, rr, hb, q⟩
  unfold biD at hb
  split at hb <;> first | contradiction | skip
  obtain ⟨x, rfl, r1⟩ := one_arg rr
  obtain ⟨a, vs, B, rfl, rfl, la, ha, ra⟩ := r1.lst_inv
  obtain ⟨ns, h1, h2⟩ := Option.map_eq_some_iff.mp hb
  cases h2
  have e := bools_rep h1 ra
  subst e
  exact cr_all hc pins s σ H _ us Q I r ⟨a, ns, rfl, .of ha, q.flat (.bl _)⟩
theorem call_tuple_data : CallR X (.type "tuple") (rBi c .tuple) := by
  intro pins s σ H xs us Q I r ⟨k, ds, A, d, o, rr, hb, q⟩
  unfold biD at hb
  split at hb <;> first | contradiction | skip
  · obtain ⟨x, rfl, r1⟩ := one_arg rr
    obtain ⟨a, vs, B, rfl, rfl, la, ha, ra⟩ := r1.lst_inv
    cases hb
    exact call_tuple_of pins s σ H _ us Q I r ⟨a, vs, rfl, .inl ⟨.of ha, fun l hl => q.newT k hl ra fun x z => List.mem_cons_of_mem _ z⟩⟩
  · obtain ⟨x, rfl, r1⟩ := one_arg rr
    obtain ⟨a, vs, rfl, ha, ra⟩ := id r1.tup_inv
    cases hb
    exact call_tuple_of pins s σ H _ us Q I r ⟨a, vs, rfl, .inr ⟨.of ha, q.part r1 fun _ z => z⟩⟩
theorem keys_reps : ∀ {es : List DictEntry} {kvs : List (D × D)} {B : List Addr}, RepEs c H es kvs B → ∀ {vs : List Value}, vs = es.map (·.key) → ∃ xs, Vals xs vs ∧ RepAll c H xs (kvs.map (·.1)) []
  | _, _, _, .nil, _, e => by subst e; exact ⟨[], .nil, .nil⟩
  | _, _, _, .cons r1 r2 hh r3 r4 t, _, e => by
    subst e
    obtain ⟨xs, h1, h2⟩ := keys_reps t rfl
    exact ⟨_, .cons r1 h1, .cons r2 h2⟩
theorem vals_reps : ∀ {es : List DictEntry} {kvs : List (D × D)} {B : List Addr}, RepEs c H es kvs B → ∀ {vs : List Value}, vs = es.map (·.val) → ∃ xs, Vals xs vs ∧ RepAll c H xs (kvs.map (·.2)) B
  | _, _, _, .nil, _, e => by subst e; exact ⟨[], .nil, .nil⟩
  | _, _, _, .cons r1 r2 hh r3 r4 t, _, e => by
    subst e
    obtain ⟨xs, h1, h2⟩ := vals_reps t rfl
    exact ⟨_, .cons r3 h1, .cons r4 h2⟩
theorem items_eq {es : Array DictEntry} {f : DictEntry → Value} {acc : Array Value} (h : ItemsOf (fun i v => ∃ hi : i < es.size, v = f es[i]) acc es.size) : acc.toList = es.toList.map f := by
  refine List.ext_getElem? fun i => ?_
  rw [List.getElem?_map]
  by_cases hi : i < es.size
  · have h1 : i < acc.size := by rw [h.1]; exact hi
    obtain ⟨_, e⟩ := h.2 i acc[i] (by simp [h1])
    rw [Array.getElem?_toList, Array.getElem?_toList, Array.getElem?_eq_getElem h1, Array.getElem?_eq_getElem hi, e]
    rfl
  · rw [List.getElem?_eq_none (by rw [Array.length_toList, h.1]; omega), List.getElem?_eq_none (by rw [Array.length_toList]; omega)]
    rfl
theorem call_list_data (hc : X.calm = true) : CallR X (.type "list") (rBi c .list) := by
  intro pins s σ H xs us Q I r ⟨k, ds, A, d, o, rr, hb, q⟩
  unfold biD at hb
  split at hb <;> first | contradiction | skip
  · obtain ⟨x, rfl, r1⟩ := one_arg rr
    obtain ⟨a, vs, B, rfl, rfl, la, ha, ra⟩ := r1.lst_inv
    cases hb
    exact call_list_of pins s σ H _ us Q I r ⟨a, vs, rfl, .inl (.of ha), fun l hl => q.newL k hl ra fun x z => List.mem_cons_of_mem _ z⟩
  · obtain ⟨x, rfl, r1⟩ := one_arg rr
    obtain ⟨a, vs, rfl, ha, ra⟩ := r1.tup_inv
    cases hb
    exact call_list_of pins s σ H _ us Q I r ⟨a, vs, rfl, .inr (.of ha), fun l hl => q.newL k hl ra fun x z => z⟩
  · obtain ⟨x, rfl, r1⟩ := one_arg rr
    obtain ⟨a, es, B, rfl, rfl, la, m, ha, z, re, _⟩ := r1.dct_inv
    cases hb
    obtain ⟨u, rfl, rx⟩ := vals1 r
    cases rx
    obtain ⟨ep, hr⟩ := ext_of I ha
    refine PySem.W.kdl_call (PySem.KdlSrc.rawDict m) (I.ok.hd hc) hr z fun h' tk acc c' hk hD hacc => ?_
    have ea := items_eq (f := (·.key)) hacc
    obtain ⟨xs, h1, h2⟩ := keys_reps re ea
    have hl : xs.length ≤ sizeLine := by rw [h1.length, Array.length_toList, hacc.1]; exact z
    refine ⟨.ref _, _, I.laid (t' := tk) (o := .lst xs) hk (Nat.le_refl _) ⟨hl, acc.toList, c', h1, by simpa using hD⟩, rfl, q.newL k (I.hok.fresh (Nat.le_refl _)) h2 fun _ z => (nomatch z)⟩

/-! ### sorted -/
theorem each_of : ∀ {xs : List V} {us : List Value} {ds : List D} {A : List Addr}, Vals xs us → RepAll c H xs ds A → PySem.W.EachIs (fun v d => ∃ x G, RelV x v ∧ Rep c H x d G ∧ ∀ a ∈ G, a ∈ A) us ds
  | _, _, _, _, .nil, r => by cases r; exact .nil
  | _, _, _, _, .cons v1 v2, .cons r1 r2 =>
    .cons ⟨_, _, v1, r1, fun a h => List.mem_append_left _ h⟩ ((each_of v2 r2).mono fun _ _ ⟨x, G, h1, h2, h3⟩ => ⟨x, G, h1, h2, fun a h => List.mem_append_right _ (h3 a h)⟩)
theorem of_each {A : List Addr} : ∀ {us : List Value} {ds : List D}, PySem.W.EachIs (fun v d => ∃ x G, RelV x v ∧ Rep c H x d G ∧ ∀ a ∈ G, a ∈ A) us ds → ∃ xs B, Vals xs us ∧ RepAll c H xs ds B ∧ ∀ a ∈ B, a ∈ A
  | _, _, .nil => ⟨[], [], .nil, .nil, fun _ h => (nomatch h)⟩
  | _, _, .cons ⟨x, G, h1, h2, h3⟩ t => by
    obtain ⟨xs, B, q1, q2, q3⟩ := of_each t
    exact ⟨_, _, .cons h1 q1, .cons h2 q2, fun a h => (List.mem_append.mp h).elim (h3 a) (q3 a)⟩
theorem plain_of_alike : ∀ d : D, PySem.W.alike d d = true → d.plain = true := by
  have key : ∀ n : Nat, (∀ d : D, sizeOf d < n → PySem.W.alike d d = true → d.plain = true) ∧ (∀ ds : List D, sizeOf ds < n → PySem.W.alikeAll ds ds = true → PyData.plainAll ds = true) := by
    intro n
    induction n with
    | zero => exact ⟨fun _ h => absurd h (Nat.not_lt_zero _), fun _ h => absurd h (Nat.not_lt_zero _)⟩
    | succ n ih =>
      refine ⟨fun d hs h => ?_, fun ds hs h => ?_⟩
      · cases d with
        | tuple xs => exact by simpa [PyData.plain] using ih.2 xs (by simp at hs; omega) (by simpa [PySem.W.alike] using h)
        | list xs => exact by simpa [PyData.plain] using ih.2 xs (by simp at hs; omega) (by simpa [PySem.W.alike] using h)
        | dict _ => simp [PySem.W.alike] at h
        | _ => rfl
      · cases ds with
        | nil => rfl
        | cons d ds =>
          rw [PySem.W.alikeAll, Bool.and_eq_true] at h
          rw [PyData.plainAll, ih.1 d (by simp at hs; omega) h.1, ih.2 ds (by simp at hs; omega) h.2]
          rfl
  exact fun d => (key (sizeOf d + 1)).1 d (Nat.lt_succ_self _)
theorem sortD_out {ds es : List D} (h : sortD ds = some es) : PySem.W.AllAlike ds ∧ PySem.W.Sortable ds ∧ PyData.depthAll ds ≤ 60 ∧ es = ds.mergeSort (PySem.W.dataLe false id) := by
  unfold sortD at h
  split at h
  · rename_i g
    simp only [Bool.and_eq_true, decide_eq_true_eq] at g
    cases h
    refine ⟨fun d hd e he => List.all_eq_true.mp (List.all_eq_true.mp g.1.1 d hd) e he, ?_, g.2, rfl⟩
    have q := g.1.2
    unfold sortable at q
    rw [Bool.or_eq_true] at q
    rcases q with q | q
    · refine .inl fun d hd => ?_
      have z := List.all_eq_true.mp q d hd
      cases d with
      | tuple xs =>
        cases xs with
        | nil => simp at z
        | cons x r => exact ⟨x, r, rfl⟩
      | _ => simp at z
    · refine .inr fun d hd => ?_
      have z := List.all_eq_true.mp q d hd
      cases d with
      | tuple xs => simp at z
      | none => simp at z
      | _ => exact ⟨fun e => (nomatch e), fun xs e => (nomatch e)⟩
  · cases h
theorem depth_mem : ∀ {ds : List D} {d : D}, d ∈ ds → d.depth ≤ PyData.depthAll ds
  | x :: xs, d, h => by
    rw [PyData.depthAll]
    rcases List.mem_cons.mp h with rfl | h
    · exact Nat.le_max_left _ _
    · exact Nat.le_trans (depth_mem h) (Nat.le_max_right _ _)
mutual
theorem reads_lt {h : Heap} : ∀ {v : Value} {d : D} {as : List Addr}, Reads h v d as → ∀ a ∈ as, a < h.objs.size
  | _, _, _, .none, _, hm => (nomatch hm)
  | _, _, _, .bool _, _, hm => (nomatch hm)
  | _, _, _, .int _ _, _, hm => (nomatch hm)
  | _, _, _, .str _ _, _, hm => (nomatch hm)
  | _, _, _, .list ho _ _ r, b, hm => (List.mem_cons.mp hm).elim (fun e => e ▸ Heap.lt_size ho) (readsAll_lt r b)
  | _, _, _, .tuple _ _ _ r, b, hm => readsAll_lt r b hm
  | _, _, _, .dict ho _ _ r r', b, hm => (List.mem_append.mp hm).elim (fun hm => (List.mem_cons.mp hm).elim (fun e => e ▸ Heap.lt_size ho) (readsAll_lt r b)) (readsAll_lt r' b)
theorem readsAll_lt {h : Heap} : ∀ {vs : List Value} {ds : List D} {as : List Addr}, ReadsAll h vs ds as → ∀ a ∈ as, a < h.objs.size
  | _, _, _, .nil, _, hm => (nomatch hm)
  | _, _, _, .cons r1 r2, b, hm => (List.mem_append.mp hm).elim (reads_lt r1 b) (readsAll_lt r2 b)
end
/-- sorted(..) behind the collecting of its items -/
theorem sorted_of {u : Value} {ds es : List D} {A : List Addr} {Q : VK} (hu : X.A.units + 70 < cLine) (k : Tk c H) (hs : sortD ds = some es) (q : Res c H A (.list es) 1 Q)
    (col : ∀ (R : List Value → Shared → Prop), (∀ us xs s1, Inv X pins σ H s1 → Vals xs us → RepAll c H xs ds A → us.length ≤ sizeLine → R us s1) → wpAny (model X.prog X.w) X.A.in1 (collect u) R (fun e s' => X.xe e s') s) :
    wpAny (model X.prog X.w) X.A (call (.builtin "sorted") [u]) (EP X pins σ Q) X.xe s := by
  obtain ⟨g1, g2, g3, rfl⟩ := sortD_out hs
  refine Calls.call_function_entry PyProof.Rows.kind_sorted PyProof.Rows.plain_sorted PyProof.Rows.entry_sorted (PyProof.Rows.args_sorted1 _) ?_
  unfold Builtin.«sorted»
  refine wpAny_bind (m := checkCount "sorted" 1 1 _) (wpAny_pure ?_)
  refine wpAny_bind (col _ fun us xs s1 I rv ra hz => ?_)
  refine wpAny_bind (wpAny_newList ?_ hz)
  obtain ⟨hp, g, dr, tk, os⟩ := s1
  have hoL : (hp.push (seqObj "list" us.toArray 0)).get? hp.objs.size = some (seqObj "list" us.toArray 0) := Heap.get?_push_size _ rfl
  have hn : H hp.objs.size = none := I.hok.fresh (Nat.le_refl _)
  show wpAny _ _ _ _ _ (Shared.mk (hp.push (seqObj "list" us.toArray 0)) g dr tk os)
  have I1 : Inv X pins σ H (Shared.mk (hp.push (seqObj "list" us.toArray 0)) g dr tk os) := I.kept (t' := tk) (h' := hp.push (seqObj "list" us.toArray 0)) fun b o e => Heap.get?_push_of_some _ e
  have e0 := each_of rv ra
  have idm : ds.map id = ds := List.map_id _
  have el : us.length = ds.length := by rw [← rv.length, ra.length]
  refine wpAny_bind (wpAny_holding (PySem.W.list_sort_data (enc := id) (R := fun v d => ∃ x G, RelV x v ∧ Rep c H x d G ∧ ∀ a ∈ G, a ∈ A) (vs := us) (bs := ds) (n := 0) hoL e0 ?_ (by rw [idm]; exact g1) (by rw [idm]; exact g2) (by rw [← el]; exact hz) (fun b hb => ?_) fun out hl eo => ?_))
  · have pl : ∀ d ∈ ds, d.plain = true := fun d hd => plain_of_alike d (g1 d hd d hd)
    have : PySem.W.EachIs (fun v d => (∃ x G, RelV x v ∧ Rep c H x d G ∧ ∀ a ∈ G, a ∈ A) ∧ d ∈ ds) us ds := PySem.W.each_mem e0
    refine this.mono fun v d ⟨⟨x, G, h1, h2, h3⟩, hd⟩ => ?_
    obtain ⟨as, r⟩ := h2.reads I h1 (pl d hd)
    refine ⟨as, PyProof.Rows.Reads.keeps (fun b o e => Heap.get?_push_of_some _ e) r, fun hm => ?_⟩
    have lt := reads_lt r _ hm
    exact absurd lt (Nat.lt_irrefl _)
  · have q1 := depth_mem hb
    show X.A.in1.units + 1 + (id b).depth < cLine
    have e1 : X.A.in1.units = X.A.units + 1 := rfl
    have e2 : (id b : D).depth = b.depth := rfl
    omega
  · obtain ⟨ys, B, v1, v2, v3⟩ := of_each eo
    obtain ⟨e', he'⟩ := PyProof.Rows.sortedHeap_at (vs := us) (out := List.toArray out) hoL
    have hl2 : ys.length ≤ sizeLine := by rw [v1.length, hl, ← el]; exact hz
    refine wpAny_pure ⟨_, rfl, .ref hp.objs.size, upd H hp.objs.size (.lst ys), I.laid (t' := tk) (fun b u e => ?_) (Nat.le_refl _) (show ObjOk X.prog X.w _ _ _ (.lst ys) from ⟨hl2, out, e', v1, he'⟩), rfl, q.newL k hn v2 v3⟩
    have hb : b < hp.objs.size := Heap.lt_size e
    rw [PyProof.Rows.sortedHeap_old (Nat.ne_of_lt hb) (by rw [size_push']; exact Nat.lt_succ_of_lt hb)]
    exact Heap.get?_push_of_some _ e
end
end N
/-! N7. sorted, least, greatest, kinds. -/
namespace N
open PySem PySem.Spec PyProof.Rows L2

section
variable {X : Cx} {c : Cfg} {pins : List (Addr × Obj)} {s : Shared} {σ : L2.St} {H : Hp}

theorem call_sorted_data (hc : X.calm = true) (hu : X.A.units + 70 < cLine) : CallR X (.builtin "sorted") (rBi c .sorted) := by
  intro pins s σ H xs us Q I r ⟨k, ds, A, d, o, rr, hb, q⟩
  have hb' : ∃ a, ds = [a] := by
    unfold biD at hb
    split at hb <;> first | contradiction | exact ⟨_, rfl⟩
  obtain ⟨a, rfl⟩ := hb'
  obtain ⟨x, rfl, r1⟩ := one_arg rr
  obtain ⟨u, rfl, rx⟩ := vals1 r
  cases a with
  | list ds =>
    obtain ⟨es, h1, h2⟩ := Option.map_eq_some_iff.mp (show (sortD ds).map (fun es => (PyData.list es, 1)) = some (d, o) from hb)
    cases h2
    obtain ⟨a, vs, B, rfl, rfl, la, ha, ra⟩ := r1.lst_inv
    cases rx
    obtain ⟨hz, its, n, hv, he⟩ := (show ObjOk X.prog X.w H s.heap a (.lst vs) from I.hok a _ ha)
    refine sorted_of hu k h1 (q.mono fun a z => List.mem_cons_of_mem _ z) fun R hR => ?_
    have hz' : its.length ≤ sizeLine := by rw [← hv.length]; exact hz
    refine wpAny_collect_seq a (.inl rfl) he rfl rfl (fun h' hk => ?_) (by simpa using hz')
    exact hR _ _ _ (I.kept hk) hv ra hz'
  | tuple ds =>
    obtain ⟨es, h1, h2⟩ := Option.map_eq_some_iff.mp (show (sortD ds).map (fun es => (PyData.list es, 1)) = some (d, o) from hb)
    cases h2
    obtain ⟨a, vs, rfl, ha, ra⟩ := r1.tup_inv
    cases rx
    obtain ⟨hz, its, hv, he⟩ := (show ObjOk X.prog X.w H s.heap a (.tup vs) from I.hok a _ ha)
    obtain ⟨ob, he, h3, n, h4⟩ := he
    refine sorted_of hu k h1 q fun R hR => ?_
    have hz' : its.length ≤ sizeLine := by rw [← hv.length]; exact hz
    refine wpAny_collect_seq a (.inr rfl) he h3 h4 (fun h' hk => ?_) (by simpa using hz')
    exact hR _ _ _ (I.kept hk) hv ra hz'
  | dict kvs =>
    obtain ⟨es, h1, h2⟩ := Option.map_eq_some_iff.mp (show (sortD (kvs.map (·.1))).map (fun es => (PyData.list es, 1)) = some (d, o) from hb)
    cases h2
    obtain ⟨a, es0, B, rfl, rfl, la, m, ha, z, re, _⟩ := r1.dct_inv
    cases rx
    obtain ⟨ep, hr⟩ := ext_of I ha
    refine sorted_of (A := []) hu k h1 (q.mono fun a z => (nomatch z)) fun R hR => ?_
    refine PySem.W.kdu_collect (PySem.KdlSrc.rawDict m) (I.ok.hd hc) hr z fun h' tk acc hk hacc => ?_
    have ea := items_eq (f := (·.key)) hacc
    obtain ⟨xs, h1, h2⟩ := keys_reps re ea
    have hl : acc.toList.length ≤ sizeLine := by rw [Array.length_toList, hacc.1]; exact z
    exact hR _ _ _ (I.kept hk) h1 h2 hl
  | none => cases hb
  | bool _ => cases hb
  | int _ => cases hb
  | str _ => cases hb

/-! ### isinstance -/
def rIs (c : Cfg) (T : String) (f : B) : List V → Hp → VK → Prop := fun xs H Q => Tk c H ∧ ∃ x d A r o, xs = [x, .ty T] ∧ Rep c H x d A ∧ biD f [d] = some (r, o) ∧ Res c H A r o Q

theorem call_isStr : CallR X (.builtin "isinstance") (rIs c "str" .isStr) := by
  intro pins s σ H xs us Q I r ⟨k, x, d, A, r0, o, e, r1, hb, q⟩
  subst e
  obtain ⟨u1, u2, rfl, rx, ry⟩ := vals2 r
  cases (show u2 = Value.type "str" from ry)
  cases hb
  cases d with
  | none =>
    obtain ⟨rfl, rfl⟩ := r1.none_inv
    cases rx
    exact IsiPair.NoneType_str ⟨.bl _, H, I.tok _, rfl, q.flat (.bl _)⟩
  | bool b =>
    obtain ⟨rfl, rfl⟩ := r1.bool_inv
    cases rx
    exact IsiPair.bool_str ⟨.bl _, H, I.tok _, rfl, q.flat (.bl _)⟩
  | int i =>
    obtain ⟨rfl, rfl⟩ := r1.int_inv
    obtain ⟨t, rfl⟩ := rx
    exact IsiPair.int_str ⟨.bl _, H, I.tok _, rfl, q.flat (.bl _)⟩
  | str y =>
    obtain ⟨rfl, rfl⟩ := r1.str_inv
    obtain ⟨t, rfl⟩ := rx
    exact IsiPair.str_str ⟨.bl _, H, I.tok _, rfl, q.flat (.bl _)⟩
  | list ds =>
    obtain ⟨a, vs, B, rfl, rfl, la, ha, ra⟩ := r1.lst_inv
    cases rx
    obtain ⟨hz, its, n, hv, he⟩ := (show ObjOk X.prog X.w H s.heap a (.lst vs) from I.hok a _ ha)
    exact IsiPair.list_str he rfl ⟨.bl _, H, I.tok _, rfl, q.flat (.bl _)⟩
  | tuple ds =>
    obtain ⟨a, vs, rfl, ha, ra⟩ := r1.tup_inv
    cases rx
    obtain ⟨hz, its, hv, ob, he, h3, n, h4⟩ := (show ObjOk X.prog X.w H s.heap a (.tup vs) from I.hok a _ ha)
    exact IsiPair.tuple_str he h3 ⟨.bl _, H, I.tok _, rfl, q.flat (.bl _)⟩
  | dict kvs =>
    obtain ⟨a, es0, B, rfl, rfl, la, m, ha, z, re, _⟩ := r1.dct_inv
    cases rx
    obtain ⟨ep, ob, he, h3, h4⟩ := ext_of I ha
    exact IsiPair.dict_str he h3.1 ⟨.bl _, H, I.tok _, rfl, q.flat (.bl _)⟩

theorem call_isInt : CallR X (.builtin "isinstance") (rIs c "int" .isInt) := by
  intro pins s σ H xs us Q I r ⟨k, x, d, A, r0, o, e, r1, hb, q⟩
  subst e
  obtain ⟨u1, u2, rfl, rx, ry⟩ := vals2 r
  cases (show u2 = Value.type "int" from ry)
  cases hb
  cases d with
  | none =>
    obtain ⟨rfl, rfl⟩ := r1.none_inv
    cases rx
    exact IsiPair.NoneType_int ⟨.bl _, H, I.tok _, rfl, q.flat (.bl _)⟩
  | bool b =>
    obtain ⟨rfl, rfl⟩ := r1.bool_inv
    cases rx
    exact IsiPair.bool_int ⟨.bl _, H, I.tok _, rfl, q.flat (.bl _)⟩
  | int i =>
    obtain ⟨rfl, rfl⟩ := r1.int_inv
    obtain ⟨t, rfl⟩ := rx
    exact IsiPair.int_int ⟨.bl _, H, I.tok _, rfl, q.flat (.bl _)⟩
  | str y =>
    obtain ⟨rfl, rfl⟩ := r1.str_inv
    obtain ⟨t, rfl⟩ := rx
    exact IsiPair.str_int ⟨.bl _, H, I.tok _, rfl, q.flat (.bl _)⟩
  | list ds =>
    obtain ⟨a, vs, B, rfl, rfl, la, ha, ra⟩ := r1.lst_inv
    cases rx
    obtain ⟨hz, its, n, hv, he⟩ := (show ObjOk X.prog X.w H s.heap a (.lst vs) from I.hok a _ ha)
    exact IsiPair.list_int he rfl ⟨.bl _, H, I.tok _, rfl, q.flat (.bl _)⟩
  | tuple ds =>
    obtain ⟨a, vs, rfl, ha, ra⟩ := r1.tup_inv
    cases rx
    obtain ⟨hz, its, hv, ob, he, h3, n, h4⟩ := (show ObjOk X.prog X.w H s.heap a (.tup vs) from I.hok a _ ha)
    exact IsiPair.tuple_int he h3 ⟨.bl _, H, I.tok _, rfl, q.flat (.bl _)⟩
  | dict kvs =>
    obtain ⟨a, es0, B, rfl, rfl, la, m, ha, z, re, _⟩ := r1.dct_inv
    cases rx
    obtain ⟨ep, ob, he, h3, h4⟩ := ext_of I ha
    exact IsiPair.dict_int he h3.1 ⟨.bl _, H, I.tok _, rfl, q.flat (.bl _)⟩

theorem call_isBool : CallR X (.builtin "isinstance") (rIs c "bool" .isBool) := by
  intro pins s σ H xs us Q I r ⟨k, x, d, A, r0, o, e, r1, hb, q⟩
  subst e
  obtain ⟨u1, u2, rfl, rx, ry⟩ := vals2 r
  cases (show u2 = Value.type "bool" from ry)
  cases hb
  cases d with
  | none =>
    obtain ⟨rfl, rfl⟩ := r1.none_inv
    cases rx
    exact IsiPair.NoneType_bool ⟨.bl _, H, I.tok _, rfl, q.flat (.bl _)⟩
  | bool b =>
    obtain ⟨rfl, rfl⟩ := r1.bool_inv
    cases rx
    exact IsiPair.bool_bool ⟨.bl _, H, I.tok _, rfl, q.flat (.bl _)⟩
  | int i =>
    obtain ⟨rfl, rfl⟩ := r1.int_inv
    obtain ⟨t, rfl⟩ := rx
    exact IsiPair.int_bool ⟨.bl _, H, I.tok _, rfl, q.flat (.bl _)⟩
  | str y =>
    obtain ⟨rfl, rfl⟩ := r1.str_inv
    obtain ⟨t, rfl⟩ := rx
    exact IsiPair.str_bool ⟨.bl _, H, I.tok _, rfl, q.flat (.bl _)⟩
  | list ds =>
    obtain ⟨a, vs, B, rfl, rfl, la, ha, ra⟩ := r1.lst_inv
    cases rx
    obtain ⟨hz, its, n, hv, he⟩ := (show ObjOk X.prog X.w H s.heap a (.lst vs) from I.hok a _ ha)
    exact IsiPair.list_bool he rfl ⟨.bl _, H, I.tok _, rfl, q.flat (.bl _)⟩
  | tuple ds =>
    obtain ⟨a, vs, rfl, ha, ra⟩ := r1.tup_inv
    cases rx
    obtain ⟨hz, its, hv, ob, he, h3, n, h4⟩ := (show ObjOk X.prog X.w H s.heap a (.tup vs) from I.hok a _ ha)
    exact IsiPair.tuple_bool he h3 ⟨.bl _, H, I.tok _, rfl, q.flat (.bl _)⟩
  | dict kvs =>
    obtain ⟨a, es0, B, rfl, rfl, la, m, ha, z, re, _⟩ := r1.dct_inv
    cases rx
    obtain ⟨ep, ob, he, h3, h4⟩ := ext_of I ha
    exact IsiPair.dict_bool he h3.1 ⟨.bl _, H, I.tok _, rfl, q.flat (.bl _)⟩

theorem call_isTuple : CallR X (.builtin "isinstance") (rIs c "tuple" .isTuple) := by
  intro pins s σ H xs us Q I r ⟨k, x, d, A, r0, o, e, r1, hb, q⟩
  subst e
  obtain ⟨u1, u2, rfl, rx, ry⟩ := vals2 r
  cases (show u2 = Value.type "tuple" from ry)
  cases hb
  cases d with
  | none =>
    obtain ⟨rfl, rfl⟩ := r1.none_inv
    cases rx
    exact IsiPair.NoneType_tuple ⟨.bl _, H, I.tok _, rfl, q.flat (.bl _)⟩
  | bool b =>
    obtain ⟨rfl, rfl⟩ := r1.bool_inv
    cases rx
    exact IsiPair.bool_tuple ⟨.bl _, H, I.tok _, rfl, q.flat (.bl _)⟩
  | int i =>
    obtain ⟨rfl, rfl⟩ := r1.int_inv
    obtain ⟨t, rfl⟩ := rx
    exact IsiPair.int_tuple ⟨.bl _, H, I.tok _, rfl, q.flat (.bl _)⟩
  | str y =>
    obtain ⟨rfl, rfl⟩ := r1.str_inv
    obtain ⟨t, rfl⟩ := rx
    exact IsiPair.str_tuple ⟨.bl _, H, I.tok _, rfl, q.flat (.bl _)⟩
  | list ds =>
    obtain ⟨a, vs, B, rfl, rfl, la, ha, ra⟩ := r1.lst_inv
    cases rx
    obtain ⟨hz, its, n, hv, he⟩ := (show ObjOk X.prog X.w H s.heap a (.lst vs) from I.hok a _ ha)
    exact IsiPair.list_tuple he rfl ⟨.bl _, H, I.tok _, rfl, q.flat (.bl _)⟩
  | tuple ds =>
    obtain ⟨a, vs, rfl, ha, ra⟩ := r1.tup_inv
    cases rx
    obtain ⟨hz, its, hv, ob, he, h3, n, h4⟩ := (show ObjOk X.prog X.w H s.heap a (.tup vs) from I.hok a _ ha)
    exact IsiPair.tuple_tuple he h3 ⟨.bl _, H, I.tok _, rfl, q.flat (.bl _)⟩
  | dict kvs =>
    obtain ⟨a, es0, B, rfl, rfl, la, m, ha, z, re, _⟩ := r1.dct_inv
    cases rx
    obtain ⟨ep, ob, he, h3, h4⟩ := ext_of I ha
    exact IsiPair.dict_tuple he h3.1 ⟨.bl _, H, I.tok _, rfl, q.flat (.bl _)⟩

theorem call_isList : CallR X (.builtin "isinstance") (rIs c "list" .isList) := by
  intro pins s σ H xs us Q I r ⟨k, x, d, A, r0, o, e, r1, hb, q⟩
  subst e
  obtain ⟨u1, u2, rfl, rx, ry⟩ := vals2 r
  cases (show u2 = Value.type "list" from ry)
  cases hb
  cases d with
  | none =>
    obtain ⟨rfl, rfl⟩ := r1.none_inv
    cases rx
    exact IsiPair.NoneType_list ⟨.bl _, H, I.tok _, rfl, q.flat (.bl _)⟩
  | bool b =>
    obtain ⟨rfl, rfl⟩ := r1.bool_inv
    cases rx
    exact IsiPair.bool_list ⟨.bl _, H, I.tok _, rfl, q.flat (.bl _)⟩
  | int i =>
    obtain ⟨rfl, rfl⟩ := r1.int_inv
    obtain ⟨t, rfl⟩ := rx
    exact IsiPair.int_list ⟨.bl _, H, I.tok _, rfl, q.flat (.bl _)⟩
  | str y =>
    obtain ⟨rfl, rfl⟩ := r1.str_inv
    obtain ⟨t, rfl⟩ := rx
    exact IsiPair.str_list ⟨.bl _, H, I.tok _, rfl, q.flat (.bl _)⟩
  | list ds =>
    obtain ⟨a, vs, B, rfl, rfl, la, ha, ra⟩ := r1.lst_inv
    cases rx
    obtain ⟨hz, its, n, hv, he⟩ := (show ObjOk X.prog X.w H s.heap a (.lst vs) from I.hok a _ ha)
    exact IsiPair.list_list he rfl ⟨.bl _, H, I.tok _, rfl, q.flat (.bl _)⟩
  | tuple ds =>
    obtain ⟨a, vs, rfl, ha, ra⟩ := r1.tup_inv
    cases rx
    obtain ⟨hz, its, hv, ob, he, h3, n, h4⟩ := (show ObjOk X.prog X.w H s.heap a (.tup vs) from I.hok a _ ha)
    exact IsiPair.tuple_list he h3 ⟨.bl _, H, I.tok _, rfl, q.flat (.bl _)⟩
  | dict kvs =>
    obtain ⟨a, es0, B, rfl, rfl, la, m, ha, z, re, _⟩ := r1.dct_inv
    cases rx
    obtain ⟨ep, ob, he, h3, h4⟩ := ext_of I ha
    exact IsiPair.dict_list he h3.1 ⟨.bl _, H, I.tok _, rfl, q.flat (.bl _)⟩

theorem call_isDict : CallR X (.builtin "isinstance") (rIs c "dict" .isDict) := by
  intro pins s σ H xs us Q I r ⟨k, x, d, A, r0, o, e, r1, hb, q⟩
  subst e
  obtain ⟨u1, u2, rfl, rx, ry⟩ := vals2 r
  cases (show u2 = Value.type "dict" from ry)
  cases hb
  cases d with
  | none =>
    obtain ⟨rfl, rfl⟩ := r1.none_inv
    cases rx
    exact IsiPair.NoneType_dict ⟨.bl _, H, I.tok _, rfl, q.flat (.bl _)⟩
  | bool b =>
    obtain ⟨rfl, rfl⟩ := r1.bool_inv
    cases rx
    exact IsiPair.bool_dict ⟨.bl _, H, I.tok _, rfl, q.flat (.bl _)⟩
  | int i =>
    obtain ⟨rfl, rfl⟩ := r1.int_inv
    obtain ⟨t, rfl⟩ := rx
    exact IsiPair.int_dict ⟨.bl _, H, I.tok _, rfl, q.flat (.bl _)⟩
  | str y =>
    obtain ⟨rfl, rfl⟩ := r1.str_inv
    obtain ⟨t, rfl⟩ := rx
    exact IsiPair.str_dict ⟨.bl _, H, I.tok _, rfl, q.flat (.bl _)⟩
  | list ds =>
    obtain ⟨a, vs, B, rfl, rfl, la, ha, ra⟩ := r1.lst_inv
    cases rx
    obtain ⟨hz, its, n, hv, he⟩ := (show ObjOk X.prog X.w H s.heap a (.lst vs) from I.hok a _ ha)
    exact IsiPair.list_dict he rfl ⟨.bl _, H, I.tok _, rfl, q.flat (.bl _)⟩
  | tuple ds =>
    obtain ⟨a, vs, rfl, ha, ra⟩ := r1.tup_inv
    cases rx
    obtain ⟨hz, its, hv, ob, he, h3, n, h4⟩ := (show ObjOk X.prog X.w H s.heap a (.tup vs) from I.hok a _ ha)
    exact IsiPair.tuple_dict he h3 ⟨.bl _, H, I.tok _, rfl, q.flat (.bl _)⟩
  | dict kvs =>
    obtain ⟨a, es0, B, rfl, rfl, la, m, ha, z, re, _⟩ := r1.dct_inv
    cases rx
    obtain ⟨ep, ob, he, h3, h4⟩ := ext_of I ha
    exact IsiPair.dict_dict he h3.1 ⟨.bl _, H, I.tok _, rfl, q.flat (.bl _)⟩

/-! ### least and greatest -/
theorem vals_at : ∀ {xs : List V} {us : List Value} {i : Nat} {u : Value}, Vals xs us → us[i]? = some u → ∃ x, xs[i]? = some x ∧ RelV x u
  | _, _, _, _, .nil, h => by simp at h
  | _, _, 0, _, .cons r t, h => by simp at h; subst h; exact ⟨_, rfl, r⟩
  | _, _, i + 1, _, .cons r t, h => by simpa using vals_at t (by simpa using h)
theorem foldBest_mem (f : D → D → Bool) : ∀ (x : D) (xs : List D), xs.foldl (fun a y => if f y a = true then y else a) x ∈ x :: xs
  | x, [] => List.mem_cons_self ..
  | x, y :: xs => by
    rw [List.foldl_cons]
    have h := foldBest_mem f (if f y x = true then y else x) xs
    rcases List.mem_cons.mp h with h | h
    · rw [h]
      split
      · exact List.mem_cons_of_mem _ (List.mem_cons_self ..)
      · exact List.mem_cons_self ..
    · exact List.mem_cons_of_mem _ (List.mem_cons_of_mem _ h)
theorem minD_mem (x : D) (xs : List D) : PySem.W.minD x xs ∈ x :: xs := foldBest_mem (fun y a => PySem.W.dataLt y a) x xs
theorem maxD_mem (x : D) (xs : List D) : PySem.W.maxD x xs ∈ x :: xs := foldBest_mem (fun y a => PySem.W.dataLt a y) x xs
theorem bestD_out {f : D → List D → D} {ds : List D} {m : D} (h : bestD f ds = some m) : ∃ x xs, ds = x :: xs ∧ m = f x xs ∧ PySem.W.AlikeAll ds ∧ PyData.depthAll ds ≤ 60 := by
  unfold bestD at h
  split at h
  · split at h
    · rename_i x xs g
      simp only [Bool.and_eq_true, decide_eq_true_eq] at g
      cases h
      refine ⟨x, xs, rfl, rfl, ⟨fun d hd e he => List.all_eq_true.mp (List.all_eq_true.mp g.1.1 d hd) e he, fun d hd z => ?_⟩, g.2⟩
      have q := List.all_eq_true.mp g.1.2 d hd
      rw [z] at q
      simp at q
    · cases h
  · cases h
theorem plain_all : ∀ {ds : List D}, PySem.W.AlikeAll ds → PyData.plainAll ds = true := by
  intro ds h
  have key : ∀ es : List D, (∀ e ∈ es, e.plain = true) → PyData.plainAll es = true := by
    intro es
    induction es with
    | nil => exact fun _ => rfl
    | cons e es ih => exact fun h => by rw [PyData.plainAll, h e (List.mem_cons_self ..), ih fun x hx => h x (List.mem_cons_of_mem _ hx)]; rfl
  exact key ds fun e he => plain_of_alike e (h.1 e he e he)

theorem call_min_two_H {prog : Program} {w : World} {A : Around} {E : Value → Shared → Prop} {s : Shared} {a b : Value} {Q : Value → Shared → Prop}
    (h : wpAny (model prog w) A.in1 (pyIter (.ref s.heap.objs.size)) (fun it s₂ => ∃ I fp wr G n P St H bt, it = .ref I ∧ WalksS prog w A.in1 I fp wr G n P St ∧ St 0 s₂ ∧ (∀ b ∈ fp, b < s₂.heap.objs.size) ∧ 0 < n ∧
      (∀ b o, H.get? b = some o → b ∉ wr) ∧ (∀ b o, H.get? b = some o → s₂.heap.get? b = some o) ∧ PySem.CmpIn prog w A.in1 .Lt H P bt ∧ ∀ v s', P (argBest bt (n - 1)) v → Moved wr G s₂ s' → Q v s') E
      { s with heap := s.heap.push { cls := .type "tuple", data := .seq #[a, b] } }) :
    wpAny (model prog w) A (call (.builtin "min") [a, b]) Q E s := by
  have hname : (toString "min" ++ toString ".loop" : String) = "min.loop" := by decide
  refine call_function_tree F.kind_min F.plain_min F.entry_min (F.args_min2 _ _) ?_
  show wpAny _ A.in1 (Builtin.Builtins.bindParams "min" ["key", "default"] 0 ⟨[], []⟩ >>= _) _ _ s
  refine wpAny_bind (wpAny_of_eq (show Builtin.Builtins.bindParams "min" ["key", "default"] 0 ⟨[], []⟩ = pure [none, none] from rfl) ?_)
  show wpAny _ A.in1 (newTuple [a, b] >>= _) _ _ s
  refine wpAny_bind (wpAny_newObj_type ?_)
  refine wpAny_bind (wpAny_mono h (fun it s₂ h₂ => ?_) fun _ _ e => e)
  obtain ⟨I, fp, wr, G, n, P, St, H, bt, rfl, W, hst, hfp, hn, hw, hk, hcmp, hQ⟩ := h₂
  refine wpAny_bind (wpAny_newObj_type ?_)
  have hSf : s₂.heap.objs.size ∉ fp := fun hm => Nat.lt_irrefl _ (hfp _ hm)
  have hSH := PySem.fresh_in hk
  rw [hname]
  refine wpAny_pure ⟨plainId_quiet F.plain_min_loop _, PySem.codeAny_min_loop_firstH W H hw bt hcmp s₂.heap.objs.size hSf hSH [] hn (fun b o e => Heap.get?_push_of_some _ (hk b o e)) (W.frame 0 s₂ _ s₂.toks hst (Nat.le_refl _) fun b _ o e => Heap.get?_push_of_some _ e) (Heap.get?_push_size _ rfl) fun v s' hP hm => ?_⟩
  exact hQ v s' hP (Moved.drop_new (tk := s₂.toks) hm (Nat.le_refl _))
theorem min_item {us : List Value} {xs : List V} {x : D} {ds : List D} {A : List Addr} {Q : VK} {v : Value} {i : Nat} {h' : Heap} {tk : Nat} {bs : List Addr} (I : Inv X pins σ H s) (hv : Vals xs us) (ra : RepAll c H xs (x :: ds) A) (al : PySem.W.AlikeAll (x :: ds)) (hi : us[i]? = some v) (rd : Reads h' v (PySem.W.minD x ds) bs)
    (hk : ∀ b o, s.heap.get? b = some o → h'.get? b = some o) (q : Res c H A (PySem.W.minD x ds) 0 Q) : EP X pins σ Q v { s with heap := h', toks := tk } := by
  obtain ⟨y, h1, h2⟩ : ∃ y, xs[i]? = some y ∧ RelV y v := vals_at hv hi
  obtain ⟨e, B, h3, h4, h5⟩ := ra.get h1
  have hm : PySem.W.minD x ds ∈ x :: ds := minD_mem x ds
  have hme : e ∈ x :: ds := List.mem_of_getElem? h3
  obtain ⟨as, h6⟩ := h4.reads I h2 (plain_of_alike e (al.1 e hme e hme))
  have he : PySem.W.minD x ds = e := PySem.W.alike_unique _ _ _ _ _ (al.1 _ hm _ hme) rd (PyProof.Rows.Reads.keeps hk h6)
  rw [he] at q
  exact ⟨y, H, I.kept hk, h2, q.part h4 h5⟩
theorem call_min_data (hc : X.calm = true) (hu : X.A.units + 70 < cLine) : CallR X (.builtin "min") (rBi c .min) := by
  intro pins s σ H xs us Q I r ⟨k, ds, A, d, o, rr, hb, q⟩
  unfold biD at hb
  split at hb <;> first | contradiction | skip
  · obtain ⟨x, rfl, r1⟩ := one_arg rr
    obtain ⟨a, vs, B, rfl, rfl, la, ha, ra⟩ := r1.lst_inv
    obtain ⟨u, rfl, rx⟩ := vals1 r
    cases rx
    obtain ⟨m, h1, h2⟩ := Option.map_eq_some_iff.mp hb
    cases h2
    obtain ⟨x, ds, rfl, rfl, al, hd⟩ := bestD_out h1
    obtain ⟨hz, its, n, hv, he⟩ := (show ObjOk X.prog X.w H s.heap a (.lst vs) from I.hok a _ ha)
    obtain ⟨as, hr⟩ := ra.reads I hv (plain_all al)
    refine PySem.W.min_list_data (vs := its.toArray) (I.ok.hd hc) ⟨_, he, rfl, n, rfl⟩ (by simpa using hr) al (by omega) fun i v h' tk bs hi rd hk => ?_
    exact min_item I hv ra al (by simpa using hi) rd hk (q.mono fun a z => List.mem_cons_of_mem _ z)
  · obtain ⟨x, rfl, r1⟩ := one_arg rr
    obtain ⟨a, vs, rfl, ha, ra⟩ := r1.tup_inv
    obtain ⟨u, rfl, rx⟩ := vals1 r
    cases rx
    obtain ⟨m, h1, h2⟩ := Option.map_eq_some_iff.mp hb
    cases h2
    obtain ⟨x, ds, rfl, rfl, al, hd⟩ := bestD_out h1
    obtain ⟨hz, its, hv, he⟩ := (show ObjOk X.prog X.w H s.heap a (.tup vs) from I.hok a _ ha)
    obtain ⟨as, hr⟩ := ra.reads I hv (plain_all al)
    refine PySem.W.min_tuple_data (vs := its.toArray) (I.ok.hd hc) he (by simpa using hr) al (by omega) fun i v h' tk bs hi rd hk => ?_
    exact min_item I hv ra al (by simpa using hi) rd hk q
  · obtain ⟨x, y, F, G, rfl, r1, r2, rfl⟩ := two_args rr
    obtain ⟨u, w, rfl, rx, ry⟩ := vals2 r
    rename_i e f _
    obtain ⟨m, h1, h2⟩ := Option.map_eq_some_iff.mp hb
    cases h2
    obtain ⟨x0, ds0, e0, rfl, al2, hd⟩ := bestD_out h1
    cases e0
    obtain ⟨as, hr1⟩ := r1.reads I rx (plain_of_alike e (al2.1 e (List.mem_cons_self ..) e (List.mem_cons_self ..)))
    obtain ⟨bs, hr2⟩ := r2.reads I ry (plain_of_alike f (al2.1 f (by simp) f (by simp)))
    have hk0 : ∀ b o, s.heap.get? b = some o → (s.heap.push { cls := .type "tuple", data := .seq #[u, w] }).get? b = some o := fun b o e => Heap.get?_push_of_some _ e
    have hrA : ReadsAll (s.heap.push { cls := .type "tuple", data := .seq #[u, w] }) (#[u, w] : Array Value).toList [e, f] (as ++ (bs ++ [])) := .cons (PyProof.Rows.Reads.keeps hk0 hr1) (.cons (PyProof.Rows.Reads.keeps hk0 hr2) .nil)
    refine call_min_two_H (PySem.W.iter_tupleW (A := X.A.in1) (s := { s with heap := s.heap.push { cls := .type "tuple", data := .seq #[u, w] } }) (vs := #[u, w]) (I.ok.hd hc) ⟨_, Heap.get?_push_size _ rfl, rfl, 0, rfl⟩ fun s₂ e1 W st hfp hw hk => ?_)
    refine ⟨_, _, _, _, _, _, _, (s.heap.push { cls := .type "tuple", data := .seq #[u, w] }), _, rfl, W, st, hfp, Nat.succ_pos 1, hw, hk, PySem.W.cmpIn_lt (A := X.A.in1) (s := { s with heap := s.heap.push { cls := .type "tuple", data := .seq #[u, w] } }) hrA al2 (by show X.A.units + 1 + _ < _; omega), fun v s' hP m => ?_⟩
    obtain ⟨h', tk, rfl, hk'⟩ := PySem.W.moved_old e1 rfl m
    obtain ⟨cs, rd, _, _, _⟩ := PySem.W.readsAll_atA hrA _ v hP
    have e2 := (PySem.W.argBest_fold PySem.W.dataLt PyData.none e [f] 1 (Nat.le_refl _)).2
    have rd' : Reads h' v (PySem.W.minD e [f]) cs := PyProof.Rows.Reads.keeps hk' (by unfold PySem.W.minD; rw [show [f] = List.take 1 [f] from rfl, ← e2]; exact rd)
    have q' : Res c H (F ++ (G ++ [])) (PySem.W.minD e [f]) 0 Q := by rw [List.append_nil]; exact q
    exact min_item (us := [u, w]) (xs := [x, y]) (I.kept (t' := s.toks) hk0) (.cons rx (.cons ry .nil)) (.cons r1 (.cons r2 .nil)) al2 (by rw [← Array.getElem?_toList] at hP; exact hP) rd' hk' q'

theorem call_max_two_H {prog : Program} {w : World} {A : Around} {E : Value → Shared → Prop} {s : Shared} {a b : Value} {Q : Value → Shared → Prop}
    (h : wpAny (model prog w) A.in1 (pyIter (.ref s.heap.objs.size)) (fun it s₂ => ∃ I fp wr G n P St H bt, it = .ref I ∧ WalksS prog w A.in1 I fp wr G n P St ∧ St 0 s₂ ∧ (∀ b ∈ fp, b < s₂.heap.objs.size) ∧ 0 < n ∧
      (∀ b o, H.get? b = some o → b ∉ wr) ∧ (∀ b o, H.get? b = some o → s₂.heap.get? b = some o) ∧ PySem.CmpIn prog w A.in1 .Gt H P bt ∧ ∀ v s', P (argBest bt (n - 1)) v → Moved wr G s₂ s' → Q v s') E
      { s with heap := s.heap.push { cls := .type "tuple", data := .seq #[a, b] } }) :
    wpAny (model prog w) A (call (.builtin "max") [a, b]) Q E s := by
  have hname : (toString "max" ++ toString ".loop" : String) = "max.loop" := by decide
  refine call_function_tree F.kind_max F.plain_max F.entry_max (F.args_max2 _ _) ?_
  show wpAny _ A.in1 (Builtin.Builtins.bindParams "max" ["key", "default"] 0 ⟨[], []⟩ >>= _) _ _ s
  refine wpAny_bind (wpAny_of_eq (show Builtin.Builtins.bindParams "max" ["key", "default"] 0 ⟨[], []⟩ = pure [none, none] from rfl) ?_)
  show wpAny _ A.in1 (newTuple [a, b] >>= _) _ _ s
  refine wpAny_bind (wpAny_newObj_type ?_)
  refine wpAny_bind (wpAny_mono h (fun it s₂ h₂ => ?_) fun _ _ e => e)
  obtain ⟨I, fp, wr, G, n, P, St, H, bt, rfl, W, hst, hfp, hn, hw, hk, hcmp, hQ⟩ := h₂
  refine wpAny_bind (wpAny_newObj_type ?_)
  have hSf : s₂.heap.objs.size ∉ fp := fun hm => Nat.lt_irrefl _ (hfp _ hm)
  have hSH := PySem.fresh_in hk
  rw [hname]
  refine wpAny_pure ⟨plainId_quiet F.plain_max_loop _, PySem.codeAny_max_loop_firstH W H hw bt hcmp s₂.heap.objs.size hSf hSH [] hn (fun b o e => Heap.get?_push_of_some _ (hk b o e)) (W.frame 0 s₂ _ s₂.toks hst (Nat.le_refl _) fun b _ o e => Heap.get?_push_of_some _ e) (Heap.get?_push_size _ rfl) fun v s' hP hm => ?_⟩
  exact hQ v s' hP (Moved.drop_new (tk := s₂.toks) hm (Nat.le_refl _))
theorem max_item {us : List Value} {xs : List V} {x : D} {ds : List D} {A : List Addr} {Q : VK} {v : Value} {i : Nat} {h' : Heap} {tk : Nat} {bs : List Addr} (I : Inv X pins σ H s) (hv : Vals xs us) (ra : RepAll c H xs (x :: ds) A) (al : PySem.W.AlikeAll (x :: ds)) (hi : us[i]? = some v) (rd : Reads h' v (PySem.W.maxD x ds) bs)
    (hk : ∀ b o, s.heap.get? b = some o → h'.get? b = some o) (q : Res c H A (PySem.W.maxD x ds) 0 Q) : EP X pins σ Q v { s with heap := h', toks := tk } := by
  obtain ⟨y, h1, h2⟩ : ∃ y, xs[i]? = some y ∧ RelV y v := vals_at hv hi
  obtain ⟨e, B, h3, h4, h5⟩ := ra.get h1
  have hm : PySem.W.maxD x ds ∈ x :: ds := maxD_mem x ds
  have hme : e ∈ x :: ds := List.mem_of_getElem? h3
  obtain ⟨as, h6⟩ := h4.reads I h2 (plain_of_alike e (al.1 e hme e hme))
  have he : PySem.W.maxD x ds = e := PySem.W.alike_unique _ _ _ _ _ (al.1 _ hm _ hme) rd (PyProof.Rows.Reads.keeps hk h6)
  rw [he] at q
  exact ⟨y, H, I.kept hk, h2, q.part h4 h5⟩
theorem call_max_data (hc : X.calm = true) (hu : X.A.units + 70 < cLine) : CallR X (.builtin "max") (rBi c .max) := by
  intro pins s σ H xs us Q I r ⟨k, ds, A, d, o, rr, hb, q⟩
  unfold biD at hb
  split at hb <;> first | contradiction | skip
  · obtain ⟨x, rfl, r1⟩ := one_arg rr
    obtain ⟨a, vs, B, rfl, rfl, la, ha, ra⟩ := r1.lst_inv
    obtain ⟨u, rfl, rx⟩ := vals1 r
    cases rx
    obtain ⟨m, h1, h2⟩ := Option.map_eq_some_iff.mp hb
    cases h2
    obtain ⟨x, ds, rfl, rfl, al, hd⟩ := bestD_out h1
    obtain ⟨hz, its, n, hv, he⟩ := (show ObjOk X.prog X.w H s.heap a (.lst vs) from I.hok a _ ha)
    obtain ⟨as, hr⟩ := ra.reads I hv (plain_all al)
    refine PySem.W.max_list_data (vs := its.toArray) (I.ok.hd hc) ⟨_, he, rfl, n, rfl⟩ (by simpa using hr) al (by omega) fun i v h' tk bs hi rd hk => ?_
    exact max_item I hv ra al (by simpa using hi) rd hk (q.mono fun a z => List.mem_cons_of_mem _ z)
  · obtain ⟨x, rfl, r1⟩ := one_arg rr
    obtain ⟨a, vs, rfl, ha, ra⟩ := r1.tup_inv
    obtain ⟨u, rfl, rx⟩ := vals1 r
    cases rx
    obtain ⟨m, h1, h2⟩ := Option.map_eq_some_iff.mp hb
    cases h2
    obtain ⟨x, ds, rfl, rfl, al, hd⟩ := bestD_out h1
    obtain ⟨hz, its, hv, he⟩ := (show ObjOk X.prog X.w H s.heap a (.tup vs) from I.hok a _ ha)
    obtain ⟨as, hr⟩ := ra.reads I hv (plain_all al)
    refine PySem.W.max_tuple_data (vs := its.toArray) (I.ok.hd hc) he (by simpa using hr) al (by omega) fun i v h' tk bs hi rd hk => ?_
    exact max_item I hv ra al (by simpa using hi) rd hk q
  · obtain ⟨x, y, F, G, rfl, r1, r2, rfl⟩ := two_args rr
    obtain ⟨u, w, rfl, rx, ry⟩ := vals2 r
    rename_i e f _
    obtain ⟨m, h1, h2⟩ := Option.map_eq_some_iff.mp hb
    cases h2
    obtain ⟨x0, ds0, e0, rfl, al2, hd⟩ := bestD_out h1
    cases e0
    obtain ⟨as, hr1⟩ := r1.reads I rx (plain_of_alike e (al2.1 e (List.mem_cons_self ..) e (List.mem_cons_self ..)))
    obtain ⟨bs, hr2⟩ := r2.reads I ry (plain_of_alike f (al2.1 f (by simp) f (by simp)))
    have hk0 : ∀ b o, s.heap.get? b = some o → (s.heap.push { cls := .type "tuple", data := .seq #[u, w] }).get? b = some o := fun b o e => Heap.get?_push_of_some _ e
    have hrA : ReadsAll (s.heap.push { cls := .type "tuple", data := .seq #[u, w] }) (#[u, w] : Array Value).toList [e, f] (as ++ (bs ++ [])) := .cons (PyProof.Rows.Reads.keeps hk0 hr1) (.cons (PyProof.Rows.Reads.keeps hk0 hr2) .nil)
    refine call_max_two_H (PySem.W.iter_tupleW (A := X.A.in1) (s := { s with heap := s.heap.push { cls := .type "tuple", data := .seq #[u, w] } }) (vs := #[u, w]) (I.ok.hd hc) ⟨_, Heap.get?_push_size _ rfl, rfl, 0, rfl⟩ fun s₂ e1 W st hfp hw hk => ?_)
    refine ⟨_, _, _, _, _, _, _, (s.heap.push { cls := .type "tuple", data := .seq #[u, w] }), _, rfl, W, st, hfp, Nat.succ_pos 1, hw, hk, PySem.W.cmpIn_gt (A := X.A.in1) (s := { s with heap := s.heap.push { cls := .type "tuple", data := .seq #[u, w] } }) hrA al2 (by show X.A.units + 1 + _ < _; omega), fun v s' hP m => ?_⟩
    obtain ⟨h', tk, rfl, hk'⟩ := PySem.W.moved_old e1 rfl m
    obtain ⟨cs, rd, _, _, _⟩ := PySem.W.readsAll_atA hrA _ v hP
    have e2 := (PySem.W.argBest_fold (fun a b => PySem.W.dataLt b a) PyData.none e [f] 1 (Nat.le_refl _)).2
    have rd' : Reads h' v (PySem.W.maxD e [f]) cs := PyProof.Rows.Reads.keeps hk' (by unfold PySem.W.maxD; rw [show [f] = List.take 1 [f] from rfl, ← e2]; exact rd)
    have q' : Res c H (F ++ (G ++ [])) (PySem.W.maxD e [f]) 0 Q := by rw [List.append_nil]; exact q
    exact max_item (us := [u, w]) (xs := [x, y]) (I.kept (t' := s.toks) hk0) (.cons rx (.cons ry .nil)) (.cons r1 (.cons r2 .nil)) al2 (by rw [← Array.getElem?_toList] at hP; exact hP) rd' hk' q'
end
end N
/-! N8. What is walked. -/
namespace N
open PySem PySem.Spec PyProof.Rows L2

/-- the items ds one after another, while S stands; their footprints within U -/
def JD (c : Cfg) (S : Hp → Prop) (ds : List D) (U : List Addr) : L2.It where
  go i H := S H ∧ Tk c H ∧ i < ds.length
  yld i H x H' := Same H H' ∧ ∃ d F, ds[i]? = some d ∧ Rep c H' x d F ∧ ∀ a ∈ F, a ∈ U
  stop i H := S H ∧ Tk c H ∧ i = ds.length
/-- an item as the turn finds it: standing, or in a new tuple -/
def YD (c : Cfg) (H : Hp) (h h' : Heap) (d : D) (U : List Addr) (v : Value) : Prop :=
  (∃ x F, RelV x v ∧ Rep c H x d F ∧ ∀ a ∈ F, a ∈ U) ∨ ∃ T xs us ds F, v = .ref T ∧ h.objs.size ≤ T ∧ h'.IsTuple T us.toArray ∧ Vals xs us ∧ xs.length ≤ sizeLine ∧ d = .tuple ds ∧ RepAll c H xs ds F ∧ ∀ a ∈ F, a ∈ U
section
variable {P : Program} {w : World} {K : PySem.W.Frag} {tg : Expr} {c : Cfg} {S : Hp → Prop} {ds : List D} {U : List Addr} {it : Addr} {ch : List Addr} {tn : Nat → Heap → Prop}
theorem turn_goes (hm : it ∈ ch) (ho : ∀ i h, tn i h → ∀ b ∈ ch, ∃ o, h.get? b = some o ∧ ∀ v, o.data ≠ .cell v)
    (hk : ∀ i h h', tn i h → (∀ b ∈ ch, ∀ o, h.get? b = some o → h'.get? b = some o) → tn i h')
    (hs : ∀ (A : Around) (i : Nat) (s : Shared) (Q : Value → Shared → Prop) (E : Value → Shared → Prop), tn i s.heap → Q (.ref it) s → wpAny (model P w) A (pyIter (.ref it)) Q E s)
    (G : ∀ (X : Cx), X.prog = P → X.w = w → X.calm = true → ∀ (pins : List (Addr × Obj)) (s : Shared) (σ : L2.St) (H : Hp) (i : Nat), Inv X pins σ H s → tn i s.heap → (∀ b ∈ ch, FpOk X pins H b) → S H → Tk c H →
      ∃ (fp wr : List Addr) (n : Nat) (Y : Nat → Heap → Value → Heap → Prop) (Con : Heap → Prop), n = ds.length ∧ Con s.heap ∧ (∀ b ∈ wr, b ∈ ch) ∧ GoesN P w X.A tg it fp wr n Y (fun i h => tn i h ∧ Con h) ∧
        ∀ i v h' d, ds[i]? = some d → Y i s.heap v h' → YD c H s.heap h' d U v) :
    Turn P w K tg (JD c S ds U) ch it tn where
  mem := hm
  obj := ho
  keep := hk
  item := by
    intro X hP hw hK hc i pins s σ H E I hf st ⟨hS, hT, hi⟩
    obtain ⟨fp, wr, n, Y, Con, rfl, con, hsub, W, hY⟩ := G X hP hw hc pins s σ H i I st hf hS hT
    subst hP hw hK
    refine W.goes i s (fun v s2 => ∃ x H', Inv X pins σ H' s2 ∧ RelV x v ∧ (JD c S ds U).yld i H x H' ∧ tn (i + 1) s2.heap ∧ ∀ b ∈ ch, H' b = none) E hi ⟨st, con⟩ fun v h' tk y st' kk htk => ?_
    have kk' : ∀ b o, b ∉ ch → s.heap.get? b = some o → h'.get? b = some o := fun b o n e => kk b o (fun z => n (hsub b z)) e
    rcases hY i v h' _ (List.getElem?_eq_getElem hi) y with ⟨x, F, rx, rd, hu⟩ | ⟨T, xs, us, es, F, rfl, hle, hT', rv, hz, ed, ra, hu⟩
    · exact ⟨x, H, I.turnedL kk' hf, rx, ⟨Same.refl H, _, F, List.getElem?_eq_getElem hi, rd, hu⟩, st'.1, fun b hb => (hf b hb).1⟩
    · have hn : H T = none := I.hok.fresh hle
      have new : ObjOk X.prog X.w (upd H T (.tup xs)) h' T (.tup xs) := ⟨hz, us, rv, hT'⟩
      refine ⟨.ref T, _, I.turnedNew kk' hf hle new, rfl, ⟨same_upd hn, _, F, List.getElem?_eq_getElem hi, ?_, hu⟩, st'.1, fun b hb => ?_⟩
      · rw [ed]
        exact .tup (hT.live hn) upd_same (ra.ext (same_ext (same_upd hn)))
      · obtain ⟨o, e, _⟩ := ho i _ st b hb
        rw [upd_ne (Nat.ne_of_lt (Nat.lt_of_lt_of_le (Heap.lt_size e) hle))]
        exact (hf b hb).1
  done := by
    intro X hP hw hK hc i pins s σ H E I hf st ⟨hS, hT, hi⟩
    obtain ⟨fp, wr, n, Y, Con, rfl, con, hsub, W, hY⟩ := G X hP hw hc pins s σ H i I st hf hS hT
    subst hP hw hK hi
    refine W.stops s _ E ⟨st, con⟩ fun h' tk kk htk => ?_
    exact I.turnedL (fun b o n e => kk b o (fun z => n (hsub b z)) e) hf
  self := hs

theorem turn_conv {J J' : L2.It} (T : Turn P w K tg J ch it tn) (h1 : ∀ i H, J'.go i H → J.go i H) (h2 : ∀ i H x H', J'.go i H → J.yld i H x H' → J'.yld i H x H') (h3 : ∀ i H, J'.stop i H → J.stop i H) : Turn P w K tg J' ch it tn where
  mem := T.mem
  obj := T.obj
  keep := T.keep
  item := fun X hP hw hK hc i pins s σ H E I hf st hg => wpAny_mono (T.item X hP hw hK hc i pins s σ H E I hf st (h1 i H hg)) (fun r s1 ⟨u, e, z⟩ => ⟨u, e, wpAny_mono z (fun _ s2 ⟨x, H', q1, q2, q3, q4⟩ => ⟨x, H', q1, q2, h2 i H x H' hg q3, q4⟩) fun _ _ e => e⟩) fun _ _ e => e
  done := fun X hP hw hK hc i pins s σ H E I hf st hg => T.done X hP hw hK hc i pins s σ H E I hf st (h3 i H hg)
  self := T.self
theorem range_at : ∀ (n : Nat) (a : Int) (i : Nat) (h : i < n), (rangeD a n)[i]? = some (.int (a + i)) 
  | n + 1, a, 0, _ => by simp [rangeD]
  | n + 1, a, i + 1, h => by
    rw [rangeD, List.getElem?_cons_succ, range_at n (a + 1) i (by omega)]
    congr 2
    omega
theorem range_len : ∀ (n : Nat) (a : Int), (rangeD a n).length = n
  | 0, _ => rfl
  | n + 1, a => by rw [rangeD, List.length_cons, range_len n]
theorem rangeC_at : ∀ (n : Nat) (a k : Int) (i : Nat) (h : i < n), (rangeC a k n)[i]? = some (.int (a + i * k))
  | n + 1, a, k, 0, _ => by simp [rangeC]
  | n + 1, a, k, i + 1, h => by
    rw [rangeC, List.getElem?_cons_succ, rangeC_at n (a + k) k i (by omega)]
    have : a + k + (i : Int) * k = a + ((i + 1 : Nat) : Int) * k := by
      rw [show ((i + 1 : Nat) : Int) = (i : Int) + 1 by omega, Int.add_mul, Int.one_mul]
      omega
    rw [this]
theorem rangeC_len : ∀ (n : Nat) (a k : Int), (rangeC a k n).length = n
  | 0, _, _ => rfl
  | n + 1, a, k => by rw [rangeC, List.length_cons, rangeC_len n]
/-- the range's own turn, as a turn of data -/
theorem turn_rng {lo : Int} {n : Nat} (T : Turn P w K tg (Itr lo n) ch it tn) : Turn P w K tg (JD c (fun _ => True) (rangeD lo n) []) ch it tn :=
  turn_conv T (fun i H h => by have := h.2.2; rw [range_len] at this; exact this) (fun i H x H' h ⟨e, e2⟩ => ⟨by rw [e]; exact Same.refl H, .int (lo + i), [], range_at n lo i (by have := h.2.2; rw [range_len] at this; exact this), by rw [e2]; exact .int _, fun _ z => (nomatch z)⟩)
    fun i H h => by have := h.2.2; rw [range_len] at this; exact Nat.le_of_eq this.symm
theorem turn_rngC {lo k : Int} {n : Nat} (T : Turn P w K tg (Itc lo k n) ch it tn) : Turn P w K tg (JD c (fun _ => True) (rangeC lo k n) []) ch it tn :=
  turn_conv T (fun i H h => by have := h.2.2; rw [rangeC_len] at this; exact this) (fun i H x H' h ⟨e, e2⟩ => ⟨by rw [e]; exact Same.refl H, .int (lo + i * k), [], rangeC_at n lo k i (by have := h.2.2; rw [rangeC_len] at this; exact this), by rw [e2]; exact .int _, fun _ z => (nomatch z)⟩)
    fun i H h => by have := h.2.2; rw [rangeC_len] at this; exact Nat.le_of_eq this.symm

/-- a row that is walked by one iterator: what lies there at the start, what it draws -/
structure SeqIt (P : Program) (w : World) (c : Cfg) (u : Value) (S : Hp → Prop) (ds : List D) (U : List Addr) (o : Obj) (ti : Addr → Nat → Heap → Prop) : Prop where
  start : ∀ (X : Cx), X.prog = P → X.w = w → ∀ (pins : List (Addr × Obj)) (s : Shared) (σ : L2.St) (H : Hp), Inv X pins σ H s → S H → ∃ Con, Begins u o Con ∧ Con s.heap
  ti0 : ∀ h it, h.get? it = some o → ti it 0 h
  obj : ∀ it i h, ti it i h → ∃ o, h.get? it = some o ∧ ∀ v, o.data ≠ .cell v
  keep : ∀ it i h h', ti it i h → (∀ o, h.get? it = some o → h'.get? it = some o) → ti it i h'
  draws : ∀ (X : Cx), X.prog = P → X.w = w → X.calm = true → ∀ (pins : List (Addr × Obj)) (s : Shared) (σ : L2.St) (H : Hp), Inv X pins σ H s → S H → ∀ (A : Around), A.handled = none → ∀ it, H it = none → ∃ (Con : Heap → Prop) (fp : List Addr) (Pv : Nat → Value → Prop), Con s.heap ∧
    Draws P w A it fp ds.length Pv (fun i h => ti it i h ∧ Con h) ∧ it ∈ fp ∧ (∀ b ∈ fp, b = it ∨ H b ≠ none) ∧ ∀ i v d, ds[i]? = some d → Pv i v → ∃ x F, RelV x v ∧ Rep c H x d F ∧ ∀ a ∈ F, a ∈ U
  goes : ∀ (X : Cx), X.prog = P → X.w = w → X.calm = true → ∀ (pins : List (Addr × Obj)) (s : Shared) (σ : L2.St) (H : Hp) (tg : Expr), Inv X pins σ H s → S H → ∀ it, H it = none → ∃ (Con : Heap → Prop) (fp wr : List Addr) (Y : Nat → Value → Heap → Prop), Con s.heap ∧ (∀ b ∈ wr, b = it) ∧
    Goes P w X.A tg it fp wr ds.length Y (fun i h => ti it i h ∧ Con h) ∧ ∀ i v h d, ds[i]? = some d → Y i v h → ∃ x F, RelV x v ∧ Rep c H x d F ∧ ∀ a ∈ F, a ∈ U
  self : ∀ it (A : Around) (i : Nat) (s : Shared) (Q : Value → Shared → Prop) (E : Value → Shared → Prop), ti it i s.heap → Q (.ref it) s → wpAny (model P w) A (pyIter (.ref it)) Q E s
/-- the value stands -/
def Std (c : Cfg) (x : V) (d : D) (U : List Addr) : Hp → Prop := fun H => ∃ A, Rep c H x d A ∧ ∀ a ∈ A, a ∈ U
theorem Std.keep {x : V} {d : D} {H H' : Hp} (k : Kp c H H' U) (h : Std c x d U H) : Std c x d U H' := let ⟨A, r, q⟩ := h; ⟨A, r.keep (k.sub q), q⟩
def lIter (a : Addr) : Obj := { cls := .type "list_iterator", data := .fields #[.ref a, .int 0 0] }
def tIter (a : Addr) : Obj := { cls := .type "tuple_iterator", data := .fields #[.ref a, .int 0 0] }
def sIter (x : Str) (t : Tok) : Obj := { cls := .type (strIterType x), data := .fields #[.str x t, .int 0 0] }
theorem seq_list (a : Addr) (ds : List D) : SeqIt P w c (.ref a) (Std c (.ref a) (.list ds) U) ds U (lIter a) (fun it i h => h.IsListIter it a i) where
  start := by
    rintro X rfl rfl pins s σ H I ⟨A, r, hu⟩
    obtain ⟨a', vs, B, e, rfl, la, ha, ra⟩ := r.lst_inv
    cases e
    obtain ⟨hz, its, n, hv, he⟩ := (show ObjOk X.prog X.w H s.heap a (.lst vs) from I.hok a _ ha)
    exact ⟨_, begins_list a its.toArray, ⟨_, he, rfl, n, rfl⟩⟩
  ti0 := fun h it e => ⟨_, e, rfl, rfl⟩
  obj := fun it i h ⟨o, e, _, d⟩ => ⟨o, e, fun v z => by rw [d] at z; cases z⟩
  keep := fun it i h h' st k => st.at k
  draws := by
    rintro X rfl rfl hc pins s σ H I ⟨A, r, hu⟩ Ar hA it hn
    obtain ⟨a', vs, B, e, rfl, la, ha, ra⟩ := r.lst_inv
    cases e
    obtain ⟨hz, its, n, hv, he⟩ := (show ObjOk X.prog X.w H s.heap a (.lst vs) from I.hok a _ ha)
    have hne : a ≠ it := fun z => by rw [z, hn] at ha; cases ha
    have el : its.toArray.size = ds.length := by rw [← ra.length, hv.length]; simp
    refine ⟨fun h => h.IsList a its.toArray, _, _, ⟨_, he, rfl, n, rfl⟩, el ▸ Draws.list hA it a hne its.toArray, by simp, fun b hb => ?_, fun i v d hd hv' => ?_⟩
    · rcases List.mem_cons.mp hb with z | z
      · exact .inl z
      · rw [List.mem_singleton.mp z]; exact .inr (by rw [ha]; exact fun z => nomatch z)
    · obtain ⟨x, h1, h2⟩ := vals_at hv (show its[i]? = some v by simpa using hv')
      obtain ⟨e, C, h3, h4, h5⟩ := ra.get h1
      rw [hd] at h3
      cases h3
      exact ⟨x, C, h2, h4, fun b hb => hu b (List.mem_cons_of_mem _ (h5 b hb))⟩
  goes := by
    rintro X rfl rfl hc pins s σ H tg I ⟨A, r, hu⟩ it hn
    obtain ⟨a', vs, B, e, rfl, la, ha, ra⟩ := r.lst_inv
    cases e
    obtain ⟨hz, its, n, hv, he⟩ := (show ObjOk X.prog X.w H s.heap a (.lst vs) from I.hok a _ ha)
    have hne : a ≠ it := fun z => by rw [z, hn] at ha; cases ha
    have el : its.toArray.size = ds.length := by rw [← ra.length, hv.length]; simp
    refine ⟨fun h => h.IsList a its.toArray, _, _, _, ⟨_, he, rfl, n, rfl⟩, fun b hb => List.mem_singleton.mp hb, el ▸ Goes.list (I.ok.hd hc) it a hne its.toArray, fun i v h d hd hv' => ?_⟩
    obtain ⟨x, h1, h2⟩ := vals_at hv (show its[i]? = some v by simpa using hv')
    obtain ⟨e, C, h3, h4, h5⟩ := ra.get h1
    rw [hd] at h3
    cases h3
    exact ⟨x, C, h2, h4, fun b hb => hu b (List.mem_cons_of_mem _ (h5 b hb))⟩
  self := fun it A i s Q E st h => wpAny_pyIter_listiter st h
theorem seq_tuple (a : Addr) (ds : List D) : SeqIt P w c (.ref a) (Std c (.ref a) (.tuple ds) U) ds U (tIter a) (fun it i h => h.IsTupleIter it a i) where
  start := by
    rintro X rfl rfl pins s σ H I ⟨A, r, hu⟩
    obtain ⟨a', vs, e, ha, ra⟩ := r.tup_inv
    cases e
    obtain ⟨hz, its, hv, he⟩ := (show ObjOk X.prog X.w H s.heap a (.tup vs) from I.hok a _ ha)
    exact ⟨_, begins_tuple a its.toArray, he⟩
  ti0 := fun h it e => ⟨_, e, rfl, rfl⟩
  obj := fun it i h ⟨o, e, _, d⟩ => ⟨o, e, fun v z => by rw [d] at z; cases z⟩
  keep := fun it i h h' st k => st.at k
  draws := by
    rintro X rfl rfl hc pins s σ H I ⟨A, r, hu⟩ Ar hA it hn
    obtain ⟨a', vs, e, ha, ra⟩ := r.tup_inv
    cases e
    obtain ⟨hz, its, hv, he⟩ := (show ObjOk X.prog X.w H s.heap a (.tup vs) from I.hok a _ ha)
    have hne : a ≠ it := fun z => by rw [z, hn] at ha; cases ha
    have el : its.toArray.size = ds.length := by rw [← ra.length, hv.length]; simp
    refine ⟨fun h => h.IsTuple a its.toArray, _, _, he, el ▸ Draws.tuple hA it a hne its.toArray, by simp, fun b hb => ?_, fun i v d hd hv' => ?_⟩
    · rcases List.mem_cons.mp hb with z | z
      · exact .inl z
      · rw [List.mem_singleton.mp z]; exact .inr (by rw [ha]; exact fun z => nomatch z)
    · obtain ⟨x, h1, h2⟩ := vals_at hv (show its[i]? = some v by simpa using hv')
      obtain ⟨e, C, h3, h4, h5⟩ := ra.get h1
      rw [hd] at h3
      cases h3
      exact ⟨x, C, h2, h4, fun b hb => hu b (h5 b hb)⟩
  goes := by
    rintro X rfl rfl hc pins s σ H tg I ⟨A, r, hu⟩ it hn
    obtain ⟨a', vs, e, ha, ra⟩ := r.tup_inv
    cases e
    obtain ⟨hz, its, hv, he⟩ := (show ObjOk X.prog X.w H s.heap a (.tup vs) from I.hok a _ ha)
    have hne : a ≠ it := fun z => by rw [z, hn] at ha; cases ha
    have el : its.toArray.size = ds.length := by rw [← ra.length, hv.length]; simp
    refine ⟨fun h => h.IsTuple a its.toArray, _, _, _, he, fun b hb => List.mem_singleton.mp hb, el ▸ Goes.tuple (I.ok.hd hc) it a hne its.toArray, fun i v h d hd hv' => ?_⟩
    obtain ⟨x, h1, h2⟩ := vals_at hv (show its[i]? = some v by simpa using hv')
    obtain ⟨e, C, h3, h4, h5⟩ := ra.get h1
    rw [hd] at h3
    cases h3
    exact ⟨x, C, h2, h4, fun b hb => hu b (h5 b hb)⟩
  self := fun it A i s Q E st h => wpAny_pyIter_tupleiter st h
theorem seq_str (x : Str) (t : Tok) : SeqIt P w c (.str x t) (Std c (.str x) (.str x) U) (x.cps.toList.map fun c => .str ⟨#[c]⟩) U (sIter x t) (fun it i h => h.IsStrIter it (strIterType x) x t i) where
  start := fun X _ _ pins s σ H I _ => ⟨_, begins_text x t, trivial⟩
  ti0 := fun h it e => ⟨_, e, rfl, rfl⟩
  obj := fun it i h ⟨o, e, _, d⟩ => ⟨o, e, fun v z => by rw [d] at z; cases z⟩
  keep := fun it i h h' st k => let ⟨o, e, r⟩ := st; ⟨o, k o e, r⟩
  draws := by
    rintro X rfl rfl hc pins s σ H I ⟨A, r, hu⟩ Ar hA it hn
    have el : x.cps.size = (x.cps.toList.map fun c => PyData.str ⟨#[c]⟩).length := by simp
    have W := Draws.text (prog := X.prog) (w := X.w) hA it x t
    rw [el] at W
    refine ⟨fun _ => True, [it], _, trivial, ⟨fun i h st => W.live i h st.1, fun i h h' st k => ⟨W.frame i h h' st.1 k, trivial⟩, fun i s Q E hi st q => W.item i s Q E hi st.1 fun x h' tk p st' sb => q x h' tk p ⟨st', trivial⟩ sb, fun s Q E st q => W.done s Q E st.1 q⟩, List.mem_singleton.mpr rfl, fun b hb => .inl (List.mem_singleton.mp hb), fun i v d hd hv' => ?_⟩
    obtain ⟨k, u, h1, rfl⟩ := hv'
    rw [List.getElem?_map, Array.getElem?_toList, h1] at hd
    cases hd
    exact ⟨.str ⟨#[k]⟩, [], ⟨u, rfl⟩, .str _, fun _ z => (nomatch z)⟩
  goes := by
    rintro X rfl rfl hc pins s σ H tg I ⟨A, r, hu⟩ it hn
    have el : x.cps.size = (x.cps.toList.map fun c => PyData.str ⟨#[c]⟩).length := by simp
    have W := Goes.text (prog := X.prog) (w := X.w) (A := X.A) (target := tg) (I.ok.hd hc) it x t
    rw [el] at W
    refine ⟨fun _ => True, [it], [it], _, trivial, fun b hb => List.mem_singleton.mp hb, ⟨W.sub, fun i h h' st k => ⟨W.frame i h h' st.1 k, trivial⟩, fun i s Q E hi st q => W.goes i s Q E hi st.1 fun v h' tk y st' kk ht => q v h' tk y ⟨st', trivial⟩ kk ht, fun s Q E st q => W.stops s Q E st.1 q, fun i s Q E st q => W.self i s Q E st.1 q⟩, fun i v h d hd hv' => ?_⟩
    obtain ⟨k, u, h1, rfl⟩ := hv'
    rw [List.getElem?_map, Array.getElem?_toList, h1] at hd
    cases hd
    exact ⟨.str ⟨#[k]⟩, [], ⟨u, rfl⟩, .str _, fun _ z => (nomatch z)⟩
  self := fun it A i s Q E st h => by
    cases ha : x.cps.all (· < 128)
    · simp only [strIterType, ha, Bool.false_eq_true, if_false] at st
      exact wpAny_pyIter_striter_wide st h
    · simp only [strIterType, ha, if_true] at st
      exact wpAny_pyIter_striter_ascii st h
end
end N
/-! N9. What is walked: the rules. -/
namespace N
open PySem PySem.Spec PyProof.Rows L2

section
variable {P : Program} {w : World} {K : PySem.W.Frag} {tg : Expr} {c : Cfg} {S : Hp → Prop} {ds : List D} {U : List Addr} {it : Addr} {ch : List Addr} {tn : Nat → Heap → Prop}
theorem at_lt {i : Nat} {d : D} (h : ds[i]? = some d) : i < ds.length := by
  rcases Nat.lt_or_ge i ds.length with q | q
  · exact q
  · rw [List.getElem?_eq_none q] at h; cases h
theorem turn_seq {u : Value} {o : Obj} {ti : Addr → Nat → Heap → Prop} (q : SeqIt P w c u S ds U o ti) : Turn P w K tg (JD c S ds U) [it] it (ti it) :=
  turn_goes (List.mem_singleton.mpr rfl) (fun i h st b hb => by rw [List.mem_singleton.mp hb]; exact q.obj it i h st) (fun i h h' st k => q.keep it i h h' st (k it (List.mem_singleton.mpr rfl)))
    (fun A i s Q E st h => q.self it A i s Q E st h) fun X hP hw hc pins s σ H i I st hf hS hT => by
      obtain ⟨Con, fp, wr, Y, q1, q2, q3, q4⟩ := q.goes X hP hw hc pins s σ H tg I hS it (hf it (List.mem_singleton.mpr rfl)).1
      exact ⟨fp, wr, _, _, Con, rfl, q1, fun b hb => List.mem_singleton.mpr (q2 b hb), q3.toN, fun i v h' d hd hy => .inl (q4 i v h' d hd hy)⟩
/-- the dict as it stands while it is walked -/
def StdD (c : Cfg) (a : Addr) (es : Array DictEntry) (ep : Nat) (kvs : List (D × D)) (U : List Addr) : Hp → Prop := fun H => c.Live a ∧ (a == sysModules) = false ∧ a ∈ U ∧ H a = some (DO a es ep) ∧ ∃ B, RepEs c H es.toList kvs B ∧ ∀ b ∈ B, b ∈ U
theorem StdD.keep {a : Addr} {es : Array DictEntry} {ep : Nat} {kvs : List (D × D)} {H H' : Hp} (k : Kp c H H' U) (h : StdD c a es ep kvs U H) : StdD c a es ep kvs U H' :=
  let ⟨l, m, u, e, B, r, q⟩ := h; ⟨l, m, u, k a _ e l (.inr u), B, r.keep (k.sub q), q⟩
theorem raw_of {X : Cx} {pins : List (Addr × Obj)} {s : Shared} {σ : L2.St} {H : Hp} {a : Addr} {es : Array DictEntry} {ep : Nat} (I : Inv X pins σ H s) (e : H a = some (DO a es ep)) : s.heap.DictRaw a es ep := by
  obtain ⟨o, h1, h2, h3⟩ := (show ObjOk X.prog X.w H s.heap a (DO a es ep) from I.hok a _ e).1
  exact ⟨o, h1, h2, h3⟩
theorem es_at {H : Hp} : ∀ {es : List DictEntry} {kvs : List (D × D)} {B : List Addr} {i : Nat} {e : DictEntry}, RepEs c H es kvs B → es[i]? = some e →
    ∃ k d u v F, kvs[i]? = some (k, d) ∧ RelV u e.key ∧ Rep c H u k [] ∧ RelV v e.val ∧ Rep c H v d F ∧ ∀ a ∈ F, a ∈ B
  | _, _, _, _, _, .nil, h => by simp at h
  | _, _, _, 0, _, .cons r1 r2 hh r3 r4 t, h => by
    simp at h
    subst h
    exact ⟨_, _, _, _, _, rfl, r1, r2, r3, r4, fun a z => List.mem_append_left _ z⟩
  | _, _, _, i + 1, _, .cons r1 r2 hh r3 r4 t, h => by
    obtain ⟨k, d, u, v, F, q1, q2, q3, q4, q5, q6⟩ := es_at t (i := i) (by simpa using h)
    exact ⟨k, d, u, v, F, by simpa using q1, q2, q3, q4, q5, fun a z => List.mem_append_right _ (q6 a z)⟩
theorem turn_dkeys {a : Addr} {es : Array DictEntry} {ep : Nat} {kvs : List (D × D)} : Turn P w K tg (JD c (StdD c a es ep kvs U) (kvs.map (·.1)) U) [it] it (fun i h => h.IsKeyIter it a i es.size ep) :=
  turn_goes (List.mem_singleton.mpr rfl) (fun i h st b hb => by rw [List.mem_singleton.mp hb]; obtain ⟨o, e, _, dd⟩ := st; exact ⟨o, e, fun v z => by rw [dd] at z; cases z⟩)
    (fun i h h' st k => st.at fun o e => k it (List.mem_singleton.mpr rfl) o e) (fun A i s Q E st h => wpAny_pyIter_keyiter st h)
    fun X hP hw hc pins s σ H i I st hf ⟨l, m, u, e, B, r, hu⟩ hT => by
      subst hP hw
      have hne : a ≠ it := fun z => by have q := (hf it (List.mem_singleton.mpr rfl)).1; rw [z, q] at e; cases e
      have el : es.size = (kvs.map (·.1)).length := by rw [size_es r, List.length_map]
      refine ⟨_, _, _, _, fun h => h.DictRaw a es ep, el, raw_of I e, fun b hb => hb, (Goes.rawKeys (I.ok.hd hc) it a hne es ep).toN, fun i v h' d hd ⟨hi, hv⟩ => ?_⟩
      obtain ⟨k, d', x, y, F, q1, q2, q3, q4, q5, q6⟩ := es_at r (i := i) (e := es[i]) (by simp [hi])
      rw [List.getElem?_map, q1] at hd
      cases hd
      exact .inl ⟨x, [], hv ▸ q2, q3, fun _ z => (nomatch z)⟩
theorem turn_dvals {a : Addr} {es : Array DictEntry} {ep : Nat} {kvs : List (D × D)} : Turn P w K tg (JD c (StdD c a es ep kvs U) (kvs.map (·.2)) U) [it] it (fun i h => h.IsValIter it a i es.size ep) :=
  turn_goes (List.mem_singleton.mpr rfl) (fun i h st b hb => by rw [List.mem_singleton.mp hb]; obtain ⟨o, e, _, dd⟩ := st; exact ⟨o, e, fun v z => by rw [dd] at z; cases z⟩)
    (fun i h h' st k => st.at fun o e => k it (List.mem_singleton.mpr rfl) o e) (fun A i s Q E st h => wpAny_pyIter_valiter st h)
    fun X hP hw hc pins s σ H i I st hf ⟨l, m, u, e, B, r, hu⟩ hT => by
      subst hP hw
      have hne : a ≠ it := fun z => by have q := (hf it (List.mem_singleton.mpr rfl)).1; rw [z, q] at e; cases e
      have el : es.size = (kvs.map (·.2)).length := by rw [size_es r, List.length_map]
      refine ⟨_, _, _, _, fun h => h.DictRaw a es ep, el, raw_of I e, fun b hb => hb, (Goes.rawValues (I.ok.hd hc) it a hne es ep).toN, fun i v h' d hd ⟨hi, hv⟩ => ?_⟩
      obtain ⟨k, d', x, y, F, q1, q2, q3, q4, q5, q6⟩ := es_at r (i := i) (e := es[i]) (by simp [hi])
      rw [List.getElem?_map, q1] at hd
      cases hd
      exact .inl ⟨y, F, hv ▸ q4, q5, fun b z => hu b (q6 b z)⟩
theorem turn_ditems {a : Addr} {es : Array DictEntry} {ep : Nat} {kvs : List (D × D)} {elts : List Expr} {kk : Nat} {tpos : Pos} : Turn P w K (.Tuple elts kk tpos) (JD c (StdD c a es ep kvs U) (kvs.map fun p => .tuple [p.1, p.2]) U) [it] it (fun i h => ∃ ok ov, IsItemIter h it a i es.size ep ok ov) :=
  turn_goes (List.mem_singleton.mpr rfl) (fun i h st b hb => by rw [List.mem_singleton.mp hb]; obtain ⟨ok, ov, e⟩ := st; exact ⟨_, e, fun v z => nomatch z⟩)
    (fun i h h' st k => let ⟨ok, ov, e⟩ := st; ⟨ok, ov, k it (List.mem_singleton.mpr rfl) _ e⟩) (fun A i s Q E st h => let ⟨_, _, e⟩ := st; wpAny_pyIter_itemiter e h)
    fun X hP hw hc pins s σ H i I st hf ⟨l, m, u, e, B, r, hu⟩ hT => by
      subst hP hw
      have hne : a ≠ it := fun z => by have q := (hf it (List.mem_singleton.mpr rfl)).1; rw [z, q] at e; cases e
      have el : es.size = (kvs.map fun p => PyData.tuple [p.1, p.2]).length := by rw [size_es r, List.length_map]
      refine ⟨_, _, _, _, fun h => h.DictRaw a es ep, el, raw_of I e, fun b hb => hb, GoesN.rawItems (I.ok.hd hc) it a hne es ep, fun i v h' d hd ⟨T, hi, hv, hle, hT'⟩ => ?_⟩
      obtain ⟨k, d', x, y, F, q1, q2, q3, q4, q5, q6⟩ := es_at r (i := i) (e := es[i]) (by simp [hi])
      rw [List.getElem?_map, q1] at hd
      cases hd
      refine .inr ⟨T, [x, y], [es[i].key, es[i].val], [k, d'], [] ++ (F ++ []), hv, hle, hT', .cons q2 (.cons q4 .nil), by show 2 ≤ sizeLine; decide, rfl, .cons q3 (.cons q5 .nil), fun b z => hu b (q6 b (by simpa using z))⟩
/-- what is owed where an iterator has come: the walk of ds -/
def IterR (c : Cfg) (ds : List D) (U : List Addr) (R : L2.It → Hp → Prop) (H : Hp) : Prop := ∀ S : Hp → Prop, S H → (∀ H1 H2, Kp c H1 H2 U → S H1 → S H2) → ds.length ≤ sizeLine → (∀ a ∈ U, H a ≠ none) → R (JD c S ds U) H
end

section
variable {X : Cx} {c : Cfg} {pins : List (Addr × Obj)} {s : Shared} {σ : L2.St} {H : Hp} {tg : Expr} {R : L2.It → Hp → Prop} {x : V} {u : Value} {d : D} {A : List Addr} {ds : List D}
theorem seq_start {S : Hp → Prop} {o : Obj} {ti : Addr → Nat → Heap → Prop} (I : Inv X pins σ H s) (q : SeqIt X.prog X.w c u S ds A o ti) (hS : S H) (h : R (JD c S ds A) H) : wpAny (model X.prog X.w) X.A (pyIter u) (PIE X pins σ tg R) X.xe s := by
  obtain ⟨Con, b, hc⟩ := q.start X rfl rfl pins s σ H I hS
  exact b.iter _ _ _ _ _ _ hc (pi_one (tk := s.toks) I o (turn_seq q) (q.ti0 _ _ (Heap.get?_push_size _ b.free)) h)
theorem items_str {y : Str} (e : itemsOf (.str y) = some ds) : y.length ≤ LIM ∧ ds = y.cps.toList.map fun c => .str ⟨#[c]⟩ := by
  have e : (if y.length ≤ LIM then some (y.cps.toList.map fun c => PyData.str ⟨#[c]⟩) else none) = some ds := e
  split at e
  · rename_i h
    cases e
    exact ⟨h, rfl⟩
  · cases e
theorem items_len (I : Inv X pins σ H s) (r : Rep c H x d A) (e : itemsOf d = some ds) : ds.length ≤ sizeLine ∧ ∀ a ∈ A, H a ≠ none := by
  refine ⟨?_, fun a z => (r.foot a z).1⟩
  cases d with
  | list xs =>
    cases e
    obtain ⟨a, vs, B, rfl, rfl, la, ha, ra⟩ := r.lst_inv
    obtain ⟨hz, _⟩ := (show ObjOk X.prog X.w H s.heap a (.lst vs) from I.hok a _ ha)
    rw [← ra.length]; exact hz
  | tuple xs =>
    cases e
    obtain ⟨a, vs, rfl, ha, ra⟩ := r.tup_inv
    obtain ⟨hz, _⟩ := (show ObjOk X.prog X.w H s.heap a (.tup vs) from I.hok a _ ha)
    rw [← ra.length]; exact hz
  | str y =>
    obtain ⟨hl, rfl⟩ := items_str e
    rw [List.length_map, Array.length_toList, ← lim_eq]
    exact hl
  | dict kvs =>
    cases e
    obtain ⟨a, es, B, rfl, rfl, la, m, ⟨ep, ha⟩, z, re, _⟩ := r.dct_inv
    rw [List.length_map, ← size_es re]; exact z
  | none => cases e
  | bool _ => cases e
  | int _ => cases e
theorem seqOf (rx : RelV x u) (r : Rep c H x d A) (e : itemsOf d = some ds) (nd : isDictD d = false) (P : Program) (w : World) : ∃ o ti, SeqIt P w c u (Std c x d A) ds A o ti := by
  cases d with
  | list xs =>
    cases e
    obtain ⟨a, vs, B, rfl, rfl, la, ha, ra⟩ := r.lst_inv
    cases rx
    exact ⟨_, _, seq_list a _⟩
  | tuple xs =>
    cases e
    obtain ⟨a, vs, rfl, ha, ra⟩ := r.tup_inv
    cases rx
    exact ⟨_, _, seq_tuple a _⟩
  | str y =>
    obtain ⟨_, rfl⟩ := items_str e
    obtain ⟨rfl, rfl⟩ := r.str_inv
    obtain ⟨t, rfl⟩ := rx
    exact ⟨_, _, seq_str y t⟩
  | dict kvs => cases nd
  | none => cases e
  | bool _ => cases e
  | int _ => cases e
theorem it_seq (I : Inv X pins σ H s) (rx : RelV x u) (r : Rep c H x d A) (e : itemsOf d = some ds) (h : IterR c ds A R H) : wpAny (model X.prog X.w) X.A (pyIter u) (PIE X pins σ tg R) X.xe s := by
  cases hd : isDictD d with
  | false =>
    obtain ⟨o, ti, q⟩ := seqOf rx r e hd X.prog X.w
    exact seq_start I q ⟨A, r, fun _ z => z⟩ (h _ ⟨A, r, fun _ z => z⟩ (fun H1 H2 k q => q.keep k) (items_len I r e).1 (items_len I r e).2)
  | true =>
    cases d with
    | dict kvs =>
      cases e
      obtain ⟨a, es, B, rfl, rfl, la, m, ⟨ep, ha⟩, z, re, _⟩ := r.dct_inv
      cases rx
      have hS : StdD c a es ep kvs (a :: B) H := ⟨la, m, List.mem_cons_self .., ha, B, re, fun b z => List.mem_cons_of_mem _ z⟩
      exact wpAny_pyIter_dict_raw m (raw_of I ha) (pi_one (tk := s.toks) I _ turn_dkeys ⟨_, Heap.get?_push_size _ rfl, rfl, rfl⟩ (h _ hS (fun H1 H2 k q => q.keep k) (by rw [List.length_map, ← size_es re]; exact z) fun b w => (r.foot b w).1))
    | _ => cases hd
variable {iter e : Expr} {te : TE} {apos cpos : Pos}
def iE (c : Cfg) (te : TE) : TI := fun σ H R => te σ H fun x H1 => ∃ d A ds, Rep c H1 x d A ∧ itemsOf d = some ds ∧ IterR c ds A R H1
theorem pi_e (he : PE X e te) : PI X tg e (iE c te) := by
  refine ⟨fun pins s σ H R I h => ?_⟩
  refine thn (he.run pins s σ H _ I h) fun u s1 ⟨x, H1, I1, rx, d, A, ds, r, e, q⟩ => ?_
  exact it_seq I1 rx r e q
def iVs (c : Cfg) (te : TE) : TI := fun σ H R => te σ H fun x H1 => ∃ kvs A, Rep c H1 x (.dict kvs) A ∧ IterR c (kvs.map (·.2)) A R H1
theorem pi_vs (he : PE X e te) (hbase : attributeBase e "values" X.env (eval e X.env) = eval e X.env := by rfl) (hline : (apos.endLine == cpos.line) = true := by rfl) : PI X tg (.Call (.Attribute e "values" apos) [] [] cpos) (iVs c te) := by
  refine ⟨fun pins s σ H R I h => ?_⟩
  refine wpAny_Call_method (T := "dict") (id := "dict.values") hbase rfl hline PySem.F.plainAttrs_dict PySem.F.slot_dict_values PySem.F.type_dict_values (thn (he.run pins s σ H _ I h) fun u s1 ⟨x, H1, I1, rx, kvs, A, r, q⟩ => ?_)
  obtain ⟨a, es, B, rfl, rfl, la, m, ⟨ep, ha⟩, z, re, _⟩ := r.dct_inv
  obtain rfl : u = Value.ref a := rx
  have hr := raw_of I1 ha
  have hS : StdD c a es ep kvs (a :: B) H1 := ⟨la, m, List.mem_cons_self .., ha, B, re, fun b z => List.mem_cons_of_mem _ z⟩
  refine ⟨hr.typeIs, fun b e => (by cases e; obtain ⟨o, h1, h2, _⟩ := hr; exact ⟨o, h1, h2.2.1⟩), ?_⟩
  have I2 : Inv X pins σ H1 { s1 with heap := s1.heap.push { cls := .type "dict_values", data := .fields #[.ref a] } } := I1.kept (t' := s1.toks) fun b ob q => Heap.get?_push_of_some _ q
  have fin : wpAny (model X.prog X.w) X.A (pyIter (.ref s1.heap.objs.size)) (PIE X pins σ tg R) X.xe { s1 with heap := s1.heap.push { cls := .type "dict_values", data := .fields #[.ref a] } } :=
    wpAny_pyIter_values_raw (d := a) ⟨_, Heap.get?_push_size _ rfl, rfl, rfl⟩ (raw_of I2 ha) (pi_one (tk := s1.toks) I2 _ turn_dvals ⟨_, Heap.get?_push_size _ rfl, rfl, rfl⟩ (q _ hS (fun H1 H2 k q => q.keep k) (by rw [List.length_map, ← size_es re]; exact z) fun b w => (r.foot b w).1))
  show wpAny _ _ (callWith cpos (.builtin "dict.values") [.ref a] [] []) _ X.xe s1
  exact method_meetsIn PySem.F.slot_dict_values PySem.F.entry_dict_values rfl (PySem.evalArgs_none ⟨rfl, hr.typeIs, PySem.F.args_dict_values_1 _, _, meets_dict_values_raw a m, ⟨es, ep, hr⟩, fin⟩)
def iIts (c : Cfg) (te : TE) : TI := fun σ H R => te σ H fun x H1 => ∃ kvs A, Rep c H1 x (.dict kvs) A ∧ IterR c (kvs.map fun p => .tuple [p.1, p.2]) A R H1
theorem pi_its {elts : List Expr} {kk : Nat} {tpos : Pos} (he : PE X e te) (hbase : attributeBase e "items" X.env (eval e X.env) = eval e X.env := by rfl) (hline : (apos.endLine == cpos.line) = true := by rfl) : PI X (.Tuple elts kk tpos) (.Call (.Attribute e "items" apos) [] [] cpos) (iIts c te) := by
  refine ⟨fun pins s σ H R I h => ?_⟩
  refine wpAny_Call_method (T := "dict") (id := "dict.items") hbase rfl hline PySem.F.plainAttrs_dict PySem.F.slot_dict_items PySem.F.type_dict_items (thn (he.run pins s σ H _ I h) fun u s1 ⟨x, H1, I1, rx, kvs, A, r, q⟩ => ?_)
  obtain ⟨a, es, B, rfl, rfl, la, m, ⟨ep, ha⟩, z, re, _⟩ := r.dct_inv
  obtain rfl : u = Value.ref a := rx
  have hr := raw_of I1 ha
  have hS : StdD c a es ep kvs (a :: B) H1 := ⟨la, m, List.mem_cons_self .., ha, B, re, fun b z => List.mem_cons_of_mem _ z⟩
  refine ⟨hr.typeIs, fun b e => (by cases e; obtain ⟨o, h1, h2, _⟩ := hr; exact ⟨o, h1, h2.2.1⟩), ?_⟩
  have I2 : Inv X pins σ H1 { s1 with heap := s1.heap.push { cls := .type "dict_items", data := .fields #[.ref a] } } := I1.kept (t' := s1.toks) fun b ob q => Heap.get?_push_of_some _ q
  have fin : wpAny (model X.prog X.w) X.A (pyIter (.ref s1.heap.objs.size)) (PIE X pins σ (.Tuple elts kk tpos) R) X.xe { s1 with heap := s1.heap.push { cls := .type "dict_items", data := .fields #[.ref a] } } :=
    wpAny_pyIter_items_raw (d := a) ⟨_, Heap.get?_push_size _ rfl, rfl, rfl⟩ (raw_of I2 ha) (pi_one (tk := s1.toks) I2 _ turn_ditems ⟨_, _, Heap.get?_push_size _ rfl⟩ (q _ hS (fun H1 H2 k q => q.keep k) (by rw [List.length_map, ← size_es re]; exact z) fun b w => (r.foot b w).1))
  show wpAny _ _ (callWith cpos (.builtin "dict.items") [.ref a] [] []) _ X.xe s1
  exact method_meetsIn PySem.F.slot_dict_items PySem.F.entry_dict_items rfl (PySem.evalArgs_none ⟨rfl, hr.typeIs, PySem.F.args_dict_items_1 _, _, meets_dict_items_raw a m, ⟨es, ep, hr⟩, fin⟩)

/-! ranges -/
theorem pie_conv {R' : L2.It → Hp → Prop} {v : Value} {s2 : Shared} (h : PIE X pins σ tg R v s2) (f : ∀ J H', R J H' → ∃ J', (∀ ch it tn, Turn X.prog X.w X.K tg J ch it tn → Turn X.prog X.w X.K tg J' ch it tn) ∧ R' J' H') : PIE X pins σ tg R' v s2 := by
  obtain ⟨it, fp, tn, J, H', e, I, T, t0, hf, r⟩ := h
  obtain ⟨J', q1, q2⟩ := f J H' r
  exact ⟨it, fp, tn, J', H', e, I, q1 _ _ _ T, t0, hf, q2⟩
theorem pi_conv {wi wi' : TI} (p : PI X tg iter wi) (h : ∀ σ H R, wi' σ H R → ∃ R0, wi σ H R0 ∧ ∀ J H', R0 J H' → ∃ J', (∀ ch it tn, Turn X.prog X.w X.K tg J ch it tn → Turn X.prog X.w X.K tg J' ch it tn) ∧ R J' H') : PI X tg iter wi' := by
  refine ⟨fun pins s σ H R I w => ?_⟩
  obtain ⟨R0, q1, q2⟩ := h σ H R w
  exact thn (p.run pins s σ H R0 I q1) fun v s1 q => wpAny_mono q (fun it s2 z => pie_conv z q2) fun _ _ e => e
def rngK (c : Cfg) (R : L2.It → Hp → Prop) : L2.It → Hp → Prop := fun J H' => (∃ lo n, J = Itr lo n ∧ (rangeD lo n).length ≤ sizeLine ∧ IterR c (rangeD lo n) [] R H') ∨ ∃ lo k n, J = Itc lo k n ∧ (rangeC lo k n).length ≤ sizeLine ∧ IterR c (rangeC lo k n) [] R H'
theorem pi_rng {wi : TI} (p : PI X tg iter wi) : PI X tg iter (fun σ H R => wi σ H (rngK c R)) :=
  pi_conv p fun σ H R w => ⟨rngK c R, w, fun J H' q => by
    rcases q with ⟨lo, n, rfl, hl, q⟩ | ⟨lo, k, n, rfl, hl, q⟩
    · exact ⟨_, fun ch it tn T => turn_rng T, q (fun _ => True) trivial (fun _ _ _ _ => trivial) hl (fun _ z => (nomatch z))⟩
    · exact ⟨_, fun ch it tn T => turn_rngC T, q (fun _ => True) trivial (fun _ _ _ _ => trivial) hl (fun _ z => (nomatch z))⟩⟩

/-! enumerate, zip -/
theorem meets_enum1 {v : Value} {o : Obj} {H : Heap → Prop} (B : Begins v o H) :
    Meets (Builtin.«enumerate.__new__» ⟨[.type "enumerate", v], []⟩) (fun _ R s => H s.heap ∧
      R (.ok (.ret (.ref (s.heap.push o).objs.size))) { s with heap := (s.heap.push o).push { cls := .type "enumerate", data := .fields #[.none, .bool false, .ref s.heap.objs.size, rawInt 0, .none, .none] } }) :=
  .of_wp fun prog w A R s h => by
    obtain ⟨hp, g, d, tk, os⟩ := s; obtain ⟨h1, h⟩ := h
    have hsub := sub_enumerate
    have q1 : ∀ {A' : Around} {E : Value → Shared → Prop} {Q : Value → Shared → Prop}, Q (.ref hp.objs.size) ⟨hp.push o, g, d, tk, os⟩ → wpAny (model prog w) A' (pyIter v) Q E ⟨hp, g, d, tk, os⟩ :=
      fun q => B.iter prog w _ _ ⟨hp, g, d, tk, os⟩ _ h1 q
    wp_walk using q1
    refine wpAny_stack_any fun st => wpAny_pure ?_
    split
    · rename_i c _ _ _ _ _
      cases (c == Value.type "enumerate")
      · wp_walk using q1
        exact ⟨_, rfl, h⟩
      · wp_walk using q1
        exact ⟨_, rfl, h⟩
    · wp_walk using q1
      exact ⟨_, rfl, h⟩
theorem enum_begins1 {prog : Program} {w : World} {A : Around} {E : Value → Shared → Prop} {s : Shared} {v : Value} {o : Obj} {H : Heap → Prop} {Q : Value → Shared → Prop} (B : Begins v o H) (h1 : H s.heap)
    (h : ∀ h', IsEnum h' (s.heap.objs.size + 1) s.heap.objs.size 0 .none → h'.get? s.heap.objs.size = some o → (∀ b o, s.heap.get? b = some o → h'.get? b = some o) → Q (.ref (s.heap.objs.size + 1)) { s with heap := h' }) :
    wpAny (model prog w) A (call (.type "enumerate") [v]) Q E s := by
  refine callType_new PySem.F.called_enumerate (by decide) (PySem.F.typeCall_enumerate_1 _) (PySem.F.newCall_enumerate_1 _) (fun obj => PySem.F.args_object_init_2 obj _) PySem.F.entry_enumerate_new
    (meets_enum1 B) ⟨h1, ?_⟩
  have hz : (s.heap.push o).objs.size = s.heap.objs.size + 1 := Heap.size_push ..
  show _ ∧ _
  rw [hz]
  have he : IsEnum ((s.heap.push o).push { cls := .type "enumerate", data := .fields #[.none, .bool false, .ref s.heap.objs.size, rawInt 0, .none, .none] }) (s.heap.objs.size + 1) s.heap.objs.size 0 .none := by
    have := Heap.get?_push_size (s.heap.push o) (o := { cls := .type "enumerate", data := .fields #[.none, .bool false, .ref s.heap.objs.size, rawInt 0, .none, .none] }) rfl
    rw [hz] at this; exact this
  exact ⟨⟨_, he, rfl⟩, h _ he (Heap.get?_push_of_some _ (Heap.get?_push_size _ B.free)) fun b o x => Heap.get?_push_of_some _ (Heap.get?_push_of_some _ x)⟩
theorem enum_at : ∀ {ds : List D} {n : Int} {i : Nat} {d : D}, (enumD n ds)[i]? = some d → ∃ e, ds[i]? = some e ∧ d = .tuple [.int (n + i), e]
  | [], _, _, _, h => by simp [enumD] at h
  | x :: xs, n, 0, d, h => by simp [enumD] at h; exact ⟨x, rfl, by simp [h]⟩
  | x :: xs, n, i + 1, d, h => by
    rw [enumD, List.getElem?_cons_succ] at h
    obtain ⟨e, q1, q2⟩ := enum_at h
    refine ⟨e, q1, ?_⟩
    rw [q2]
    congr 3
    omega
theorem enum_len : ∀ (ds : List D) (n : Int), (enumD n ds).length = ds.length
  | [], _ => rfl
  | x :: xs, n => by rw [enumD, List.length_cons, List.length_cons, enum_len xs]
theorem turn_en {P : Program} {w : World} {K : PySem.W.Frag} {elts : List Expr} {kk : Nat} {tpos : Pos} {S : Hp → Prop} {U : List Addr} {o : Obj} {ti : Addr → Nat → Heap → Prop} {e it : Addr} (q : SeqIt P w c u S ds U o ti) :
    Turn P w K (.Tuple elts kk tpos) (JD c S (enumD 0 ds) U) [e, it] e (fun i h => (∃ old, IsEnum h e it (0 + (i : Int)) old) ∧ ti it i h ∧ e ≠ it) :=
  turn_goes (by simp) (fun i h ⟨⟨old, he⟩, st, _⟩ b hb => by
      have z : b = e ∨ b = it := by simpa using hb
      rcases z with z | z
      · rw [z]; exact ⟨_, he, fun v q => nomatch q⟩
      · rw [z]; exact q.obj it i h st)
    (fun i h h' ⟨⟨old, he⟩, st, ne⟩ k => ⟨⟨old, k e (by simp) _ he⟩, q.keep it i h h' st (k it (by simp)), ne⟩) (fun A i s Q E ⟨⟨_, he⟩, _⟩ h => wpAny_pyIter_enum he h)
    fun X hP hw hc pins s σ H i I st hf hS hT => by
      obtain ⟨Con, fp, Pv, q1, q2, q3, q4, q5⟩ := q.draws X hP hw hc pins s σ H I hS X.A.in1 (I.ok.hd hc) it (hf it (by simp)).1
      have hei := st.2.2
      have hef : e ∉ fp := fun z => (q4 e z).elim hei fun z => z (hf e (by simp)).1
      have W := GoesN.enumFrom (elts := elts) (x1 := kk) (pos := tpos) 0 q2 e hei hef q3
      refine ⟨e :: fp, [e, it], ds.length, fun i h₀ v h => ∃ T t x, v = .ref T ∧ h₀.objs.size ≤ T ∧ Pv i x ∧ h.IsTuple T #[.int (0 + (i : Int)) t, x], fun h => Con h, (enum_len ds 0).symm, q1, fun b hb => hb, ⟨W.sub, fun i h h' ⟨⟨st, st2, ne⟩, con⟩ k => ?_, fun i s Q E hi ⟨⟨st, st2, ne⟩, con⟩ hQ => W.goes i s Q E hi ⟨st, st2, con⟩ fun v h' tk y ⟨st', st2', con'⟩ kk ht => hQ v h' tk y ⟨⟨st', st2', ne⟩, con'⟩ kk ht,
        fun s Q E ⟨⟨st, st2, ne⟩, con⟩ hQ => W.stops s Q E ⟨st, st2, con⟩ hQ, fun i s Q E ⟨⟨st, st2, ne⟩, con⟩ hQ => W.self i s Q E ⟨st, st2, con⟩ hQ⟩, fun i v h' d hd ⟨T, t, x, hv, hle, hP, hT'⟩ => ?_⟩
      · obtain ⟨z1, z2, z3⟩ := W.frame i h h' ⟨st, st2, con⟩ k
        exact ⟨⟨z1, z2, ne⟩, z3⟩
      · obtain ⟨e1, p1, p2⟩ := enum_at hd
        obtain ⟨y, F, r1, r2, r3⟩ := q5 i x e1 p1 hP
        refine .inr ⟨T, [.int (0 + (i : Int)), y], [.int (0 + (i : Int)) t, x], [.int (0 + (i : Int)), e1], [] ++ (F ++ []), hv, hle, hT', .cons ⟨t, rfl⟩ (.cons r1 .nil), by show 2 ≤ sizeLine; decide, p2, .cons (.int _) (.cons r2 .nil), fun b z => r3 b (by simpa using z)⟩
def iEn (c : Cfg) (ta : TA) : TI := fun σ H R => ta σ H fun vs H1 => ∃ x d A ds, vs = [x] ∧ Rep c H1 x d A ∧ itemsOf d = some ds ∧ isDictD d = false ∧ IterR c (enumD 0 ds) A R H1
theorem pi_en {e : Expr} {ta : TA} {p pos tpos : Pos} {elts : List Expr} {kk : Nat} (hg : Gl X "enumerate") (hm : X.mg "enumerate" = none) (ha : PA X [e] ta) (hs : starEach [e] X.env = [(false, eval e X.env)] := by rfl) :
    PI X (.Tuple elts kk tpos) (.Call (.Name "enumerate" p) [e] [] pos) (iEn c ta) := by
  refine ⟨fun pins s σ H R I h => ?_⟩
  refine Call_ (ld_blt I hg hm boot_enumerate (PyProof.Rows.callWith_type1 (thn (ha.run pos pins s σ H _ I h) fun us s1 ⟨vs, H1, I1, r1, x, d, A, ds, e1, r, e2, nd, q⟩ => ?_) hs rfl))
  subst e1
  obtain ⟨u, rfl, rx⟩ := vals1 r1
  obtain ⟨o, ti, qs⟩ := seqOf rx r e2 nd X.prog X.w
  have hS : Std c x d A H1 := ⟨A, r, fun _ z => z⟩
  obtain ⟨Con, b, hc⟩ := qs.start X rfl rfl pins s1 σ H1 I1 hS
  refine enum_begins1 b hc fun h' he hit hk => wpAny_pyIter_enum he ?_
  have I2 : Inv X pins σ H1 { s1 with heap := h' } := I1.kept (t' := s1.toks) hk
  refine ⟨s1.heap.objs.size + 1, [s1.heap.objs.size + 1, s1.heap.objs.size], _, _, H1, rfl, I2, turn_en (e := s1.heap.objs.size + 1) (it := s1.heap.objs.size) qs, ⟨⟨.none, by rw [show (0 : Int) + ((0 : Nat) : Int) = 0 from rfl]; exact he⟩, qs.ti0 _ _ hit, Nat.succ_ne_self _⟩, fun b hb => ?_, q _ hS (fun H1 H2 k q => q.keep k) (by rw [enum_len]; exact (items_len I1 r e2).1) (items_len I1 r e2).2⟩
  have e' : b = s1.heap.objs.size + 1 ∨ b = s1.heap.objs.size := by simpa using hb
  have hle : s1.heap.objs.size ≤ b := by
    rcases e' with z | z
    · rw [z]; exact Nat.le_add_right _ _
    · rw [z]; exact Nat.le_refl _
  exact I1.fpOk hle (I1.hok.fresh hle)

theorem zip_at {xs ys : List D} {i : Nat} {d : D} (h : (zipD xs ys)[i]? = some d) : ∃ x y, xs[i]? = some x ∧ ys[i]? = some y ∧ d = .tuple [x, y] := by
  unfold zipD at h
  rw [List.getElem?_map] at h
  obtain ⟨p, h1, h2⟩ := Option.map_eq_some_iff.mp h
  obtain ⟨q1, q2⟩ := List.getElem?_zip_eq_some.mp h1
  exact ⟨_, _, q1, q2, h2.symm⟩
theorem zip_len (xs ys : List D) : (zipD xs ys).length = min xs.length ys.length := by unfold zipD; rw [List.length_map, List.length_zip]
theorem turn_zp {P : Program} {w : World} {K : PySem.W.Frag} {elts : List Expr} {kk : Nat} {tpos : Pos} {S1 S2 : Hp → Prop} {U1 U2 : List Addr} {u1 u2 : Value} {o1 o2 : Obj} {t1 t2 : Addr → Nat → Heap → Prop} {ds1 ds2 : List D} {z TI TO i1 i2 : Addr}
    (q : SeqIt P w c u1 S1 ds1 U1 o1 t1) (q' : SeqIt P w c u2 S2 ds2 U2 o2 t2) (nd : [z, TI, TO, i1, i2].Nodup) :
    Turn P w K (.Tuple elts kk tpos) (JD c (fun H => S1 H ∧ S2 H) (zipD ds1 ds2) (U1 ++ U2)) [z, TI, TO, i1, i2] z
      (fun i h => IsZip h z TI TO .none ∧ IsTupOf2 h TI (.ref i1) (.ref i2) ∧ (∃ a1 a2, IsTupOf2 h TO a1 a2) ∧ t1 i1 i h ∧ t2 i2 i h) :=
  turn_goes (by simp) (fun i h ⟨hz, hTI, ⟨x, y, hTO⟩, h1, h2⟩ b hb => by
      have e' : b = z ∨ b = TI ∨ b = TO ∨ b = i1 ∨ b = i2 := by simpa using hb
      rcases e' with q0 | q0 | q0 | q0 | q0
      · rw [q0]; exact ⟨_, hz, fun v q => nomatch q⟩
      · rw [q0]; exact ⟨_, hTI, fun v q => nomatch q⟩
      · rw [q0]; exact ⟨_, hTO, fun v q => nomatch q⟩
      · rw [q0]; exact q.obj i1 i h h1
      · rw [q0]; exact q'.obj i2 i h h2)
    (fun i h h' ⟨hz, hTI, ⟨x, y, hTO⟩, h1, h2⟩ k => ⟨k z (by simp) _ hz, k TI (by simp) _ hTI, ⟨x, y, k TO (by simp) _ hTO⟩, q.keep i1 i h h' h1 (k i1 (by simp)), q'.keep i2 i h h' h2 (k i2 (by simp))⟩)
    (fun A i s Q E st h => wpAny_pyIter_zip st.1 h)
    fun X hP hw hc pins s σ H i I st hf hS hT => by
      have f1 := (hf i1 (by simp)).1
      have f2 := (hf i2 (by simp)).1
      have fz := (hf z (by simp)).1
      have fO := (hf TO (by simp)).1
      obtain ⟨Con, fp, Pv, p1, p2, p3, p4, p5⟩ := q.draws X hP hw hc pins s σ H I hS.1 X.A.in1 (I.ok.hd hc) i1 f1
      obtain ⟨Con', fp', Pv', p1', p2', p3', p4', p5'⟩ := q'.draws X hP hw hc pins s σ H I hS.2 X.A.in1 (I.ok.hd hc) i2 f2
      simp only [List.nodup_cons, List.mem_cons, List.not_mem_nil, or_false, not_or, not_false_iff, List.nodup_nil, and_true] at nd
      obtain ⟨⟨n1, n2, n3, n4⟩, ⟨n5, n6, n7⟩, ⟨n8, n9⟩, n10⟩ := nd
      have D : ZipSep2 z TI TO i1 i2 fp fp' := ⟨fun e => n1 e.symm, fun e => n2 e.symm, n5, n6, p3, fun e => (p4 z e).elim n3 fun e => e fz, fun e => (p4 TO e).elim n8 fun e => e fO, n7, p3', fun e => (p4' z e).elim n4 fun e => e fz, fun e => (p4' TO e).elim n9 fun e => e fO,
        fun e => (p4' i1 e).elim n10 fun e => e f1, fun e => (p4 i2 e).elim (fun e => n10 e.symm) fun e => e f2⟩
      have W := GoesN.zip2 (elts := elts) (x1 := kk) (pos := tpos) D p2 p2'
      refine ⟨z :: TI :: TO :: (fp ++ fp'), [z, TO, i1, i2], _, fun i h₀ v h => ∃ T x y, v = .ref T ∧ h₀.objs.size ≤ T ∧ Pv i x ∧ Pv' i y ∧ h.IsTuple T #[x, y], fun h => Con h ∧ Con' h, (zip_len ds1 ds2).symm, ⟨p1, p1'⟩, fun b hb => by
          have e' : b = z ∨ b = TO ∨ b = i1 ∨ b = i2 := by simpa using hb
          rcases e' with q0 | q0 | q0 | q0 <;> simp [q0],
        ⟨W.sub, fun i h h' ⟨⟨a1, a2, a3, a4, a5⟩, con, con'⟩ k => ?_, fun i s Q E hi ⟨⟨a1, a2, a3, a4, a5⟩, con, con'⟩ hQ => W.goes i s Q E hi ⟨a1, a2, a3, ⟨a4, con⟩, a5, con'⟩ fun v h' tk y ⟨a1, a2, a3, ⟨a4, con⟩, a5, con'⟩ kk ht => hQ v h' tk y ⟨⟨a1, a2, a3, a4, a5⟩, con, con'⟩ kk ht,
        fun s Q E ⟨⟨a1, a2, a3, a4, a5⟩, con, con'⟩ hQ => W.stops s Q E ⟨a1, a2, a3, ⟨a4, con⟩, a5, con'⟩ hQ, fun i s Q E ⟨⟨a1, a2, a3, a4, a5⟩, con, con'⟩ hQ => W.self i s Q E ⟨a1, a2, a3, ⟨a4, con⟩, a5, con'⟩ hQ⟩, fun i v h' d hd ⟨T, x, y, hv, hle, hP, hP', hT'⟩ => ?_⟩
      · obtain ⟨a1, a2, a3, ⟨a4, con⟩, a5, con'⟩ := W.frame i h h' ⟨a1, a2, a3, ⟨a4, con⟩, a5, con'⟩ k
        exact ⟨⟨a1, a2, a3, a4, a5⟩, con, con'⟩
      · obtain ⟨e1, e2, b1, b2, b3⟩ := zip_at hd
        obtain ⟨y1, F, r1, r2, r3⟩ := p5 i x e1 b1 hP
        obtain ⟨y2, F', r1', r2', r3'⟩ := p5' i y e2 b2 hP'
        refine .inr ⟨T, [y1, y2], [x, y], [e1, e2], F ++ (F' ++ []), hv, hle, hT', .cons r1 (.cons r1' .nil), by show 2 ≤ sizeLine; decide, b3, .cons r2 (.cons r2' .nil), fun b z => ?_⟩
        rw [List.append_nil] at z
        exact (List.mem_append.mp z).elim (fun z => List.mem_append_left _ (r3 b z)) fun z => List.mem_append_right _ (r3' b z)
def iZp (c : Cfg) (ta : TA) : TI := fun σ H R => ta σ H fun vs H1 => ∃ x d A ds x' d' A' ds', vs = [x, x'] ∧ Rep c H1 x d A ∧ itemsOf d = some ds ∧ isDictD d = false ∧ Rep c H1 x' d' A' ∧ itemsOf d' = some ds' ∧ isDictD d' = false ∧ IterR c (zipD ds ds') (A ++ A') R H1
theorem pi_zp {e e2 : Expr} {ta : TA} {p pos tpos : Pos} {elts : List Expr} {kk : Nat} (hg : Gl X "zip") (hm : X.mg "zip" = none) (ha : PA X [e, e2] ta)
    (hs : starEach [e, e2] X.env = (false, eval e X.env) :: starEach [e2] X.env := by rfl) (hpl : (backTo pos (starEach [e2] X.env)).any (·.1) = false := by rfl) :
    PI X (.Tuple elts kk tpos) (.Call (.Name "zip" p) [e, e2] [] pos) (iZp c ta) := by
  refine ⟨fun pins s σ H R I h => ?_⟩
  refine Call_ (ld_blt I hg hm PyProof.Rows.boot_zip (PyProof.Rows.callWith_type1 (thn (ha.run pos pins s σ H _ I h) fun us s1 ⟨vs, H1, I1, r1, x, d, A, ds, x', d', A', ds', e1, r, e2, nd, r', e2', nd', q⟩ => ?_) hs hpl))
  subst e1
  obtain ⟨u, u', rfl, rx, rx'⟩ := vals2 r1
  obtain ⟨o, ti, qs⟩ := seqOf rx r e2 nd X.prog X.w
  obtain ⟨o', ti', qs'⟩ := seqOf rx' r' e2' nd' X.prog X.w
  have hS : Std c x d A H1 := ⟨A, r, fun _ z => z⟩
  have hS' : Std c x' d' A' H1 := ⟨A', r', fun _ z => z⟩
  obtain ⟨Con, b, hc⟩ := qs.start X rfl rfl pins s1 σ H1 I1 hS
  obtain ⟨Con', b', hc'⟩ := qs'.start X rfl rfl pins s1 σ H1 I1 hS'
  refine zip_begins2 b b' hc hc' fun h' hz hTI hTO h1 h2 hsz hk => wpAny_pyIter_zip hz ?_
  have I2 : Inv X pins σ H1 { s1 with heap := h' } := I1.kept (t' := s1.toks) hk
  refine ⟨s1.heap.objs.size + 4, [s1.heap.objs.size + 4, s1.heap.objs.size + 2, s1.heap.objs.size + 3, s1.heap.objs.size, s1.heap.objs.size + 1], _, _, H1, rfl, I2, turn_zp qs qs' ?_, ⟨hz, hTI, ⟨_, _, hTO⟩, qs.ti0 _ _ h1, qs'.ti0 _ _ h2⟩, fun c hcm => ?_, q _ ⟨hS, hS'⟩ (fun H1 H2 k q => ⟨q.1.keep (k.sub fun a z => List.mem_append_left _ z), q.2.keep (k.sub fun a z => List.mem_append_right _ z)⟩) (by rw [zip_len]; exact Nat.le_trans (Nat.min_le_left _ _) (items_len I1 r e2).1) fun b z => (List.mem_append.mp z).elim ((items_len I1 r e2).2 b) ((items_len I1 r' e2').2 b)⟩
  · simp
  · have e' : c = s1.heap.objs.size + 4 ∨ c = s1.heap.objs.size + 2 ∨ c = s1.heap.objs.size + 3 ∨ c = s1.heap.objs.size ∨ c = s1.heap.objs.size + 1 := by simpa using hcm
    have hle : s1.heap.objs.size ≤ c := by
      rcases e' with z | z | z | z | z
      · rw [z]; exact Nat.le_add_right _ _
      · rw [z]; exact Nat.le_add_right _ _
      · rw [z]; exact Nat.le_add_right _ _
      · rw [z]; exact Nat.le_refl _
      · rw [z]; exact Nat.le_add_right _ _
    exact I1.fpOk hle (I1.hok.fresh hle)
end
end N
/-! N10. Readings of the small language; the cases of expressions. -/
namespace N
open PySem PySem.Spec PyProof.Rows L2

theorem bD_inv {β : Type} {x : R} {f : D → Nat → Src → Option β} {y : β} (h : bD x f = some y) : ∃ d o s, x = some (.dat d o, s) ∧ f d o s = some y := by
  unfold bD at h
  split at h
  · exact ⟨_, _, _, rfl, h⟩
  · cases h

section
variable (c : Cfg) (cf : CF)
/-- an expression's reading -/
def rd (e : X) : TE := fun σ H Q => ∃ env F S r S1, Rel c env σ H F ∧ SrcAt c H S ∧ ev cf e env S = some (r, S1) ∧ ∀ v H' G, Val c env F (al e) H v r G H' → SrcAt c H' S1 → Q v H'
/-- a test's -/
def rdT (e : X) : TT := fun σ H Q => ∃ env F S d o S1 b, Rel c env σ H F ∧ SrcAt c H S ∧ ev cf e env S = some (.dat d o, S1) ∧ truth d = some b ∧ ∀ H', Ext c H H' → SrcAt c H' S1 → Q b H'
/-- of a comprehension's tests -/
def rdTs (es : Xs) : TT := fun σ H Q => ∃ env F S S1 b, Rel c env σ H F ∧ SrcAt c H S ∧ tests cf es env S = some (b, S1) ∧ ∀ H', Ext c H H' → SrcAt c H' S1 → Q b H'
/-- a row of written items -/
def rdA (es : Xs) : TA := fun σ H Q => ∃ env F S ds S1, Rel c env σ H F ∧ SrcAt c H S ∧ evs cf es env S = some (ds, S1) ∧ ∀ vs H' A, Ext c H H' → RepAll c H' vs ds A → (∀ a ∈ A, H a = none ∨ ∃ i ∈ als es, a ∈ F i) → SrcAt c H' S1 → Q vs H'
/-- arguments of a call -/
inductive Slots (c : Cfg) (H : Hp) : List V → List Slot → List Addr → Prop
  | nil : Slots c H [] [] []
  | dat {v d vs ss A B} : Rep c H v d A → Slots c H vs ss B → Slots c H (v :: vs) (.dat d 0 :: ss) (A ++ B)
  | src {vs ss B} : Slots c H vs ss B → Slots c H (.ref c.sa :: vs) (.src :: ss) B
def rdC (es : Xs) : TA := fun σ H Q => ∃ env F S ss S1, Rel c env σ H F ∧ SrcAt c H S ∧ evc cf es env S = some (ss, S1) ∧ ∀ vs H' A, Ext c H H' → Slots c H' vs ss A → (∀ a ∈ A, H a = none ∨ ∃ i ∈ als es, a ∈ F i) → SrcAt c H' S1 → Q vs H'
/-- an end of a slice -/
def rdO (es : Xs) : TO := fun σ H Q => ∃ env F S o S1, Rel c env σ H F ∧ SrcAt c H S ∧ evo cf es env S = some (o, S1) ∧ ∀ H', Ext c H H' → SrcAt c H' S1 → Q o H'
/-- what is walked -/
def rdI (it : It) : TI := fun σ H R => ∃ env F S ds S1, Rel c env σ H F ∧ SrcAt c H S ∧ evi cf it env S = some (ds, S1) ∧ ∀ H' U, Ext c H H' → SrcAt c H' S1 → (∀ a ∈ U, H a = none ∨ ∃ i ∈ alI it, a ∈ F i) → IterR c ds U R H'
end

section
variable {c : Cfg} {cf : CF} {X : Cx} {env : Env} {F : Foot} {σ : L2.St} {H H1 H2 H3 : Hp} {S S1 S2 : Src}
theorem SrcAt.same (x : SrcAt c H S) (e : Same H H1) : SrcAt c H1 S := ⟨e _ _ x.d, e _ _ x.l, x.ne, x.turn⟩
/-- a footprint that leans on names -/
def Ft (F : Foot) (al : List Nat) (H : Hp) (A : List Addr) : Prop := ∀ a ∈ A, H a = none ∨ ∃ i ∈ al, a ∈ F i
theorem Ft.app {al al' : List Nat} {A B : List Addr} (p : Ft F al H A) (q : Ft F al' H B) : Ft F (al ++ al') H (A ++ B) := fun a z => (List.mem_append.mp z).elim
  (fun z => (p a z).imp id fun ⟨i, h1, h2⟩ => ⟨i, List.mem_append_left _ h1, h2⟩) fun z => (q a z).imp id fun ⟨i, h1, h2⟩ => ⟨i, List.mem_append_right _ h1, h2⟩
theorem Ft.back {al : List Nat} {A : List Addr} (e : Ext c H H1) (p : Ft F al H1 A) : Ft F al H A := fun a z => (p a z).imp e.none id
theorem Ft.sub {al : List Nat} {A B : List Addr} (p : Ft F al H A) (h : ∀ a ∈ B, a ∈ A) : Ft F al H B := fun a z => p a (h a z)
theorem Ft.of {al : List Nat} {A U : List Addr} (e : Ext c H H1) (p : Ft F al H U) (h : ∀ a ∈ A, H1 a = none ∨ a ∈ U) : Ft F al H A := fun a z => (h a z).elim (fun z => .inl (e.none z)) (p a)
theorem Ft.nil {al : List Nat} : Ft F al H [] := fun _ z => nomatch z
/-- the end of an operation's result -/
theorem Val.res {al : List Nat} {v : V} {r : D} {o : Nat} {A U : List Addr} (e : Ext c H H2) (sm : Same H2 H3) (rp : Rep c H3 v r A) (ft : ∀ a ∈ A, H2 a = none ∨ a ∈ U) (ow : ∀ a ∈ ownA (some (.dat r o)) A, H2 a = none ∧ A.count a = 1) (u : Ft F al H U) :
    Val c env F al H v (.dat r o) A H3 :=
  ⟨e.trans (same_ext sm), ⟨v, rfl, rp⟩, Ft.of e u ft, fun a z => ⟨e.none (ow a z).1, (ow a z).2⟩⟩
/-- a value without footprint -/
theorem Val.flat {al : List Nat} {v : V} {r : D} {o : Nat} (e : Ext c H H1) (rp : Rep c H1 v r []) : Val c env F al H v (.dat r o) [] H1 :=
  ⟨e, ⟨v, rfl, rp⟩, Ft.nil, fun a z => (ownA_nil z).elim⟩
/-- a part of what stands -/
theorem Val.part {al : List Nat} {v : V} {r : D} {A : List Addr} (e : Ext c H H1) (rp : Rep c H1 v r A) (u : Ft F al H A) : Val c env F al H v (.dat r 0) A H1 :=
  ⟨e, ⟨v, rfl, rp⟩, u, fun _ z => nomatch z⟩
theorem Val.get {al : List Nat} {v : V} {d : D} {o : Nat} {G : List Addr} (x : Val c env F al H v (.dat d o) G H1) : Rep c H1 v d G := by
  obtain ⟨w, e, r⟩ := x.rep
  cases e
  exact r
theorem pe_weak {e : Expr} {t t' : TE} (p : PE X e t) (h : ∀ σ H Q, t' σ H Q → t σ H Q) : PE X e t' := ⟨fun pins s σ H Q I q => p.run pins s σ H Q I (h σ H Q q)⟩
theorem pt_weak {e : Expr} {t t' : TT} (p : PT X e t) (h : ∀ σ H Q, t' σ H Q → t σ H Q) : PT X e t' := ⟨fun pins s σ H Q I q => p.run pins s σ H Q I (h σ H Q q)⟩
theorem pw_weak {e : Expr} {t t' : TT} (p : PW X e t) (h : ∀ σ H Q, t' σ H Q → t σ H Q) : PW X e t' := ⟨fun w pins s σ H Q I q => p.run w pins s σ H Q I (h σ H Q q)⟩
theorem pa_weak {es : List Expr} {t t' : TA} (p : PA X es t) (h : ∀ σ H Q, t' σ H Q → t σ H Q) : PA X es t' := ⟨fun pos pins s σ H Q I q => p.run pos pins s σ H Q I (h σ H Q q)⟩
theorem po_weak {e : Option Expr} {t t' : TO} (p : PO X e t) (h : ∀ σ H Q, t' σ H Q → t σ H Q) : PO X e t' := ⟨fun pins s σ H Q I q => p.run pins s σ H Q I (h σ H Q q)⟩
theorem pi_weak {tg e : Expr} {t t' : TI} (p : PI X tg e t) (h : ∀ σ H Q, t' σ H Q → t σ H Q) : PI X tg e t' := ⟨fun pins s σ H Q I q => p.run pins s σ H Q I (h σ H Q q)⟩

/-! ### names, constants -/
theorem c_v {i : Nat} {x : Str} {pos : Pos} (hN : X.N[i]? = some x) (hv : Vis X.env.scope x) (hd : (x == ("__debug__" : Str)) = false) (hcd : (x == ("__classdict__" : Str)) = false) : PE X (.Name x pos) (rd c cf (.v i)) :=
  pe_weak (pe_var hN hv hd hcd) fun σ H Q ⟨env, F, S, r, S1, R, s, e, q⟩ => by
    have rp := R.rep i
    simp only [ev] at e
    split at e
    · rename_i d o g
      cases e
      rw [g] at rp
      obtain ⟨v, h1, h2⟩ := rp
      exact ⟨v, h1, q v H (F i) ⟨Ext.refl, ⟨v, rfl, h2⟩, fun a z => .inr ⟨i, List.mem_singleton.mpr rfl, z⟩, fun _ z => nomatch z⟩ s⟩
    · rename_i g
      cases e
      rw [g] at rp
      exact ⟨_, rp.1, q _ H [] ⟨Ext.refl, ⟨rfl, rfl⟩, Ft.nil, fun _ z => nomatch z⟩ s⟩
    · cases e
theorem c_k {d : D} {v : V} {e : Expr} (p : PE X e (tC v)) (r : ∀ H, Rep c H v d []) : PE X e (rd c cf (.k d)) :=
  pe_weak p fun σ H Q ⟨env, F, S, r', S1, R, s, e, q⟩ => by
    simp only [ev] at e
    cases e
    exact q v H [] (Val.flat Ext.refl (r H)) s

/-! ### operations -/
theorem c_bin {op : Operator} {a b : N.X} {xa xb : Expr} {pos : Pos} (ha : PE X xa (rd c cf a)) (hb : PE X xb (rd c cf b)) : PE X (.BinOp xa op xb pos) (rd c cf (.bin op a b)) :=
  pe_weak (pe_op (op_bin (c := c)) ha hb) fun σ H Q ⟨env, F, S, r, S1, R, s, e, q⟩ => by
    simp only [ev] at e
    obtain ⟨d, o, s1, ea, e⟩ := bD_inv e
    obtain ⟨d', o', s2, eb, e⟩ := bD_inv e
    split at e
    · rename_i r1 o1 er
      cases e
      refine ⟨env, F, S, _, _, R, s, ea, fun x H1 G1 v1 sr1 => ⟨env, F, _, _, _, R.ext v1.ext, sr1, eb, fun y H2 G2 v2 sr2 => ⟨sr2.tk, d, d', G1, G2, r1, o1, v1.get.ext v2.ext, v2.get, er, fun v H3 A sm rp ft ow => ?_⟩⟩⟩
      exact q v H3 A (Val.res (v1.ext.trans v2.ext) sm rp ft ow (Ft.app v1.foot (Ft.back v1.ext v2.foot))) (sr2.same sm)
    · cases e
theorem c_neg {a : N.X} {xa : Expr} {pos : Pos} (ha : PE X xa (rd c cf a)) : PE X (.UnaryOp .USub xa pos) (rd c cf (.neg a)) :=
  pe_weak (pe_un un_neg ha) fun σ H Q ⟨env, F, S, r, S1, R, s, e, q⟩ => by
    simp only [ev] at e
    obtain ⟨d, o, s1, ea, e⟩ := bD_inv e
    split at e
    · cases e
      refine ⟨env, F, S, _, _, R, s, ea, fun x H1 G1 v1 sr1 => ?_⟩
      obtain ⟨rfl, rfl⟩ := v1.get.int_inv
      exact ⟨_, rfl, q _ H1 [] (Val.flat v1.ext (.int _)) sr1⟩
    · cases e
theorem c_cmp {op : CmpOp} {a b : N.X} {xa xb : Expr} {pos : Pos} (hu : X.A.units + 70 < cLine) (hp : X.prog = c.prog) (hw : X.w = c.w) (ha : PE X xa (rd c cf a)) (hb : PE X xb (rd c cf b)) (hm : behindInMarks op xb = false) : PE X (.Compare xa [op] [xb] pos) (rd c cf (.cmp op a b)) ∧ PT X (.Compare xa [op] [xb] pos) (rdT c cf (.cmp op a b)) := by
  refine ⟨pe_weak (pe_cmpR (op_cmp (c := c) hu hp hw) ha hb hm) fun σ H Q ⟨env, F, S, r, S1, R, s, e, q⟩ => ?_, pt_weak (pt_cmpR (op_cmp (c := c) hu hp hw) ha hb hm) fun σ H Q ⟨env, F, S, d, o, S1, b0, R, s, e, t, q⟩ => ?_⟩
  · simp only [ev] at e
    obtain ⟨d, o, s1, ea, e⟩ := bD_inv e
    obtain ⟨d', o', s2, eb, e⟩ := bD_inv e
    split at e
    · rename_i r1 er
      cases e
      exact ⟨env, F, S, _, _, R, s, ea, fun x H1 G1 v1 sr1 => ⟨env, F, _, _, _, R.ext v1.ext, sr1, eb, fun y H2 G2 v2 sr2 => ⟨sr2.tk, d, d', G1, G2, r1, v1.get.ext v2.ext, v2.get, er, q _ H2 [] (Val.flat (v1.ext.trans v2.ext) (.bl _)) sr2⟩⟩⟩
    · cases e
  · simp only [ev] at e
    obtain ⟨d1, o1, s1, ea, e⟩ := bD_inv e
    obtain ⟨d', o', s2, eb, e⟩ := bD_inv e
    split at e
    · rename_i r1 er
      cases e
      cases t
      exact ⟨env, F, S, _, _, R, s, ea, fun x H1 G1 v1 sr1 => ⟨env, F, _, _, _, R.ext v1.ext, sr1, eb, fun y H2 G2 v2 sr2 => ⟨sr2.tk, d1, d', G1, G2, _, v1.get.ext v2.ext, v2.get, er, _, rfl, q H2 (v1.ext.trans v2.ext) sr2⟩⟩⟩
    · cases e
theorem c_chn {op op' : CmpOp} {a b b' : N.X} {xa xb xc : Expr} {pos : Pos} (hu : X.A.units + 70 < cLine) (hp : X.prog = c.prog) (hw : X.w = c.w) (ha : PE X xa (rd c cf a)) (hb : PE X xb (rd c cf b)) (hc : PE X xc (rd c cf b')) (hm : lastMarks [op, op'] [xb, xc] = false) :
    PE X (.Compare xa [op, op'] [xb, xc] pos) (rd c cf (.chn op op' a b b')) ∧ PT X (.Compare xa [op, op'] [xb, xc] pos) (rdT c cf (.chn op op' a b b')) := by
  refine ⟨pe_weak (pe_chain (op_cmp (c := c) hu hp hw) (op_cmp (c := c) hu hp hw) ha hb hc hm) fun σ H Q ⟨env, F, S, r, S1, R, s, e, q⟩ => ?_, pt_weak (pt_chain (op_cmp (c := c) hu hp hw) (op_cmp (c := c) hu hp hw) ha hb hc hm) fun σ H Q ⟨env, F, S, d, o, S1, b0, R, s, e, t, q⟩ => ?_⟩
  · simp only [ev] at e
    obtain ⟨d, o, s1, ea, e⟩ := bD_inv e
    obtain ⟨d', o', s2, eb, e⟩ := bD_inv e
    split at e
    · rename_i r1 er
      refine ⟨env, F, S, _, _, R, s, ea, fun x H1 G1 v1 sr1 => ⟨env, F, _, _, _, R.ext v1.ext, sr1, eb, fun y H2 G2 v2 sr2 => ⟨sr2.tk, d, d', G1, G2, r1, v1.get.ext v2.ext, v2.get, er, r1, rfl, ?_⟩⟩⟩
      cases r1 with
      | true =>
        rw [if_pos rfl] at e
        rw [if_pos rfl]
        obtain ⟨d3, o3, s3, ec, e⟩ := bD_inv e
        split at e
        · rename_i r2 er2
          cases e
          exact ⟨env, F, _, _, _, (R.ext v1.ext).ext v2.ext, sr2, ec, fun z H3 G3 v3 sr3 => ⟨sr3.tk, d', d3, G2, G3, r2, v2.get.ext v3.ext, v3.get, er2, q _ H3 [] (Val.flat ((v1.ext.trans v2.ext).trans v3.ext) (.bl _)) sr3⟩⟩
        · cases e
      | false =>
        rw [if_neg Bool.false_ne_true] at e
        rw [if_neg Bool.false_ne_true]
        cases e
        exact q _ H2 [] (Val.flat (v1.ext.trans v2.ext) (.bl _)) sr2
    · cases e
  · simp only [ev] at e
    obtain ⟨d1, o1, s1, ea, e⟩ := bD_inv e
    obtain ⟨d', o', s2, eb, e⟩ := bD_inv e
    split at e
    · rename_i r1 er
      refine ⟨env, F, S, _, _, R, s, ea, fun x H1 G1 v1 sr1 => ⟨env, F, _, _, _, R.ext v1.ext, sr1, eb, fun y H2 G2 v2 sr2 => ⟨sr2.tk, d1, d', G1, G2, r1, v1.get.ext v2.ext, v2.get, er, r1, rfl, ?_⟩⟩⟩
      cases r1 with
      | true =>
        rw [if_pos rfl] at e
        rw [if_pos rfl]
        obtain ⟨d3, o3, s3, ec, e⟩ := bD_inv e
        split at e
        · rename_i r2 er2
          cases e
          cases t
          exact ⟨env, F, _, _, _, (R.ext v1.ext).ext v2.ext, sr2, ec, fun z H3 G3 v3 sr3 => ⟨sr3.tk, d', d3, G2, G3, _, v2.get.ext v3.ext, v3.get, er2, _, rfl, q H3 ((v1.ext.trans v2.ext).trans v3.ext) sr3⟩⟩
        · cases e
      | false =>
        rw [if_neg Bool.false_ne_true] at e
        rw [if_neg Bool.false_ne_true]
        cases e
        cases t
        exact ⟨_, rfl, q H2 (v1.ext.trans v2.ext) sr2⟩
    · cases e
theorem c_sub {a i : N.X} {xa xi : Expr} {pos : Pos} (hu : X.A.units + 20 < cLine) (hp : X.prog = c.prog) (hw : X.w = c.w) (ha : PE X xa (rd c cf a)) (hi : PE X xi (rd c cf i)) (hs : PlainIx xi) : PE X (.Subscript xa xi pos) (rd c cf (.sub a i)) :=
  pe_weak (pe_ix (ix_data (c := c) hu hp hw) ha hi hs) fun σ H Q ⟨env, F, S, r, S1, R, s, e, q⟩ => by
    simp only [ev] at e
    obtain ⟨d, o, s1, ea, e⟩ := bD_inv e
    obtain ⟨d', o', s2, eb, e⟩ := bD_inv e
    split at e
    · rename_i r1 er
      cases e
      exact ⟨env, F, S, _, _, R, s, ea, fun x H1 G1 v1 sr1 => ⟨env, F, _, _, _, R.ext v1.ext, sr1, eb, fun y H2 G2 v2 sr2 => ⟨sr2.tk, d, d', G1, G2, r1, v1.get.ext v2.ext, v2.get, er, fun v C rp sb =>
        q v H2 C (Val.part (v1.ext.trans v2.ext) rp (Ft.sub v1.foot fun a z => sb.subset z)) sr2⟩⟩⟩
    · cases e
theorem c_sl {a : N.X} {lo hi : Xs} {xa : Expr} {xl xh : Option Expr} {p2 pos : Pos} (ha : PE X xa (rd c cf a)) (hl : PO X xl (rdO c cf lo)) (hh : PO X xh (rdO c cf hi)) : PE X (.Subscript xa (.Slice xl xh none p2) pos) (rd c cf (.sl a lo hi)) :=
  pe_weak (pe_slice (sl_data (c := c)) ha hl hh) fun σ H Q ⟨env, F, S, r, S1, R, s, e, q⟩ => by
    simp only [ev] at e
    obtain ⟨d, o, s1, ea, e⟩ := bD_inv e
    split at e
    · rename_i l s2 el
      split at e
      · rename_i h s3 eh
        split at e
        · rename_i r1 o1 er
          cases e
          refine ⟨env, F, S, _, _, R, s, ea, fun x H1 G1 v1 sr1 => ⟨env, F, _, l, _, R.ext v1.ext, sr1, el, fun H2 x2 sr2 => ⟨env, F, _, h, _, (R.ext v1.ext).ext x2, sr2, eh, fun H3 x3 sr3 => ⟨sr3.tk, d, G1, r1, o1, (v1.get.ext x2).ext x3, er, fun v H4 A sm rp ft ow => ?_⟩⟩⟩⟩
          exact q v H4 A (Val.res ((v1.ext.trans x2).trans x3) sm rp ft ow v1.foot) (sr3.same sm)
        · cases e
      · cases e
    · cases e
theorem c_rev {a : N.X} {xa : Expr} {k : Nat} {p1 p2 p3 pos : Pos} (ha : PE X xa (rd c cf a)) : PE X (.Subscript xa (.Slice none none (some (.UnaryOp .USub (.Constant (.int 1) k p1) p2)) p3) pos) (rd c cf (.rev a)) :=
  pe_weak (pe_rev (c := c) ha) fun σ H Q ⟨env, F, S, r, S1, R, s, e, q⟩ => by
    simp only [ev] at e
    obtain ⟨d, o, s1, ea, e⟩ := bD_inv e
    split at e
    · rename_i r1 o1 er
      cases e
      refine ⟨env, F, S, _, _, R, s, ea, fun x H1 G1 v1 sr1 => ⟨sr1.tk, d, G1, r1, o1, v1.get, er, fun v H2 A sm rp ft ow => ?_⟩⟩
      exact q v H2 A (Val.res v1.ext sm rp ft ow v1.foot) (sr1.same sm)
    · cases e
theorem o_none : PO X none (rdO c cf .nil) :=
  po_weak po_none fun σ H Q ⟨env, F, S, o, S1, R, s, e, q⟩ => by
    simp only [evo] at e
    cases e
    exact q H Ext.refl s
theorem o_some {a : N.X} {xa : Expr} (ha : PE X xa (rd c cf a)) : PO X (some xa) (rdO c cf (.cons false a .nil)) :=
  po_weak (po_some ha) fun σ H Q ⟨env, F, S, o, S1, R, s, e, q⟩ => by
    simp only [evo] at e
    obtain ⟨d, o1, s1, ea, e⟩ := bD_inv e
    split at e
    · cases e
      refine ⟨env, F, S, _, _, R, s, ea, fun x H1 G1 v1 sr1 => ?_⟩
      obtain ⟨rfl, rfl⟩ := v1.get.int_inv
      exact ⟨_, rfl, q H1 v1.ext sr1⟩
    · cases e

/-! ### truth -/
theorem t_val {a : N.X} {xa : Expr} (ha : PE X xa (rd c cf a)) (he : ∀ whole, isTrue xa X.env whole = (do let v ← whole; standAt xa.pos; holding [v] (truthy v))) : PT X xa (rdT c cf a) :=
  pt_weak (pt_truthR ha (tru_data (c := c)) he) fun σ H Q ⟨env, F, S, d, o, S1, b0, R, s, e, t, q⟩ =>
    ⟨env, F, S, _, S1, R, s, e, fun x H1 G1 v1 sr1 => ⟨d, G1, b0, v1.get, t, q H1 v1.ext sr1⟩⟩
theorem c_nt {a : N.X} {xa : Expr} {pos : Pos} (ha : PE X xa (rd c cf a)) (ta : PT X xa (rdT c cf a)) : PE X (.UnaryOp .Not xa pos) (rd c cf (.nt a)) ∧ PT X (.UnaryOp .Not xa pos) (rdT c cf (.nt a)) := by
  refine ⟨⟨fun pins s σ H Q I ⟨env, F, S, r, S1, R, sr, e, q⟩ => ?_⟩, pt_weak (pt_not ta) fun σ H Q ⟨env, F, S, d, o, S1, b0, R, s, e, t, q⟩ => ?_⟩
  · simp only [ev] at e
    obtain ⟨d, o, s1, ea, e⟩ := bD_inv e
    split at e
    · rename_i t et
      cases e
      refine UnaryOp_ (thn (ha.run pins s σ H _ I ⟨env, F, S, _, _, R, sr, ea, fun x H1 G1 v1 sr1 => (⟨G1, v1, sr1⟩ : ∃ G1, Val c env F (al a) H x (.dat d o) G1 H1 ∧ SrcAt c H1 _)⟩) fun v s1' ⟨x, H1, I1, r1, G1, v1, sr1⟩ => ?_)
      exact not_of (thn (tru_data (c := c) pins s1' σ H1 x v (fun b H2 => Q (.bl (!b)) H2) I1 r1 ⟨d, G1, t, v1.get, et, q _ H1 [] (Val.flat v1.ext (.bl _)) sr1⟩) fun b s2 ⟨H2, I2, q2⟩ => ⟨.bl (!b), H2, I2, rfl, q2⟩)
    · cases e
  · simp only [ev] at e
    obtain ⟨d1, o1, s1, ea, e⟩ := bD_inv e
    split at e
    · rename_i t1 et
      cases e
      cases t
      exact ⟨env, F, S, d1, o1, _, t1, R, s, ea, et, q⟩
    · cases e
theorem c_and {a b : N.X} {xa xb : Expr} {rest : List Expr} {pos : Pos} (ha : PE X xa (rd c cf a)) (ta : PT X xa (rdT c cf a)) (hb : PE X (.BoolOp .And (xb :: rest) pos) (rd c cf b)) (tb : PW X (.BoolOp .And (xb :: rest) pos) (rdT c cf b)) :
    PE X (.BoolOp .And (xa :: xb :: rest) pos) (rd c cf (.and a b)) ∧ PW X (.BoolOp .And (xa :: xb :: rest) pos) (rdT c cf (.and a b)) := by
  refine ⟨⟨fun pins s σ H Q I ⟨env, F, S, r, S1, R, sr, e, q⟩ => ?_⟩, pw_weak (pw_and ta tb) fun σ H Q ⟨env, F, S, d, o, S1, b0, R, s, e, t, q⟩ => ?_⟩
  · simp only [ev] at e
    obtain ⟨d, o, s1, ea, e⟩ := bD_inv e
    refine BoolOp_and (thn (ha.run pins s σ H _ I ⟨env, F, S, _, _, R, sr, ea, fun x H1 G1 v1 sr1 => (⟨G1, v1, sr1⟩ : ∃ G1, Val c env F (al a) H x (.dat d o) G1 H1 ∧ SrcAt c H1 _)⟩) fun v s1' ⟨x, H1, I1, r1, G1, v1, sr1⟩ => ?_)
    split at e
    · rename_i et
      refine thn (tru_data (c := c) pins s1' σ H1 x v (fun b H2 => b = true ∧ H2 = H1) I1 r1 ⟨d, G1, true, v1.get, et, rfl, rfl⟩) fun b2 s2 ⟨H2, I2, eb, eh⟩ => ?_
      subst eb eh
      exact hb.run pins s2 σ H2 Q I2 ⟨env, F, s1, r, S1, R.ext v1.ext, sr1, e, fun v H3 G3 v3 sr3 => q v H3 G3 ⟨v1.ext.trans v3.ext, v3.rep, fun a z => (v3.foot a z).imp v1.ext.none fun ⟨i, h1, h2⟩ => ⟨i, List.mem_append_right _ h1, h2⟩, fun a z => ⟨v1.ext.none (v3.own a z).1, (v3.own a z).2⟩⟩ sr3⟩
    · rename_i et
      cases e
      refine thn (tru_data (c := c) pins s1' σ H1 x v (fun b H2 => b = false ∧ H2 = H1) I1 r1 ⟨d, G1, false, v1.get, et, rfl, rfl⟩) fun b2 s2 ⟨H2, I2, eb, eh⟩ => ?_
      subst eb eh
      exact ⟨x, H2, I2, r1, q x H2 G1 (Val.part v1.ext v1.get fun a z => (v1.foot a z).imp id fun ⟨i, h1, h2⟩ => ⟨i, List.mem_append_left _ h1, h2⟩) sr1⟩
    · cases e
  · simp only [ev] at e
    obtain ⟨d1, o1, s1, ea, e⟩ := bD_inv e
    split at e
    · rename_i et
      exact ⟨env, F, S, _, o1, _, true, R, s, ea, et, fun H1 x1 sr1 => Eq.mpr (if_pos rfl) (⟨env, F, s1, d, o, S1, b0, R.ext x1, sr1, e, t, fun H2 x2 sr2 => q H2 (x1.trans x2) sr2⟩)⟩
    · rename_i et
      cases e
      rw [et] at t
      cases t
      exact ⟨env, F, S, _, o1, _, false, R, s, ea, et, fun H1 x1 sr1 => Eq.mpr (if_neg Bool.false_ne_true) (q H1 x1 sr1)⟩
    · cases e
theorem c_or {a b : N.X} {xa xb : Expr} {rest : List Expr} {pos : Pos} (ha : PE X xa (rd c cf a)) (ta : PT X xa (rdT c cf a)) (hb : PE X (.BoolOp .Or (xb :: rest) pos) (rd c cf b)) (tb : PW X (.BoolOp .Or (xb :: rest) pos) (rdT c cf b)) :
    PE X (.BoolOp .Or (xa :: xb :: rest) pos) (rd c cf (.or a b)) ∧ PW X (.BoolOp .Or (xa :: xb :: rest) pos) (rdT c cf (.or a b)) := by
  refine ⟨⟨fun pins s σ H Q I ⟨env, F, S, r, S1, R, sr, e, q⟩ => ?_⟩, pw_weak (pw_or ta tb) fun σ H Q ⟨env, F, S, d, o, S1, b0, R, s, e, t, q⟩ => ?_⟩
  · simp only [ev] at e
    obtain ⟨d, o, s1, ea, e⟩ := bD_inv e
    refine BoolOp_or (thn (ha.run pins s σ H _ I ⟨env, F, S, _, _, R, sr, ea, fun x H1 G1 v1 sr1 => (⟨G1, v1, sr1⟩ : ∃ G1, Val c env F (al a) H x (.dat d o) G1 H1 ∧ SrcAt c H1 _)⟩) fun v s1' ⟨x, H1, I1, r1, G1, v1, sr1⟩ => ?_)
    split at e
    · rename_i et
      cases e
      refine thn (tru_data (c := c) pins s1' σ H1 x v (fun b H2 => b = true ∧ H2 = H1) I1 r1 ⟨d, G1, true, v1.get, et, rfl, rfl⟩) fun b2 s2 ⟨H2, I2, eb, eh⟩ => ?_
      subst eb eh
      exact ⟨x, H2, I2, r1, q x H2 G1 (Val.part v1.ext v1.get fun a z => (v1.foot a z).imp id fun ⟨i, h1, h2⟩ => ⟨i, List.mem_append_left _ h1, h2⟩) sr1⟩
    · rename_i et
      refine thn (tru_data (c := c) pins s1' σ H1 x v (fun b H2 => b = false ∧ H2 = H1) I1 r1 ⟨d, G1, false, v1.get, et, rfl, rfl⟩) fun b2 s2 ⟨H2, I2, eb, eh⟩ => ?_
      subst eb eh
      exact hb.run pins s2 σ H2 Q I2 ⟨env, F, s1, r, S1, R.ext v1.ext, sr1, e, fun v H3 G3 v3 sr3 => q v H3 G3 ⟨v1.ext.trans v3.ext, v3.rep, fun a z => (v3.foot a z).imp v1.ext.none fun ⟨i, h1, h2⟩ => ⟨i, List.mem_append_right _ h1, h2⟩, fun a z => ⟨v1.ext.none (v3.own a z).1, (v3.own a z).2⟩⟩ sr3⟩
    · cases e
  · simp only [ev] at e
    obtain ⟨d1, o1, s1, ea, e⟩ := bD_inv e
    split at e
    · rename_i et
      cases e
      rw [et] at t
      cases t
      exact ⟨env, F, S, _, o1, _, true, R, s, ea, et, fun H1 x1 sr1 => Eq.mpr (if_pos rfl) (q H1 x1 sr1)⟩
    · rename_i et
      exact ⟨env, F, S, _, o1, _, false, R, s, ea, et, fun H1 x1 sr1 => Eq.mpr (if_neg Bool.false_ne_true) (⟨env, F, s1, d, o, S1, b0, R.ext x1, sr1, e, t, fun H2 x2 sr2 => q H2 (x1.trans x2) sr2⟩)⟩
    · cases e
theorem c_one {op : BoolOp} {b : N.X} {xb : Expr} {pos : Pos} (hb : PE X xb (rd c cf b)) : PE X (.BoolOp op [xb] pos) (rd c cf b) := pe_one hb
theorem c_ite {k a b : N.X} {xk xa xb : Expr} {pos : Pos} (tk : PT X xk (rdT c cf k)) (ha : PE X xa (rd c cf a)) (hb : PE X xb (rd c cf b)) : PE X (.IfExp xk xa xb pos) (rd c cf (.ite k a b)) :=
  pe_weak (pe_ifExp tk ha hb) fun σ H Q ⟨env, F, S, r, S1, R, s, e, q⟩ => by
    simp only [ev] at e
    obtain ⟨d, o, s1, ek, e⟩ := bD_inv e
    split at e
    · rename_i et
      exact ⟨env, F, S, d, o, s1, true, R, s, ek, et, fun H1 x1 sr1 => Eq.mpr (if_pos rfl) (⟨env, F, s1, r, S1, R.ext x1, sr1, e, fun v H3 G3 v3 sr3 => q v H3 G3 ⟨x1.trans v3.ext, v3.rep, fun a z => (v3.foot a z).imp x1.none fun ⟨i, h1, h2⟩ => ⟨i, List.mem_append_left _ h1, h2⟩, fun a z => ⟨x1.none (v3.own a z).1, (v3.own a z).2⟩⟩ sr3⟩)⟩
    · rename_i et
      exact ⟨env, F, S, d, o, s1, false, R, s, ek, et, fun H1 x1 sr1 => Eq.mpr (if_neg Bool.false_ne_true) (⟨env, F, s1, r, S1, R.ext x1, sr1, e, fun v H3 G3 v3 sr3 => q v H3 G3 ⟨x1.trans v3.ext, v3.rep, fun a z => (v3.foot a z).imp x1.none fun ⟨i, h1, h2⟩ => ⟨i, List.mem_append_right _ h1, h2⟩, fun a z => ⟨x1.none (v3.own a z).1, (v3.own a z).2⟩⟩ sr3⟩)⟩
    · cases e
end
end N
/-! N11. Rows, calls. -/
namespace N
open PySem PySem.Spec PyProof.Rows L2

/-- what is asked of the text around -/
structure Ct where
  N : List Str
  sc : Scope
  fn : Nat → Option Str
  st : Str → Bool
def bnames : List Str := ["len", "abs", "int", "sum", "any", "all", "sorted", "tuple", "list", "min", "max", "repr", "isinstance", "str", "bool", "dict", "set", "range", "enumerate", "zip"]
/-- a def's promise, at a level of the interpreter -/
def spF (c : Cfg) (cf : CF) (f : Nat) : Sp := fun vs H Q _ => ∃ S ss A r S1, SrcAt c H S ∧ Slots c H vs ss A ∧ cf f ss S = some (r, S1) ∧
  ∀ v H' G, Ext c H H' → SlotRep c H' (some (some v)) (some r) G → (∀ a ∈ G, H a = none ∨ a ∈ A) → (∀ a ∈ ownA (some r) G, H a = none ∧ G.count a = 1) → SrcAt c H' S1 → Q v H'
structure Gd (c : Cfg) (cf : CF) (Γ : Ct) (X : Cx) : Prop where
  hp : X.prog = c.prog
  hw : X.w = c.w
  hN : X.N = Γ.N
  nd : X.N.Nodup
  sc : X.env.scope = Γ.sc
  calm : X.calm = true
  xe : X.xe = fun _ _ => False
  hu : X.A.units + 150 < cLine
  mg : ∀ x ∈ bnames, X.mg x = none
  fn : ∀ f x, Γ.fn f = some x → ∃ k, C8.Cal X.prog X.w X.K X.mg X.base k x (spF c cf f) [] ∧ Room k X.A
  st : ∀ x, Γ.st x = true → Loc X.env.scope x ∧ (X.fn x = true ∨ X.env.scope.names.lookup x = some .local)

def notStar : Expr → Bool
  | .Starred _ _ => false
  | _ => true
theorem star_no {e : Expr} (h : notStar e = true) (es : List Expr) (env : PySem.Env) : starEach (e :: es) env = (false, eval e env) :: starEach es env := by
  cases e <;> first | rfl | cases h
section
variable {c : Cfg} {cf : CF} {Γ : Ct} {X : Cx} {F : Foot} {σ : L2.St} {H H1 H2 H3 : Hp} {S S1 S2 : Src}

theorem a_nil : PA X [] (rdA c cf .nil) := pa_weak pa_nil fun σ H Q ⟨env, F, S, ds, S1, R, s, e, q⟩ => by
  simp only [evs] at e
  cases e
  exact q [] H [] Ext.refl .nil Ft.nil s
theorem a_cons {a : N.X} {es : Xs} {xa : Expr} {xs : List Expr} (ha : PE X xa (rd c cf a)) (hs : PA X xs (rdA c cf es)) (ns : notStar xa = true) : PA X (xa :: xs) (rdA c cf (.cons false a es)) :=
  pa_weak (pa_cons ha hs (star_no ns _ _)) fun σ H Q ⟨env, F, S, ds, S1, R, s, e, q⟩ => by
    simp only [evs] at e
    obtain ⟨d, o, s1, ea, e⟩ := bD_inv e
    split at e
    · rename_i es' s2 ee
      cases e
      refine ⟨env, F, S, _, _, R, s, ea, fun x H1 G1 v1 sr1 => ⟨env, F, _, es', _, R.ext v1.ext, sr1, ee, fun vs H2 A x2 ra ft sr2 => ?_⟩⟩
      exact q (x :: vs) H2 (G1 ++ A) (v1.ext.trans x2) (.cons (v1.get.ext x2) ra) (Ft.app v1.foot (Ft.back v1.ext ft)) sr2
    · cases e
theorem a_star {a : N.X} {es : Xs} {xa : Expr} {xs : List Expr} {p : Pos} (ha : PE X xa (rd c cf a)) (hs : PA X xs (rdA c cf es)) : PA X (.Starred xa p :: xs) (rdA c cf (.cons true a es)) :=
  pa_weak (StX.pa_star ha hs) fun σ H Q ⟨env, F, S, ds, S1, R, s, e, q⟩ => by
    simp only [evs] at e
    obtain ⟨d, o, s1, ea, e⟩ := bD_inv e
    split at e
    · rename_i es' s2 ee
      split at e <;> first | cases e | skip
      · rename_i h; cases h
      · refine ⟨env, F, S, _, _, R, s, ea, fun x H1 G1 v1 sr1 => ?_⟩
        obtain ⟨a, vs, B, rfl, rfl, la, ha', ra⟩ := v1.get.lst_inv
        refine ⟨a, vs, rfl, .inr (.of ha'), ⟨env, F, _, es', _, R.ext v1.ext, sr1, ee, fun ws H2 A x2 rb ft sr2 => ?_⟩⟩
        exact q (vs ++ ws) H2 (B ++ A) (v1.ext.trans x2) ((ra.ext x2).append rb) (Ft.app (Ft.sub v1.foot fun _ z => List.mem_cons_of_mem _ z) (Ft.back v1.ext ft)) sr2
      · refine ⟨env, F, S, _, _, R, s, ea, fun x H1 G1 v1 sr1 => ?_⟩
        obtain ⟨a, vs, rfl, ha', ra⟩ := v1.get.tup_inv
        refine ⟨a, vs, rfl, .inl (.of ha'), ⟨env, F, _, es', _, R.ext v1.ext, sr1, ee, fun ws H2 A x2 rb ft sr2 => ?_⟩⟩
        exact q (vs ++ ws) H2 (G1 ++ A) (v1.ext.trans x2) ((ra.ext x2).append rb) (Ft.app v1.foot (Ft.back v1.ext ft)) sr2
    · cases e
theorem c_tup {es : Xs} {xs : List Expr} {k : Nat} {pos : Pos} (hs : PA X xs (rdA c cf es)) : PE X (.Tuple xs k pos) (rd c cf (.tup es)) :=
  pe_weak (pe_tup hs) fun σ H Q ⟨env, F, S, r, S1, R, s, e, q⟩ => by
    simp only [ev] at e
    split at e
    · rename_i ds s1 ee
      split at e
      · rename_i hl
        cases e
        refine ⟨env, F, S, ds, _, R, s, ee, fun vs H1 A x1 ra ft sr => ⟨by rw [ra.length, ← lim_eq]; exact hl, fun p hn => ?_⟩⟩
        refine q (.ref p) _ A ⟨x1.trans (Ext.upd hn), ⟨_, rfl, .tup (sr.tk.live hn) upd_same (ra.ext (Ext.upd hn))⟩, ft, fun _ z => (nomatch z)⟩ (sr.upd hn)
      · cases e
    · cases e
theorem c_lst {es : Xs} {xs : List Expr} {pos : Pos} (hs : PA X xs (rdA c cf es)) : PE X (.List xs pos) (rd c cf (.lst es)) :=
  pe_weak (pe_lst hs) fun σ H Q ⟨env, F, S, r, S1, R, s, e, q⟩ => by
    simp only [ev] at e
    split at e
    · rename_i ds s1 ee
      split at e
      · rename_i hl
        cases e
        refine ⟨env, F, S, ds, _, R, s, ee, fun vs H1 A x1 ra ft sr => ⟨by rw [ra.length, ← lim_eq]; exact hl, fun p hn => ?_⟩⟩
        have np : p ∉ A := fun z => (RepAll.foot ra p z).1 hn
        refine q (.ref p) _ (p :: A) ⟨x1.trans (Ext.upd hn), ⟨_, rfl, .lst (sr.tk.live hn) upd_same (ra.ext (Ext.upd hn))⟩, fun a z => ?_, fun a z => ?_⟩ (sr.upd hn)
        · rcases List.mem_cons.mp z with rfl | z
          · exact .inl (x1.none hn)
          · exact ft a z
        · have e : a = p := by simpa [ownA] using z
          subst e
          exact ⟨x1.none hn, by rw [List.count_cons_self, List.count_eq_zero.mpr np]⟩
      · cases e
    · cases e

/-! ### built-in functions -/
theorem bi_tcb {f : B} {es : Xs} {xs : List Expr} {t : TA} (hs : PA X xs (rdA c cf es)) {e : Expr} (p : PE X e (tCB (rBi c f) (rdA c cf es))) : PE X e (rd c cf (.bi f es)) :=
  pe_weak p fun σ H Q ⟨env, F, S, r, S1, R, s, e, q⟩ => by
    simp only [ev] at e
    split at e
    · rename_i ds s1 ee
      split at e
      · rename_i r1 o1 er
        cases e
        refine ⟨env, F, S, ds, _, R, s, ee, fun vs H1 A x1 ra ft sr => ⟨sr.tk, ds, A, r1, o1, ra, er, fun v H2 B sm rp fb ow => ?_⟩⟩
        exact q v H2 B (Val.res x1 sm rp fb ow ft) (sr.same sm)
      · cases e
    · cases e
/-- the built-in's name, whether it is a type -/
def biName : B → Option (String × Bool)
  | .len => some ("len", false)
  | .abs => some ("abs", false)
  | .int => some ("int", true)
  | .sum => some ("sum", false)
  | .any => some ("any", false)
  | .all => some ("all", false)
  | .sorted => some ("sorted", false)
  | .tuple => some ("tuple", true)
  | .list => some ("list", true)
  | .min => some ("min", false)
  | .max => some ("max", false)
  | _ => none
theorem bi_rule (g : Gd c cf Γ X) (f : B) (n : String) (ty : Bool) (h : biName f = some (n, ty)) : CallR X (if ty then .type n else .builtin n) (rBi c f) ∧ bootBuiltins n = some (if ty then .type n else .builtin n) ∧ X.mg n = none ∧ (n : Str) ≠ ("__name__" : Str) ∧ ((n : Str) == ("__debug__" : Str)) = false := by
  have hu := g.hu
  cases f <;> first | (cases h; done) | (cases h; refine ⟨?_, by decide +kernel, g.mg _ (by decide +kernel), by decide +kernel, by decide +kernel⟩)
  · exact call_len_data
  · exact call_abs_data
  · exact call_int_data
  · exact call_sum_data g.calm
  · exact call_any_data g.calm
  · exact call_all_data g.calm
  · exact call_sorted_data g.calm (by omega)
  · exact call_tuple_data
  · exact call_list_data g.calm
  · exact call_min_data g.calm (by omega)
  · exact call_max_data g.calm (by omega)
theorem c_bi (g : Gd c cf Γ X) {f : B} {n : String} {ty : Bool} (h : biName f = some (n, ty)) {es : Xs} {xa : Expr} {xs : List Expr} {p pos : Pos} (hs : PA X (xa :: xs) (rdA c cf es)) (ns : (xa :: xs).all notStar = true) (hg : Gl X n) :
    PE X (.Call (.Name n p) (xa :: xs) [] pos) (rd c cf (.bi f es)) := by
  obtain ⟨h1, h2, h3, h4, h5⟩ := bi_rule g f n ty h
  rw [List.all_cons, Bool.and_eq_true] at ns
  have pl : ∀ ys : List Expr, ys.all notStar = true → (backTo pos (starEach ys X.env)).any (·.1) = false := by
    intro ys
    induction ys with
    | nil => exact fun _ => rfl
    | cons y ys ih =>
      intro hy
      rw [List.all_cons, Bool.and_eq_true] at hy
      rw [star_no hy.1]
      show (false || (backTo pos (starEach ys X.env)).any (·.1)) = false
      rw [ih hy.2]
      rfl
  refine bi_tcb (t := rdA c cf es) hs ?_
  cases ty with
  | true => exact pe_callTy h1 hg h3 h2 hs h4 h5 (star_no ns.1 _ _) (pl _ ns.2)
  | false => exact pe_callB h1 hg h3 h2 hs h4 h5 (star_no ns.1 _ _) (pl _ ns.2)
end
end N
/-! N12. Dicts of pairs, displays, kinds, calls of defs. -/
namespace N
open PySem PySem.Spec PyProof.Rows L2

section
variable {c : Cfg} {cf : CF} {Γ : Ct} {X : Cx} {pins : List (Addr × Obj)} {s : Shared} {F : Foot} {σ : L2.St} {H H1 H2 H3 : Hp} {S S1 S2 : Src}

/-- pairs by their keys' addresses and the values -/
inductive PRep (c : Cfg) (H : Hp) : List (NestedKey × Addr × Value) → List D → List Addr → Prop
  | nil : PRep c H [] [] []
  | cons {b k d v u A ps rs B} : Rep c H (.ref b) k [] → tkey k = true → RelV v u → Rep c H v d A → PRep c H ps rs B → PRep c H ((nk k, b, u) :: ps) (.tuple [k, d] :: rs) (A ++ B)
theorem PRep.length {ps : List (NestedKey × Addr × Value)} {rs : List D} {A : List Addr} (r : PRep c H ps rs A) : ps.length = rs.length := by
  induction r with
  | nil => rfl
  | cons _ _ _ _ _ ih => rw [List.length_cons, List.length_cons, ih]
theorem xs_back : ∀ {xs : List (NestedKey × Addr × Value)} {kvs : List (D × D)}, xs.map (·.1) = kvs.map (fun p => nk p.1) → xsOf (xs.map (ent c)) kvs = xs
  | [], [], _ => rfl
  | (k, b, u) :: xs, p :: kvs, h => by
    rw [List.map_cons, List.map_cons, List.cons.injEq] at h
    rw [List.map_cons, xsOf, xs_back h.2, ← h.1]
    rfl
theorem stored_names {xs : List (NestedKey × Addr × Value)} {kvs : List (D × D)} {k d : D} {b : Addr} {u : Value} (h : xs.map (·.1) = kvs.map (fun p => nk p.1)) (hs : (atKey xs (nk k)).isSome = dhas kvs k) :
    (storedH xs (nk k) b u).map (·.1) = (dput kvs k d).map (fun p => nk p.1) := by
  unfold storedH dput
  rw [hs]
  cases dhas kvs k with
  | true =>
    rw [if_pos rfl, if_pos rfl, List.map_map, List.map_map]
    have e1 : ((fun x : NestedKey × Addr × Value => x.1) ∘ putAt (nk k) u) = fun x => x.1 := by
      funext x
      show (putAt (nk k) u x).1 = x.1
      unfold putAt
      split <;> rfl
    have e2 : ((fun p : D × D => nk p.1) ∘ fun p => if nk p.1 = nk k then (p.1, d) else p) = fun p => nk p.1 := by
      funext p
      show nk (if nk p.1 = nk k then (p.1, d) else p).1 = nk p.1
      split <;> rfl
    rw [e1, e2]
    exact h
  | false =>
    rw [if_neg Bool.false_ne_true, if_neg Bool.false_ne_true, List.map_append, List.map_append, h]
    rfl
/-- a row of pairs that stands: its pairs -/
theorem pairs_of (I : Inv X pins σ H s) : ∀ {vs : List V} {rs : List D} {A : List Addr} {us : List Value}, RepAll c H vs rs A → rs.all tpair = true → Vals vs us → ∃ (ps : List (NestedKey × Addr × Value)) (Tl A' : List Addr), PRep c H ps rs A' ∧ us = Tl.map Value.ref ∧ Tl.length = ps.length ∧
    (∀ (j : Nat) p, ps[j]? = some p → ∃ T, Tl[j]? = some T ∧ PairAt s.heap T (.ref p.2.1) p.2.2) ∧ A' = A ∧ ∀ p ∈ ps, (nestedKind X.prog X.w).is s.heap p.1 p.2.1
  | _, _, _, _, .nil, _, v => by
    cases v
    exact ⟨[], [], [], .nil, rfl, rfl, fun j p h => by simp at h, rfl, fun _ z => (nomatch z)⟩
  | _, d0 :: rs, _, _, .cons r1 r2, h, v => by
    rw [List.all_cons, Bool.and_eq_true] at h
    cases v with
    | cons w1 w2 =>
      obtain ⟨ps, Tl, A', q1, q2, q3, q4, q5, q6⟩ := pairs_of I r2 h.2 w2
      have hp := h.1
      unfold tpair at hp
      split at hp
      · rename_i k d
        obtain ⟨T, ws, rfl, hT, ra⟩ := r1.tup_inv
        cases w1
        cases ra with
        | cons ra1 ra2 =>
          cases ra2 with
          | cons rb1 rb2 =>
            cases rb2
            obtain ⟨b, rfl⟩ := ra1.tref hp
            have e0 := ra1.imm (imm_of_tkey hp)
            subst e0
            obtain ⟨hz, its, hv, ht⟩ := (show ObjOk X.prog X.w H s.heap T (.tup _) from I.hok T _ hT)
            cases hv with
            | cons k1 k2 =>
              cases k2 with
              | cons k3 k4 =>
                cases k4
                cases k1
                refine ⟨_ :: ps, T :: Tl, _, .cons ra1 hp k3 rb1 q1, by rw [q2]; rfl, by rw [List.length_cons, List.length_cons, q3], fun j p hj => ?_, by rw [q5]; simp, fun p z => ?_⟩
                · cases j with
                  | zero =>
                    simp at hj
                    subst hj
                    exact ⟨T, rfl, .inl ht⟩
                  | succ j => simpa using q4 j p (by simpa using hj)
                · rcases List.mem_cons.mp z with rfl | z
                  · exact ra1.isKey I hp
                  · exact q6 p z
      · cases hp
theorem dputsT_out {kvs ls : List (D × D)} {rs : List D} (h : dputsT kvs rs = some ls) : rs.all tpair = true ∧ kvs.length + rs.length ≤ LIM ∧ dputs kvs rs = some ls := by
  unfold dputsT at h
  split at h
  · rename_i g
    simp only [Bool.and_eq_true, decide_eq_true_eq] at g
    exact ⟨g.1, g.2, h⟩
  · cases h
theorem keys_stay {h h' : Heap} {d : Addr} {k : NestedKey} {b : Addr} {P : Program} {w : World} (hd : ∀ o, h.get? d = some o → ∀ vs n, o.data ≠ .seq vs n) (x : (nestedKind P w).is h k b) (hk : ∀ b o, b ≠ d → h.get? b = some o → h'.get? b = some o) : (nestedKind P w).is h' k b :=
  ⟨NestedIs.at (fun b ob vs n hb hc => hk b ob (fun z => by subst z; exact hd _ hb vs n hc) hb) k _ x.1, x.2⟩
theorem items_of {its : List Value} {Tl : List Addr} {ps : List (NestedKey × Addr × Value)} {h : Heap} (e : its = Tl.map Value.ref) (l : Tl.length = ps.length) (hp : ∀ (j : Nat) p, ps[j]? = some p → ∃ T, Tl[j]? = some T ∧ PairAt h T (.ref p.2.1) p.2.2) :
    PairItems h its.toArray (fun j => Tl.getD j 0) (ps.map fun p => (Value.ref p.2.1, p.2.2)) := by
  refine ⟨by rw [e]; simp [l], fun j k v hj => ?_⟩
  rw [List.getElem?_map] at hj
  obtain ⟨p, h1, h2⟩ := Option.map_eq_some_iff.mp hj
  cases h2
  obtain ⟨T, h3, h4⟩ := hp j p h1
  have e1 : Tl.getD j 0 = T := by rw [List.getD_eq_getElem?_getD, h3]; rfl
  refine ⟨?_, by show PairAt h (Tl.getD j 0) _ _; rw [e1]; exact h4⟩
  show its.toArray[j]? = some (Value.ref (Tl.getD j 0))
  rw [e1, e]
  simp [h3]
/-- the dict laid at a -/
theorem laid_dict {s' : Shared} {a : Addr} {xs : List (NestedKey × Addr × Value)} {h' : Heap} (hd : h'.DictOfH (nestedKind c.prog c.w) a xs) : ∃ es ep, DictAt a es ep h' ∧ es.toList = xs.map (ent c) := by
  obtain ⟨o, es, ep, h1, h2, h3, h4, _⟩ := hd
  exact ⟨es, ep, ⟨o, h1, h2, h3⟩, h4⟩
end
end N
/-! N13. Binding of names. -/
namespace N
open PySem PySem.Spec PyProof.Rows L2

def updF (F : Foot) (i : Nat) (A : List Addr) : Foot := fun j => if j = i then A else F j
theorem updF_same {F : Foot} {i : Nat} {A : List Addr} : updF F i A i = A := if_pos rfl
theorem updF_ne {F : Foot} {i j : Nat} {A : List Addr} (h : j ≠ i) : updF F i A j = F j := if_neg h
theorem getv_set_same {env : Env} {i : Nat} {x : Option Slot} (h : i < env.length) : getv (env.set i x) i = x := by
  unfold getv
  rw [List.getElem?_set_self h]
  rfl
theorem getv_set_ne {env : Env} {i j : Nat} {x : Option Slot} (h : j ≠ i) : getv (env.set i x) j = getv env j := by
  unfold getv
  rw [List.getElem?_set_ne (Ne.symm h)]
theorem getv_big {env : Env} {i : Nat} (h : env.length ≤ i) : getv env i = none := by
  unfold getv
  rw [List.getElem?_eq_none h]
  rfl
section
variable {c : Cfg} {env env' : Env} {σ : L2.St} {H H1 : Hp} {F : Foot} {i : Nat}
theorem Rel.set (R : Rel c env σ H F) {v : V} {r : Slot} {A : List Addr} (rp : SlotRep c H (some (some v)) (some r) A) (h1 : ∀ a ∈ ownA (some r) A, A.count a = 1 ∧ ∀ j, j ≠ i → a ∉ F j) (h2 : ∀ j, j ≠ i → ∀ a ∈ ownA (getv env j) (F j), a ∉ A) (hi : i < env.length) :
    Rel c (env.set i (some r)) (σ.set i (some v)) H (updF F i A) where
  len := by rw [List.length_set, List.length_set]; exact R.len
  rep := fun j => by
    by_cases h : j = i
    · subst h
      rw [getv_set_same hi, updF_same, List.getElem?_set_self (by rw [← R.len]; exact hi)]
      exact rp
    · rw [getv_set_ne h, updF_ne h, List.getElem?_set_ne (Ne.symm h)]
      exact R.rep j
  one := fun j a hj => by
    by_cases h : j = i
    · subst h
      rw [getv_set_same hi, updF_same] at hj
      rw [updF_same]
      exact (h1 a hj).1
    · rw [getv_set_ne h, updF_ne h] at hj
      rw [updF_ne h]
      exact R.one j a hj
  apart := fun j a hj k hk => by
    by_cases h : j = i
    · subst h
      rw [getv_set_same hi, updF_same] at hj
      rw [updF_ne hk]
      exact (h1 a hj).2 k hk
    · rw [getv_set_ne h, updF_ne h] at hj
      by_cases h' : k = i
      · subst h'
        rw [updF_same]
        exact h2 j h a hj
      · rw [updF_ne h']
        exact R.apart j a hj k hk
/-- a name forgotten -/
theorem Rel.drop (R : Rel c env σ H F) {x : Option V} : Rel c (env.set i none) (σ.set i x) H (updF F i []) where
  len := by rw [List.length_set, List.length_set]; exact R.len
  rep := fun j => by
    by_cases h : j = i
    · subst h
      rw [updF_same]
      rcases Nat.lt_or_ge j env.length with hi | hi
      · rw [getv_set_same hi]; rfl
      · rw [getv_big (by rw [List.length_set]; exact hi)]; rfl
    · rw [getv_set_ne h, updF_ne h, List.getElem?_set_ne (Ne.symm h)]
      exact R.rep j
  one := fun j a hj => by
    by_cases h : j = i
    · subst h
      rw [updF_same] at hj
      exact absurd (ownA_sub hj) (by simp)
    · rw [getv_set_ne h, updF_ne h] at hj
      rw [updF_ne h]
      exact R.one j a hj
  apart := fun j a hj k hk => by
    by_cases h : j = i
    · subst h
      rw [updF_same] at hj
      exact absurd (ownA_sub hj) (by simp)
    · rw [getv_set_ne h, updF_ne h] at hj
      by_cases h' : k = i
      · subst h'
        rw [updF_same]
        simp
      · rw [updF_ne h']
        exact R.apart j a hj k hk
def dropF (F : Foot) (ws : List Nat) : Foot := fun j => if j ∈ ws then [] else F j
theorem Rel.wipe (R : Rel c env σ H F) : ∀ ws : List Nat, Rel c (N.wipe env ws) (L2.wipe σ ws) H (dropF F ws)
  | [] => by
    have e : dropF F [] = F := by funext j; simp [dropF]
    rw [e]
    exact R
  | i :: ws => by
    have q := (Rel.wipe R ws).drop (i := i) (x := none)
    have e : updF (dropF F ws) i [] = dropF F (i :: ws) := by
      funext j
      unfold updF dropF
      by_cases h : j = i
      · simp [h]
      · simp [h]
    rw [e] at q
    exact q
theorem flat_get (env : Env) (i : Nat) : getv (flat env) i = lower 0 (getv env i) := by
  unfold getv flat
  rw [List.getElem?_map]
  cases env[i]? with
  | none => rfl
  | some x => rfl
theorem own_flat (env : Env) (F : Foot) (i : Nat) : ownA (getv (flat env) i) (F i) = [] := by
  rw [flat_get]
  cases getv env i with
  | none => rfl
  | some x =>
    cases x with
    | dat d o =>
      show ownA (some (.dat d (min o 0))) (F i) = []
      rw [Nat.min_zero]
      rfl
    | src => rfl
theorem Rel.flat (R : Rel c env σ H F) : Rel c (N.flat env) σ H F where
  len := by unfold N.flat; rw [List.length_map]; exact R.len
  rep := fun i => by
    rw [flat_get]
    have q := R.rep i
    cases e : getv env i with
    | none => rw [e] at q; exact q
    | some x =>
      rw [e] at q
      cases x with
      | dat d o => exact q
      | src => exact q
  one := fun i a h => by rw [own_flat] at h; nomatch h
  apart := fun i a h => by rw [own_flat] at h; nomatch h
def noOwn (env : Env) : Prop := ∀ i d o, getv env i = some (.dat d o) → o = 0
theorem noOwn_owned (h : noOwn env) {a : Addr} : ¬ Owned env F a := fun ⟨i, z⟩ => by
  cases e : getv env i with
  | none => rw [e] at z; nomatch z
  | some x =>
    rw [e] at z
    cases x with
    | dat d o =>
      obtain rfl := h i d o e
      nomatch z
    | src => nomatch z
theorem noOwn_flat : noOwn (N.flat env) := fun i d o e => by
  rw [flat_get] at e
  cases q : getv env i with
  | none => rw [q] at e; cases e
  | some x =>
    rw [q] at e
    cases x with
    | dat d' o' => cases e; exact Nat.min_zero _
    | src => cases e
theorem noOwn_set {d : D} (h : noOwn env) : noOwn (env.set i (some (.dat d 0))) := fun j d' o e => by
  by_cases hj : j = i
  · subst hj
    rcases Nat.lt_or_ge j env.length with hi | hi
    · rw [getv_set_same hi] at e; cases e; rfl
    · rw [getv_big (by rw [List.length_set]; exact hi)] at e; cases e
  · rw [getv_set_ne hj] at e; exact h j d' o e
theorem noOwn_drop (h : noOwn env) : noOwn (env.set i none) := fun j d' o e => by
  by_cases hj : j = i
  · subst hj
    rcases Nat.lt_or_ge j env.length with hi | hi
    · rw [getv_set_same hi] at e; cases e
    · rw [getv_big (by rw [List.length_set]; exact hi)] at e; cases e
  · rw [getv_set_ne hj] at e; exact h j d' o e
theorem noOwn_wipe (h : noOwn env) : ∀ ws : List Nat, noOwn (N.wipe env ws)
  | [] => h
  | i :: ws => noOwn_drop (noOwn_wipe h ws)

mutual
/-- the names of a target -/
def tns : T → List Nat
  | .nm i => [i]
  | .tp ts => tnss ts
  | .sb _ _ => []
  | .sb2 _ _ _ => []
def tnss : Ts → List Nat
  | .nil => []
  | .cons t ts => tns t ++ tnss ts
end
/-- behind a binding -/
structure Bnd (c : Cfg) (H : Hp) (env : Env) (F : Foot) (σ : L2.St) (A : List Addr) (ns : List Nat) (env' : Env) (F' : Foot) (σ' : L2.St) : Prop where
  rel : Rel c env' σ' H F'
  len : σ'.length = σ.length
  out : ∀ i, i ∉ ns → σ'[i]? = σ[i]?
  foot : ∀ i a, a ∈ F' i → (i ∉ ns ∧ a ∈ F i) ∨ a ∈ A
  own : ∀ a, Owned env' F' a → Owned env F a
  no : noOwn env → noOwn env'
variable {X : Cx}
def gT (c : Cfg) (t : T) : TG := fun v σ H Q => ∃ env F d A env', Rel c env σ H F ∧ Rep c H v d A ∧ (∀ a ∈ A, ¬ Owned env F a) ∧ bindT t d env = some env' ∧ ∀ σ' F', Bnd c H env F σ A (tns t) env' F' σ' → Q σ' H
def gTs (c : Cfg) (ts : Ts) : TGs := fun vs σ H Q => ∃ env F ds A env', Rel c env σ H F ∧ RepAll c H vs ds A ∧ (∀ a ∈ A, ¬ Owned env F a) ∧ bindTs ts ds env = some env' ∧ ∀ σ' F', Bnd c H env F σ A (tnss ts) env' F' σ' → Q σ' H
theorem pg_weak {e : Expr} {t t' : TG} (p : PG X e t) (h : ∀ v σ H Q, t' v σ H Q → t v σ H Q) : PG X e t' := ⟨fun pins s σ H v u Q I r q => p.run pins s σ H v u Q I r (h v σ H Q q)⟩
theorem pgs_weak {e : List Expr} {t t' : TGs} (p : PGs X e t) (h : ∀ v σ H Q, t' v σ H Q → t v σ H Q) : PGs X e t' := ⟨fun pins s σ H v u Q I r q => p.run pins s σ H v u Q I r (h v σ H Q q)⟩
theorem bnd_name (R : Rel c env σ H F) {v : V} {d : D} {A : List Addr} (r : Rep c H v d A) (no : ∀ a ∈ A, ¬ Owned env F a) : ∃ F', Bnd c H env F σ A [i] (env.set i (some (.dat d 0))) F' (σ.set i (some v)) := by
  rcases Nat.lt_or_ge i env.length with hi | hi
  · refine ⟨updF F i A, R.set ⟨v, rfl, r⟩ (fun _ z => (nomatch z)) (fun j hj a ha z => no a z ⟨j, ha⟩) hi, by rw [List.length_set], fun j hj => List.getElem?_set_ne (by simpa using Ne.symm (by simpa using hj)), fun j a h => ?_, fun a ⟨j, h⟩ => ?_, noOwn_set⟩
    · by_cases hj : j = i
      · subst hj; rw [updF_same] at h; exact .inr h
      · rw [updF_ne hj] at h; exact .inl ⟨by simpa using hj, h⟩
    · by_cases hj : j = i
      · subst hj; rw [getv_set_same hi] at h; nomatch h
      · rw [getv_set_ne hj, updF_ne hj] at h; exact ⟨j, h⟩
  · rw [List.set_eq_of_length_le hi, List.set_eq_of_length_le (by rw [← R.len]; exact hi)]
    refine ⟨F, R, rfl, fun _ _ => rfl, fun j a h => .inl ⟨fun z => ?_, h⟩, fun a h => h, id⟩
    have e : j = i := by simpa using z
    subst e
    have q := R.rep j
    rw [getv_big hi] at q
    rw [show F j = [] from q] at h
    nomatch h
theorem g_name {x : Str} {pos : Pos} (hN : X.N.Nodup) (hi : X.N[i]? = some x) (hx : Loc X.env.scope x) (hf : X.fn x = true ∨ X.env.scope.names.lookup x = some .local) : PG X (.Name x pos) (gT c (.nm i)) :=
  pg_weak (pg_name hN hi hx hf) fun v σ H Q ⟨env, F, d, A, env', R, r, no, e, q⟩ => by
    simp only [bindT] at e
    cases e
    obtain ⟨F', b⟩ := bnd_name (i := i) R r no
    exact q _ F' b
theorem bind_len : ∀ {ts : Ts} {ds : List D} {env env' : Env}, bindTs ts ds env = some env' → True := fun _ => trivial
theorem g_nil : PGs X [] (gTs c .nil) := pgs_weak pgs_nil fun vs σ H Q ⟨env, F, ds, A, env', R, r, no, e, q⟩ => by
  cases ds with
  | nil =>
    simp only [bindTs] at e
    cases e
    cases r
    exact ⟨rfl, q σ F ⟨R, rfl, fun _ _ => rfl, fun i a h => .inl ⟨fun z => (nomatch z), h⟩, fun _ h => h, id⟩⟩
  | cons d ds => simp only [bindTs] at e; cases e
theorem g_cons {t : T} {ts : Ts} {e : Expr} {es : List Expr} (h1 : PG X e (gT c t)) (h2 : PGs X es (gTs c ts)) (ns : notStar e = true) : PGs X (e :: es) (gTs c (.cons t ts)) :=
  pgs_weak (pgs_cons h1 h2 (by cases e <;> first | rfl | cases ns)) fun vs σ H Q ⟨env, F, ds, A, env', R, r, no, eb, q⟩ => by
    cases ds with
    | nil => simp only [bindTs] at eb; cases eb
    | cons d ds =>
      simp only [bindTs] at eb
      split at eb
      · rename_i env1 e1
        cases r with
        | @cons v vs d ds A1 A2 r1 r2 =>
          refine ⟨v, vs, rfl, env, F, d, A1, env1, R, r1, fun a z => no a (List.mem_append_left _ z), e1, fun σ1 F1 b1 => ?_⟩
          refine ⟨env1, F1, ds, A2, env', b1.rel, r2, fun a z o => no a (List.mem_append_right _ z) (b1.own a o), eb, fun σ2 F2 b2 => q σ2 F2 ?_⟩
          refine ⟨b2.rel, b2.len.trans b1.len, fun j hj => ?_, fun j a h => ?_, fun a h => b1.own a (b2.own a h), fun h => b2.no (b1.no h)⟩
          · have hj' : j ∉ tns t ∧ j ∉ tnss ts := by simpa [tnss] using hj
            rw [b2.out j hj'.2, b1.out j hj'.1]
          · rcases b2.foot j a h with ⟨k, h⟩ | h
            · rcases b1.foot j a h with ⟨k', h⟩ | h
              · exact .inl ⟨by simp [tnss, k, k'], h⟩
              · exact .inr (List.mem_append_left _ h)
            · exact .inr (List.mem_append_right _ h)
      · cases eb
def lenTs : Ts → Nat
  | .nil => 0
  | .cons _ ts => lenTs ts + 1
theorem bindTs_len : ∀ {ts : Ts} {ds : List D} {env env' : Env}, bindTs ts ds env = some env' → ds.length = lenTs ts
  | .nil, [], _, _, _ => rfl
  | .nil, _ :: _, _, _, h => by simp only [bindTs] at h; cases h
  | .cons t ts, [], _, _, h => by simp only [bindTs] at h; cases h
  | .cons t ts, d :: ds, env, env', h => by
    simp only [bindTs] at h
    split at h
    · rw [List.length_cons, lenTs, bindTs_len h]
    · cases h
theorem each_len (env : PySem.Env) : ∀ es : List Expr, (assignEach es env).length = es.length
  | [] => rfl
  | e :: es => by cases e <;> (show (assignEach es env).length + 1 = _; rw [each_len env es]; rfl)
theorem each_star (env : PySem.Env) : ∀ es : List Expr, es.all notStar = true → (assignEach es env).findIdx? (·.1) = none
  | [], _ => rfl
  | e :: es, h => by
    rw [List.all_cons, Bool.and_eq_true] at h
    have q := each_star env es h.2
    have e1 : assignEach (e :: es) env = (false, assign e env) :: assignEach es env := by cases e <;> first | rfl | cases h.1
    rw [e1, List.findIdx?_cons, q]
    rfl
theorem g_tup {ts : Ts} {es : List Expr} {k : Nat} {pos : Pos} (hc : X.calm = true) (h : PGs X es (gTs c ts)) (hl : es.length = lenTs ts) (ns : es.all notStar = true) : PG X (.Tuple es k pos) (gT c (.tp ts)) :=
  pg_weak (pg_tup hc h (each_len _ _) (each_star _ _ ns)) fun v σ H Q ⟨env, F, d, A, env', R, r, no, e, q⟩ => by
    cases d with
    | tuple ds =>
      simp only [bindT] at e
      obtain ⟨a, vs, rfl, ha, ra⟩ := r.tup_inv
      exact ⟨a, vs, rfl, .of ha, by rw [ra.length, bindTs_len e, hl], env, F, ds, A, env', R, ra, no, e, q⟩
    | _ => simp only [bindT] at e; cases e
end
end N
/-! N14. List comprehensions. -/
namespace N
open PySem PySem.Spec PyProof.Rows L2

theorem wipe_in {σ : L2.St} {i : Nat} : ∀ {vs : List Nat}, i ∈ vs → (L2.wipe σ vs)[i]? = if i < σ.length then some none else none
  | v :: vs, h => by
    unfold L2.wipe
    by_cases hv : i = v
    · subst hv
      by_cases hl : i < σ.length
      · rw [List.getElem?_set_self (by rw [L2.wipe_length]; exact hl), if_pos hl]
      · rw [List.getElem?_eq_none (by rw [List.length_set, L2.wipe_length]; omega), if_neg hl]
    · rw [List.getElem?_set_ne (Ne.symm hv)]
      exact wipe_in ((List.mem_cons.mp h).resolve_left hv)
theorem wipe_eq {σ σ2 : L2.St} {vs ns : List Nat} (hl : σ2.length = (L2.wipe σ vs).length) (ho : ∀ i, i ∉ ns → σ2[i]? = (L2.wipe σ vs)[i]?) (hs : ∀ i ∈ ns, i ∈ vs) : L2.wipe σ2 vs = L2.wipe σ vs := by
  have hl2 : σ2.length = σ.length := by rw [hl, L2.wipe_length]
  refine List.ext_getElem? fun i => ?_
  by_cases hi : i ∈ vs
  · rw [wipe_in hi, wipe_in hi, hl2]
  · rw [L2.wipe_out hi, ho i fun z => hi (hs i z)]
theorem lcRun_nil {step : D → Src → Option (Option D × Src)} {s : Src} {r : List D × Src} (h : lcRun step [] s = some r) : r = ([], s) := by
  rw [lcRun] at h
  exact (Option.some.inj h).symm
theorem lcRun_cons {step : D → Src → Option (Option D × Src)} {x : D} {xs : List D} {s : Src} {rs : List D} {s2 : Src} (h : lcRun step (x :: xs) s = some (rs, s2)) :
    ∃ o s1 ys, step x s = some (o, s1) ∧ lcRun step xs s1 = some (ys, s2) ∧ rs = (match o with | some y => y :: ys | none => ys) := by
  rw [lcRun] at h
  split at h
  · rename_i o s1 e
    split at h
    · rename_i ys s2' e2
      cases h
      exact ⟨o, s1, ys, e, e2, rfl⟩
    · cases h
  · cases h
section
variable {c : Cfg} {cf : CF} {Γ : Ct} {X : Cx} {F : Foot} {env : Env} {σ : L2.St} {H H1 H2 H3 : Hp} {S S1 S2 : Src}
/-- what an element leaves -/
structure Itm (c : Cfg) (Hi : Hp) (P : Addr → Prop) (U : List Addr) (fr : Bool) (y : V) (r : D) (H4 : Hp) (S' : Src) (A : List Addr) : Prop where
  ext : Ext c Hi H4
  rep : Rep c H4 y r A
  foot : ∀ a ∈ A, Hi a = none ∨ P a ∨ a ∈ U
  fresh : fr = true → ∀ a ∈ A, Hi a = none ∧ A.count a = 1
  src : SrcAt c H4 S'
/-- the walk of a list comprehension: the step keeps to its reading, whatever is wanted behind it -/
theorem lc_gen {it : It} {ds rs : List D} {step : D → Src → Option (Option D × Src)} {g : TG} {tt : TT} {te : TE} {own : List Nat} {Q : VK} {P : Addr → Prop} {fr : Bool} (R : Rel c env σ H F) (sr : SrcAt c H S) (ei : evi cf it env S = some (ds, S1)) (er : lcRun step ds S1 = some (rs, S2)) (hPn : ∀ a, P a → H a ≠ none)
    (hb : ∀ (U : List Addr) (Hi : Hp) (Si S' : Src) (x : V) (d : D) (A : List Addr) (o : Option D) (K : VK) (K0 : Hp → Prop), (∀ a ∈ U, H a = none ∨ ∃ i ∈ alI it, a ∈ F i) → (∀ a ∈ A, a ∈ U) → Ext c H Hi → SrcAt c Hi Si → Rep c Hi x d A → step d Si = some (o, S') →
      (∀ y H4 r A', o = some r → Itm c Hi P U fr y r H4 S' A' → K y H4) → (∀ H3, o = none → Ext c Hi H3 → SrcAt c H3 S' → K0 H3) →
      g x (L2.wipe σ own) Hi fun σ2 H2 => L2.wipe σ2 own = L2.wipe σ own ∧ tt σ2 H2 fun b H3 => if b = true then te σ2 H3 K else K0 H3)
    (q : ∀ Dd H' vs A, Ext c H H' → H Dd = none → c.Live Dd → H' Dd = some (.lst vs) → RepAll c H' vs rs A → Dd ∉ A → (∀ a ∈ A, H a = none ∨ P a ∨ ∃ i ∈ alI it, a ∈ F i) → (fr = true → ∀ a ∈ A, H a = none ∧ A.count a = 1) → SrcAt c H' S2 → Q (.ref Dd) H') :
    tLc (rdI c cf it) g tt te own σ H Q := by
  refine ⟨env, F, S, ds, S1, R, sr, ei, fun H1 U x1 sr1 fu S0 hS0 kS hlen hU => ?_⟩
  intro Dd hD
  have lD : c.Live Dd := sr1.tk.live hD
  -- the invariant
  refine ⟨fun i m H' => m = ds.length - i ∧ i ≤ ds.length ∧ ∃ Si vs acc A rest, S0 H' ∧ SrcAt c H' Si ∧ Ext c H1 H' ∧ H' Dd = some (.lst vs) ∧ RepAll c H' vs acc A ∧ Dd ∉ A ∧ (∀ a ∈ A, H1 a = none ∨ P a ∨ a ∈ U) ∧ (fr = true → ∀ a ∈ A, H1 a = none ∧ A.count a = 1) ∧ acc.length ≤ i ∧ lcRun step (ds.drop i) Si = some (rest, S2) ∧ acc ++ rest = rs,
    ⟨ds.length, Nat.sub_zero _, Nat.zero_le _, S1, [], [], [], rs, kS H1 _ (fun a o e l hq => by rw [upd_ne (ne_of_none e hD)]; exact e) hS0, sr1.upd hD, Ext.upd hD, upd_same, .nil, fun z => (nomatch z), fun _ z => (nomatch z), fun _ _ z => (nomatch z), Nat.le_refl _, er, rfl⟩, ?_⟩
  rintro i m H' ⟨rfl, hi, Si, vs, acc, A, rest, hS, sri, xi, hDi, ra, nD, hP, hF, hl, el, et⟩
  rcases Nat.lt_or_ge i ds.length with hlt | hge
  · refine .inr ⟨⟨hS, sri.tk, hlt⟩, ?_⟩
    have hd : ds.drop i = ds[i] :: ds.drop (i + 1) := List.drop_eq_getElem_cons hlt
    rw [hd] at el
    obtain ⟨o, s1, ys, es, ey, e0⟩ := lcRun_cons el
    refine ⟨fun H5 => ∃ vs' acc' A', S0 H5 ∧ SrcAt c H5 s1 ∧ Ext c H1 H5 ∧ H5 Dd = some (.lst vs') ∧ RepAll c H5 vs' acc' A' ∧ Dd ∉ A' ∧ (∀ a ∈ A', H1 a = none ∨ P a ∨ a ∈ U) ∧ (fr = true → ∀ a ∈ A', H1 a = none ∧ A'.count a = 1) ∧ acc'.length ≤ i + 1 ∧ acc' ++ ys = rs, fun H5 ⟨vs', acc', A', p1, p2, p3, p4, p5, p6, p7, p8, p9, p10⟩ =>
      ⟨ds.length - (i + 1), by omega, rfl, hlt, s1, vs', acc', A', ys, p1, p2, p3, p4, p5, p6, p7, p8, p9, ey, p10⟩, fun x Hi ⟨sm, d, A0, ed, rd0, hA0⟩ => ?_⟩
    have ed' : d = ds[i] := by rw [List.getElem?_eq_getElem hlt] at ed; exact (Option.some.inj ed).symm
    subst ed'
    have xH : Ext c H' Hi := same_ext sm
    refine hb U Hi Si s1 x _ A0 o _ _ fu hA0 ((x1.trans xi).trans xH) (sri.same sm) rd0 es (fun y H4 r A' eo im => ?_) fun H3 eo x3 sr3 => ?_
    · subst eo
      have xt := xH.trans im.ext
      have hDn : Hi Dd ≠ none := by rw [xH.1 _ _ hDi lD]; exact fun z => nomatch z
      have n' : Dd ∉ A' := by
        intro z
        rcases im.foot _ z with z | z | z
        · exact hDn z
        · exact x1.2 _ (hPn _ z) hD
        · exact hU _ z hD
      have aA : ∀ a ∈ A, Hi a ≠ none := fun a z => xH.2 a (ra.foot a z).1
      have hD4 : H4 Dd = some (.lst vs) := xt.1 _ _ hDi lD
      have hla : vs.length < sizeLine := by rw [ra.length]; omega
      refine ⟨vs, hD4, hla, vs ++ [y], acc ++ [r], A ++ (A' ++ []), ?_, ?_, ?_, upd_same, ?_, ?_, ?_, ?_, ?_, ?_⟩
      · refine kS H' _ (fun a o e l hq => ?_) hS
        have ne : a ≠ Dd := by
          rintro rfl
          rcases hq with ⟨ws, z⟩ | hq
          · rw [hDi] at e; cases e; cases z
          · exact hU a hq hD
        rw [upd_ne ne]
        exact xt.1 _ _ e l
      · exact im.src.ext (upd_ne fun z => lD.1 z.symm) (upd_ne fun z => lD.2 z.symm)
      · refine ⟨fun a o e l => ?_, fun a e => ?_⟩
        · rw [upd_ne (ne_of_none e hD)]
          exact xt.1 _ _ (xi.1 _ _ e l) l
        · by_cases h : a = Dd
          · subst h; rw [upd_same]; exact fun z => nomatch z
          · rw [upd_ne h]; exact xt.2 _ (xi.2 _ e)
      · have kp : ∀ B : List Addr, Dd ∉ B → Kp c H4 (upd H4 Dd (.lst (vs ++ [y]))) B := fun B nB a o e l hq => by
          have ne : a ≠ Dd := by
            rintro rfl
            rcases hq with ⟨ws, z⟩ | hq
            · rw [hD4] at e; cases e; cases z
            · exact nB hq
          rw [upd_ne ne]
          exact e
        exact ((ra.ext xt).keep (kp A nD)).append (.cons (im.rep.keep (kp A' n')) .nil)
      · intro z
        rw [List.append_nil] at z
        exact (List.mem_append.mp z).elim nD n'
      · intro a z
        rw [List.append_nil] at z
        rcases List.mem_append.mp z with z | z
        · exact hP a z
        · exact (im.foot a z).imp (fun z => (xi.trans xH).none z) id
      · intro h a z
        rw [List.append_nil] at z ⊢
        rw [List.count_append]
        rcases List.mem_append.mp z with z | z
        · have nz : a ∉ A' := fun y => aA a z (im.fresh h a y).1
          exact ⟨(hF h a z).1, by rw [(hF h a z).2, List.count_eq_zero.mpr nz]⟩
        · have nz : a ∉ A := fun y => aA a y (im.fresh h a z).1
          exact ⟨(xi.trans xH).none (im.fresh h a z).1, by rw [(im.fresh h a z).2, List.count_eq_zero.mpr nz]⟩
      · rw [List.length_append, List.length_singleton]; omega
      · rw [← et, e0, List.append_assoc]; rfl
    · subst eo
      have xt := xH.trans x3
      refine ⟨vs, acc, A, kS H' _ (fun a o e l hq => xt.1 _ _ e l) hS, sr3, xi.trans xt, xt.1 _ _ hDi lD, ra.ext xt, nD, hP, hF, by omega, by rw [← et, e0]⟩
  · have hie : i = ds.length := by omega
    subst hie
    refine .inl ⟨⟨hS, sri.tk, rfl⟩, ?_⟩
    rw [List.drop_length] at el
    obtain h := lcRun_nil el
    cases h
    rw [List.append_nil] at et
    subst et
    exact q Dd H' vs A (x1.trans xi) (x1.none hD) lD hDi ra nD (fun a z => (hP a z).elim (fun z => .inl (x1.none z)) fun z => z.elim (fun z => .inr (.inl z)) fun z => (fu a z).imp id .inr) (fun h a z => ⟨x1.none (hF h a z).1, (hF h a z).2⟩) sri

theorem dropF_sub {ws : List Nat} {i : Nat} {a : Addr} (h : a ∈ dropF F ws i) : a ∈ F i := by
  unfold dropF at h
  split at h
  · nomatch h
  · exact h
theorem foot_n {i : Nat} {a : Addr} (R : Rel c env σ H F) (h : a ∈ F i) : H a ≠ none := (R.foot h).1
/-- the head of a turn: the binding, the tests -/
theorem turn_head {t : T} {ifs : Xs} {own : List Nat} {Hi : Hp} {Si S4 : Src} {x : V} {d : D} {A U : List Addr} {env1 : Env} {bb : Bool} {Kn : L2.St → Bool → Hp → Prop} (R : Rel c env σ H F) (hsub : ∀ i ∈ tns t, i ∈ own) (hA : ∀ a ∈ A, a ∈ U) (xi : Ext c H Hi) (sri : SrcAt c Hi Si) (rd0 : Rep c Hi x d A)
    (e1 : bindT t d (N.wipe (N.flat env) own) = some env1) (et : tests cf ifs env1 Si = some (bb, S4))
    (k : ∀ σ2 F2 H3, Rel c env1 σ2 H3 F2 → noOwn env1 → Ext c Hi H3 → SrcAt c H3 S4 → L2.wipe σ2 own = L2.wipe σ own → (∀ i a, a ∈ F2 i → (i ∉ tns t ∧ a ∈ F i) ∨ a ∈ U) → Kn σ2 bb H3) :
    gT c t x (L2.wipe σ own) Hi fun σ2 H2 => L2.wipe σ2 own = L2.wipe σ own ∧ rdTs c cf ifs σ2 H2 (Kn σ2) := by
  refine ⟨N.wipe (N.flat env) own, dropF F own, d, A, env1, (R.flat.wipe own).ext xi, rd0, fun a _ => noOwn_owned (noOwn_wipe noOwn_flat own), e1, fun σ2 F2 b => ?_⟩
  have hw := wipe_eq b.len b.out hsub
  exact ⟨hw, env1, F2, Si, S4, bb, b.rel, sri, et, fun H3 x3 sr3 => k σ2 F2 H3 (b.rel.ext x3) (b.no (noOwn_wipe noOwn_flat own)) x3 sr3 hw fun i a z => (b.foot i a z).imp (fun z => ⟨z.1, dropF_sub z.2⟩) (hA a)⟩
def stepL (cf : CF) (e : N.X) (t : T) (ifs : Xs) (own : List Nat) (env : Env) : D → Src → Option (Option D × Src) := fun d s2 => match bindT t d (N.wipe (N.flat env) own) with
        | some env1 => (match tests cf ifs env1 s2 with
          | some (true, s4) => bD (ev cf e env1 s4) fun r _ s5 => some (some r, s5)
          | some (false, s4) => some (none, s4)
          | none => none)
        | none => none
/-- how a value that is kept comes to lean: the end of a list comprehension -/
theorem lc_end {e : N.X} {it : It} {rs : List D} {Dd : Addr} {H' : Hp} {vs : List V} {A : List Addr} {al' : List Nat} (x : Ext c H H') (n : H Dd = none) (l : c.Live Dd) (hD : H' Dd = some (.lst vs)) (ra : RepAll c H' vs rs A) (nD : Dd ∉ A) (ft : ∀ a ∈ A, H a = none ∨ (∃ i ∈ al e, a ∈ F i) ∨ ∃ i ∈ alI it, a ∈ F i)
    (h1 : ∀ i ∈ al e, i ∈ al') (h2 : ∀ i ∈ alI it, i ∈ al') : Val c env F al' H (.ref Dd) (.dat (.list rs) 1) (Dd :: A) H' := by
  refine ⟨x, ⟨_, rfl, .lst l hD ra⟩, fun a z => ?_, fun a z => ?_⟩
  · rcases List.mem_cons.mp z with rfl | z
    · exact .inl n
    · rcases ft a z with z | ⟨i, p1, p2⟩ | ⟨i, p1, p2⟩
      · exact .inl z
      · exact .inr ⟨i, h1 i p1, p2⟩
      · exact .inr ⟨i, h2 i p1, p2⟩
  · have e : a = Dd := by simpa [ownA] using z
    subst e
    exact ⟨n, by rw [List.count_cons_self, List.count_eq_zero.mpr nD]⟩
theorem c_lc {e : N.X} {t : T} {it : It} {ifs : Xs} {elt tg iter : Expr} {xifs : List Expr} {scope : Scope} {ow : List (Str × Nat)} {pos : Pos} (hc : X.calm = true) (hN : X.N.Nodup) (hi : PI X tg iter (rdI c cf it)) (ok : BlkOk X.N X.env.scope scope ow)
    (hg : ∀ (s : Shared) (H : Hp) (C : Addr) (cl : List (Str × Addr)) (fp : List Addr), PG (X.blk s H scope (compEnvC scope cl C X.env) fp) tg (gT c t)) (ht : ∀ (s : Shared) (H : Hp) (C : Addr) (cl : List (Str × Addr)) (fp : List Addr), PTs (X.blk s H scope (compEnvC scope cl C X.env) fp) xifs (rdTs c cf ifs))
    (he : ∀ (s : Shared) (H : Hp) (C : Addr) (cl : List (Str × Addr)) (fp : List Addr), PE (X.blk s H scope (compEnvC scope cl C X.env) fp) elt (rd c cf e)) (hs : ∀ x, foldedSetIterable iter X.env x = pure x) (hsub : ∀ i ∈ tns t, i ∈ ow.map (·.2)) :
    PE X (.ListComp elt [⟨tg, iter, xifs, 0⟩] scope pos) (rd c cf (.lc e t it ifs (ow.map (·.2)))) ∧ ∀ σ H Q, rd c cf (.lc e t it ifs (ow.map (·.2))) σ H Q → tLc (rdI c cf it) (gT c t) (rdTs c cf ifs) (rd c cf e) (ow.map (·.2)) σ H Q := by
  have key : ∀ σ H Q, rd c cf (.lc e t it ifs (ow.map (·.2))) σ H Q → tLc (rdI c cf it) (gT c t) (rdTs c cf ifs) (rd c cf e) (ow.map (·.2)) σ H Q := by
    rintro σ H Q ⟨env, F, S, r, S1, R, s, ee, q⟩
    simp only [ev] at ee
    split at ee
    · rename_i ds s1 ei
      split at ee
      · rename_i rs s2 er
        cases ee
        have er' : lcRun (stepL cf e t ifs (ow.map (·.2)) env) ds s1 = some (rs, _) := er
        refine lc_gen (P := fun a => ∃ i ∈ al e, a ∈ F i) (fr := false) R s ei er' (fun a ⟨i, _, z⟩ => foot_n R z) (fun U Hi Si S' x d A o K K0 fu hA xi sri rd0 es hK hK0 => ?_)
          fun Dd H' vs A x n l hD ra nD ft _ sr' => q _ H' (Dd :: A) (lc_end x n l hD ra nD ft (fun i z => List.mem_append_left _ z) fun i z => List.mem_append_right _ z) sr'
        unfold stepL at es
        split at es
        · rename_i env1 e1
          split at es
          · rename_i s4 et
            obtain ⟨r1, o1, s5, ev1, es⟩ := bD_inv es
            cases es
            refine turn_head R hsub hA xi sri rd0 e1 et fun σ2 F2 H3 R2 nO x3 sr3 _ ft => ?_
            rw [if_pos rfl]
            exact ⟨env1, F2, _, _, _, R2, sr3, ev1, fun y H4 G v sr4 => hK y H4 r1 G rfl ⟨x3.trans v.ext, v.get, fun a z => (v.foot a z).elim (fun z => .inl (x3.none z)) fun ⟨i, p1, p2⟩ => (ft i a p2).elim (fun z => .inr (.inl ⟨i, p1, z.2⟩)) fun z => .inr (.inr z), fun z => (nomatch z), sr4⟩⟩
          · rename_i s4 et
            cases es
            refine turn_head R hsub hA xi sri rd0 e1 et fun σ2 F2 H3 R2 nO x3 sr3 _ ft => ?_
            rw [if_neg Bool.false_ne_true]
            exact hK0 H3 rfl x3 sr3
          · cases es
        · cases es
      · cases ee
    · cases ee
  exact ⟨pe_weak (pe_lc hc hN hi ok hg ht he hs) key, key⟩
end
end N
/-! N15. Dict comprehensions, dict(..) of pairs. The walk of a dict comprehension's block (dcD_core) began as the worked rule of HandS for other dicts. -/
namespace N
open PySem PySem.Spec PyProof.Rows L2

section
variable {c : Cfg} {X : Cx} {H : Hp}
/-- a store, the footprint told -/
theorem put_T2 {b : Addr} {k d : D} {v : V} {u : Value} {A B : List Addr} {es : List DictEntry} {kvs : List (D × D)} (rk : Rep c H (.ref b) k []) (rv : RelV v u) (rd : Rep c H v d A) (r : RepEs c H es kvs B) (ha : kvs.all (fun p => tkey p.1) = true) :
    ∃ B', RepEs c H ((storedH (xsOf es kvs) (nk k) b u).map (ent c)) (dput kvs k d) B' ∧ (∀ x ∈ B', x ∈ B ∨ x ∈ A) ∧ (dhas kvs k = false → B' = B ++ (A ++ [])) := by
  unfold storedH dput
  rw [at_has r k]
  cases hd : dhas kvs k with
  | true =>
    rw [if_pos rfl, if_pos rfl]
    obtain ⟨B', q1, q2⟩ := put_map (b := b) rv rd r ha
    exact ⟨B', q1, q2, fun z => (nomatch z)⟩
  | false =>
    rw [if_neg Bool.false_ne_true, if_neg Bool.false_ne_true, List.map_append]
    refine ⟨B ++ (A ++ []), (xs_ent r ha).append (.cons (u := .ref b) rfl rk rfl rv rd .nil), fun x z => ?_, fun _ => rfl⟩
    rw [List.append_nil] at z
    exact List.mem_append.mp z
variable {pins : List (Addr × Obj)} {s : Shared} {σ : L2.St} {A : Around} {E : Value → Shared → Prop} {a : Addr} {kvs : List (D × D)} {B G : List Addr} {k : D} {y : V} {u : Value}
/-- d[k] = v of a comprehension -/
theorem d_dset {d : D} {v : V} {r0 : Value} {C : List Addr} {Q : Unit → Shared → Prop} (hu : A.units + 20 < cLine) (I : Inv X pins σ H s) (hp : X.prog = c.prog) (hw : X.w = c.w) (rd : Rep c H (.ref a) (.dict kvs) (a :: B)) (nB : a ∉ B) (nC : a ∉ C) (rk : Rep c H y k []) (ry : RelV y u)
    (rv : Rep c H v d C) (rr : RelV v r0) (tk : tkey k = true) (ta : kvs.all (fun p => tkey p.1) = true) (hl : (dput kvs k d).length ≤ LIM)
    (h : ∀ s' es' ep' B', Wr c X pins σ H a (dput kvs k d) B' s' es' ep' → (∀ x ∈ B', x ∈ B ∨ x ∈ C) → a ∉ B' → (dhas kvs k = false → B' = B ++ (C ++ [])) → Q () s') : wpAny (model X.prog X.w) A (dictSet a u r0) Q E s := by
  obtain ⟨_, es, B0, ea, eF, l, m, e, z, r, n, _⟩ := rd.dct_inv
  cases ea
  obtain rfl : B = B0 := (List.cons.inj eF).2
  have hz : kvs.length ≤ sizeLine := by rw [← size_es r]; exact z
  have hl' : (dput kvs k d).length ≤ sizeLine := by rw [← lim_eq]; exact hl
  obtain ⟨b, rfl⟩ := rk.tref tk
  cases (show u = Value.ref b from ry)
  have hk := rk.isKey I tk
  have xl : (xsOf es.toList kvs).length ≤ sizeLine := by
    have q := congrArg List.length (xs_facts I hp hw r ta).2.2
    rw [List.length_map, List.length_map] at q
    rw [q]; exact hz
  rw [hp, hw] at hk ⊢
  refine wpAny_dictSet_heap (hsz := xl) (k := nk k) (by show A.units + 8 < cLine; omega) hk (dict_T I hp hw e r n ta) fun h' dd hs => ?_
  obtain ⟨o, es', ep, h1, h2, h3, h4, _, _⟩ := dd
  obtain ⟨B', q1, q2, q3⟩ := put_T2 rk rr rv r ta
  rw [← h4] at q1
  have nB' : a ∉ B' := fun x => (q2 a x).elim nB nC
  exact h _ es' ep B' (wr_T I l m e nB' hs ⟨o, h1, h2, h3⟩ (by rw [size_es q1]; exact hl') q1 (nodup_dput n) (or_T (keys_dput ta tk))) q2 nB' q3
end
section
variable {c : Cfg} {X : Cx}
def tDcD (c : Cfg) (wi : TI) (g : TG) (tt : TT) (tk tv : TE) (vs : List Nat) : TE := fun σ H Q => wi σ H fun J H1 => ∀ D, H1 D = none → (D == sysModules) = false → ∃ W : Nat → Nat → Hp → Prop, (∃ m, W 0 m (upd H1 D (DO D #[] 0))) ∧ ∀ i m H, W i m H →
  (J.stop i H ∧ Q (.ref D) H) ∨ (J.go i H ∧ ∃ Nx : Hp → Prop, (∀ H', Nx H' → ∃ m', m' < m ∧ W (i + 1) m' H') ∧ ∀ x H', J.yld i H x H' → g x (L2.wipe σ vs) H' fun σ2 H2 => L2.wipe σ2 vs = L2.wipe σ vs ∧ tt σ2 H2 fun b H3 =>
    if b = true then tk σ2 H3 fun y H4 => tv σ2 H4 fun z H5 => ∃ kvs k d B C, Rep c H5 (.ref D) (.dict kvs) (D :: B) ∧ D ∉ B ∧ D ∉ C ∧ Rep c H5 y k [] ∧ Rep c H5 z d C ∧ tkey k = true ∧ kvs.all (fun p => tkey p.1) = true ∧ (dput kvs k d).length ≤ LIM ∧
      (∀ es' ep' B', Rep c (upd H5 D (DO D es' ep')) (.ref D) (.dict (dput kvs k d)) (D :: B') → (∀ x ∈ B', x ∈ B ∨ x ∈ C) → D ∉ B' → (dhas kvs k = false → B' = B ++ (C ++ [])) → Nx (upd H5 D (DO D es' ep'))) else Nx H3)
theorem dcD_core {pins : List (Addr × Obj)} {s : Shared} {σ : L2.St} {H : Hp} {Q : VK} {kx vx tg iter : Expr} {ifs : List Expr} {scope : Scope} {own : List (Str × Nat)} {pos pos' : Pos} {wi : TI} {g : TG} {tt : TT} {tk tv : TE} {use : Option (Value → Sem Unit)} {Qf : Value → Shared → Prop}
    (hu : X.A.units + 20 < cLine) (hp : X.prog = c.prog) (hw : X.w = c.w) (hc : X.calm = true) (hN : X.N.Nodup) (I : Inv X pins σ H s) (hi : PI X tg iter wi) (ok : BlkOk X.N X.env.scope scope own)
    (hg : ∀ (s : Shared) (H : Hp) (C : Addr) (cl : List (Str × Addr)) (fp : List Addr), PG (X.blk s H scope (compEnvC scope cl C X.env) fp) tg g) (ht : ∀ (s : Shared) (H : Hp) (C : Addr) (cl : List (Str × Addr)) (fp : List Addr), PTs (X.blk s H scope (compEnvC scope cl C X.env) fp) ifs tt)
    (hk : ∀ (s : Shared) (H : Hp) (C : Addr) (cl : List (Str × Addr)) (fp : List Addr), PE (X.blk s H scope (compEnvC scope cl C X.env) fp) kx tk)
    (he : ∀ (s : Shared) (H : Hp) (C : Addr) (cl : List (Str × Addr)) (fp : List Addr), PE (X.blk s H scope (compEnvC scope cl C X.env) fp) vx tv) (hs : ∀ x, foldedSetIterable iter X.env x = pure x)
    (h : tDcD c wi g tt tk tv (own.map (·.2)) σ H Q)
    (hRR : ∀ D C s' m H', Inv X pins σ H' s' → Q (.ref D) H' → s'.heap.Ns C m → FpOk X pins H' C → compPost (model X.prog X.w) X.A X.xe use Qf (.ref D) C (.ok .next) s') :
    wpAny (model X.prog X.w) X.A (comprehension (.DictComp kx vx [⟨tg, iter, ifs, 0⟩] scope pos) scope X.env pos' newDict false (eval iter X.env) use) Qf X.xe s := by
  have hfree : ∀ y ∈ scope.names, y.2 = .free → ∃ c, X.env.cells.lookup y.1 = some c := fun y hy e => by
    rcases ok.free y hy e with k | k
    · exact I.ok.has _ (.inl k)
    · exact I.ok.has _ (.inr k)
  refine wpAny_comprehension_free (use := use) rfl hs (closure_ok hfree) ok.kind (fun y hy e => by rw [ok.uniq y hy, e])
    (thn (hi.run pins s σ H _ I h) fun xv s1 hx => thn hx fun itv s2 h2 => ?_)
  obtain ⟨it, fp, tn, J, H2, e, I2, T, st2, f2, q⟩ := h2
  subst e
  refine wpAny_newObj_type (newEnv_comp ?_)
  generalize hD : s2.heap.objs.size = D
  have hDn : H2 D = none := I2.hok.fresh (Nat.le_of_eq hD)
  obtain ⟨W, ⟨m0, w0⟩, turn⟩ := q D hDn (by rw [← hD]; exact beq_eq_false_iff_ne.mpr (Ne.symm (Nat.ne_of_lt I2.big)))
  -- the new list
  generalize hs3 : ({ s2 with heap := s2.heap.push { cls := .type "dict", data := .dict #[] } } : Shared) = s3
  have I3 : Inv X pins σ (upd H2 D (DO D #[] 0)) s3 := by
    rw [← hs3]
    refine I2.laid (t' := s2.toks) (fun b o e => Heap.get?_push_of_some _ e) (Nat.le_of_eq hD) ?_
    rw [← hD]
    exact obj_DO ⟨_, Heap.get?_push_size _ rfl, ⟨rfl, rfl, rfl⟩, rfl⟩
  have h3 : s3.heap = s2.heap.push { cls := .type "dict", data := .dict #[] } := by rw [← hs3]
  have sz : ∀ b ∈ fp, b < s2.heap.objs.size := fun b hb => by
    obtain ⟨o, e, _⟩ := T.obj _ _ st2 b hb
    exact Heap.lt_size e
  have f3 : ∀ b ∈ fp, FpOk X pins (upd H2 D (DO D #[] 0)) b ∧ b < s3.heap.objs.size := fun b hb => by
    have hlt := sz b hb
    refine ⟨⟨?_, (f2 b hb).2⟩, by rw [h3, Heap.size_push]; exact Nat.lt_succ_of_lt hlt⟩
    rw [upd_ne (by rw [← hD]; exact Nat.ne_of_lt hlt)]
    exact (f2 b hb).1
  have st3 : tn 0 s3.heap := T.keep _ _ _ st2 fun b _ o e => by rw [h3]; exact Heap.get?_push_of_some _ e
  have I4 := block_start I3 ok hN f3
  have pg := hg s3 (upd H2 D (DO D #[] 0)) s3.heap.objs.size (cellsFrom (s3.heap.objs.size + 1) scope.names (cloFrom X.env.cells scope.names [])) fp
  have pt := ht s3 (upd H2 D (DO D #[] 0)) s3.heap.objs.size (cellsFrom (s3.heap.objs.size + 1) scope.names (cloFrom X.env.cells scope.names [])) fp
  have pk := hk s3 (upd H2 D (DO D #[] 0)) s3.heap.objs.size (cellsFrom (s3.heap.objs.size + 1) scope.names (cloFrom X.env.cells scope.names [])) fp
  have pe := he s3 (upd H2 D (DO D #[] 0)) s3.heap.objs.size (cellsFrom (s3.heap.objs.size + 1) scope.names (cloFrom X.env.cells scope.names [])) fp
  show codeAny _ _ (.compStart (.DictComp kx vx [⟨tg, iter, ifs, 0⟩] scope pos) 0 (.ref it) (.ref D) (compEnvC scope (cellsFrom (s3.heap.objs.size + 1) scope.names (cloFrom X.env.cells scope.names [])) s3.heap.objs.size X.env)) (compPost (model X.prog X.w) X.A X.xe use Qf (.ref D) s3.heap.objs.size) { s3 with heap := pushCells (s3.heap.push { cls := .type "dict", data := .dict #[] }) scope.names }
  have nfp : ∀ b ∈ fp, (upd H2 D (DO D #[] 0)) b = none := fun b hb => (f3 b hb).1.1
  generalize hce : compEnvC scope (cellsFrom (s3.heap.objs.size + 1) scope.names (cloFrom X.env.cells scope.names [])) s3.heap.objs.size X.env = ce at I4 pg pt pk pe ⊢
  have cL : ce.locals = s3.heap.objs.size := by subst hce; rfl
  generalize hH3 : upd H2 D (DO D #[] 0) = H3 at I3 I4 pg pt pk pe w0 nfp f3
  generalize hs4 : ({ s3 with heap := pushCells (s3.heap.push { cls := .type "dict", data := .dict #[] }) scope.names } : Shared) = s4 at I4 ⊢
  have st4 : tn 0 s4.heap := T.keep _ _ _ st3 fun b _ o e => by rw [← hs4]; exact pushCells_keeps _ _ _ _ (Heap.get?_push_of_some _ e)
  have stat : ∀ {σ' : L2.St} {H' : Hp} {s' : Shared}, Inv (X.blk s3 H3 scope ce fp) [] σ' H' s' → (∀ b ∈ fp, H' b = none) → ∀ b ∈ fp, FpOk (X.blk s3 H3 scope ce fp) [] H' b := fun {σ' H' s'} I' hn b hb =>
    ⟨hn b hb, (I'.ok.exf b hb).1, I'.ok.exfs b hb, .inl hb, fun x c e => (I'.ok.exf b hb).2 x c e, fun p hp => absurd (show p ∈ ([] : List (Addr × Obj)) ++ [] from hp) (by simp)⟩
  have loop : codeAny (model X.prog X.w) X.A (.compLoop (.DictComp kx vx [⟨tg, iter, ifs, 0⟩] scope pos) 0 (.ref it) (.ref D) ce) (compPost (model X.prog X.w) X.A X.xe use Qf (.ref D) s3.heap.objs.size) s4 := by
    refine compLoop_anyD (fun n s' => ∃ i H', Inv (X.blk s3 H3 scope ce fp) [] (L2.wipe σ (own.map (·.2))) H' s' ∧ tn i s'.heap ∧ (∀ b ∈ fp, H' b = none) ∧ W i n H') ?_ m0 ⟨0, H3, I4, st4, nfp, w0⟩
    rintro n s5 ⟨i, H5, I5, st5, n5, w5⟩
    rcases turn i n H5 w5 with ⟨stop, qq⟩ | ⟨go, Nx, hNx, step⟩
    · have td := T.done (X.blk s3 H3 scope ce fp) rfl rfl rfl hc i [] s5 _ H5 (fun _ _ => False) I5 (stat I5 n5) st5 stop
      refine thnF td fun r s6 ⟨hr, I6⟩ => ?_
      subst hr
      -- back in the def's context
      have I7 : Inv X pins σ H5 s6 := I3.call' (ch := fp) I6.os I6.base I6.hok I6.bare fun b hb => ⟨(f3 b hb).1.2.2.2.1, (f3 b hb).1.2.1, (f3 b hb).1.2.2.2.2.1, (f3 b hb).1.2.2.2.2.2⟩
      have nC : H5 s3.heap.objs.size = none := by
        have z : H5 ce.locals = none := I6.free
        rw [cL] at z
        exact z
      obtain ⟨m, hn, _⟩ := I6.loc
      have hn : s6.heap.Ns ce.locals m := hn
      rw [cL] at hn
      exact hRR D s3.heap.objs.size s6 m H5 I7 qq hn (I3.fpOk (Nat.le_refl _) nC)
    · have ti := T.item (X.blk s3 H3 scope ce fp) rfl rfl rfl hc i [] s5 _ H5 (fun _ _ => False) I5 (stat I5 n5) st5 go
      refine thnF ti fun r s6 ⟨u, hr, h6⟩ => ?_
      subst hr
      refine thnF h6 fun _ s7 ⟨x, H7, I7, r7, y7, st7, n7⟩ => ?_
      have I7' := I7.pinned (stat I7 n7) (T.obj _ _ st7)
      refine thnF (pg.run _ s7 _ H7 x u _ I7' r7 (step x H7 y7)) fun _ s8 ⟨σ8, H8, I8, hw8, q8⟩ => ?_
      refine thnF (pt.run _ s8 σ8 H8 _ I8 q8) fun b s9 ⟨H9, I9, q9⟩ => ?_
      -- the turn's end
      have fin : ∀ {s' : Shared} {H' : Hp}, Inv (X.blk s3 H3 scope ce fp) ([] ++ pinsAt fp s7.heap) σ8 H' s' → Nx H' → ∃ m, m < n ∧ ∃ i H', Inv (X.blk s3 H3 scope ce fp) [] (L2.wipe σ (own.map (·.2))) H' s' ∧ tn i s'.heap ∧ (∀ b ∈ fp, H' b = none) ∧ W i m H' := fun {s' H'} I' nx => by
        obtain ⟨m', hm, w'⟩ := hNx H' nx
        have pin' : ∀ b ∈ fp, ∀ o, s7.heap.get? b = some o → s'.heap.get? b = some o ∧ H' b = none := fun b hb o e =>
          let z := I'.pin (b, o) (List.mem_append_right _ (List.mem_append_right _ (mem_pinsAt hb e)))
          ⟨z.1, z.2.1⟩
        have hl : (L2.wipe σ (own.map (·.2))).length = σ8.length := by rw [← hw8, L2.wipe_length]
        refine ⟨m', hm, i + 1, H', (I'.unpinned (pins := [])).weak hl (fun j v e => ?_), T.keep _ _ _ st7 fun b hb o e => (pin' b hb o e).1, fun b hb => ?_, w'⟩
        · rw [← hw8] at e
          exact (L2.wipe_some e).1
        · obtain ⟨o, e, _⟩ := T.obj _ _ st7 b hb
          exact (pin' b hb o e).2
      cases b with
      | false =>
        simp only [Bool.false_eq_true, if_false] at q9 ⊢
        exact fin I9 q9
      | true =>
        simp only [if_true] at q9 ⊢
        refine thnF (pk.run _ s9 σ8 H9 _ I9 q9) fun z s10 ⟨yk, H10, I10, r10, q10⟩ => ?_
        refine thnF (pe.run _ s10 σ8 H10 _ I10 q10) fun z2 s11 ⟨yv, H11, I11, r11, kvs, k, d, B, C, rD, nB, nC, rk, rv, tk, ta, hl, nx⟩ => ?_
        exact d_dset (X := X.blk s3 H3 scope ce fp) hu I11 hp hw rD nB nC rk r10 rv r11 tk ta hl fun s12 es' ep' B' wr b1 b2 b3 => fin wr.inv (nx es' ep' B' wr.rep b1 b2 b3)
  exact codeAny_compStart_dict loop (T.self X.A 0 _ _ _ st4 loop)
/-- as a value -/
theorem pe_dcD {kx vx tg iter : Expr} {ifs : List Expr} {scope : Scope} {own : List (Str × Nat)} {pos : Pos} {wi : TI} {g : TG} {tt : TT} {tk tv : TE} (hu : X.A.units + 20 < cLine) (hp : X.prog = c.prog) (hw : X.w = c.w) (hc : X.calm = true) (hN : X.N.Nodup) (hi : PI X tg iter wi) (ok : BlkOk X.N X.env.scope scope own)
    (hg : ∀ (s : Shared) (H : Hp) (C : Addr) (cl : List (Str × Addr)) (fp : List Addr), PG (X.blk s H scope (compEnvC scope cl C X.env) fp) tg g) (ht : ∀ (s : Shared) (H : Hp) (C : Addr) (cl : List (Str × Addr)) (fp : List Addr), PTs (X.blk s H scope (compEnvC scope cl C X.env) fp) ifs tt)
    (hk : ∀ (s : Shared) (H : Hp) (C : Addr) (cl : List (Str × Addr)) (fp : List Addr), PE (X.blk s H scope (compEnvC scope cl C X.env) fp) kx tk)
    (he : ∀ (s : Shared) (H : Hp) (C : Addr) (cl : List (Str × Addr)) (fp : List Addr), PE (X.blk s H scope (compEnvC scope cl C X.env) fp) vx tv) (hs : ∀ x, foldedSetIterable iter X.env x = pure x := by intro _; rfl) :
    PE X (.DictComp kx vx [⟨tg, iter, ifs, 0⟩] scope pos) (tDcD c wi g tt tk tv (own.map (·.2))) := by
  refine ⟨fun pins s σ H Q I h => ?_⟩
  rw [arm_eval_DictComp]
  refine dcD_core hu hp hw hc hN I hi ok hg ht hk he hs h fun D C s' m H' I' q hn f => ⟨m, hn, fun h'' sb => ?_⟩
  obtain ⟨f0, f1, f2, f3, f4, f5⟩ := f
  exact ⟨.ref D, H', I'.turned (t' := s'.toks) (fun b o hb e => (sb.2 b hb).trans e) f0 f1 f3 f4 f5, rfl, q⟩
end
end N
/-! N16. dict(..), displays and comprehensions of dicts. -/
namespace N
open PySem PySem.Spec PyProof.Rows L2

section
variable {c : Cfg} {cf : CF} {Γ : Ct} {X : Cx} {pins : List (Addr × Obj)} {s : Shared} {F : Foot} {env : Env} {σ : L2.St} {H H1 H2 H3 : Hp} {S S1 S2 : Src}
theorem dput_len {kvs : List (D × D)} {k d : D} : (dput kvs k d).length = kvs.length + (if dhas kvs k = true then 0 else 1) := by
  unfold dput
  split
  · rw [List.length_map]; rfl
  · rw [List.length_append]; rfl
theorem dputs_le : ∀ {rs : List D} {kvs ls : List (D × D)}, dputs kvs rs = some ls → ls.length ≤ kvs.length + rs.length
  | [], kvs, ls, h => by rw [dputs] at h; cases h; exact Nat.le_add_right _ _
  | d :: rs, kvs, ls, h => by
    unfold dputs at h
    split at h
    · rename_i e; cases e
    · rename_i k v r e
      cases e
      split at h
      · have q := dputs_le h
        rw [dput_len] at q
        rw [List.length_cons]
        split at q <;> omega
      · cases h
    · cases h
theorem put_all : ∀ {ps : List (NestedKey × Addr × Value)} {rs : List D} {A : List Addr}, PRep c H ps rs A → ∀ {xs : List (NestedKey × Addr × Value)} {kvs ls : List (D × D)} {B : List Addr}, RepEs c H (xs.map (ent c)) kvs B → xs.map (·.1) = kvs.map (fun p => nk p.1) →
    kvs.all (fun p => tkey p.1) = true → (kvs.map fun p => nk p.1).Nodup → dputs kvs rs = some ls →
    ∃ B', RepEs c H ((storedAllH xs ps).map (ent c)) ls B' ∧ ls.all (fun p => tkey p.1) = true ∧ (ls.map fun p => nk p.1).Nodup ∧ (kvs.length ≤ LIM → ls.length ≤ LIM) ∧ (∀ a ∈ B', a ∈ B ∨ a ∈ A) ∧ (ls.length = kvs.length + rs.length → B' = B ++ A)
  | _, _, _, .nil, xs, kvs, ls, B, r, e, ta, n, h => by
    rw [dputs] at h
    cases h
    exact ⟨B, r, ta, n, id, fun _ z => .inl z, fun _ => by simp⟩
  | _, _, _, @PRep.cons _ _ b k d v u A ps rs C r1 tk r2 r3 t, xs, kvs, ls, B, r, e, ta, n, h => by
    rw [dputs] at h
    split at h
    · rename_i g
      simp only [Bool.and_eq_true, decide_eq_true_eq] at g
      have hx := xs_back (c := c) e
      have hs : (atKey xs (nk k)).isSome = dhas kvs k := by
        have q := at_has r k
        rw [hx] at q
        exact q
      obtain ⟨B1, q1, q2, q3⟩ := put_T2 r1 r2 r3 r ta
      rw [hx] at q1
      obtain ⟨B2, p1, p2, p3, p4, p5, p6⟩ := put_all t q1 (stored_names e hs) (keys_dput ta tk) (nodup_dput n) h
      refine ⟨B2, p1, p2, p3, fun _ => p4 g.2, fun a z => ?_, fun hl => ?_⟩
      · rcases p5 a z with z | z
        · rcases q2 a z with z | z
          · exact .inl z
          · exact .inr (List.mem_append_left _ z)
        · exact .inr (List.mem_append_right _ z)
      · have hle := dputs_le h
        have dl := dput_len (kvs := kvs) (k := k) (d := d)
        rw [List.length_cons] at hl
        cases hd : dhas kvs k with
        | true =>
          rw [hd, if_pos rfl] at dl
          omega
        | false =>
          rw [hd, if_neg Bool.false_ne_true] at dl
          rw [p6 (by omega), q3 hd]
          simp
    · cases h
/-- dict(a list of pairs) -/
def rDict (c : Cfg) : List V → Hp → VK → Prop := fun xs H Q => Tk c H ∧ ∃ x rs l A ls, xs = [x] ∧ Rep c H x (.list rs) (l :: A) ∧ dputsT [] rs = some ls ∧
  ∀ p H' B, Same H H' → H p = none → Rep c H' (.ref p) (.dict ls) (p :: B) → p ∉ B → (∀ a ∈ B, a ∈ A) → (ls.length = rs.length → B = A) → Q (.ref p) H'
theorem call_dict_data (hc : X.calm = true) (hu : X.A.units + 70 < cLine) (hp : X.prog = c.prog) (hw : X.w = c.w) : CallR X (.type "dict") (rDict c) := by
  intro pins s σ H xs us Q I r ⟨k, x, rs, l0, A, ls, ex, r1, hb, q⟩
  subst ex
  obtain ⟨u, rfl, rx⟩ := vals1 r
  obtain ⟨a, vs, B, rfl, eA, la, ha, ra⟩ := r1.lst_inv
  obtain ⟨rfl, rfl⟩ := List.cons.inj eA
  cases rx
  obtain ⟨g1, g2, g3⟩ := dputsT_out hb
  obtain ⟨hz, its, n, hv, he⟩ := (show ObjOk X.prog X.w H s.heap l0 (.lst vs) from I.hok l0 _ ha)
  obtain ⟨ps, Tl, A', p1, p2, p3, p4, p5, p6⟩ := pairs_of I ra g1 hv
  have hl : (ps.map fun p => (Value.ref p.2.1, p.2.2)).length = rs.length := by rw [List.length_map, p1.length]
  have hn : H s.heap.objs.size = none := I.hok.fresh (Nat.le_refl _)
  rw [hp, hw] at p6 ⊢
  refine call_dict_pairsH (knd := nestedKind c.prog c.w) (ps := ps) (PairArg.list l0 its.toArray (fun j => Tl.getD j 0) _) (I.ok.hd hc) (by show X.A.in1.in1.units + 8 < cLine; have e : X.A.in1.in1.units = X.A.units + 1 + 1 := rfl; omega) ⟨⟨_, n, he, rfl, rfl, rfl⟩, items_of p2 p3 p4⟩ ⟨by rw [List.length_map], fun i key v hr => ?_⟩
    (fun h' hk x hx => ?_) (by rw [hl]; have : LIM = sizeLine := lim_eq; simp at g2; omega) fun h' tk hd hk => ?_
  · rw [PairRel, List.getElem?_map] at hr
    obtain ⟨p, h1, h2⟩ := Option.map_eq_some_iff.mp hr
    cases h2
    exact ⟨p.1, p.2.1, h1, rfl⟩
  · exact keys_stay (d := s.heap.objs.size) (fun o e => absurd (Heap.lt_size e) (Nat.lt_irrefl _)) (p6 x hx) fun b o hb e => hk b o hb (fun z => nomatch z) e
  · obtain ⟨es, ep, d1, d2⟩ := laid_dict (s' := s) hd
    obtain ⟨B', q1, q2, q3, q4, q5, q6⟩ := put_all p1 (xs := []) (kvs := []) .nil rfl rfl List.nodup_nil g3
    subst p5
    rw [← d2] at q1
    have hk' : ∀ b o, s.heap.get? b = some o → h'.get? b = some o := fun b o e => hk b o (fun z => nomatch z) e
    have zz : es.size ≤ sizeLine := by rw [size_es q1, ← lim_eq]; exact q4 (by simp)
    have nB : s.heap.objs.size ∉ B' := fun z => (q1.foot _ z).1 hn
    have nl := I.big
    refine ⟨.ref _, upd H s.heap.objs.size (DO s.heap.objs.size es ep), I.laid (t' := tk) hk' (Nat.le_refl _) (obj_DO d1), rfl, q _ _ B' (same_upd hn) hn ?_ nB (fun b z => (q5 b z).elim (fun z => (nomatch z)) id) fun e => by rw [q6 (by simpa using e)]; rfl⟩
    exact .dct (k.live hn) (beq_eq_false_iff_ne.mpr (Ne.symm (Nat.ne_of_lt nl))) upd_same zz (q1.ext (same_ext (same_upd hn))) q3 (or_T q2)

def stepP (cf : CF) (own2 : Bool) (ke ve : N.X) (t : T) (ifs : Xs) (own : List Nat) (env : Env) : D → Src → Option (Option D × Src) := fun d s2 => match bindT t d (N.wipe (N.flat env) own) with
        | some env1 => (match tests cf ifs env1 s2 with
          | some (true, s4) => bD (ev cf ke env1 s4) fun kd _ s5 => bD (ev cf ve env1 s5) fun vd o s6 => if !imm kd || (own2 && o != 2) then none else some (some (.tuple [kd, vd]), s6)
          | some (false, s4) => some (none, s4)
          | none => none)
        | none => none
/-- a step's outcome -/
theorem stepP_inv {own2 : Bool} {ke ve : N.X} {t : T} {ifs : Xs} {own : List Nat} {d : D} {Si S' : Src} {o : Option D} (h : stepP cf own2 ke ve t ifs own env d Si = some (o, S')) :
    ∃ env1 bb S4, bindT t d (N.wipe (N.flat env) own) = some env1 ∧ tests cf ifs env1 Si = some (bb, S4) ∧
      ((bb = true ∧ ∃ kd o1 s5 vd o2, ev cf ke env1 S4 = some (.dat kd o1, s5) ∧ ev cf ve env1 s5 = some (.dat vd o2, S') ∧ imm kd = true ∧ (own2 = true → o2 = 2) ∧ o = some (.tuple [kd, vd])) ∨ (bb = false ∧ S' = S4 ∧ o = none)) := by
  unfold stepP at h
  split at h
  · rename_i env1 e1
    split at h
    · rename_i s4 et
      obtain ⟨kd, o1, s5, e2, h⟩ := bD_inv h
      obtain ⟨vd, o2, s6, e3, h⟩ := bD_inv h
      split at h
      · cases h
      · rename_i g
        cases h
        simp only [Bool.or_eq_true, Bool.not_eq_true', Bool.and_eq_true, bne_iff_ne, ne_eq, not_or, not_and, Decidable.not_not, Bool.not_eq_false] at g
        exact ⟨env1, true, s4, e1, et, .inl ⟨rfl, kd, o1, s5, vd, o2, e2, e3, g.1, g.2, rfl⟩⟩
    · rename_i s4 et
      cases h
      exact ⟨env1, false, _, e1, et, .inr ⟨rfl, rfl, rfl⟩⟩
    · cases h
  · cases h
/-- the end: a new dict -/
theorem dict_val {p : Addr} {kvs : List (D × D)} {B : List Addr} {al' : List Nat} {own2 : Bool} (x : Ext c H H1) (n : H p = none) (rp : Rep c H1 (.ref p) (.dict kvs) (p :: B)) (nB : p ∉ B) (ft : ∀ a ∈ B, H a = none ∨ ∃ i ∈ al', a ∈ F i) (fr : own2 = true → ∀ a ∈ B, H a = none ∧ B.count a = 1) :
    Val c env F al' H (.ref p) (.dat (.dict kvs) (if own2 then 2 else 1)) (p :: B) H1 := by
  refine ⟨x, ⟨_, rfl, rp⟩, fun a z => ?_, fun a z => ?_⟩
  · rcases List.mem_cons.mp z with rfl | z
    · exact .inl n
    · exact ft a z
  · have base : a = p → H a = none ∧ (p :: B).count a = 1 := by
      rintro rfl
      exact ⟨n, by rw [List.count_cons_self, List.count_eq_zero.mpr nB]⟩
    cases own2 with
    | false =>
      have e : a = p := by simpa [ownA] using z
      exact base e
    | true =>
      have z : a ∈ p :: B := z
      rcases List.mem_cons.mp z with e | z
      · exact base e
      · by_cases e : a = p
        · exact base e
        · exact ⟨(fr rfl a z).1, by rw [List.count_cons_of_ne (fun z => e z.symm)]; exact (fr rfl a z).2⟩
theorem c_dlc {own2 : Bool} {ke ve : N.X} {t : T} {it : It} {ifs : Xs} {xk xv tg iter : Expr} {xifs : List Expr} {scope : Scope} {ow : List (Str × Nat)} {k0 : Nat} {pn p0 pos pos' : Pos} (g : Gd c cf Γ X) (hgl : Gl X "dict") (hi : PI X tg iter (rdI c cf it)) (ok : BlkOk X.N X.env.scope scope ow)
    (hg : ∀ (s : Shared) (H : Hp) (C : Addr) (cl : List (Str × Addr)) (fp : List Addr), PG (X.blk s H scope (compEnvC scope cl C X.env) fp) tg (gT c t)) (ht : ∀ (s : Shared) (H : Hp) (C : Addr) (cl : List (Str × Addr)) (fp : List Addr), PTs (X.blk s H scope (compEnvC scope cl C X.env) fp) xifs (rdTs c cf ifs))
    (hk : ∀ (s : Shared) (H : Hp) (C : Addr) (cl : List (Str × Addr)) (fp : List Addr), PE (X.blk s H scope (compEnvC scope cl C X.env) fp) xk (rd c cf ke)) (hv : ∀ (s : Shared) (H : Hp) (C : Addr) (cl : List (Str × Addr)) (fp : List Addr), PE (X.blk s H scope (compEnvC scope cl C X.env) fp) xv (rd c cf ve))
    (nk : notStar xk = true) (nv : notStar xv = true) (hs : ∀ x, foldedSetIterable iter X.env x = pure x) (hsub : ∀ i ∈ tns t, i ∈ ow.map (·.2)) :
    PE X (.Call (.Name "dict" pn) [.ListComp (.Tuple [xk, xv] k0 p0) [⟨tg, iter, xifs, 0⟩] scope pos] [] pos') (rd c cf (.dlc own2 ke ve t it ifs (ow.map (·.2)))) := by
  have hu := g.hu
  have he : ∀ (s : Shared) (H : Hp) (C : Addr) (cl : List (Str × Addr)) (fp : List Addr), PE (X.blk s H scope (compEnvC scope cl C X.env) fp) (.Tuple [xk, xv] k0 p0) (tTup (tCons (rd c cf ke) (tCons (rd c cf ve) tNil))) :=
    fun s H C cl fp => pe_tup (pa_cons (hk s H C cl fp) (pa_cons (hv s H C cl fp) pa_nil (star_no nv _ _)) (star_no nk _ _))
  refine pe_weak (pe_callTy (call_dict_data (c := c) g.calm (by omega) g.hp g.hw) hgl (g.mg _ (by decide +kernel)) (by decide +kernel) (pa_cons (pe_lc g.calm g.nd hi ok hg ht he hs) pa_nil)) ?_
  rintro σ H Q ⟨env, F, S, r, S1, R, s, ee, q⟩
  simp only [ev] at ee
  split at ee
  · rename_i ds s1 ei
    split at ee
    · rename_i rs s2 er
      split at ee
      · rename_i kvs ek
        split at ee
        · cases ee
        · rename_i gl
          cases ee
          have er' : lcRun (stepP cf own2 ke ve t ifs (ow.map (·.2)) env) ds s1 = some (rs, _) := er
          show tLc (rdI c cf it) (gT c t) (rdTs c cf ifs) (tTup (tCons (rd c cf ke) (tCons (rd c cf ve) tNil))) (ow.map (·.2)) σ H (fun x H1 => rDict c [x] H1 Q)
          refine lc_gen (P := fun a => ∃ i ∈ al ve, a ∈ F i) (fr := own2) R s ei er' (fun a ⟨i, _, z⟩ => foot_n R z) (fun U Hi Si S' x d A o K K0 fu hA xi sri rd0 es hK hK0 => ?_) fun Dd H' vs A x n l hD ra nD ft hF sr' => ?_
          · obtain ⟨env1, bb, S4, e1, et, hh⟩ := stepP_inv es
            refine turn_head R hsub hA xi sri rd0 e1 et fun σ2 F2 H3 R2 nO x3 sr3 _ ft => ?_
            rcases hh with ⟨rfl, kd, o1, s5, vd, o2, ek1, ev1, ik, ho, rfl⟩ | ⟨rfl, rfl, rfl⟩
            · rw [if_pos rfl]
              refine ⟨env1, F2, _, _, _, R2, sr3, ek1, fun yk H4 Gk vk sr4 => ⟨env1, F2, _, _, _, R2.ext vk.ext, sr4, ev1, fun yv H5 Gv vv sr5 => ⟨by show 2 ≤ sizeLine; decide, fun p hn => ?_⟩⟩⟩
              have gk : Gk = [] := vk.get.imm ik
              subst gk
              have xt := x3.trans (vk.ext.trans vv.ext)
              refine hK (.ref p) _ _ ([] ++ (Gv ++ [])) rfl ⟨xt.trans (Ext.upd hn), .tup (sr5.tk.live hn) upd_same (.cons ((vk.get.ext vv.ext).ext (Ext.upd hn)) (.cons (vv.get.ext (Ext.upd hn)) .nil)), fun a z => ?_, fun h a z => ?_, sr5.upd hn⟩
              · have z : a ∈ Gv := by simpa using z
                exact (vv.foot a z).elim (fun z => .inl ((x3.trans vk.ext).none z)) fun ⟨i, p1, p2⟩ => (ft i a p2).elim (fun z => .inr (.inl ⟨i, p1, z.2⟩)) fun z => .inr (.inr z)
              · have z : a ∈ Gv := by simpa using z
                obtain rfl := ho h
                have w := vv.own a z
                exact ⟨(x3.trans vk.ext).none w.1, by simpa using w.2⟩
            · rw [if_neg Bool.false_ne_true]
              exact hK0 H3 rfl x3 sr3
          · refine ⟨sr'.tk, _, rs, Dd, A, kvs, rfl, .lst l hD ra, ek, fun p H2 B sm hn rp nB sub ex => ?_⟩
            refine q _ H2 (p :: B) (dict_val (x.trans (same_ext sm)) (x.none hn) rp nB (fun a z => ?_) fun h a z => ?_) (sr'.same sm)
            · rcases ft a (sub a z) with z | ⟨i, p1, p2⟩ | ⟨i, p1, p2⟩
              · exact .inl z
              · exact .inr ⟨i, List.mem_append_left _ p1, p2⟩
              · exact .inr ⟨i, List.mem_append_right _ p1, p2⟩
            · have hl : kvs.length = rs.length := by
                by_cases hl : kvs.length = rs.length
                · exact hl
                · exact absurd (by rw [h, decide_eq_true hl]; rfl) gl
              rw [ex hl] at z ⊢
              exact hF h a z
      · cases ee
    · cases ee
  · cases ee

theorem dputs_cons {kvs ls : List (D × D)} {k d : D} {rs : List D} (h : dputs kvs (.tuple [k, d] :: rs) = some ls) : (dput kvs k d).length ≤ LIM ∧ dputs (dput kvs k d) rs = some ls := by
  rw [dputs] at h
  split at h
  · rename_i g
    simp only [Bool.and_eq_true, decide_eq_true_eq] at g
    exact ⟨g.2, h⟩
  · cases h
theorem c_dc {own2 : Bool} {ke ve : N.X} {t : T} {it : It} {ifs : Xs} {xk xv tg iter : Expr} {xifs : List Expr} {scope : Scope} {ow : List (Str × Nat)} {pos : Pos} (gd : Gd c cf Γ X) (hi : PI X tg iter (rdI c cf it)) (ok : BlkOk X.N X.env.scope scope ow)
    (hg : ∀ (s : Shared) (H : Hp) (C : Addr) (cl : List (Str × Addr)) (fp : List Addr), PG (X.blk s H scope (compEnvC scope cl C X.env) fp) tg (gT c t)) (ht : ∀ (s : Shared) (H : Hp) (C : Addr) (cl : List (Str × Addr)) (fp : List Addr), PTs (X.blk s H scope (compEnvC scope cl C X.env) fp) xifs (rdTs c cf ifs))
    (hk : ∀ (s : Shared) (H : Hp) (C : Addr) (cl : List (Str × Addr)) (fp : List Addr), PE (X.blk s H scope (compEnvC scope cl C X.env) fp) xk (rd c cf ke)) (hv : ∀ (s : Shared) (H : Hp) (C : Addr) (cl : List (Str × Addr)) (fp : List Addr), PE (X.blk s H scope (compEnvC scope cl C X.env) fp) xv (rd c cf ve))
    (hs : ∀ x, foldedSetIterable iter X.env x = pure x) (hsub : ∀ i ∈ tns t, i ∈ ow.map (·.2)) :
    PE X (.DictComp xk xv [⟨tg, iter, xifs, 0⟩] scope pos) (rd c cf (.dc own2 ke ve t it ifs (ow.map (·.2)))) ∧ ∀ σ H Q, rd c cf (.dc own2 ke ve t it ifs (ow.map (·.2))) σ H Q → tDcD c (rdI c cf it) (gT c t) (rdTs c cf ifs) (rd c cf ke) (rd c cf ve) (ow.map (·.2)) σ H Q := by
  have hu := gd.hu
  suffices key : ∀ σ H Q, rd c cf (.dc own2 ke ve t it ifs (ow.map (·.2))) σ H Q → tDcD c (rdI c cf it) (gT c t) (rdTs c cf ifs) (rd c cf ke) (rd c cf ve) (ow.map (·.2)) σ H Q from ⟨pe_weak (pe_dcD (c := c) (by omega) gd.hp gd.hw gd.calm gd.nd hi ok hg ht hk hv hs) key, key⟩
  rintro σ H Q ⟨env, F, S, r, S1, R, sr, ee, q⟩
  simp only [ev] at ee
  split at ee
  · rename_i ds s1 ei
    split at ee
    · rename_i rs s2 er
      split at ee
      · rename_i ls ek
        split at ee
        · cases ee
        · rename_i gl
          cases ee
          have er' : lcRun (stepP cf own2 ke ve t ifs (ow.map (·.2)) env) ds s1 = some (rs, _) := er
          clear er
          obtain ⟨tp, _, ek⟩ := dputsT_out ek
          refine ⟨env, F, S, ds, s1, R, sr, ei, fun H1 U x1 sr1 fu S0 hS0 kS hlen hU => ?_⟩
          intro Dd hD msys
          have lD : c.Live Dd := sr1.tk.live hD
          refine ⟨fun i m H' => m = ds.length - i ∧ i ≤ ds.length ∧ ∃ Si kvs B rest, S0 H' ∧ SrcAt c H' Si ∧ Ext c H1 H' ∧ Rep c H' (.ref Dd) (.dict kvs) (Dd :: B) ∧ Dd ∉ B ∧ kvs.all (fun p => tkey p.1) = true ∧ (∀ a ∈ B, H1 a = none ∨ (∃ j ∈ al ve, a ∈ F j) ∨ a ∈ U) ∧
            (own2 = true → ls.length = kvs.length + rest.length ∧ ∀ a ∈ B, H1 a = none ∧ B.count a = 1) ∧ lcRun (stepP cf own2 ke ve t ifs (ow.map (·.2)) env) (ds.drop i) Si = some (rest, S1) ∧ dputs kvs rest = some ls ∧ rest.all tpair = true,
            ⟨ds.length, Nat.sub_zero _, Nat.zero_le _, s1, [], [], rs, kS H1 _ (fun a o e l hq => by rw [upd_ne (ne_of_none e hD)]; exact e) hS0, sr1.upd hD, Ext.upd hD, .dct lD msys upd_same (Nat.zero_le _) .nil List.nodup_nil rfl, fun z => (nomatch z), rfl, fun _ z => (nomatch z), fun h => ⟨?_, fun _ z => (nomatch z)⟩, er', ek, tp⟩, ?_⟩
          · by_cases hl : ls.length = rs.length
            · rw [hl]; simp
            · exact absurd (by rw [h, decide_eq_true hl]; rfl) gl
          rintro i m H' ⟨rfl, hi, Si, kvs, B, rest, hS, sri, xi, rD, nB, ta, hP, hF, el, ed, tp⟩
          have hDi : H' Dd ≠ none := fun z => (rD.foot Dd (List.mem_cons_self ..)).1 z
          have ntup : ∀ ws, H' Dd ≠ some (.tup ws) := fun ws z => (rD.foot Dd (List.mem_cons_self ..)).2.2 ws z
          rcases Nat.lt_or_ge i ds.length with hlt | hge
          · refine .inr ⟨⟨hS, sri.tk, hlt⟩, ?_⟩
            have hd : ds.drop i = ds[i] :: ds.drop (i + 1) := List.drop_eq_getElem_cons hlt
            rw [hd] at el
            obtain ⟨o, s5, ys, es, ey, e0⟩ := lcRun_cons el
            refine ⟨fun H5 => ∃ kvs' B', S0 H5 ∧ SrcAt c H5 s5 ∧ Ext c H1 H5 ∧ Rep c H5 (.ref Dd) (.dict kvs') (Dd :: B') ∧ Dd ∉ B' ∧ kvs'.all (fun p => tkey p.1) = true ∧ (∀ a ∈ B', H1 a = none ∨ (∃ j ∈ al ve, a ∈ F j) ∨ a ∈ U) ∧ (own2 = true → ls.length = kvs'.length + ys.length ∧ ∀ a ∈ B', H1 a = none ∧ B'.count a = 1) ∧ dputs kvs' ys = some ls ∧ ys.all tpair = true,
              fun H5 ⟨kvs', B', p1, p2, p3, p4, p5, p6, p7, p8, p9, p10⟩ => ⟨ds.length - (i + 1), by omega, rfl, hlt, s5, kvs', B', ys, p1, p2, p3, p4, p5, p6, p7, p8, ey, p9, p10⟩, fun x Hi ⟨sm, d, A0, edd, rd0, hA0⟩ => ?_⟩
            have ed' : d = ds[i] := by rw [List.getElem?_eq_getElem hlt] at edd; exact (Option.some.inj edd).symm
            subst ed'
            have xH : Ext c H' Hi := same_ext sm
            obtain ⟨env1, bb, S4, e1, et, hh⟩ := stepP_inv es
            refine turn_head R hsub hA0 ((x1.trans xi).trans xH) (sri.same sm) rd0 e1 et fun σ2 F2 H3 R2 nO x3 sr3 _ ft => ?_
            rcases hh with ⟨rfl, kd, o1, s6, vd, o2, ek1, ev1, ik, ho, rfl⟩ | ⟨rfl, rfl, rfl⟩
            · rw [if_pos rfl]
              have e0 : rest = .tuple [kd, vd] :: ys := e0
              subst e0
              rw [List.all_cons, Bool.and_eq_true] at tp
              obtain ⟨hl1, hd1⟩ := dputs_cons ed
              refine ⟨env1, F2, _, _, _, R2, sr3, ek1, fun yk H4 Gk vk sr4 => ⟨env1, F2, _, _, _, R2.ext vk.ext, sr4, ev1, fun yv H5 Gv vv sr5 => ?_⟩⟩
              have gk : Gk = [] := vk.get.imm ik
              subst gk
              have xt := (xH.trans x3).trans (vk.ext.trans vv.ext)
              have nG : Dd ∉ Gv := by
                intro z
                rcases vv.foot _ z with z | ⟨j, p1, p2⟩
                · exact ((xH.trans x3).trans vk.ext).2 _ hDi z
                · rcases ft j Dd p2 with z | z
                  · exact x1.2 _ (foot_n R z.2) hD
                  · exact hU _ z hD
              have aB : ∀ a ∈ B, Hi a ≠ none := fun a z => xH.2 a (rD.foot a (List.mem_cons_of_mem _ z)).1
              refine ⟨kvs, kd, vd, B, Gv, rD.ext xt, nB, nG, vk.get.ext vv.ext, vv.get, tp.1, ta, hl1, fun es' ep' B' rp sub n' ex => ⟨dput kvs kd vd, B', ?_, ?_, ?_, rp, n', keys_dput ta tp.1, fun a z => ?_, fun h => ?_, hd1, tp.2⟩⟩
              · refine kS H' _ (fun a o e l hq => ?_) hS
                have ne : a ≠ Dd := by
                  rintro rfl
                  rcases hq with ⟨ws, z⟩ | hq
                  · subst z; exact ntup ws e
                  · exact hU a hq hD
                rw [upd_ne ne]
                exact xt.1 _ _ e l
              · exact sr5.ext (upd_ne fun z => lD.1 z.symm) (upd_ne fun z => lD.2 z.symm)
              · refine ⟨fun a o e l => ?_, fun a e => ?_⟩
                · rw [upd_ne (ne_of_none e hD)]
                  exact xt.1 _ _ (xi.1 _ _ e l) l
                · by_cases h : a = Dd
                  · subst h; rw [upd_same]; exact fun z => nomatch z
                  · rw [upd_ne h]; exact xt.2 _ (xi.2 _ e)
              · rcases sub a z with z | z
                · exact hP a z
                · rcases vv.foot a z with z | ⟨j, p1, p2⟩
                  · exact .inl ((xi.trans ((xH.trans x3).trans vk.ext)).none z)
                  · exact (ft j a p2).elim (fun z => .inr (.inl ⟨j, p1, z.2⟩)) fun z => .inr (.inr z)
              · obtain ⟨f1, f2⟩ := hF h
                have hle := dputs_le hd1
                have dl := dput_len (kvs := kvs) (k := kd) (d := vd)
                rw [List.length_cons] at f1
                have nd : dhas kvs kd = false := by
                  cases hd2 : dhas kvs kd with
                  | false => rfl
                  | true => rw [hd2, if_pos rfl] at dl; omega
                rw [nd, if_neg Bool.false_ne_true] at dl
                refine ⟨by omega, fun a z => ?_⟩
                rw [ex nd] at z ⊢
                rw [List.append_nil] at z ⊢
                rw [List.count_append]
                obtain rfl := ho h
                rcases List.mem_append.mp z with z | z
                · have w := f2 a z
                  have nz : a ∉ Gv := fun y => aB a z ((x3.trans vk.ext).none (vv.own a y).1)
                  exact ⟨w.1, by rw [w.2, List.count_eq_zero.mpr nz]⟩
                · have w := vv.own a z
                  have h0 := (x3.trans vk.ext).none w.1
                  have nz : a ∉ B := fun y => aB a y h0
                  exact ⟨(xi.trans xH).none h0, by rw [List.count_eq_zero.mpr nz, w.2]⟩
            · rw [if_neg Bool.false_ne_true]
              have e0 : rest = ys := e0
              subst e0
              have xt := xH.trans x3
              exact ⟨kvs, B, kS H' _ (fun a o e l hq => xt.1 _ _ e l) hS, sr3, xi.trans xt, rD.ext xt, nB, ta, hP, hF, ed, tp⟩
          · have hie : i = ds.length := by omega
            subst hie
            refine .inl ⟨⟨hS, sri.tk, rfl⟩, ?_⟩
            rw [List.drop_length] at el
            cases lcRun_nil el
            rw [dputs] at ed
            cases ed
            refine q _ H' (Dd :: B) (dict_val (x1.trans xi) (x1.none hD) rD nB (fun a z => ?_) fun h a z => ⟨x1.none ((hF h).2 a z).1, ((hF h).2 a z).2⟩) sri
            rcases hP a z with z | ⟨i, p1, p2⟩ | z
            · exact .inl (x1.none z)
            · exact .inr ⟨i, List.mem_append_left _ p1, p2⟩
            · exact (fu a z).imp id fun ⟨i, p1, p2⟩ => ⟨i, List.mem_append_right _ p1, p2⟩
      · cases ee
    · cases ee
  · cases ee
end
end N
/-! N17. Displays of dicts, kinds, get, calls of defs. -/
namespace N
open PySem PySem.Spec PyProof.Rows L2

section
variable {c : Cfg} {cf : CF} {Γ : Ct} {X : Cx} {F : Foot} {env : Env} {σ : L2.St} {H H1 H2 H3 : Hp} {S S1 S2 : Src}
theorem pe_dnewD {pos : Pos} : PE X (.Dict [] [] pos) (fun _ H Q => ∀ p, H p = none → (p == sysModules) = false → Q (.ref p) (upd H p (DO p #[] 0))) := ⟨fun pins s σ H Q I h =>
  wpAny_Dict_empty ⟨.ref s.heap.objs.size, _, I.laid (a := s.heap.objs.size) (o := DO s.heap.objs.size #[] 0) (t' := s.toks) (fun _ _ q => Heap.get?_push_of_some _ q) (Nat.le_refl _) (obj_DO ⟨_, Heap.get?_push_size _ rfl, ⟨rfl, rfl, rfl⟩, rfl⟩), rfl,
    h _ (I.hok.fresh (Nat.le_refl _)) (beq_eq_false_iff_ne.mpr (Ne.symm (Nat.ne_of_lt I.big)))⟩⟩
theorem c_dic0 {own : Bool} {pos : Pos} : PE X (.Dict [] [] pos) (rd c cf (.dic own .nil)) :=
  pe_weak pe_dnewD fun σ H Q ⟨env, F, S, r, S1, R, s, e, q⟩ => by
    have e : (if own then some (Slot.dat (.dict []) 2, S) else some (Slot.dat (.dict []) 1, S)) = some (r, S1) := by
      cases own <;> exact e
    intro p hn hs
    have rp : Rep c (upd H p (DO p #[] 0)) (.ref p) (.dict []) (p :: []) := .dct (s.tk.live hn) hs upd_same (Nat.zero_le _) .nil List.nodup_nil rfl
    cases own with
    | true =>
      cases e
      exact q _ _ _ (dict_val (own2 := true) (Ext.upd hn) hn rp (fun z => (nomatch z)) (fun _ z => (nomatch z)) fun _ _ z => (nomatch z)) (s.upd hn)
    | false =>
      cases e
      exact q _ _ _ (dict_val (own2 := false) (Ext.upd hn) hn rp (fun z => (nomatch z)) (fun _ z => (nomatch z)) fun _ _ z => (nomatch z)) (s.upd hn)
theorem Dict_exactH {prog : Program} {w : World} {K : Type} [DecidableEq K] {knd : HeapKind prog w K} {A : Around} {E : Value → Shared → Prop} {s : Shared} {env : PySem.Env} {keys : List (Option Expr)} {values : List Expr} {pos : Pos} {pairs : List (Sem Value × Sem Value)} {Q : Value → Shared → Prop} (hu : knd.room A)
    (hshape : (evalEachOpt keys env).zip ((evalEach values env).map fun v => do let x ← v; standAt pos; pure x) = pairs.map fun p => (some p.1, p.2)) (h0 : pairs ≠ []) (hlen : pairs.length ≤ 15)
    (h : wpAny (model prog w) A (evalPairs pairs) (fun vs s₁ => ∃ ps, CarriesH knd s₁.heap vs ps ∧ s₁.heap.DictOfH knd s.heap.objs.size [] ∧
      ∀ h' tk, h'.DictOfH knd s.heap.objs.size (storedAllH [] ps) → Heap.SameBut s.heap.objs.size s₁.heap h' → Q (.ref s.heap.objs.size) { s₁ with heap := h', toks := tk }) E
      { s with heap := s.heap.push { cls := .type "dict", data := .dict #[] } }) :
    wpAny (model prog w) A (eval (.Dict keys values pos) env) Q E s := by
  rw [arm_eval_Dict, hshape, dictDisplay_pairs pairs h0 (by omega)]
  exact wpAny_bind (wpAny_standAt (wpAny_bind (wpAny_subDictH (knd := knd) (Q := fun d s' => wpAny (model prog w) A (pure (Value.ref d)) Q E s') hu hlen
    (wpAny_mono h (fun vs s₁ h₁ => by obtain ⟨ps, hc, hm, hq⟩ := h₁; exact ⟨ps, hc, hm, fun h' tk a b => wpAny_pure (hq h' tk a b)⟩) fun _ _ e => e))))
theorem c_dic1 {k v : N.X} {xk xv : Expr} {pos : Pos} (hu : X.A.units + 20 < cLine) (hp : X.prog = c.prog) (hw : X.w = c.w) (hk : PE X xk (rd c cf k)) (hv : PE X xv (rd c cf v)) : PE X (.Dict [some xk] [xv] pos) (rd c cf (.dic false (.cons k v .nil))) := by
  refine ⟨fun pins s σ H Q I ⟨env, F, S, r, S1, R, sr, e, q⟩ => ?_⟩
  simp only [ev, evp] at e
  split at e
  · rename_i ps s2 ep
    obtain ⟨kd, o1, s5, e1, ep⟩ := bD_inv ep
    obtain ⟨vd, o2, s6, e2, ep⟩ := bD_inv ep
    cases ep
    split at e
    · rename_i kvs ek
      rw [if_pos (show [PyData.tuple [kd, vd]].length ≤ 15 from (by decide : 1 ≤ 15)), if_neg Bool.false_ne_true] at e
      cases e
      obtain ⟨tp, _, ek⟩ := dputsT_out ek
      have tk : tkey kd = true := by simpa [tpair] using tp
      obtain ⟨hl1, ek⟩ := dputs_cons ek
      rw [dputs] at ek
      cases ek
      have hn := I.hok.fresh (Nat.le_refl s.heap.objs.size)
      generalize hD : s.heap.objs.size = Dd at hn
      have msys : (Dd == sysModules) = false := by rw [← hD]; exact beq_eq_false_iff_ne.mpr (Ne.symm (Nat.ne_of_lt I.big))
      have lD := sr.tk.live hn
      have I1 : Inv X pins σ (upd H Dd (DO Dd #[] 0)) { s with heap := s.heap.push { cls := .type "dict", data := .dict #[] } } := by
        rw [← hD]
        exact I.laid (a := s.heap.objs.size) (t' := s.toks) (fun _ _ q => Heap.get?_push_of_some _ q) (Nat.le_refl _) (obj_DO ⟨_, Heap.get?_push_size _ rfl, ⟨rfl, rfl, rfl⟩, rfl⟩)
      have x0 : Ext c H (upd H Dd (DO Dd #[] 0)) := Ext.upd hn
      rw [hp, hw]
      refine Dict_exactH (knd := nestedKind c.prog c.w) (pairs := [(eval xk X.env, do let x ← eval xv X.env; standAt pos; pure x)]) (by show X.A.units + 8 < cLine; omega) rfl (fun z => nomatch z) (by show 1 ≤ 15; decide) ?_
      rw [← hp, ← hw]
      refine evalPairs_cons ?_
      refine thn (hk.run pins _ σ _ _ I1 ⟨env, F, S, _, _, R.ext x0, sr.upd hn, e1, fun x H1 G v sr1 => (⟨G, v, sr1⟩ : ∃ G, Val c env F (al k) _ x (.dat kd o1) G H1 ∧ SrcAt c H1 s5)⟩) fun uk s2 ⟨yk, H2, I2, rk, Gk, vk, sr2⟩ => ?_
      refine wpAny_bind (thn (hv.run pins s2 σ H2 _ I2 ⟨env, F, s5, _, _, (R.ext x0).ext vk.ext, sr2, e2, fun x H1 G w sr1 => (⟨G, w, sr1⟩ : ∃ G, Val c env F (al v) _ x (.dat vd o2) G H1 ∧ SrcAt c H1 _)⟩) fun uv s3 ⟨yv, H3, I3, rv, Gv, vv, sr3⟩ => ?_)
      refine wpAny_bind (wpAny_standAt (wpAny_pure (evalPairs_nil ?_)))
      obtain ⟨b, rfl⟩ := vk.get.tref tk
      cases rk
      have gk : Gk = [] := vk.get.imm (imm_of_tkey tk)
      subst gk
      have hD3 : H3 Dd = some (DO Dd #[] 0) := vv.ext.1 _ _ (vk.ext.1 _ _ upd_same lD) lD
      have rk3 := vk.get.ext vv.ext
      have isk := rk3.isKey I3 tk
      have hr := raw_of I3 hD3
      rw [hD]
      refine ⟨[(nk kd, b, uv)], ⟨rfl, rfl, isk, trivial⟩, ?_, fun h' tk' hd hs => ?_⟩
      · obtain ⟨o, g1, g2, g3⟩ := hr
        exact ⟨o, #[], 0, g1, g2, g3, rfl, fun _ z => (nomatch z), List.nodup_nil⟩
      · rw [hp, hw] at hd
        obtain ⟨es, ep, d1, d2⟩ := laid_dict (s' := s3) hd
        have nG : Dd ∉ Gv := by
          intro z
          rcases vv.foot _ z with z | ⟨j, p1, p2⟩
          · rw [vk.ext.1 _ _ upd_same lD] at z; cases z
          · exact foot_n R p2 hn
        have d2 : es.toList = [ent c (nk kd, b, uv)] := d2
        have re : RepEs c H3 es.toList [(kd, vd)] (Gv ++ []) := by
          rw [d2]
          exact .cons (u := .ref b) rfl rk3 rfl rv vv.get .nil
        rw [List.append_nil] at re
        have kp : Kp c H3 (upd H3 Dd (DO Dd es ep)) Gv := kp_write hD3 (fun vs => DO_tup vs) nG
        refine ⟨.ref Dd, upd H3 Dd (DO Dd es ep), d_write (t' := tk') I3 (by rw [hD3]; exact True.intro) hs (let ⟨o, q, _⟩ := d1; ⟨o, q⟩) (obj_DO d1), rfl, q _ _ (Dd :: Gv) ?_ ?_⟩
        · refine dict_val (own2 := false) ⟨fun a o e l => ?_, fun a e => ?_⟩ hn (.dct lD msys upd_same (by rw [← Array.length_toList, d2]; show 1 ≤ sizeLine; decide) (re.keep kp) (nodup_dput (kvs := []) List.nodup_nil) (or_T (keys_dput (kvs := []) rfl tk))) nG (fun a z => ?_) fun z => (nomatch z)
          · rw [upd_ne (ne_of_none e hn)]
            exact vv.ext.1 _ _ (vk.ext.1 _ _ (x0.1 _ _ e l) l) l
          · by_cases h : a = Dd
            · subst h; rw [upd_same]; exact fun z => nomatch z
            · rw [upd_ne h]; exact vv.ext.2 _ (vk.ext.2 _ (x0.2 _ e))
          · rcases vv.foot a z with z | ⟨j, p1, p2⟩
            · exact .inl ((x0.trans vk.ext).none z)
            · exact .inr ⟨j, by simpa [al, alp] using p1, p2⟩
        · exact sr3.ext (upd_ne fun z => lD.1 z.symm) (upd_ne fun z => lD.2 z.symm)
    · cases e
  · cases e

/-- dict(x) of a list that stands -/
theorem c_dOf {a : N.X} {xa : Expr} {p pos : Pos} (g : Gd c cf Γ X) (hgl : Gl X "dict") (ha : PE X xa (rd c cf a)) (na : notStar xa = true) : PE X (.Call (.Name "dict" p) [xa] [] pos) (rd c cf (.dOf a)) := by
  have hu := g.hu
  refine pe_weak (pe_callTy (call_dict_data (c := c) g.calm (by omega) g.hp g.hw) hgl (g.mg _ (by decide +kernel)) (by decide +kernel) (pa_cons ha pa_nil (star_no na _ _)) (by decide +kernel) (by decide +kernel) (star_no na _ _)) ?_
  rintro σ H Q ⟨env, F, S, r, S1, R, s, e, q⟩
  simp only [ev] at e
  obtain ⟨d, o, s1, ea, e⟩ := bD_inv e
  split at e
  · rename_i rs
    split at e
    · rename_i ls ek
      cases e
      refine ⟨env, F, S, _, _, R, s, ea, fun x H1 G v sr1 => ?_⟩
      obtain ⟨l, vs, B, rfl, rfl, la, hl, ra⟩ := id v.get.lst_inv
      refine ⟨sr1.tk, _, rs, l, B, ls, rfl, v.get, ek, fun p H2 B' sm hn rp nB sub _ => ?_⟩
      exact q _ H2 (p :: B') (dict_val (own2 := false) (v.ext.trans (same_ext sm)) (v.ext.none hn) rp nB (fun a z => v.foot a (List.mem_cons_of_mem _ (sub a z))) fun z => (nomatch z)) (sr1.same sm)
    · cases e
  · cases e
/-! ### isinstance -/
def isaT : B → Option String
  | .isStr => some "str"
  | .isInt => some "int"
  | .isBool => some "bool"
  | .isTuple => some "tuple"
  | .isList => some "list"
  | .isDict => some "dict"
  | _ => none
theorem isa_rule (f : B) (T : String) (h : isaT f = some T) : CallR X (.builtin "isinstance") (rIs c T f) ∧ bootBuiltins T = some (.type T) ∧ (T : Str) ≠ ("__name__" : Str) ∧ ((T : Str) == ("__debug__" : Str)) = false ∧ (T : Str) ∈ bnames ∨ f = .isDict := by
  cases f <;> first | (cases h; done) | skip
  · cases h; exact .inl ⟨call_isStr, by decide +kernel, by decide +kernel, by decide +kernel, by decide +kernel⟩
  · cases h; exact .inl ⟨call_isInt, by decide +kernel, by decide +kernel, by decide +kernel, by decide +kernel⟩
  · cases h; exact .inl ⟨call_isBool, by decide +kernel, by decide +kernel, by decide +kernel, by decide +kernel⟩
  · cases h; exact .inl ⟨call_isTuple, by decide +kernel, by decide +kernel, by decide +kernel, by decide +kernel⟩
  · cases h; exact .inl ⟨call_isList, by decide +kernel, by decide +kernel, by decide +kernel, by decide +kernel⟩
  · exact .inr rfl
theorem c_isa {f : B} {T : String} {a : N.X} {xa : Expr} {p p2 pos : Pos} (g : Gd c cf Γ X) (h : isaT f = some T) (nd : f ≠ .isDict) (hg1 : Gl X "isinstance") (hg2 : Gl X T) (ha : PE X xa (rd c cf a)) (na : notStar xa = true) :
    PE X (.Call (.Name "isinstance" p) [xa, .Name T p2] [] pos) (rd c cf (.bi f (.cons false a .nil))) := by
  obtain ⟨h1, h2, h3, h4, h5⟩ := (isa_rule (c := c) (X := X) f T h).resolve_right nd
  refine pe_weak (pe_callB h1 hg1 (g.mg _ (by decide +kernel)) (by decide +kernel) (pa_cons ha (pa_cons (pe_bltn (v := .ty T) hg2 (g.mg _ h5) h2 rfl h3 h4) pa_nil) (star_no na _ _)) (by decide +kernel) (by decide +kernel) (star_no na _ _)) ?_
  rintro σ H Q ⟨env, F, S, r, S1, R, s, e, q⟩
  simp only [ev, evs] at e
  split at e
  · rename_i ds s2 ee
    obtain ⟨d, o, s1, ea, ee⟩ := bD_inv ee
    cases ee
    split at e
    · rename_i r1 o1 er
      cases e
      refine ⟨env, F, S, _, _, R, s, ea, fun x H1 G v sr1 => ⟨sr1.tk, x, d, G, r1, o1, rfl, v.get, er, fun w H2 A sm rp ft ow => ?_⟩⟩
      exact q w H2 A (Val.res v.ext sm rp ft ow fun y z => (v.foot y z).imp id fun ⟨i, p1, p2⟩ => ⟨i, List.mem_append_left _ p1, p2⟩) (sr1.same sm)
    · cases e
  · cases e

/-! ### d.get(k, x) -/
theorem call_get_data (hu : X.A.units + 70 < cLine) (hp : X.prog = c.prog) (hw : X.w = c.w) : MtR X "dict.get" (fun x xs H Q => Tk c H ∧ ∃ kvs A ds B r o, Rep c H x (.dict kvs) A ∧ RepAll c H xs ds B ∧ meD .get (.dict kvs) ds = some (r, o) ∧ Res c H (A ++ B) r o Q) := by
  intro pins s σ H x xs v us Q I rx r ⟨k, kvs, A, ds, B, r1, o, rd0, ra, hm, q⟩
  unfold meD at hm
  split at hm <;> first | contradiction | skip
  rename_i kvs' k' d' e1
  cases e1
  obtain ⟨y, z, F1, G1, rfl, q1, q2, rfl⟩ := two_args ra
  split at hm
  · rename_i g
    cases hm
    obtain ⟨a, es, B', rfl, rfl, _⟩ := id rd0.dct_inv
    cases rx
    obtain ⟨u1, u2, rfl, ru1, ru2⟩ := vals2 r
    refine d_getOr (by omega) I hp hw rd0 q1 ru1 ru2 g (fun d w' v s' C hd I' rv rp sb => ?_) fun s' hd I' => ?_
    · rw [hd] at q
      exact ⟨v, H, I', rv, q.part rp fun a z => List.mem_append_left _ (sb.subset z)⟩
    · rw [hd] at q
      exact ⟨z, H, I', ru2, q.part q2 fun a z => List.mem_append_right _ (List.mem_append_right _ z)⟩
  · cases hm
/-- a method of a dict that stands -/
theorem pe_dm {o e : Expr} {es : List Expr} {to : TE} {t : TA} {name : Str} {apos cpos : Pos} {id : String} {r : V → List V → Hp → VK → Prop} (slot : PySem.Slot "dict" name id) (hty : typeOf (.builtin id) = pure (.type "method_descriptor")) (hm : MtR X id r) (ho : PE X o to) (ha : PA X (e :: es) t)
    (hbase : attributeBase o name X.env (eval o X.env) = eval o X.env)
    (hfew : ((backTo cpos (starEach (e :: es) X.env)).all (fun x => !x.1) && (backToKw cpos (keywordEach [] X.env)).all (fun x => x.1.isSome)
      && decide ((e :: es).length + ([] : List Keyword).length + (if ([] : List Keyword).isEmpty then 0 else 1) < 30)) = true)
    (hline : (apos.endLine == cpos.line) = true) (hs : starEach (e :: es) X.env = (false, eval e X.env) :: starEach es X.env) (hplain : (backTo cpos (starEach es X.env)).any (·.1) = false) :
    PE X (.Call (.Attribute o name apos) (e :: es) [] cpos) (fun σ H Q => to σ H fun x H1 => (∃ kvs A, Rep c H1 x (.dict kvs) A) ∧ t σ H1 fun xs H2 => r x xs H2 Q) := by
  refine ⟨fun pins s σ H Q I h => ?_⟩
  refine wpAny_Call_method_late hbase hfew hline rfl (thn (ho.run pins s σ H _ I h) fun v s1 ⟨x, H1, I1, r1, ⟨kvs, A, rp⟩, q1⟩ => ?_)
  obtain ⟨a, es0, B, rfl, rfl, la, m, ⟨ep, ha0⟩, z, re, _⟩ := rp.dct_inv
  obtain rfl : v = Value.ref a := r1
  have hr := raw_of I1 ha0
  refine ⟨"dict", id, PySem.F.plainAttrs_dict, slot, hty, hr.typeIs, fun b e => (by cases e; obtain ⟨o, h1, h2, _⟩ := hr; exact ⟨o, h1, h2.2.1⟩), ?_⟩
  have hA := ha.run cpos pins s1 σ H1 _ I1 q1
  rw [hs] at hA ⊢
  refine Calls.callWith_builtin (by show (false || (backTo cpos (starEach es X.env)).any (·.1)) = false; rw [hplain] <;> rfl) (Calls.evalArgs_plain ?_)
  exact thn hA fun us s2 ⟨vs, H2, I2, r2, q2⟩ => hm pins s2 σ H2 (.ref a) vs _ us Q I2 rfl r2 q2

def notCall : Expr → Bool
  | .Call _ _ _ _ => false
  | _ => true
theorem base_ok {o : Expr} {name : Str} (env : PySem.Env) (h : notCall o = true) : attributeBase o name env (eval o env) = eval o env := by
  cases o <;> first | rfl | cases h
theorem few_ok {env : PySem.Env} {cpos : Pos} : ∀ {es : List Expr}, es.all notStar = true → (backTo cpos (starEach es env)).all (fun x => !x.1) = true ∧ (backTo cpos (starEach es env)).any (·.1) = false
  | [], _ => ⟨rfl, rfl⟩
  | e :: es, h => by
    rw [List.all_cons, Bool.and_eq_true] at h
    rw [star_no h.1]
    obtain ⟨h1, h2⟩ := few_ok (env := env) (cpos := cpos) h.2
    exact ⟨by show (true && (backTo cpos (starEach es env)).all (fun x => !x.1)) = true; rw [h1]; rfl, by show (false || (backTo cpos (starEach es env)).any (·.1)) = false; rw [h2]; rfl⟩
theorem c_get {o : N.X} {as : Xs} {xo xa : Expr} {xs : List Expr} {apos cpos : Pos} (g : Gd c cf Γ X) (ho : PE X xo (rd c cf o)) (hs : PA X (xa :: xs) (rdA c cf as)) (ns : (xa :: xs).all notStar = true) (hb : notCall xo = true) (hl : (apos.endLine == cpos.line) = true) (h30 : (xa :: xs).length < 30) :
    PE X (.Call (.Attribute xo "get" apos) (xa :: xs) [] cpos) (rd c cf (.me .get o as)) := by
  have hu := g.hu
  obtain ⟨f1, f2⟩ := few_ok (env := X.env) (cpos := cpos) ns
  rw [List.all_cons, Bool.and_eq_true] at ns
  obtain ⟨_, f3⟩ := few_ok (env := X.env) (cpos := cpos) ns.2
  refine pe_weak (pe_dm (c := c) PySem.F.slot_dict_get PySem.F.type_dict_get (call_get_data (c := c) (by omega) g.hp g.hw) ho hs (base_ok _ hb) (by rw [f1]; show (true && true && decide ((xa :: xs).length + 0 + 0 < 30)) = true; simp at h30 ⊢; omega) hl (star_no ns.1 _ _) f3) ?_
  rintro σ H Q ⟨env, F, S, r, S1, R, s, e, q⟩
  simp only [ev] at e
  obtain ⟨d, o1, s1, eo, e⟩ := bD_inv e
  split at e
  · rename_i ds s2 es
    split at e
    · rename_i r1 o2 er
      cases e
      have hd : ∃ kvs, d = .dict kvs := by
        unfold meD at er
        split at er <;> first | contradiction | exact ⟨_, rfl⟩ | (rename_i h; cases h)
      obtain ⟨kvs, rfl⟩ := hd
      refine ⟨env, F, S, _, _, R, s, eo, fun x H1 G v sr1 => ⟨⟨kvs, G, v.get⟩, env, F, _, ds, _, R.ext v.ext, sr1, es, fun vs H2 A x2 ra ft sr2 => ⟨sr2.tk, kvs, G, ds, A, r1, o2, v.get.ext x2, ra, er, fun w H3 B sm rp fb ow => ?_⟩⟩⟩
      exact q w H3 B (Val.res (v.ext.trans x2) sm rp fb ow (Ft.app v.foot (Ft.back v.ext ft))) (sr2.same sm)
    · cases e
  · cases e

/-! ### calls of defs -/
theorem k_nil : PA X [] (rdC c cf .nil) := pa_weak pa_nil fun σ H Q ⟨env, F, S, ss, S1, R, s, e, q⟩ => by
  simp only [evc] at e
  cases e
  exact q [] H [] Ext.refl .nil Ft.nil s
theorem Slots.ext {vs : List V} {ss : List N.Slot} {A : List Addr} (r : Slots c H vs ss A) (e : Ext c H H1) : Slots c H1 vs ss A := by
  induction r with
  | nil => exact .nil
  | dat r1 _ ih => exact .dat (r1.ext e) ih
  | src _ ih => exact .src ih
theorem k_cons {a : N.X} {es : Xs} {xa : Expr} {xs : List Expr} (ha : PE X xa (rd c cf a)) (hs : PA X xs (rdC c cf es)) (ns : notStar xa = true) : PA X (xa :: xs) (rdC c cf (.cons false a es)) :=
  pa_weak (pa_cons ha hs (star_no ns _ _)) fun σ H Q ⟨env, F, S, ss, S1, R, s, e, q⟩ => by
    simp only [evc] at e
    split at e
    · rename_i v s1 ea
      split at e
      · rename_i ws s2 ee
        cases v with
        | dat d o =>
          cases e
          refine ⟨env, F, S, _, _, R, s, ea, fun x H1 G1 v1 sr1 => ⟨env, F, _, ws, _, R.ext v1.ext, sr1, ee, fun vs H2 A x2 ra ft sr2 => ?_⟩⟩
          exact q (x :: vs) H2 (G1 ++ A) (v1.ext.trans x2) (.dat (v1.get.ext x2) ra) (Ft.app v1.foot (Ft.back v1.ext ft)) sr2
        | src =>
          cases e
          refine ⟨env, F, S, _, _, R, s, ea, fun x H1 G1 v1 sr1 => ⟨env, F, _, ws, _, R.ext v1.ext, sr1, ee, fun vs H2 A x2 ra ft sr2 => ?_⟩⟩
          obtain ⟨e1, rfl⟩ := v1.rep
          cases e1
          exact q _ H2 A (v1.ext.trans x2) (.src ra) (fun a z => (ft a z).imp v1.ext.none fun ⟨i, p1, p2⟩ => ⟨i, List.mem_append_right _ p1, p2⟩) sr2
      · cases e
    · cases e
theorem call_end {f : Nat} {as : Xs} {t : TE} {e : Expr} (p : PE X e t) (h : ∀ σ H Q, rdC c cf as σ H (fun vs H1 => spF c cf f vs H1 Q C8.E0) → t σ H Q) : PE X e (rd c cf (.call f as)) :=
  pe_weak p fun σ H Q ⟨env, F, S, r, S1, R, s, ee, q⟩ => by
    simp only [ev] at ee
    split at ee
    · rename_i ss s1 es
      refine h σ H Q ⟨env, F, S, ss, s1, R, s, es, fun vs H1 A x1 ra ft sr1 => ⟨s1, ss, A, r, S1, sr1, ra, ee, fun v H2 G x2 rp fg ow sr2 => ?_⟩⟩
      refine q v H2 G ⟨x1.trans x2, rp, Ft.of x1 ft fg, fun a z => ⟨x1.none (ow a z).1, (ow a z).2⟩⟩ sr2
    · cases ee
theorem c_call {f : Nat} {x : Str} {as : Xs} {xa : Expr} {xs : List Expr} {p pos : Pos} (g : Gd c cf Γ X) (hf : Γ.fn f = some x) (hg : Gl X x) (hdb : (x == ("__debug__" : Str)) = false) (hs : PA X (xa :: xs) (rdC c cf as)) (ns : (xa :: xs).all notStar = true) :
    PE X (.Call (.Name x p) (xa :: xs) [] pos) (rd c cf (.call f as)) := by
  obtain ⟨k, cl, rm⟩ := g.fn f x hf
  obtain ⟨_, f3⟩ := few_ok (env := X.env) (cpos := pos) (es := xs) (by rw [List.all_cons, Bool.and_eq_true] at ns; exact ns.2)
  rw [List.all_cons, Bool.and_eq_true] at ns
  refine call_end (C8.pe_c cl rm (Nat.le_refl _) hg hs hdb (star_no ns.1 _ _) f3) fun σ H Q z => ?_
  obtain ⟨env, F, S, ss, S1, R, s, e, q⟩ := z
  exact ⟨env, F, S, ss, S1, R, s, e, fun vs H1 A x1 ra ft sr => by show spF c cf f (vs ++ []) H1 Q C8.E0; rw [List.append_nil]; exact q vs H1 A x1 ra ft sr⟩
end
end N
/-! N18. What is walked: the cases; a comprehension's tests. -/
namespace N
open PySem PySem.Spec PyProof.Rows L2

section
variable {c : Cfg} {cf : CF} {Γ : Ct} {X : Cx} {F : Foot} {env : Env} {σ : L2.St} {H H1 H2 H3 : Hp} {S S1 S2 : Src} {tg : Expr}
theorem i_e {a : N.X} {xa : Expr} (ha : PE X xa (rd c cf a)) : PI X tg xa (rdI c cf (.e a)) :=
  pi_weak (pi_e (c := c) ha) fun σ H Q ⟨env, F, S, ds, S1, R, s, e, q⟩ => by
    simp only [evi] at e
    obtain ⟨d, o, s1, ea, e⟩ := bD_inv e
    split at e
    · rename_i ds' ei
      cases e
      exact ⟨env, F, S, _, _, R, s, ea, fun x H1 G v sr => ⟨d, G, _, v.get, ei, q H1 G v.ext sr v.foot⟩⟩
    · cases e
theorem i_r1 {a : N.X} {xa : Expr} {p pos : Pos} (g : Gd c cf Γ X) (hg : Gl X "range") (ha : PE X xa (rd c cf a)) (na : notStar xa = true) : PI X tg (.Call (.Name "range" p) [xa] [] pos) (rdI c cf (.r1 a)) :=
  pi_weak (pi_rng (c := c) (pi_range1 hg (g.mg _ (by decide +kernel)) (pa_cons ha pa_nil (star_no na _ _)) (star_no na _ _))) fun σ H Q ⟨env, F, S, ds, S1, R, s, e, q⟩ => by
    simp only [evi] at e
    obtain ⟨d, o, s1, ea, e⟩ := bD_inv e
    split at e
    · rename_i n
      split at e
      · rename_i hn
        cases e
        refine ⟨env, F, S, _, _, R, s, ea, fun x H1 G v sr => ?_⟩
        obtain ⟨rfl, rfl⟩ := v.get.int_inv
        exact ⟨n, rfl, by omega, by omega, .inl ⟨0, n.toNat, rfl, by rw [range_len, sizeLine_eq]; omega, q H1 [] v.ext sr fun _ z => (nomatch z)⟩⟩
      · cases e
    · cases e
theorem i_r2 {a b : N.X} {xa xb : Expr} {p pos : Pos} (g : Gd c cf Γ X) (hg : Gl X "range") (ha : PE X xa (rd c cf a)) (hb : PE X xb (rd c cf b)) (na : notStar xa = true) (nb : notStar xb = true) : PI X tg (.Call (.Name "range" p) [xa, xb] [] pos) (rdI c cf (.r2 a b)) :=
  pi_weak (pi_rng (c := c) (pi_range2 hg (g.mg _ (by decide +kernel)) (pa_cons ha (pa_cons hb pa_nil (star_no nb _ _)) (star_no na _ _)) (by rw [star_no na, star_no nb]; rfl) (star_no nb _ _))) fun σ H Q ⟨env, F, S, ds, S1, R, s, e, q⟩ => by
    simp only [evi] at e
    obtain ⟨d, o, s1, ea, e⟩ := bD_inv e
    obtain ⟨d', o', s2, eb, e⟩ := bD_inv e
    split at e
    · rename_i n m _
      split at e
      · rename_i hn
        cases e
        refine ⟨env, F, S, _, _, R, s, ea, fun x H1 G v sr => ⟨env, F, _, _, _, R.ext v.ext, sr, eb, fun y H2 G2 v2 sr2 => ?_⟩⟩
        obtain ⟨rfl, rfl⟩ := v.get.int_inv
        obtain ⟨rfl, rfl⟩ := v2.get.int_inv
        exact ⟨n, m, rfl, ⟨by omega, by omega, by omega, by omega⟩, .inl ⟨n, (m - n).toNat, rfl, by rw [range_len, sizeLine_eq]; omega, q H2 [] (v.ext.trans v2.ext) sr2 fun _ z => (nomatch z)⟩⟩
      · cases e
    · cases e
theorem i_r3 {a b k : N.X} {xa xb xc : Expr} {p pos : Pos} (g : Gd c cf Γ X) (hg : Gl X "range") (ha : PE X xa (rd c cf a)) (hb : PE X xb (rd c cf b)) (hk : PE X xc (rd c cf k)) (na : notStar xa = true) (nb : notStar xb = true) (nc : notStar xc = true) : PI X tg (.Call (.Name "range" p) [xa, xb, xc] [] pos) (rdI c cf (.r3 a b k)) :=
  pi_weak (pi_rng (c := c) (pi_range3 hg (g.mg _ (by decide +kernel)) (pa_cons ha (pa_cons hb (pa_cons hk pa_nil (star_no nc _ _)) (star_no nb _ _)) (star_no na _ _)) (star_no na _ _) (few_ok (by rw [List.all_cons, nb, List.all_cons, nc]; rfl)).2)) fun σ H Q ⟨env, F, S, ds, S1, R, s, e, q⟩ => by
    simp only [evi] at e
    obtain ⟨d, o, s1, ea, e⟩ := bD_inv e
    obtain ⟨d', o', s2, eb, e⟩ := bD_inv e
    obtain ⟨d'', o'', s3, ec, e⟩ := bD_inv e
    split at e
    · rename_i n m _ _
      split at e
      · rename_i hn
        cases e
        refine ⟨env, F, S, _, _, R, s, ea, fun x H1 G v sr => ⟨env, F, _, _, _, R.ext v.ext, sr, eb, fun y H2 G2 v2 sr2 => ⟨env, F, _, _, _, (R.ext v.ext).ext v2.ext, sr2, ec, fun z H3 G3 v3 sr3 => ?_⟩⟩⟩
        obtain ⟨rfl, rfl⟩ := v.get.int_inv
        obtain ⟨rfl, rfl⟩ := v2.get.int_inv
        obtain ⟨rfl, rfl⟩ := v3.get.int_inv
        exact ⟨n, m, -1, (n - m).toNat, rfl, RgC.neg (by omega) (by omega) (by omega) (by omega), .inr ⟨n, -1, (n - m).toNat, rfl, by rw [rangeC_len, sizeLine_eq]; omega, q H3 [] ((v.ext.trans v2.ext).trans v3.ext) sr3 fun _ z => (nomatch z)⟩⟩
      · cases e
    · cases e
theorem i_en {a : N.X} {xa : Expr} {elts : List Expr} {kk : Nat} {p pos tpos : Pos} (g : Gd c cf Γ X) (hg : Gl X "enumerate") (ha : PE X xa (rd c cf a)) (na : notStar xa = true) : PI X (.Tuple elts kk tpos) (.Call (.Name "enumerate" p) [xa] [] pos) (rdI c cf (.en a)) :=
  pi_weak (pi_en (c := c) hg (g.mg _ (by decide +kernel)) (pa_cons ha pa_nil (star_no na _ _)) (star_no na _ _)) fun σ H Q ⟨env, F, S, ds, S1, R, s, e, q⟩ => by
    simp only [evi] at e
    obtain ⟨d, o, s1, ea, e⟩ := bD_inv e
    split at e
    · rename_i ds' ei
      split at e
      · cases e
      · rename_i nd
        cases e
        exact ⟨env, F, S, _, _, R, s, ea, fun x H1 G v sr => ⟨x, d, G, ds', rfl, v.get, ei, by simpa using nd, q H1 G v.ext sr v.foot⟩⟩
    · cases e
theorem i_zp {a b : N.X} {xa xb : Expr} {elts : List Expr} {kk : Nat} {p pos tpos : Pos} (g : Gd c cf Γ X) (hg : Gl X "zip") (ha : PE X xa (rd c cf a)) (hb : PE X xb (rd c cf b)) (na : notStar xa = true) (nb : notStar xb = true) : PI X (.Tuple elts kk tpos) (.Call (.Name "zip" p) [xa, xb] [] pos) (rdI c cf (.zp false a b)) :=
  pi_weak (pi_zp (c := c) hg (g.mg _ (by decide +kernel)) (pa_cons ha (pa_cons hb pa_nil (star_no nb _ _)) (star_no na _ _)) (star_no na _ _) (few_ok (by rw [List.all_cons, nb]; rfl)).2) fun σ H Q ⟨env, F, S, ds, S1, R, s, e, q⟩ => by
    simp only [evi] at e
    obtain ⟨d, o, s1, ea, e⟩ := bD_inv e
    obtain ⟨d', o', s2, eb, e⟩ := bD_inv e
    split at e
    · rename_i ds1 ds2 e1 e2
      split at e
      · rename_i hn
        cases e
        simp only [Bool.not_false, Bool.true_or, Bool.true_and, Bool.and_eq_true, Bool.not_eq_true'] at hn
        exact ⟨env, F, S, _, _, R, s, ea, fun x H1 G v sr => ⟨env, F, _, _, _, R.ext v.ext, sr, eb, fun y H2 G2 v2 sr2 => ⟨x, d, G, ds1, y, d', G2, ds2, rfl, v.get.ext v2.ext, e1, hn.1, v2.get, e2, hn.2, q H2 (G ++ G2) (v.ext.trans v2.ext) sr2 (Ft.app v.foot (Ft.back v.ext v2.foot))⟩⟩⟩
      · cases e
    · cases e
theorem i_its {a : N.X} {xa : Expr} {elts : List Expr} {kk : Nat} {apos cpos tpos : Pos} (ha : PE X xa (rd c cf a)) (hb : notCall xa = true) (hl : (apos.endLine == cpos.line) = true) : PI X (.Tuple elts kk tpos) (.Call (.Attribute xa "items" apos) [] [] cpos) (rdI c cf (.its a)) :=
  pi_weak (pi_its (c := c) ha (base_ok _ hb) hl) fun σ H Q ⟨env, F, S, ds, S1, R, s, e, q⟩ => by
    simp only [evi] at e
    obtain ⟨d, o, s1, ea, e⟩ := bD_inv e
    split at e
    · cases e
      exact ⟨env, F, S, _, _, R, s, ea, fun x H1 G v sr => ⟨_, G, v.get, q H1 G v.ext sr v.foot⟩⟩
    · cases e
theorem i_vals {a : N.X} {xa : Expr} {apos cpos : Pos} (ha : PE X xa (rd c cf a)) (hb : notCall xa = true) (hl : (apos.endLine == cpos.line) = true) : PI X tg (.Call (.Attribute xa "values" apos) [] [] cpos) (rdI c cf (.vals a)) :=
  pi_weak (pi_vs (c := c) ha (base_ok _ hb) hl) fun σ H Q ⟨env, F, S, ds, S1, R, s, e, q⟩ => by
    simp only [evi] at e
    obtain ⟨d, o, s1, ea, e⟩ := bD_inv e
    split at e
    · cases e
      exact ⟨env, F, S, _, _, R, s, ea, fun x H1 G v sr => ⟨_, G, v.get, q H1 G v.ext sr v.foot⟩⟩
    · cases e
theorem ts_nil : PTs X [] (rdTs c cf .nil) := ⟨fun pins s σ H Q I ⟨env, F, S, S1, b, R, sr, e, q⟩ => by
  simp only [tests] at e
  cases e
  exact pts_nil.run pins s σ H Q I (q H Ext.refl sr)⟩
theorem ts_one {a : N.X} {xa : Expr} (ta : PT X xa (rdT c cf a)) : PTs X [xa] (rdTs c cf (.cons false a .nil)) := ⟨fun pins s σ H Q I ⟨env, F, S, S1, b, R, sr, e, q⟩ => by
  simp only [tests] at e
  obtain ⟨d, o, s1, ea, e⟩ := bD_inv e
  split at e
  · rename_i t et
    cases e
    exact (pts_one ta).run pins s σ H Q I ⟨env, F, S, d, o, _, b, R, sr, ea, et, q⟩
  · cases e⟩
end
end N
/-! N19. Statements: readings, the simple cases. -/
namespace N
open PySem PySem.Spec PyProof.Rows L2

section
variable (c : Cfg) (cf : CF)
def EndN (env : Env) (F : Foot) (H : Hp) (K : L2.St → Hp → Prop) (env1 : Env) (S1 : Src) : Prop := ∀ σ' H' F', Rel c env1 σ' H' F' → Step c env F H env1 F' H' → SrcAt c H' S1 → K σ' H'
def EndR (env : Env) (F : Foot) (H : Hp) (K : VK) (r : N.Slot) (S1 : Src) : Prop := ∀ v H' G, SlotRep c H' (some (some v)) (some r) G → (∀ a o, H a = some o → c.Live a → ¬ Owned env F a → H' a = some o) → (∀ a, H a ≠ none → H' a ≠ none) →
  (∀ a ∈ G, H a = none ∨ ∃ i, a ∈ F i) → (∀ a ∈ ownA (some r) G, G.count a = 1 ∧ (H a = none ∨ Owned env F a)) → SrcAt c H' S1 → K v H'
def Ends1 (env : Env) (F : Foot) (H : Hp) (D : Ends) : Fl → Src → Prop
  | .nx e, S => EndN c env F H D.nx e S
  | .bk e, S => EndN c env F H D.bk e S
  | .ct e, S => EndN c env F H D.ct e S
  | .rt r, S => EndR c env F H D.rt r S
/-- a statement's reading -/
def rdS (st : S) : TS := fun D σ H => ∃ env F S fl S1, Rel c env σ H F ∧ SrcAt c H S ∧ exec cf st env S = some (fl, S1) ∧ Ends1 c env F H D fl S1
def rdSs (st : Ss) : TS := fun D σ H => ∃ env F S fl S1, Rel c env σ H F ∧ SrcAt c H S ∧ execs cf st env S = some (fl, S1) ∧ Ends1 c env F H D fl S1
end
section
variable {c : Cfg} {cf : CF} {Γ : Ct} {X : Cx} {F F' : Foot} {env env' : Env} {σ : L2.St} {H H1 H2 H3 : Hp} {s1 s2 : Src} {De : Ends}
theorem EndN.step {K : L2.St → Hp → Prop} {e : Env} (st : Step c env F H env' F' H1) (q : EndN c env F H K e s1) : EndN c env' F' H1 K e s1 := fun σ' H' F'' R st' sr => q σ' H' F'' R (st.trans st') sr
theorem EndR.step {K : VK} {r : N.Slot} (st : Step c env F H env' F' H1) (q : EndR c env F H K r s1) : EndR c env' F' H1 K r s1 := fun v H' G rp fr tr ft ow sr => by
  refine q v H' G rp (fun a o e l n => fr a o (st.frame a o e l n) l fun z => (st.own a z).elim n fun z => by rw [e] at z; cases z) (fun a e => tr a (st.tr a e)) (fun a z => ?_) (fun a z => ⟨(ow a z).1, ?_⟩) sr
  · rcases ft a z with z | ⟨i, z⟩
    · exact .inl (st.none z)
    · exact (st.foot i a z).elim .inr .inl
  · rcases (ow a z).2 with z | z
    · exact .inl (st.none z)
    · exact (st.own a z).elim .inr .inl
theorem Ends1.step {fl : Fl} (st : Step c env F H env' F' H1) (q : Ends1 c env F H De fl s1) : Ends1 c env' F' H1 De fl s1 := by
  cases fl with
  | nx e => exact EndN.step st q
  | bk e => exact EndN.step st q
  | ct e => exact EndN.step st q
  | rt r => exact EndR.step st q
theorem ps_weak {st : Stmt} {t t' : TS} (p : PS X st t) (h : ∀ D σ H, t' D σ H → t D σ H) : PS X st t' := ⟨fun pins s σ H D I q => p.run pins s σ H D I (h D σ H q)⟩
theorem pss_weak {st : List Stmt} {t t' : TS} (p : PSs X st t) (h : ∀ D σ H, t' D σ H → t D σ H) : PSs X st t' := ⟨fun pins s σ H D I q => p.run pins s σ H D I (h D σ H q)⟩

theorem s_nil : PSs X [] (rdSs c cf .nil) := pss_weak pss_nil fun D σ H ⟨env, F, S, fl, S1, R, s, e, q⟩ => by
  simp only [execs] at e
  cases e
  exact q σ H F R Step.refl s
theorem s_cons {st : S} {ss : Ss} {x : Stmt} {xs : List Stmt} (h1 : PS X x (rdS c cf st)) (h2 : PSs X xs (rdSs c cf ss)) : PSs X (x :: xs) (rdSs c cf (.cons st ss)) := pss_weak (pss_cons h1 h2) fun D σ H ⟨env, F, S, fl, S1, R, s, e, q⟩ => by
  simp only [execs] at e
  split at e
  · rename_i env1 s1 e1
    refine ⟨env, F, S, .nx env1, s1, R, s, e1, fun σ' H' F' R' st' sr' => ?_⟩
    exact ⟨env1, F', s1, fl, S1, R', sr', e, Ends1.step st' q⟩
  · rename_i hn
    refine ⟨env, F, S, fl, S1, R, s, e, ?_⟩
    cases fl with
    | nx env1 => exact absurd e (hn env1 S1)
    | bk e => exact q
    | ct e => exact q
    | rt r => exact q
theorem s_pass {pos : Pos} : PS X (.Pass pos) (rdS c cf .pass) := ps_weak ps_pass fun D σ H ⟨env, F, S, fl, S1, R, s, e, q⟩ => by
  simp only [exec] at e
  cases e
  exact q σ H F R Step.refl s
theorem s_brk {pos : Pos} : PS X (.Break pos) (rdS c cf .brk) := ps_weak ps_break fun D σ H ⟨env, F, S, fl, S1, R, s, e, q⟩ => by
  simp only [exec] at e
  cases e
  exact q σ H F R Step.refl s
theorem s_cont {pos : Pos} : PS X (.Continue pos) (rdS c cf .cont) := ps_weak ps_continue fun D σ H ⟨env, F, S, fl, S1, R, s, e, q⟩ => by
  simp only [exec] at e
  cases e
  exact q σ H F R Step.refl s
theorem s_retn {pos : Pos} : PS X (.Return none pos) (rdS c cf .retn) := ps_weak ps_retN fun D σ H ⟨env, F, S, fl, S1, R, s, e, q⟩ => by
  simp only [exec] at e
  cases e
  exact q .non H [] ⟨.non, rfl, .non⟩ (fun _ _ e _ _ => e) (fun _ e => e) (fun _ z => (nomatch z)) (fun _ z => (nomatch z)) s
/-- return of a name -/
theorem s_retv {i : Nat} {x : Str} {p pos : Pos} (hN : X.N[i]? = some x) (hv : Vis X.env.scope x) (hd : (x == ("__debug__" : Str)) = false) (hcd : (x == ("__classdict__" : Str)) = false) : PS X (.Return (some (.Name x p)) pos) (rdS c cf (.ret (.v i))) :=
  ps_weak (ps_ret (pe_var hN hv hd hcd)) fun D σ H ⟨env, F, S, fl, S1, R, s, e, q⟩ => by
    simp only [exec] at e
    have rp := R.rep i
    have one := R.one i
    split at e
    · rename_i d o g
      cases e
      rw [g] at rp one
      obtain ⟨v, h1, h2⟩ := rp
      exact ⟨v, h1, q v H (F i) ⟨v, rfl, h2⟩ (fun _ _ e _ _ => e) (fun _ e => e) (fun a z => .inr ⟨i, z⟩) (fun a z => ⟨one a z, .inr ⟨i, by rw [g]; exact z⟩⟩) s⟩
    · rename_i g
      cases e
      rw [g] at rp
      exact ⟨_, rp.1, q _ H [] ⟨rfl, rfl⟩ (fun _ _ e _ _ => e) (fun _ e => e) (fun _ z => (nomatch z)) (fun _ z => (nomatch z)) s⟩
    · cases e
def notV : N.X → Bool
  | .v _ => false
  | _ => true
theorem s_ret {e : N.X} {xe : Expr} {pos : Pos} (he : PE X xe (rd c cf e)) (nv : notV e = true) : PS X (.Return (some xe) pos) (rdS c cf (.ret e)) :=
  ps_weak (ps_ret he) fun D σ H ⟨env, F, S, fl, S1, R, s, ee, q⟩ => by
    have ee : (match ev cf e env S with
      | some (r, s1) => some (Fl.rt r, s1)
      | none => none) = some (fl, S1) := by
      cases e <;> first | exact ee | cases nv
    split at ee
    · rename_i r s1 e1
      cases ee
      exact ⟨env, F, S, r, _, R, s, e1, fun v H' G vl sr => q v H' G vl.rep (fun a o e l _ => vl.ext.1 a o e l) vl.ext.2 (fun a z => (vl.foot a z).imp id fun ⟨i, _, z⟩ => ⟨i, z⟩) (fun a z => ⟨(vl.own a z).2, .inl (vl.own a z).1⟩) sr⟩
    · cases ee
theorem s_ite {k : N.X} {a b : Ss} {xk : Expr} {xa xb : List Stmt} {pos : Pos} (tk : PT X xk (rdT c cf k)) (ha : PSs X xa (rdSs c cf a)) (hb : PSs X xb (rdSs c cf b)) : PS X (.If xk xa xb pos) (rdS c cf (.ite k a b)) :=
  ps_weak (ps_if tk ha hb) fun D σ H ⟨env, F, S, fl, S1, R, s, e, q⟩ => by
    simp only [exec] at e
    obtain ⟨d, o, s1, ek, e⟩ := bD_inv e
    split at e
    · rename_i et
      exact ⟨env, F, S, d, o, s1, true, R, s, ek, et, fun H1 x1 sr1 => Eq.mpr (if_pos rfl) ⟨env, F, s1, fl, S1, R.ext x1, sr1, e, Ends1.step x1.step q⟩⟩
    · rename_i et
      exact ⟨env, F, S, d, o, s1, false, R, s, ek, et, fun H1 x1 sr1 => Eq.mpr (if_neg Bool.false_ne_true) ⟨env, F, s1, fl, S1, R.ext x1, sr1, e, Ends1.step x1.step q⟩⟩
    · cases e
def isComp : Expr → Bool
  | .ListComp _ _ _ _ => true
  | .SetComp _ _ _ _ => true
  | .DictComp _ _ _ _ _ => true
  | _ => false
theorem swap_no {e : Expr} (h : isComp e = false) (t : Option Expr) (l : Nat) (env : PySem.Env) : swapsWith e t l env = pure false := by
  cases e <;> first | rfl | cases h
theorem s_ex {e : N.X} {xe : Expr} {pos : Pos} (he : PE X xe (rd c cf e)) (nc : isComp xe = false) : PS X (.Expr xe pos) (rdS c cf (.ex e)) :=
  ps_weak (ps_expr he (swap_no nc _ _ _)) fun D σ H ⟨env, F, S, fl, S1, R, s, ee, q⟩ => by
    simp only [exec] at ee
    split at ee
    · rename_i r s1 e1
      cases ee
      exact ⟨env, F, S, r, _, R, s, e1, fun v H' G vl sr => q σ H' F (R.ext vl.ext) vl.ext.step sr⟩
    · cases ee

/-! ### names that are kept -/
theorem getv_modify {env : Env} {i j : Nat} {f : Option N.Slot → Option N.Slot} (hf : f none = none) : getv (env.modify i f) j = if i = j then f (getv env j) else getv env j := by
  unfold getv
  rw [List.getElem?_modify]
  by_cases h : i = j
  · subst h
    rw [if_pos rfl]
    cases env[i]? with
    | none => simp [hf]
    | some x => simp
  · rw [if_neg h]
    cases env[j]? with
    | none => simp [h]
    | some x => simp [h]
theorem demote_get {env : Env} {j : Nat} : ∀ {al : List Nat}, getv (demote env al) j = if j ∈ al then lower 0 (getv env j) else getv env j
  | [] => by simp [demote]
  | i :: al => by
    rw [demote, getv_modify rfl, demote_get]
    by_cases h : i = j
    · subst h
      rw [if_pos rfl, if_pos (List.mem_cons_self ..)]
      split
      · cases getv env i with
        | none => rfl
        | some x =>
          cases x with
          | dat d o => show some (N.Slot.dat d (min (min o 0) 0)) = some (N.Slot.dat d (min o 0)); simp
          | src => rfl
      · rfl
    · have e : (j ∈ i :: al) ↔ j ∈ al := by simp [Ne.symm h]
      rw [if_neg h]
      simp only [e]
theorem own_lower (sl : Option N.Slot) (A : List Addr) : ownA (lower 0 sl) A = [] := by
  cases sl with
  | none => rfl
  | some x =>
    cases x with
    | dat d o => show ownA (some (.dat d (min o 0))) A = []; rw [Nat.min_zero]; rfl
    | src => rfl
theorem rep_lower {x : Option (Option V)} {sl : Option N.Slot} {A : List Addr} (r : SlotRep c H x sl A) : SlotRep c H x (lower 0 sl) A := by
  cases sl with
  | none => exact r
  | some y =>
    cases y with
    | dat d o => exact r
    | src => exact r
theorem demote_length {env : Env} : ∀ {al : List Nat}, (demote env al).length = env.length
  | [] => rfl
  | i :: al => by rw [demote, List.length_modify, demote_length]
theorem demote_own {env : Env} {al : List Nat} {F : Foot} {j : Nat} {a : Addr} (h : a ∈ ownA (getv (demote env al) j) (F j)) : a ∈ ownA (getv env j) (F j) ∧ j ∉ al := by
  rw [demote_get] at h
  split at h
  · rw [own_lower] at h; nomatch h
  · rename_i hn; exact ⟨h, hn⟩
theorem Rel.demote {al : List Nat} (R : Rel c env σ H F) : Rel c (N.demote env al) σ H F where
  len := by rw [demote_length]; exact R.len
  rep := fun j => by
    rw [demote_get]
    split
    · exact rep_lower (R.rep j)
    · exact R.rep j
  one := fun j a h => R.one j a (demote_own h).1
  apart := fun j a h => R.apart j a (demote_own h).1
theorem kept_eq (env : Env) (al : List Nat) (d : D) : kept env al d = env ∨ kept env al d = N.demote env al := by
  unfold kept
  split
  · split
    · exact .inl rfl
    · exact .inr rfl
  · exact .inl rfl
theorem Rel.kept {al : List Nat} {d : PyData} (R : Rel c env σ H F) : Rel c (N.kept env al d) σ H F := by
  rcases kept_eq env al d with h | h
  · rw [h]; exact R
  · rw [h]; exact R.demote
theorem kept_own {al : List Nat} {d : D} {j : Nat} {a : Addr} (h : a ∈ ownA (getv (kept env al d) j) (F j)) : a ∈ ownA (getv env j) (F j) := by
  rcases kept_eq env al d with e | e
  · rw [e] at h; exact h
  · rw [e] at h; exact (demote_own h).1
theorem kept_owned {al : List Nat} {d : D} {a : Addr} (h : Owned (kept env al d) F a) : Owned env F a := let ⟨j, z⟩ := h; ⟨j, kept_own z⟩
/-- what is kept is not own any more -/
theorem kept_ok (R : Rel c env σ H F) {al : List Nat} {d : D} {a : Addr} (hi : imm d = false) {i : Nat} (hm : i ∈ al) (ha : a ∈ F i) : ¬ Owned (kept env al d) F a := by
  rintro ⟨j, z⟩
  have z0 := kept_own z
  have eji : j = i := by
    by_cases h : j = i
    · exact h
    · exact absurd ha (R.apart j a z0 i (Ne.symm h))
  subst eji
  unfold kept at z
  split at z
  · rw [if_neg (by rw [hi]; exact Bool.false_ne_true)] at z
    exact (demote_own z).2 hm
  · rename_i hn
    refine hn (List.any_eq_true.mpr ⟨j, hm, ?_⟩)
    unfold ownAt
    cases e : getv env j with
    | none => rw [e] at z0; nomatch z0
    | some x =>
      rw [e] at z0
      cases x with
      | dat d' o =>
        cases o with
        | zero => nomatch z0
        | succ n => rfl
      | src => nomatch z0
/-- .. of a value -/
theorem kept_val (R : Rel c env σ H F) {al : List Nat} {v : V} {d : D} {o : Nat} {G : List Addr} (vl : Val c env F al H v (.dat d o) G H1) : ∀ a ∈ G, ¬ Owned (kept env al d) F a := fun a z => by
  cases hi : imm d with
  | true =>
    have e := vl.get.imm hi
    subst e
    nomatch z
  | false =>
    rcases vl.foot a z with n | ⟨i, p1, p2⟩
    · rintro ⟨j, w⟩
      exact foot_n R (ownA_sub w) n
    · exact kept_ok R hi p1 p2
end
end N
/-! N20. Loops; stores to names. -/
namespace N
open PySem PySem.Spec PyProof.Rows L2

/-- while with fuel -/
def whN (test : Env → Src → Option (Bool × Src)) (body : Env → Src → RS) : Nat → Env → Src → RS
  | 0, _, _ => none
  | n + 1, env, s => match test env s with
    | none => none
    | some (false, s1) => some (.nx env, s1)
    | some (true, s1) => match body env s1 with
      | some (.nx e, s2) => whN test body n e s2
      | some (.ct e, s2) => whN test body n e s2
      | some (.bk e, s2) => some (.nx e, s2)
      | some (.rt r, s2) => some (.rt r, s2)
      | none => none
theorem wh_fuel {test : Env → Src → Option (Bool × Src)} {body : Env → Src → RS} {env : Env} {s : Src} {r : Fl × Src} (h : whL test body env s = some r) : ∃ n, whN test body n env s = some r := by
  refine whL.partial_correctness test body (fun env s r => ∃ n, whN test body n env s = some r) (fun f ih env s r e => ?_) env s r h
  cases et : test env s with
  | none => rw [et] at e; cases e
  | some p =>
    obtain ⟨b, s1⟩ := p
    rw [et] at e
    cases b with
    | false => exact ⟨1, by rw [whN, et]; exact e⟩
    | true =>
      simp only at e
      cases eb : body env s1 with
      | none => rw [eb] at e; cases e
      | some q =>
        obtain ⟨fl, s2⟩ := q
        rw [eb] at e
        cases fl with
        | nx e1 =>
          obtain ⟨n, hn⟩ := ih e1 s2 r e
          exact ⟨n + 1, by rw [whN, et]; simp only [eb]; exact hn⟩
        | ct e1 =>
          obtain ⟨n, hn⟩ := ih e1 s2 r e
          exact ⟨n + 1, by rw [whN, et]; simp only [eb]; exact hn⟩
        | bk e1 => exact ⟨1, by rw [whN, et]; simp only [eb]; exact e⟩
        | rt r1 => exact ⟨1, by rw [whN, et]; simp only [eb]; exact e⟩
section
variable {c : Cfg} {cf : CF} {Γ : Ct} {X : Cx} {F F' : Foot} {env env' : Env} {σ : L2.St} {H H1 H2 H3 : Hp} {s1 s2 : Src}
/-- names forgotten by the proof alone -/
theorem Rel.forget (R : Rel c env σ H F) : ∀ ws : List Nat, Rel c (N.wipe env ws) σ H (dropF F ws)
  | [] => by
    have e : dropF F [] = F := by funext j; simp [dropF]
    rw [e]
    exact R
  | i :: ws => by
    have q := (Rel.forget R ws).drop (i := i) (x := none)
    have e : updF (dropF F ws) i [] = dropF F (i :: ws) := by
      funext j
      unfold updF dropF
      by_cases h : j = i
      · simp [h]
      · simp [h]
    rw [e] at q
    refine ⟨by have h := q.len; rw [List.length_set (as := σ)] at h; exact h, fun j => ?_, q.one, q.apart⟩
    have rp := q.rep j
    by_cases h : j = i
    · subst h
      have en : getv (N.wipe env (j :: ws)) j = none := by
        rw [N.wipe]
        rcases Nat.lt_or_ge j (N.wipe env ws).length with hl | hl
        · exact getv_set_same hl
        · exact getv_big (by rw [List.length_set]; exact hl)
      have e2 : getv ((N.wipe env ws).set j none) j = none := en
      rw [e2] at rp
      rw [en]
      exact rp
    · rw [List.getElem?_set_ne (Ne.symm h)] at rp
      exact rp
theorem wipe_own {ws : List Nat} {j : Nat} {a : Addr} (h : a ∈ ownA (getv (N.wipe env ws) j) (dropF F ws j)) : a ∈ ownA (getv env j) (F j) ∧ j ∉ ws := by
  induction ws with
  | nil =>
    have e : dropF F [] = F := by funext j; simp [dropF]
    rw [e] at h
    exact ⟨h, fun z => nomatch z⟩
  | cons i ws ih =>
    have e : dropF F (i :: ws) = updF (dropF F ws) i [] := by
      funext j
      unfold updF dropF
      by_cases h : j = i
      · simp [h]
      · simp [h]
    rw [e, N.wipe] at h
    by_cases hj : j = i
    · subst hj
      rw [updF_same] at h
      exact absurd (ownA_sub h) (by simp)
    · rw [getv_set_ne hj, updF_ne hj] at h
      obtain ⟨h1, h2⟩ := ih h
      exact ⟨h1, by simp [hj, h2]⟩
theorem forget_step (R : Rel c env σ H F) (ws : List Nat) : Step c env F H (N.wipe env ws) (dropF F ws) H :=
  ⟨fun _ _ e _ _ => e, fun _ e => e, fun a ⟨j, z⟩ => .inl ⟨j, (wipe_own z).1⟩, fun i a z => .inl ⟨i, dropF_sub z⟩⟩
theorem kept_step {al : List Nat} {d : PyData} : Step c env F H (N.kept env al d) F H :=
  ⟨fun _ _ e _ _ => e, fun _ e => e, fun a z => .inl (kept_owned z), fun i a z => .inl ⟨i, z⟩⟩
theorem s_while {k : N.X} {b : Ss} {ws : List Nat} {xk : Expr} {xb : List Stmt} {pos : Pos} (g : Gd c cf Γ X) (tk : PT X xk (rdT c cf k)) (hb : PSs X xb (rdSs c cf b)) : PS X (.While xk xb [] pos) (rdS c cf (.wh k b ws)) :=
  ps_weak (ps_while (by rw [g.xe]; exact .never) tk hb) fun D σ H ⟨env, F, S, fl, S1, R, s, e, q⟩ => by
    simp only [exec] at e
    obtain ⟨n, hn⟩ := wh_fuel e
    generalize hT : (fun (e : Env) (s' : Src) => bD (ev cf k e s') fun d _ s2 => match truth d with
      | some t => some (t, s2)
      | none => none) = test at hn
    generalize hB : (fun (e : Env) (s' : Src) => (execs cf b e s').map fun p => (wipeF ws p.1, p.2)) = body at hn
    refine ⟨fun m σ' H' => ∃ env1 F1 S2, Rel c env1 σ' H' F1 ∧ SrcAt c H' S2 ∧ Step c env F H env1 F1 H' ∧ whN test body m env1 S2 = some (fl, S1), ⟨n, N.wipe env ws, dropF F ws, S, R.forget ws, s, forget_step R ws, hn⟩, ?_⟩
    rintro m σ' H' ⟨env1, F1, S2, R1, sr1, st1, hm⟩
    cases m with
    | zero => rw [whN] at hm; cases hm
    | succ m =>
      rw [whN] at hm
      cases et : test env1 S2 with
      | none => rw [et] at hm; cases hm
      | some p =>
        obtain ⟨t, S3⟩ := p
        rw [et] at hm
        rw [← hT] at et
        obtain ⟨d, o, S4, ek, et⟩ := bD_inv et
        split at et
        · rename_i t' tr
          cases et
          refine ⟨env1, F1, S2, d, o, _, t, R1, sr1, ek, tr, fun H2 x2 sr2 => ?_⟩
          cases t with
          | false =>
            rw [if_neg Bool.false_ne_true]
            cases hm
            exact q σ' H2 F1 (R1.ext x2) (st1.trans x2.step) sr2
          | true =>
            rw [if_pos rfl]
            simp only at hm
            cases eb : body env1 S3 with
            | none => rw [eb] at hm; cases hm
            | some p2 =>
              obtain ⟨f2, S5⟩ := p2
              rw [eb] at hm
              rw [← hB] at eb
              obtain ⟨⟨f3, S6⟩, eb1, eb2⟩ := Option.map_eq_some_iff.mp eb
              cases eb2
              refine ⟨fun σ3 H3 => ∃ env3 F3 S7, Rel c env3 σ3 H3 F3 ∧ SrcAt c H3 S7 ∧ Step c env F H env3 F3 H3 ∧ whN test body m env3 S7 = some (fl, S1), fun σ3 H3 h3 => ⟨m, Nat.lt_succ_self _, h3⟩, env1, F1, S3, f3, _, R1.ext x2, sr2, eb1, ?_⟩
              have st2 := st1.trans x2.step
              cases f3 with
              | nx e1 => exact fun σ4 H4 F4 R4 st4 sr4 => ⟨N.wipe e1 ws, dropF F4 ws, _, R4.forget ws, sr4, (st2.trans st4).trans (forget_step R4 ws), hm⟩
              | ct e1 => exact fun σ4 H4 F4 R4 st4 sr4 => ⟨N.wipe e1 ws, dropF F4 ws, _, R4.forget ws, sr4, (st2.trans st4).trans (forget_step R4 ws), hm⟩
              | bk e1 =>
                cases hm
                exact fun σ4 H4 F4 R4 st4 sr4 => q σ4 H4 F4 R4 (st2.trans st4) sr4
              | rt r =>
                cases hm
                exact EndR.step st2 q
        · cases et

theorem forL_cons {body : D → Env → Src → RS} {x : D} {xs : List D} {env : Env} {s : Src} {r : Fl × Src} (h : forL body (x :: xs) env s = some r) : ∃ f s1, body x env s = some (f, s1) ∧ (match f with
    | .nx e => forL body xs e s1 = some r
    | .ct e => forL body xs e s1 = some r
    | .bk e => r = (.nx e, s1)
    | .rt v => r = (.rt v, s1)) := by
  rw [forL] at h
  split at h
  · rename_i e s1 eb; exact ⟨_, _, eb, h⟩
  · rename_i e s1 eb; exact ⟨_, _, eb, h⟩
  · rename_i e s1 eb; cases h; exact ⟨_, _, eb, rfl⟩
  · rename_i e s1 eb; cases h; exact ⟨_, _, eb, rfl⟩
  · cases h
/-- a step, but for the footprints -/
structure StepO (c : Cfg) (env : Env) (F : Foot) (H : Hp) (env' : Env) (F' : Foot) (H' : Hp) : Prop where
  frame : ∀ a o, H a = some o → c.Live a → ¬ Owned env F a → H' a = some o
  tr : ∀ a, H a ≠ none → H' a ≠ none
  own : ∀ a, Owned env' F' a → Owned env F a ∨ H a = none
theorem Step.o (s : Step c env F H env' F' H1) : StepO c env F H env' F' H1 := ⟨s.frame, s.tr, s.own⟩
theorem StepO.none (s : StepO c env F H env' F' H1) {a : Addr} (n : H1 a = none) : H a = none := by
  cases q : H a with
  | none => rfl
  | some o => exact absurd n (s.tr a (by rw [q]; exact fun z => nomatch z))
theorem StepO.trans {e1 e2 e3 : Env} {F1 F2 F3 : Foot} {H1 H2 H3 : Hp} (a : StepO c e1 F1 H1 e2 F2 H2) (b : StepO c e2 F2 H2 e3 F3 H3) : StepO c e1 F1 H1 e3 F3 H3 where
  frame := fun x o e l n => b.frame x o (a.frame x o e l n) l fun z => (a.own x z).elim n fun q => by rw [e] at q; cases q
  tr := fun x e => b.tr x (a.tr x e)
  own := fun x h => (b.own x h).elim (a.own x) fun q => .inr (a.none q)
def bodyF (cf : CF) (t : T) (b : Ss) (ws : List Nat) (d : D) (e : Env) (s' : Src) : RS := match bindT t d e with
        | some e1 => (execs cf b e1 s').map fun p => (wipeF ws p.1, p.2)
        | none => none
theorem s_for {t : T} {it : N.It} {b : Ss} {ws : List Nat} {tg iter : Expr} {xb : List Stmt} {pos : Pos} (g : Gd c cf Γ X) (hi : PI X tg iter (rdI c cf it)) (hg : PG X tg (gT c t)) (hb : PSs X xb (rdSs c cf b)) (hs : ∀ x, foldedSetIterable iter X.env x = pure x) : PS X (.For tg iter xb [] pos) (rdS c cf (.for t it b ws)) :=
  ps_weak (ps_for (by rw [g.xe]; exact .never) g.calm hi hg hb hs) fun D σ H ⟨env, F, S, fl, S1, R, s, e, q⟩ => by
    simp only [exec] at e
    split at e
    · rename_i ds sa ei
      have e : forL (bodyF cf t b ws) ds (N.wipe (N.kept env (alI it) (.list ds)) ws) sa = some (fl, S1) := e
      refine ⟨env, F, S, ds, sa, R, s, ei, fun H1 U x1 sr1 fu S0 hS0 kS hlen hU => ?_⟩
      generalize hE : N.wipe (N.kept env (alI it) (.list ds)) ws = env0 at e
      have R0 : Rel c env0 σ H1 (dropF F ws) := by rw [← hE]; exact (R.ext x1).kept.forget ws
      have st0 : Step c env F H env0 (dropF F ws) H1 := by rw [← hE]; exact x1.step.trans (kept_step.trans (forget_step (R.ext x1).kept ws))
      have noU : ∀ a ∈ U, ¬ Owned env0 (dropF F ws) a := by
        intro a ha ⟨j, z⟩
        rw [← hE] at z
        obtain ⟨z, _⟩ := wipe_own z
        rcases fu a ha with n | ⟨i, p1, p2⟩
        · exact foot_n R (ownA_sub z) n
        · exact kept_ok R rfl p1 p2 ⟨j, z⟩
      refine ⟨fun i m σ' H' => m = ds.length - i ∧ i ≤ ds.length ∧ ∃ env1 F1 S2, Rel c env1 σ' H' F1 ∧ SrcAt c H' S2 ∧ Step c env F H env1 F1 H' ∧ StepO c env0 (dropF F ws) H1 env1 F1 H' ∧ forL (bodyF cf t b ws) (ds.drop i) env1 S2 = some (fl, S1), ⟨ds.length, Nat.sub_zero _, Nat.zero_le _, env0, _, sa, R0, sr1, st0, Step.refl.o, e⟩, ?_⟩
      rintro i m σ' H' ⟨rfl, hi, env1, F1, S2, R1, sr2, sg1, st1, hf⟩
      have nt : ∀ a, Owned env0 (dropF F ws) a → ∀ vs, H1 a ≠ some (.tup vs) := fun a ⟨j, z⟩ vs => (R0.foot (ownA_sub z)).2.2 vs
      have hS' : S0 H' := kS H1 H' (fun a o e l hq => st1.frame a o e l fun z => hq.elim (fun ⟨vs, w⟩ => nt a z vs (by rw [e, w])) fun w => noU a w z) hS0
      rcases Nat.lt_or_ge i ds.length with hlt | hge
      · refine .inr ⟨⟨hS', sr2.tk, hlt⟩, ?_⟩
        have hd : ds.drop i = ds[i] :: ds.drop (i + 1) := List.drop_eq_getElem_cons hlt
        rw [hd] at hf
        obtain ⟨f, s4, eb, ef⟩ := forL_cons hf
        refine ⟨fun σ3 H3 => ∃ env3 F3 S7, Rel c env3 σ3 H3 F3 ∧ SrcAt c H3 S7 ∧ Step c env F H env3 F3 H3 ∧ StepO c env0 (dropF F ws) H1 env3 F3 H3 ∧ forL (bodyF cf t b ws) (ds.drop (i + 1)) env3 S7 = some (fl, S1), fun σ3 H3 h3 => ⟨ds.length - (i + 1), by omega, rfl, hlt, h3⟩, fun x H2 ⟨sm, d, A0, ed, rd0, hA0⟩ => ?_⟩
        have ed' : d = ds[i] := by rw [List.getElem?_eq_getElem hlt] at ed; exact (Option.some.inj ed).symm
        subst ed'
        unfold bodyF at eb
        split at eb
        · rename_i e1 hb1
          have x2 : Ext c H' H2 := same_ext sm
          have noA : ∀ a ∈ A0, ¬ Owned env1 F1 a := fun a z w => (st1.own a w).elim (noU a (hA0 a z)) (hU a (hA0 a z))
          refine ⟨env1, F1, _, A0, e1, R1.ext x2, rd0, noA, hb1, fun σ2 F2 bn => ?_⟩
          obtain ⟨⟨f3, S6⟩, eb1, eb2⟩ := Option.map_eq_some_iff.mp eb
          cases eb2
          have sg0 := sg1.trans x2.step
          have sg2 : Step c env F H e1 F2 H2 := ⟨sg0.frame, sg0.tr, fun a z => sg0.own a (bn.own a z), fun j a z => (bn.foot j a z).elim (fun z => sg0.foot j a z.2) fun z => (fu a (hA0 a z)).elim .inr fun ⟨i, _, z⟩ => .inl ⟨i, z⟩⟩
          have st2 : StepO c env0 (dropF F ws) H1 e1 F2 H2 := (st1.trans x2.step.o).trans ⟨fun _ _ e _ _ => e, fun _ e => e, fun a z => .inl (bn.own a z)⟩
          refine ⟨e1, F2, S2, f3, _, bn.rel, sr2.same sm, eb1, ?_⟩
          cases f3 with
          | nx e2 => exact fun σ4 H4 F4 R4 st4 sr4 => ⟨N.wipe e2 ws, dropF F4 ws, _, R4.forget ws, sr4, (sg2.trans st4).trans (forget_step R4 ws), (st2.trans st4.o).trans (forget_step R4 ws).o, ef⟩
          | ct e2 => exact fun σ4 H4 F4 R4 st4 sr4 => ⟨N.wipe e2 ws, dropF F4 ws, _, R4.forget ws, sr4, (sg2.trans st4).trans (forget_step R4 ws), (st2.trans st4.o).trans (forget_step R4 ws).o, ef⟩
          | bk e2 =>
            cases ef
            exact fun σ4 H4 F4 R4 st4 sr4 => q σ4 H4 F4 R4 (sg2.trans st4) sr4
          | rt r =>
            cases ef
            exact EndR.step sg2 q
        · cases eb
      · have hie : i = ds.length := by omega
        subst hie
        refine .inl ⟨⟨hS', sr2.tk, rfl⟩, ?_⟩
        rw [List.drop_length, forL] at hf
        cases hf
        exact q σ' H' F1 R1 sg1 sr2
    · cases e
end
end N
/-! N21. Assignments to names. -/
namespace N
open PySem PySem.Spec PyProof.Rows L2

section
variable {c : Cfg} {cf : CF} {Γ : Ct} {X : Cx} {F F' : Foot} {env env' : Env} {σ : L2.St} {H H1 H2 H3 : Hp} {s1 s2 : Src}
theorem set_end (R : Rel c env σ H F) {al : List Nat} {v : V} {d : D} {o : Nat} {G : List Addr} (vl : Val c env F al H v (.dat d o) G H1) (i : Nat) :
    ∃ F', Rel c ((kept env al d).set i (some (.dat d o))) (σ.set i (some v)) H1 F' ∧ Step c env F H ((kept env al d).set i (some (.dat d o))) F' H1 := by
  have Rk : Rel c (kept env al d) σ H1 F := (R.ext vl.ext).kept
  rcases Nat.lt_or_ge i (kept env al d).length with hi | hi
  · refine ⟨updF F i G, Rk.set vl.rep (fun a z => ⟨(vl.own a z).2, fun j _ w => foot_n R w (vl.own a z).1⟩) (fun j hj a z w => kept_val R vl a w ⟨j, z⟩) hi, ⟨fun a o e l _ => vl.ext.1 a o e l, vl.ext.2, fun a ⟨j, z⟩ => ?_, fun j a z => ?_⟩⟩
    · by_cases h : j = i
      · subst h
        rw [getv_set_same hi, updF_same] at z
        exact .inr (vl.own a z).1
      · rw [getv_set_ne h, updF_ne h] at z
        exact .inl (kept_owned ⟨j, z⟩)
    · by_cases h : j = i
      · subst h
        rw [updF_same] at z
        exact (vl.foot a z).elim .inr fun ⟨k, _, w⟩ => .inl ⟨k, w⟩
      · rw [updF_ne h] at z
        exact .inl ⟨j, z⟩
  · rw [List.set_eq_of_length_le hi, List.set_eq_of_length_le (by rw [← Rk.len]; exact hi)]
    exact ⟨F, Rk, vl.ext.step.trans kept_step⟩
theorem val_alK {al : List Nat} {v : V} {d : D} {o : Nat} {G : List Addr} (vl : Val c env F al H v (.dat d o) G H1) : Val c env F (alK env al d o) H v (.dat d o) G H1 := by
  unfold alK
  split
  · split
    · rename_i h
      rw [Bool.and_eq_true] at h
      refine ⟨vl.ext, vl.rep, fun a z => .inl ?_, vl.own⟩
      obtain ⟨h1, h2⟩ := h
      have r := vl.get
      cases d with
      | list xs =>
        cases r with
        | lst l e ra =>
          have e0 := ra.imm h2
          subst e0
          refine (vl.own a ?_).1
          cases o with
          | zero => nomatch h1
          | succ n => cases n with
            | zero => exact z
            | succ m => exact z
      | _ => nomatch h2
    · exact vl
  · exact vl
theorem asg_name {i : Nat} {e : N.X} (De : Ends) (σ : L2.St) (H : Hp) (h : rdS c cf (.asg (.nm i) e) De σ H) : rd c cf e σ H (fun x H1 => De.nx (σ.set i (some x)) H1) := by
  obtain ⟨env, F, S, fl, S1, R, s, ee, q⟩ := h
  simp only [exec] at ee
  obtain ⟨d, o, sa, e1, ee⟩ := bD_inv ee
  simp only [store] at ee
  cases ee
  refine ⟨env, F, S, _, _, R, s, e1, fun v H1 G vl sr => ?_⟩
  obtain ⟨F', R', st⟩ := set_end R (val_alK vl) i
  exact q _ H1 F' R' st sr
theorem s_asg_name {i : Nat} {e : N.X} {x : Str} {xe : Expr} {p pos : Pos} (hN : X.N.Nodup) (hi : X.N[i]? = some x) (hx : Loc X.env.scope x) (hf : X.fn x = true ∨ X.env.scope.names.lookup x = some .local) (he : PE X xe (rd c cf e)) (hs : swapsWith xe (some (.Name x p)) pos.line X.env = pure false) :
    PS X (.Assign [.Name x p] xe pos) (rdS c cf (.asg (.nm i) e)) := ps_weak (ps_set hN hi hx he hs hf) fun De σ H h => asg_name De σ H h
/-- not stored by the comprehension itself -/
theorem swap_false {xe : Expr} {x : Str} {p : Pos} {l : Nat} {env : PySem.Env} (h : (env.kindOf x == some .local) = false) : swapsWith xe (some (.Name x p)) l env = pure false := by
  unfold swapsWith
  cases xe <;> first | rfl | (simp only [h]; simp)
/-- name = [..] on one line -/
theorem s_asg_lc {i : Nat} {y : Str} {py : Pos} {e : N.X} {t : T} {it : N.It} {ifs : Xs} {elt tg iter : Expr} {xifs : List Expr} {scope : Scope} {ow : List (Str × Nat)} {pos spos : Pos} (hc : X.calm = true) (hN : X.N.Nodup) (hy : X.N[i]? = some y) (hyl : X.env.scope.names.lookup y = some .local)
    (hsw : swapsWith (.ListComp elt [⟨tg, iter, xifs, 0⟩] scope pos) (some (.Name y py)) spos.line X.env = pure true) (hi : PI X tg iter (rdI c cf it)) (ok : BlkOk X.N X.env.scope scope ow)
    (hg : ∀ (s : Shared) (H : Hp) (C : Addr) (cl : List (Str × Addr)) (fp : List Addr), PG (X.blk s H scope (compEnvC scope cl C X.env) fp) tg (gT c t)) (ht : ∀ (s : Shared) (H : Hp) (C : Addr) (cl : List (Str × Addr)) (fp : List Addr), PTs (X.blk s H scope (compEnvC scope cl C X.env) fp) xifs (rdTs c cf ifs))
    (he : ∀ (s : Shared) (H : Hp) (C : Addr) (cl : List (Str × Addr)) (fp : List Addr), PE (X.blk s H scope (compEnvC scope cl C X.env) fp) elt (rd c cf e)) (hs : ∀ x, foldedSetIterable iter X.env x = pure x) (hsub : ∀ j ∈ tns t, j ∈ ow.map (·.2)) :
    PS X (.Assign [.Name y py] (.ListComp elt [⟨tg, iter, xifs, 0⟩] scope pos) spos) (rdS c cf (.asg (.nm i) (.lc e t it ifs (ow.map (·.2))))) :=
  ps_weak (ps_setLc hc hN hy hyl hsw hi ok hg ht he hs) fun De σ H h => (c_lc (pos := pos) hc hN hi ok hg ht he hs hsub).2 σ H _ (asg_name De σ H h)

/-- a, b = e, e no written tuple -/
theorem s_asg_tup {ts : Ts} {e : N.X} {es : List Expr} {k : Nat} {xe : Expr} {p pos : Pos} (he : PE X xe (rd c cf e)) (hg : PG X (.Tuple es k p) (gT c (.tp ts))) (nc : isComp xe = false) (hw : swappedStores [.Tuple es k p] xe X.env = pure none) :
    PS X (.Assign [.Tuple es k p] xe pos) (rdS c cf (.asg (.tp ts) e)) := ps_weak (ps_asg he hg (swap_no nc (some (.Tuple es k p)) pos.line X.env) hw) fun De σ H ⟨env, F, S, fl, S1, R, s, ee, q⟩ => by
  simp only [exec] at ee
  obtain ⟨d, o, sa, e1, ee⟩ := bD_inv ee
  split at ee
  · rename_i env1 s2 es'
    cases ee
    simp only [store] at es'
    obtain ⟨env2, eb, e2⟩ := Option.map_eq_some_iff.mp es'
    cases e2
    refine ⟨env, F, S, _, _, R, s, e1, fun v H1 G vl sr => ⟨kept env (alK env (al e) d o) d, F, d, G, _, (R.ext vl.ext).kept, vl.get, kept_val R (val_alK vl), eb, fun σ' F' b => ?_⟩⟩
    refine q σ' H1 F' b.rel ⟨fun a o e l _ => vl.ext.1 a o e l, vl.ext.2, fun a z => .inl (kept_owned (b.own a z)), fun j a z => ?_⟩ sr
    rcases b.foot j a z with z | z
    · exact .inl ⟨j, z.2⟩
    · exact (vl.foot a z).elim .inr fun ⟨k, _, w⟩ => .inl ⟨k, w⟩
  · cases ee

/-! ### several names at once -/
theorem par_step (R : Rel c env σ H F) {al : List Nat} {v : V} {d : D} {o : Nat} {G : List Addr} (rp : Rep c H v d G) (ow : ∀ a ∈ ownA (some (.dat d o)) G, G.count a = 1 ∧ ∀ j, a ∉ F j) (no : ∀ a ∈ G, ¬ Owned env F a) (i : Nat) :
    ∃ F', Rel c ((kept env al d).set i (some (.dat d o))) (σ.set i (some v)) H F' ∧ (∀ j a, a ∈ F' j → a ∈ F j ∨ a ∈ G) ∧ ∀ a, Owned ((kept env al d).set i (some (.dat d o))) F' a → Owned env F a ∨ a ∈ ownA (some (.dat d o)) G := by
  rcases Nat.lt_or_ge i (kept env al d).length with hi | hi
  · refine ⟨updF F i G, R.kept.set ⟨v, rfl, rp⟩ (fun a z => ⟨(ow a z).1, fun j _ => (ow a z).2 j⟩) (fun j hj a z w => no a w (kept_owned ⟨j, z⟩)) hi, fun j a z => ?_, fun a ⟨j, z⟩ => ?_⟩
    · by_cases h : j = i
      · subst h; rw [updF_same] at z; exact .inr z
      · rw [updF_ne h] at z; exact .inl z
    · by_cases h : j = i
      · subst h; rw [getv_set_same hi, updF_same] at z; exact .inr z
      · rw [getv_set_ne h, updF_ne h] at z; exact .inl (kept_owned ⟨j, z⟩)
  · rw [List.set_eq_of_length_le hi, List.set_eq_of_length_le (by rw [← R.len]; unfold kept at hi; split at hi <;> first | exact hi | (split at hi <;> first | exact hi | (rw [demote_length] at hi; exact hi)))]
    exact ⟨F, R.kept, fun j a z => .inl z, fun a z => .inl (kept_owned z)⟩
theorem evr_cons {e : N.X} {es : Xs} {S S1 : Src} {xs : List (List Nat × D × Nat)} (h : evr cf (.cons false e es) env S = some (xs, S1)) : ∃ d o sa ys, ev cf e env S = some (.dat d o, sa) ∧ evr cf es env sa = some (ys, S1) ∧ xs = (al e, d, o) :: ys := by
  simp only [evr] at h
  obtain ⟨d, o, sa, e1, h⟩ := bD_inv h
  split at h
  · rename_i ys s2 e2
    cases h
    exact ⟨d, o, sa, ys, e1, e2, rfl⟩
  · cases h
theorem evr_nil {S S1 : Src} {xs : List (List Nat × D × Nat)} (h : evr cf .nil env S = some (xs, S1)) : xs = [] ∧ S1 = S := by
  simp only [evr] at h
  cases h
  exact ⟨rfl, rfl⟩
/-- the exec of a row of names -/
theorem par_inv {ts : Ts} {es : Xs} {S S1 : Src} {fl : Fl} (h : exec cf (.par ts es) env S = some (fl, S1)) : ∃ xs sa env1, evr cf es env S = some (xs, sa) ∧ stores cf ts xs (keptAll env xs) sa = some (env1, S1) ∧ fl = .nx env1 ∧ (namesOnly ts || xs.all (fun x => imm x.2.1)) = true := by
  simp only [exec] at h
  split at h
  · rename_i xs sa e1
    split at h
    · rename_i hn
      split at h
      · rename_i env1 s2 e2
        cases h
        exact ⟨xs, sa, env1, e1, e2, rfl, hn⟩
      · cases h
    · cases h
  · cases h
theorem s_par2 {i j : Nat} {x y : Str} {e1 e2 : N.X} {x1 x2 : Expr} {px py pt pos pt2 : Pos} {kt k2 : Nat} (hc : X.calm = true) (hN : X.N.Nodup) (hi : X.N[i]? = some x) (hj : X.N[j]? = some y) (hij : i ≠ j)
    (hx : X.env.scope.names.lookup x = some .local) (hy : X.env.scope.names.lookup y = some .local) (h1 : PE X x1 (rd c cf e1)) (h2 : PE X x2 (rd c cf e2)) (n1 : notStar x1 = true) (n2 : notStar x2 = true)
    (hw : swappedStores [.Tuple [.Name x px, .Name y py] kt pt] (.Tuple [x1, x2] k2 pt2) X.env = pure (some [x, y])) :
    PS X (.Assign [.Tuple [.Name x px, .Name y py] kt pt] (.Tuple [x1, x2] k2 pt2) pos) (rdS c cf (.par (.cons (.nm i) (.cons (.nm j) .nil)) (.cons false e1 (.cons false e2 .nil)))) :=
  ps_weak (ps_par hc hN hi hj hij hx hy (pa_cons h1 (pa_cons h2 pa_nil (star_no n2 _ _)) (star_no n1 _ _)) hw) fun De σ H ⟨env, F, S, fl, S1, R, s, ee, q⟩ => by
    obtain ⟨xs, sa, env1, er, es, rfl, _⟩ := par_inv ee
    obtain ⟨d1, o1, sb, ys, ev1, er2, rfl⟩ := evr_cons er
    obtain ⟨d2, o2, sc, zs, ev2, er3, rfl⟩ := evr_cons er2
    obtain ⟨rfl, rfl⟩ := evr_nil er3
    simp only [stores, store, keptAll] at es
    cases es
    refine ⟨env, F, S, _, _, R, s, ev1, fun v1 H1 G1 vl1 sr1 => ⟨env, F, sb, _, _, R.ext vl1.ext, sr1, ev2, fun v2 H2 G2 vl2 sr2 => ⟨v1, v2, rfl, ?_⟩⟩⟩
    have R2 : Rel c (kept (kept env (al e2) d2) (al e1) d1) σ H2 F := ((R.ext vl1.ext).ext vl2.ext).kept.kept
    have g1 : ∀ a ∈ G1, H1 a ≠ none := fun a z => (vl1.get.foot a z).1
    have f0 : ∀ {k a}, a ∈ F k → H a ≠ none := fun z => foot_n R z
    have f1 : ∀ {k a}, a ∈ F k → H1 a ≠ none := fun z => vl1.ext.2 _ (f0 z)
    have no1 : ∀ a ∈ G1, ¬ Owned (kept (kept env (al e2) d2) (al e1) d1) F a := kept_val (R.kept (al := al e2) (d := d2)) (env := kept env (al e2) d2) (H1 := H1) (o := o1) (v := v1) ⟨vl1.ext, vl1.rep, vl1.foot, vl1.own⟩
    have no2 : ∀ a ∈ G2, ¬ Owned (kept (kept env (al e2) d2) (al e1) d1) F a := fun a z w => kept_val (R.ext vl1.ext) vl2 a z (kept_owned w)
    obtain ⟨Fa, Ra, fa, oa⟩ := par_step R2 (al := al e1) (o := o1) (vl1.get.ext vl2.ext) (fun a z => ⟨(vl1.own a z).2, fun k w => f0 w (vl1.own a z).1⟩) no1 i
    obtain ⟨Fb, Rb, fb, ob⟩ := par_step Ra (al := al e2) (o := o2) vl2.get (fun a z => ⟨(vl2.own a z).2, fun k w => (fa k a w).elim (fun w => f1 w (vl2.own a z).1) fun w => g1 a w (vl2.own a z).1⟩)
      (fun a z w => (oa a w).elim (no2 a z) fun w => (vl2.foot a z).elim (g1 a (ownA_sub w)) fun ⟨k, _, y⟩ => f0 y (vl1.own a w).1) j
    refine q _ H2 Fb Rb ⟨fun a o e l _ => vl2.ext.1 a o (vl1.ext.1 a o e l) l, fun a e => vl2.ext.2 a (vl1.ext.2 a e), fun a z => ?_, fun k a z => ?_⟩ sr2
    · rcases ob a z with z | z
      · rcases oa a z with z | z
        · exact .inl (kept_owned (kept_owned z))
        · exact .inr (vl1.own a z).1
      · exact .inr (vl1.ext.none (vl2.own a z).1)
    · rcases fb k a z with z | z
      · rcases fa k a z with z | z
        · exact .inl ⟨k, z⟩
        · exact (vl1.foot a z).elim .inr fun ⟨m, _, w⟩ => .inl ⟨m, w⟩
      · exact (vl2.foot a z).elim (fun z => .inr (vl1.ext.none z)) fun ⟨m, _, w⟩ => .inl ⟨m, w⟩

theorem s_par3 {i j l : Nat} {x y z : Str} {e1 e2 e3 : N.X} {x1 x2 x3 : Expr} {px py pz pt pos pt2 : Pos} {kt k2 : Nat} (hc : X.calm = true) (hN : X.N.Nodup) (hi : X.N[i]? = some x) (hj : X.N[j]? = some y) (hl : X.N[l]? = some z) (hij : i ≠ j) (hil : i ≠ l) (hjl : j ≠ l)
    (hx : X.env.scope.names.lookup x = some .local) (hy : X.env.scope.names.lookup y = some .local) (hz : X.env.scope.names.lookup z = some .local) (h1 : PE X x1 (rd c cf e1)) (h2 : PE X x2 (rd c cf e2)) (h3 : PE X x3 (rd c cf e3)) (n1 : notStar x1 = true) (n2 : notStar x2 = true) (n3 : notStar x3 = true)
    (hw : swappedStores [.Tuple [.Name x px, .Name y py, .Name z pz] kt pt] (.Tuple [x1, x2, x3] k2 pt2) X.env = pure (some [x, y, z])) :
    PS X (.Assign [.Tuple [.Name x px, .Name y py, .Name z pz] kt pt] (.Tuple [x1, x2, x3] k2 pt2) pos) (rdS c cf (.par (.cons (.nm i) (.cons (.nm j) (.cons (.nm l) .nil))) (.cons false e1 (.cons false e2 (.cons false e3 .nil))))) :=
  ps_weak (ps_par3 hc hN hi hj hl hij hil hjl hx hy hz (pa_cons h1 (pa_cons h2 (pa_cons h3 pa_nil (star_no n3 _ _)) (star_no n2 _ _)) (star_no n1 _ _)) hw) fun De σ H ⟨env, F, S, fl, S1, R, s, ee, q⟩ => by
    obtain ⟨xs, sa, env1, er, es, rfl, _⟩ := par_inv ee
    obtain ⟨d1, o1, sb, ys, ev1, er2, rfl⟩ := evr_cons er
    obtain ⟨d2, o2, sc, zs, ev2, er3, rfl⟩ := evr_cons er2
    obtain ⟨d3, o3, sd, ws, ev3, er4, rfl⟩ := evr_cons er3
    obtain ⟨rfl, rfl⟩ := evr_nil er4
    simp only [stores, store, keptAll] at es
    cases es
    refine ⟨env, F, S, _, _, R, s, ev1, fun v1 H1 G1 vl1 sr1 => ⟨env, F, sb, _, _, R.ext vl1.ext, sr1, ev2, fun v2 H2 G2 vl2 sr2 => ⟨env, F, sc, _, _, (R.ext vl1.ext).ext vl2.ext, sr2, ev3, fun v3 H3 G3 vl3 sr3 => ⟨v1, v2, v3, rfl, ?_⟩⟩⟩⟩
    have Ra0 := ((R.ext vl1.ext).ext vl2.ext).ext vl3.ext
    have R2 : Rel c (kept (kept (kept env (al e3) d3) (al e2) d2) (al e1) d1) σ H3 F := Ra0.kept.kept.kept
    have g1 : ∀ a ∈ G1, H1 a ≠ none := fun a z => (vl1.get.foot a z).1
    have g2 : ∀ a ∈ G2, H2 a ≠ none := fun a z => (vl2.get.foot a z).1
    have f0 : ∀ {k a}, a ∈ F k → H a ≠ none := fun z => foot_n R z
    have f1 : ∀ {k a}, a ∈ F k → H1 a ≠ none := fun z => vl1.ext.2 _ (f0 z)
    have f2 : ∀ {k a}, a ∈ F k → H2 a ≠ none := fun z => vl2.ext.2 _ (f1 z)
    have no1 : ∀ a ∈ G1, ¬ Owned (kept (kept (kept env (al e3) d3) (al e2) d2) (al e1) d1) F a := kept_val ((R.kept (al := al e3) (d := d3)).kept (al := al e2) (d := d2)) (env := kept (kept env (al e3) d3) (al e2) d2) (H1 := H1) (o := o1) (v := v1) ⟨vl1.ext, vl1.rep, vl1.foot, vl1.own⟩
    have no2 : ∀ a ∈ G2, ¬ Owned (kept (kept (kept env (al e3) d3) (al e2) d2) (al e1) d1) F a := fun a z w => kept_val ((R.ext vl1.ext).kept (al := al e3) (d := d3)) (env := kept env (al e3) d3) (H1 := H2) (o := o2) (v := v2) ⟨vl2.ext, vl2.rep, vl2.foot, vl2.own⟩ a z (kept_owned w)
    have no3 : ∀ a ∈ G3, ¬ Owned (kept (kept (kept env (al e3) d3) (al e2) d2) (al e1) d1) F a := fun a z w => kept_val ((R.ext vl1.ext).ext vl2.ext) vl3 a z (kept_owned (kept_owned w))
    obtain ⟨Fa, Ra, fa, oa⟩ := par_step R2 (al := al e1) (o := o1) ((vl1.get.ext vl2.ext).ext vl3.ext) (fun a z => ⟨(vl1.own a z).2, fun k w => f0 w (vl1.own a z).1⟩) no1 i
    obtain ⟨Fb, Rb, fb, ob⟩ := par_step Ra (al := al e2) (o := o2) (vl2.get.ext vl3.ext) (fun a z => ⟨(vl2.own a z).2, fun k w => (fa k a w).elim (fun w => f1 w (vl2.own a z).1) fun w => g1 a w (vl2.own a z).1⟩)
      (fun a z w => (oa a w).elim (no2 a z) fun w => (vl2.foot a z).elim (g1 a (ownA_sub w)) fun ⟨k, _, y⟩ => f0 y (vl1.own a w).1) j
    obtain ⟨Fc, Rc, fc, oc⟩ := par_step Rb (al := al e3) (o := o3) vl3.get (fun a z => ⟨(vl3.own a z).2, fun k w => (fb k a w).elim (fun w => (fa k a w).elim (fun w => f2 w (vl3.own a z).1) fun w => vl2.ext.2 _ (g1 a w) (vl3.own a z).1) fun w => g2 a w (vl3.own a z).1⟩)
      (fun a z w => (ob a w).elim (fun w => (oa a w).elim (no3 a z) fun w => (vl3.foot a z).elim (fun n => vl2.ext.2 _ (g1 a (ownA_sub w)) n) fun ⟨k, _, y⟩ => f0 y (vl1.own a w).1) fun w => (vl3.foot a z).elim (g2 a (ownA_sub w)) fun ⟨k, _, y⟩ => f1 y (vl2.own a w).1) l
    refine q _ H3 Fc Rc ⟨fun a o e l _ => vl3.ext.1 a o (vl2.ext.1 a o (vl1.ext.1 a o e l) l) l, fun a e => vl3.ext.2 a (vl2.ext.2 a (vl1.ext.2 a e)), fun a z => ?_, fun k a z => ?_⟩ sr3
    · rcases oc a z with z | z
      · rcases ob a z with z | z
        · rcases oa a z with z | z
          · exact .inl (kept_owned (kept_owned (kept_owned z)))
          · exact .inr (vl1.own a z).1
        · exact .inr (vl1.ext.none (vl2.own a z).1)
      · exact .inr (vl1.ext.none (vl2.ext.none (vl3.own a z).1))
    · rcases fc k a z with z | z
      · rcases fb k a z with z | z
        · rcases fa k a z with z | z
          · exact .inl ⟨k, z⟩
          · exact (vl1.foot a z).elim .inr fun ⟨m, _, w⟩ => .inl ⟨m, w⟩
        · exact (vl2.foot a z).elim (fun z => .inr (vl1.ext.none z)) fun ⟨m, _, w⟩ => .inl ⟨m, w⟩
      · exact (vl3.foot a z).elim (fun z => .inr (vl1.ext.none (vl2.ext.none z))) fun ⟨m, _, w⟩ => .inl ⟨m, w⟩

/-- name = {..} on one line -/
theorem ps_setDcD {i : Nat} {y : Str} {py : Pos} {kx vx tg iter : Expr} {ifs : List Expr} {scope : Scope} {own : List (Str × Nat)} {pos spos : Pos} {wi : TI} {g : TG} {tt : TT} {tk tv : TE} (hu : X.A.units + 20 < cLine) (hp : X.prog = c.prog) (hw : X.w = c.w) (hc : X.calm = true) (hN : X.N.Nodup) (hy : X.N[i]? = some y) (hyl : X.env.scope.names.lookup y = some .local)
    (hsw : swapsWith (.DictComp kx vx [⟨tg, iter, ifs, 0⟩] scope pos) (some (.Name y py)) spos.line X.env = pure true) (hi : PI X tg iter wi) (ok : BlkOk X.N X.env.scope scope own)
    (hg : ∀ (s : Shared) (H : Hp) (C : Addr) (cl : List (Str × Addr)) (fp : List Addr), PG (X.blk s H scope (compEnvC scope cl C X.env) fp) tg g) (ht : ∀ (s : Shared) (H : Hp) (C : Addr) (cl : List (Str × Addr)) (fp : List Addr), PTs (X.blk s H scope (compEnvC scope cl C X.env) fp) ifs tt)
    (hk : ∀ (s : Shared) (H : Hp) (C : Addr) (cl : List (Str × Addr)) (fp : List Addr), PE (X.blk s H scope (compEnvC scope cl C X.env) fp) kx tk)
    (he : ∀ (s : Shared) (H : Hp) (C : Addr) (cl : List (Str × Addr)) (fp : List Addr), PE (X.blk s H scope (compEnvC scope cl C X.env) fp) vx tv) (hs : ∀ x, foldedSetIterable iter X.env x = pure x) :
    PS X (.Assign [.Name y py] (.DictComp kx vx [⟨tg, iter, ifs, 0⟩] scope pos) spos) (tAsg (tDcD c wi g tt tk tv (own.map (·.2))) (gName i)) := by
  refine ⟨fun pins s σ H D I h => ?_⟩
  rw [exec_Assign_Name_used _ _ _ _ hsw]
  refine wpAny_bind (wpAny_standAt (wpAny_bind ?_))
  show wpAny _ X.A (do let _ ← comprehension (.DictComp kx vx [⟨tg, iter, ifs, 0⟩] scope pos) scope X.env (firstIterPos [⟨tg, iter, ifs, 0⟩] pos) newDict false (eval iter X.env) (some (assign (.Name y py) X.env))) _ _ s
  have h : tDcD c wi g tt tk tv (own.map (·.2)) σ H (fun x H1 => gName i x σ H1 D.nx) := h
  refine wpAny_bind (thn (dcD_core (Qf := fun _ s' => SP X pins D .next s') hu hp hw hc hN I hi ok hg ht hk he hs h fun L C s' m H' I' q hn f => ?_) fun _ s' hq => wpAny_pure (wpAny_pure hq))
  show wpAny _ _ (assign (.Name y py) X.env (.ref L)) _ _ _
  refine wpAny_assign_Name (store_ok2 (v := V.ref L) I' hN hy (.inl hyl) rfl (fun s2 I2 ⟨a, sb, ha⟩ => ?_) (.inr hyl))
  obtain ⟨f0, f1, f2, f3, f4, f5⟩ := f
  have haC : C ≠ a := by
    rcases ha with z | z
    · rw [z]; exact f1
    · exact fun e => f4 y a z e.symm
  refine ⟨m, hn.sameBut sb haC, fun h3 sb3 => ?_⟩
  exact ⟨_, H', I2.turned (t' := s2.toks) (fun b o hb e => (sb3.2 b hb).trans e) f0 f1 f3 f4 f5, q⟩
theorem s_asg_dc {own2 : Bool} {i : Nat} {y : Str} {py : Pos} {ke ve : N.X} {t : T} {it : N.It} {ifs : Xs} {xk xv tg iter : Expr} {xifs : List Expr} {scope : Scope} {ow : List (Str × Nat)} {pos spos : Pos} (gd : Gd c cf Γ X) (hy : X.N[i]? = some y) (hyl : X.env.scope.names.lookup y = some .local)
    (hsw : swapsWith (.DictComp xk xv [⟨tg, iter, xifs, 0⟩] scope pos) (some (.Name y py)) spos.line X.env = pure true) (hi : PI X tg iter (rdI c cf it)) (ok : BlkOk X.N X.env.scope scope ow)
    (hg : ∀ (s : Shared) (H : Hp) (C : Addr) (cl : List (Str × Addr)) (fp : List Addr), PG (X.blk s H scope (compEnvC scope cl C X.env) fp) tg (gT c t)) (ht : ∀ (s : Shared) (H : Hp) (C : Addr) (cl : List (Str × Addr)) (fp : List Addr), PTs (X.blk s H scope (compEnvC scope cl C X.env) fp) xifs (rdTs c cf ifs))
    (hk : ∀ (s : Shared) (H : Hp) (C : Addr) (cl : List (Str × Addr)) (fp : List Addr), PE (X.blk s H scope (compEnvC scope cl C X.env) fp) xk (rd c cf ke)) (hv : ∀ (s : Shared) (H : Hp) (C : Addr) (cl : List (Str × Addr)) (fp : List Addr), PE (X.blk s H scope (compEnvC scope cl C X.env) fp) xv (rd c cf ve))
    (hs : ∀ x, foldedSetIterable iter X.env x = pure x) (hsub : ∀ j ∈ tns t, j ∈ ow.map (·.2)) :
    PS X (.Assign [.Name y py] (.DictComp xk xv [⟨tg, iter, xifs, 0⟩] scope pos) spos) (rdS c cf (.asg (.nm i) (.dc own2 ke ve t it ifs (ow.map (·.2))))) :=
  have hu := gd.hu
  ps_weak (ps_setDcD (c := c) (by omega) gd.hp gd.hw gd.calm gd.nd hy hyl hsw hi ok hg ht hk hv hs) fun De σ H h => (c_dc (own2 := own2) (pos := pos) gd hi ok hg ht hk hv hs hsub).2 σ H _ (asg_name De σ H h)
end
end N
/-! N22. Changes of own containers. -/
namespace N
open PySem PySem.Spec PyProof.Rows L2

section
variable {c : Cfg} {cf : CF} {Γ : Ct} {X : Cx} {F F' : Foot} {env env' : Env} {σ : L2.St} {H H1 H2 H3 : Hp} {s1 s2 : Src}
theorem Rel.mut {x : Nat} {a : Addr} {d d' : D} {o o' : Nat} {B B' : List Addr} {ho : HO} (x0 : Ext c H1 H) (R : Rel c env σ H F) (hx : getv env x = some (.dat d o)) (hσ : σ[x]? = some (some (.ref a))) (hF : F x = a :: B) (ow : a ∈ ownA (some (.dat d o)) (F x)) (nt : ∀ vs, H a ≠ some (.tup vs))
    (rp : Rep c (upd H a ho) (.ref a) d' (a :: B')) (h1 : ∀ b ∈ ownA (some (.dat d' o')) (a :: B'), (a :: B').count b = 1 ∧ (b = a ∨ b ∈ ownA (some (.dat d o)) (F x))) (hB : ∀ b ∈ B', b ∈ B ∨ ¬ Owned env F b) (hf : ∀ b ∈ B', (∃ j, b ∈ F j) ∨ H1 b = none) :
    Rel c (env.set x (some (.dat d' o'))) σ (upd H a ho) (updF F x (a :: B')) ∧ Step c env F H1 (env.set x (some (.dat d' o'))) (updF F x (a :: B')) (upd H a ho) := by
  have hi : x < env.length := by
    rcases Nat.lt_or_ge x env.length with h | h
    · exact h
    · rw [getv_big h] at hx; cases hx
  have own0 : Owned env F a := ⟨x, by rw [hx]; exact ow⟩
  have nF : ∀ j, j ≠ x → a ∉ F j := fun j hj => R.apart x a (by rw [hx]; exact ow) j hj
  have aF : a ∈ F x := by rw [hF]; exact List.mem_cons_self ..
  have ow' : ∀ b ∈ ownA (some (.dat d' o')) (a :: B'), b ∈ ownA (getv env x) (F x) := fun b z => by
    rw [hx]
    exact (h1 b z).2.elim (fun e => e ▸ ow) id
  refine ⟨⟨by rw [List.length_set]; exact R.len, fun j => ?_, fun j b hj => ?_, fun j b hj k hk => ?_⟩, ⟨fun b u e l n => ?_, fun b e => ?_, fun b ⟨j, z⟩ => ?_, fun j b z => ?_⟩⟩
  · by_cases h : j = x
    · subst h
      rw [getv_set_same hi, updF_same]
      exact ⟨_, hσ, rp⟩
    · rw [getv_set_ne h, updF_ne h]
      refine (R.rep j).keep fun b u e l hq => ?_
      have ne : b ≠ a := by
        rintro rfl
        rcases hq with ⟨vs, rfl⟩ | hq
        · exact nt vs e
        · exact nF j h hq
      rw [upd_ne ne]
      exact e
  · by_cases h : j = x
    · subst h
      rw [getv_set_same hi, updF_same] at hj
      rw [updF_same]
      exact (h1 b hj).1
    · rw [getv_set_ne h, updF_ne h] at hj
      rw [updF_ne h]
      exact R.one j b hj
  · by_cases h : j = x
    · subst h
      rw [getv_set_same hi, updF_same] at hj
      rw [updF_ne hk]
      exact R.apart j b (ow' b hj) k hk
    · rw [getv_set_ne h, updF_ne h] at hj
      by_cases h' : k = x
      · subst h'
        rw [updF_same]
        have nb := R.apart j b hj k hk
        intro z
        rcases List.mem_cons.mp z with rfl | z
        · exact nb aF
        · rcases hB b z with z | z
          · exact nb (by rw [hF]; exact List.mem_cons_of_mem _ z)
          · exact z ⟨j, hj⟩
      · rw [updF_ne h']
        exact R.apart j b hj k hk
  · have ne : b ≠ a := fun z => n (z ▸ own0)
    rw [upd_ne ne]
    exact x0.1 _ _ e l
  · by_cases h : b = a
    · subst h; rw [upd_same]; exact fun z => nomatch z
    · rw [upd_ne h]; exact x0.2 _ e
  · by_cases h : j = x
    · subst h
      rw [getv_set_same hi, updF_same] at z
      exact .inl ⟨j, ow' b z⟩
    · rw [getv_set_ne h, updF_ne h] at z
      exact .inl ⟨j, z⟩
  · by_cases h : j = x
    · subst h
      rw [updF_same] at z
      rcases List.mem_cons.mp z with rfl | z
      · exact .inl ⟨j, aF⟩
      · exact hf b z
    · rw [updF_ne h] at z
      exact .inl ⟨j, z⟩
/-- an own list at a name -/
theorem Rel.ownL {x : Nat} {ds : List D} (R : Rel c env σ H F) (hx : getv env x = some (.dat (.list ds) 1)) : ∃ a vs B, σ[x]? = some (some (.ref a)) ∧ F x = a :: B ∧ c.Live a ∧ H a = some (.lst vs) ∧ RepAll c H vs ds B ∧ a ∉ B ∧ a ∈ ownA (some (.dat (.list ds) 1)) (F x) ∧ (∀ vs, H a ≠ some (.tup vs)) ∧ Owned env F a := by
  have rp := R.rep x
  rw [hx] at rp
  obtain ⟨v, h1, h2⟩ := rp
  obtain ⟨a, vs, B, rfl, hF, la, ha, ra⟩ := h2.lst_inv
  have ow : a ∈ ownA (some (.dat (.list ds) 1)) (F x) := by rw [hF]; exact List.mem_cons_self ..
  have ct := R.one x a (by rw [hx]; exact ow)
  rw [hF, List.count_cons_self] at ct
  exact ⟨a, vs, B, h1, hF, la, ha, ra, List.count_eq_zero.mp (by omega), ow, (fun ws z => by rw [ha] at z; cases z), ⟨x, by rw [hx]; exact ow⟩⟩
theorem Rel.ownD {x : Nat} {kvs : List (D × D)} (R : Rel c env σ H F) (hx : getv env x = some (.dat (.dict kvs) 1)) : ∃ a B, σ[x]? = some (some (.ref a)) ∧ F x = a :: B ∧ c.Live a ∧ Rep c H (.ref a) (.dict kvs) (a :: B) ∧ a ∉ B ∧ (a :: B).count a = 1 ∧ a ∈ ownA (some (.dat (.dict kvs) 1)) (F x) ∧ (∀ vs, H a ≠ some (.tup vs)) ∧ Owned env F a := by
  have rp := R.rep x
  rw [hx] at rp
  obtain ⟨v, h1, h2⟩ := rp
  obtain ⟨a, es, B, rfl, hF, la, m, ⟨ep, ha⟩, z, re, n, g⟩ := id h2.dct_inv
  have ow : a ∈ ownA (some (.dat (.dict kvs) 1)) (F x) := by rw [hF]; exact List.mem_cons_self ..
  have ct := R.one x a (by rw [hx]; exact ow)
  rw [hF] at ct h2
  have nB : a ∉ B := by rw [List.count_cons_self] at ct; exact List.count_eq_zero.mp (by omega)
  exact ⟨a, B, h1, hF, la, h2, nB, ct, ow, (fun ws z => by rw [ha] at z; cases z), ⟨x, by rw [hx]; exact ow⟩⟩
theorem one_own {a : Addr} {d d0 : D} {B A0 : List Addr} (nB : a ∉ B) : ∀ b ∈ ownA (some (.dat d 1)) (a :: B), (a :: B).count b = 1 ∧ (b = a ∨ b ∈ A0) := fun b z => by
  have e : b = a := by simpa [ownA] using z
  subst e
  exact ⟨by rw [List.count_cons_self, List.count_eq_zero.mpr nB], .inl rfl⟩
/-- a list changed: its new items lean on the old ones and on G -/
theorem mut_list {x : Nat} {ds ds' : List D} {vs' : List V} {B' G : List Addr} (x0 : Ext c H1 H) (R : Rel c env σ H F) (sr : SrcAt c H s1) (hx : getv env x = some (.dat (.list ds) 1)) (a : Addr) (hσ : σ[x]? = some (some (.ref a))) (ra : RepAll c H vs' ds' B') (hB : ∀ b ∈ B', b ∈ F x ∧ b ≠ a ∨ b ∈ G) (hG : ∀ b ∈ G, ¬ Owned env F b) (hg : ∀ b ∈ G, (∃ j, b ∈ F j) ∨ H1 b = none) :
    ∃ F', Rel c (env.set x (some (.dat (.list ds') 1))) σ (upd H a (.lst vs')) F' ∧ Step c env F H1 (env.set x (some (.dat (.list ds') 1))) F' (upd H a (.lst vs')) ∧ SrcAt c (upd H a (.lst vs')) s1 := by
  obtain ⟨a', vs, B, h1, hF, la, ha, r0, nB, ow, nt, o0⟩ := R.ownL hx
  rw [hσ] at h1
  cases h1
  have nB' : a ∉ B' := fun z => (hB a z).elim (fun z => z.2 rfl) fun z => hG a z o0
  have rp : Rep c (upd H a (.lst vs')) (.ref a) (.list ds') (a :: B') := .lst la upd_same (ra.keep (kp_write ha (fun vs z => nomatch z) nB'))
  obtain ⟨R', st⟩ := Rel.mut (o' := 1) x0 R hx hσ hF ow nt rp (one_own (d0 := .none) nB') (fun b z => (hB b z).imp (fun z => by
      rw [hF] at z
      exact (List.mem_cons.mp z.1).resolve_left z.2) (hG b)) fun b z => (hB b z).elim (fun z => .inl ⟨x, z.1⟩) (hg b)
  exact ⟨_, R', st, sr.ext (upd_ne fun z => la.1 z.symm) (upd_ne fun z => la.2 z.symm)⟩
theorem mut_dict {x : Nat} {kvs kvs' : List (D × D)} {B' G : List Addr} {ho : HO} (x0 : Ext c H1 H) (R : Rel c env σ H F) (sr : SrcAt c H s1) (hx : getv env x = some (.dat (.dict kvs) 1)) (a : Addr) (hσ : σ[x]? = some (some (.ref a))) (rp : Rep c (upd H a ho) (.ref a) (.dict kvs') (a :: B')) (nB' : a ∉ B') (hB : ∀ b ∈ B', b ∈ F x ∨ b ∈ G) (hG : ∀ b ∈ G, ¬ Owned env F b) (hg : ∀ b ∈ G, (∃ j, b ∈ F j) ∨ H1 b = none) :
    ∃ F', Rel c (env.set x (some (.dat (.dict kvs') 1))) σ (upd H a ho) F' ∧ Step c env F H1 (env.set x (some (.dat (.dict kvs') 1))) F' (upd H a ho) ∧ SrcAt c (upd H a ho) s1 := by
  obtain ⟨a', B, h1, hF, la, r0, nB, ct, ow, nt, o0⟩ := R.ownD hx
  rw [hσ] at h1
  cases h1
  obtain ⟨R', st⟩ := Rel.mut (o' := 1) x0 R hx hσ hF ow nt rp (one_own (d0 := .none) nB') (fun b z => (hB b z).imp (fun y => by
      rw [hF] at y
      exact (List.mem_cons.mp y).resolve_left fun e => nB' (e ▸ z)) (hG b)) fun b z => (hB b z).elim (fun z => .inl ⟨x, z⟩) (hg b)
  exact ⟨_, R', st, sr.ext (upd_ne fun z => la.1 z.symm) (upd_ne fun z => la.2 z.symm)⟩

/-! ### x.append(e), x.extend(e) -/
theorem few1 {e : Expr} (ne : notStar e = true) {env : PySem.Env} {cpos : Pos} : ((backTo cpos (starEach [e] env)).all (fun x => !x.1) && (backToKw cpos (keywordEach [] env)).all (fun x => x.1.isSome)
      && decide (([e] : List Expr).length + ([] : List Keyword).length + (if ([] : List Keyword).isEmpty then 0 else 1) < 30)) = true := by
  rw [(few_ok (env := env) (cpos := cpos) (es := [e]) (by rw [List.all_cons, ne]; rfl)).1]
  rfl
theorem append_inv {x : Nat} {e : N.X} {S S1 : Src} {fl : Fl} (h : exec cf (.mut .append x e) env S = some (fl, S1)) : ∃ d o xs, ev cf e env S = some (.dat d o, S1) ∧ getv (kept env (al e) d) x = some (.dat (.list xs) 1) ∧ xs.length < LIM ∧ fl = .nx ((kept env (al e) d).set x (some (.dat (.list (xs ++ [d])) 1))) := by
  simp only [exec] at h
  obtain ⟨d, o, sa, e1, h⟩ := bD_inv h
  split at h
  · rename_i xs _ hg
    split at h
    · rename_i hl
      cases h
      exact ⟨_, o, xs, e1, hg, hl, rfl⟩
    · cases h
  all_goals first | contradiction | cases h
theorem extend_inv {x : Nat} {e : N.X} {S S1 : Src} {fl : Fl} (h : exec cf (.mut .extend x e) env S = some (fl, S1)) : ∃ o xs ys, ev cf e env S = some (.dat (.list ys) o, S1) ∧ getv (kept env (al e) (.list ys)) x = some (.dat (.list xs) 1) ∧ xs.length + ys.length ≤ LIM ∧ fl = .nx ((kept env (al e) (.list ys)).set x (some (.dat (.list (xs ++ ys)) 1))) := by
  simp only [exec] at h
  obtain ⟨d, o, sa, e1, h⟩ := bD_inv h
  split at h
  · contradiction
  · rename_i xs ys _ hg
    split at h
    · rename_i hl
      cases h
      exact ⟨o, xs, ys, e1, hg, hl, rfl⟩
    · cases h
  all_goals first | contradiction | cases h
theorem update_inv {x : Nat} {e : N.X} {S S1 : Src} {fl : Fl} (h : exec cf (.mut .update x e) env S = some (fl, S1)) : (∃ ps o kvs ls, ev cf e env S = some (.dat (.list ps) o, S1) ∧ getv (kept env (al e) (.list ps)) x = some (.dat (.dict kvs) 1) ∧ kvs.all (fun p => tkey p.1) = true ∧ dputsT kvs ps = some ls ∧ fl = .nx ((kept env (al e) (.list ps)).set x (some (.dat (.dict ls) 1)))) ∨
    ∃ qs o kvs, ev cf e env S = some (.dat (.dict qs) o, S1) ∧ getv (kept env (al e) (.dict qs)) x = some (.dat (.dict kvs) 1) ∧ kvs.all (fun p => tkey p.1) = true ∧ qs.all (fun p => tkey p.1) = true ∧ kvs.length + qs.length ≤ LIM ∧ fl = .nx ((kept env (al e) (.dict qs)).set x (some (.dat (.dict (qs.foldl (fun l p => dput l p.1 p.2) kvs)) 1))) := by
  simp only [exec] at h
  obtain ⟨d, o, sa, e1, h⟩ := bD_inv h
  split at h
  · contradiction
  · contradiction
  · rename_i kvs ps _ hg
    split at h
    · rename_i ht
      split at h
      · rename_i ls hl
        cases h
        exact .inl ⟨_, o, kvs, ls, e1, hg, ht, hl, rfl⟩
      · cases h
    · cases h
  · contradiction
  · contradiction
  · rename_i kvs qs _ hg
    split at h
    · rename_i ht
      simp only [Bool.and_eq_true, decide_eq_true_eq] at ht
      cases h
      exact .inr ⟨_, o, kvs, e1, hg, ht.1.1, ht.1.2, ht.2, rfl⟩
    · cases h
  · cases h
theorem popKey_inv {x : Nat} {e : N.X} {S S1 : Src} {fl : Fl} (h : exec cf (.mut .popKey x e) env S = some (fl, S1)) : ∃ d o, ev cf e env S = some (.dat d o, S1) ∧ ((∃ kvs, getv (kept env (al e) d) x = some (.dat (.dict kvs) 1) ∧ goes kvs d = true ∧ dhas kvs d = true ∧ fl = .nx ((kept env (al e) d).set x (some (.dat (.dict (dout kvs d)) 1)))) ∨
    ∃ xs j n, d = .int j ∧ getv (kept env (al e) d) x = some (.dat (.list xs) 1) ∧ L2.ixN xs.length j = some n ∧ xs.length ≤ LIM ∧ fl = .nx ((kept env (al e) d).set x (some (.dat (.list (xs.eraseIdx n)) 1)))) := by
  simp only [exec] at h
  obtain ⟨d, o, sa, e1, h⟩ := bD_inv h
  split at h
  · contradiction
  · contradiction
  · contradiction
  · rename_i kvs _ hg
    split at h
    · rename_i hl
      rw [Bool.and_eq_true] at hl
      cases h
      exact ⟨_, o, e1, .inl ⟨kvs, hg, hl.1, hl.2, rfl⟩⟩
    · cases h
  · rename_i xs j _ hg
    split at h
    · rename_i n hl
      split at h
      · cases h
      · rename_i hz
        cases h
        exact ⟨_, o, e1, .inr ⟨xs, j, n, rfl, hg, hl, by omega, rfl⟩⟩
    · cases h
  · contradiction
  · cases h
theorem s_append {i : Nat} {x : Str} {e : N.X} {xe : Expr} {p apos cpos pos : Pos} (hN : X.N[i]? = some x) (hv : Vis X.env.scope x) (hd : (x == ("__debug__" : Str)) = false) (hcd : (x == ("__classdict__" : Str)) = false) (he : PE X xe (rd c cf e)) (ne : notStar xe = true) (hl : (apos.endLine == cpos.line) = true) :
    PS X (.Expr (.Call (.Attribute (.Name x p) "append" apos) [xe] [] cpos) pos) (rdS c cf (.mut .append i e)) :=
  ps_weak (ps_expr (pe_bm PySem.F.plainAttrs_list PySem.F.slot_list_append PySem.F.type_list_append mt_append (pe_var hN hv hd hcd) (pa_cons he pa_nil (star_no ne _ _)) (base_ok _ rfl) (few1 ne) hl (star_no ne _ _) rfl) (swap_no rfl none pos.line X.env)) fun De σ H ⟨env, F, S, fl, S1, R, s, ee, q⟩ => by
    obtain ⟨d, o, xs, e1, hg, hlen, rfl⟩ := append_inv ee
    obtain ⟨a, vs, B, h1, hF, la, ha, ra, nB, ow, nt, o0⟩ := (R.kept (al := al e) (d := d)).ownL hg
    refine ⟨_, h1, .inl ⟨rfl, vs, .of ha⟩, env, F, S, _, _, R, s, e1, fun y H1 G vl sr => ?_⟩
    have Rk : Rel c (kept env (al e) d) σ H1 F := (R.ext vl.ext).kept
    have ha1 := vl.ext.1 _ _ ha la
    refine ⟨a, vs, y, rfl, rfl, ha1, by rw [ra.length, ← lim_eq]; exact hlen, ?_⟩
    have hB : ∀ b ∈ B ++ (G ++ []), b ∈ F i ∧ b ≠ a ∨ b ∈ G := fun b z => by
      rw [List.append_nil] at z
      exact (List.mem_append.mp z).imp (fun z => ⟨by rw [hF]; exact List.mem_cons_of_mem _ z, fun e => nB (e ▸ z)⟩) id
    obtain ⟨F', R', st, sr'⟩ := mut_list vl.ext Rk sr hg a h1 ((ra.ext vl.ext).append (.cons vl.get .nil)) hB (kept_val R vl) fun b z => (vl.foot b z).elim .inr fun ⟨j, _, w⟩ => .inl ⟨j, w⟩
    exact q σ _ F' R' (kept_step.trans st) sr'
theorem s_extend {i : Nat} {x : Str} {e : N.X} {xe : Expr} {p apos cpos pos : Pos} (hN : X.N[i]? = some x) (hv : Vis X.env.scope x) (hd : (x == ("__debug__" : Str)) = false) (hcd : (x == ("__classdict__" : Str)) = false) (he : PE X xe (rd c cf e)) (ne : notStar xe = true) (hl : (apos.endLine == cpos.line) = true) :
    PS X (.Expr (.Call (.Attribute (.Name x p) "extend" apos) [xe] [] cpos) pos) (rdS c cf (.mut .extend i e)) :=
  ps_weak (ps_expr (pe_bm PySem.F.plainAttrs_list PySem.F.slot_list_extend PySem.F.type_list_extend mt_extend (pe_var hN hv hd hcd) (pa_cons he pa_nil (star_no ne _ _)) (base_ok _ rfl) (few1 ne) hl (star_no ne _ _) rfl) (swap_no rfl none pos.line X.env)) fun De σ H ⟨env, F, S, fl, S1, R, s, ee, q⟩ => by
    obtain ⟨o, xs, ys, e1, hg, hlen, rfl⟩ := extend_inv ee
    obtain ⟨a, vs, B, h1, hF, la, ha, ra, nB, ow, nt, o0⟩ := (R.kept (al := al e) (d := .list ys)).ownL hg
    refine ⟨_, h1, .inl ⟨rfl, vs, .of ha⟩, env, F, S, _, _, R, s, e1, fun y H1 G vl sr => ?_⟩
    have Rk : Rel c (kept env (al e) (.list ys)) σ H1 F := (R.ext vl.ext).kept
    have ha1 := vl.ext.1 _ _ ha la
    obtain ⟨b, ws, C, rfl, rfl, lb, hb, rb⟩ := id vl.get.lst_inv
    refine ⟨a, b, vs, ws, rfl, rfl, ha1, hb, by rw [ra.length, rb.length, ← lim_eq]; exact hlen, ?_⟩
    have hB : ∀ z ∈ B ++ C, z ∈ F i ∧ z ≠ a ∨ z ∈ C := fun z w => (List.mem_append.mp w).imp (fun w => ⟨by rw [hF]; exact List.mem_cons_of_mem _ w, fun e => nB (e ▸ w)⟩) id
    obtain ⟨F', R', st, sr'⟩ := mut_list vl.ext Rk sr hg a h1 ((ra.ext vl.ext).append rb) hB (fun z w => kept_val R vl z (List.mem_cons_of_mem _ w)) fun z w => (vl.foot z (List.mem_cons_of_mem _ w)).elim .inr fun ⟨j, _, w⟩ => .inl ⟨j, w⟩
    exact q σ _ F' R' (kept_step.trans st) sr'

/-! ### targets = x.pop() -/
theorem pop_inv {t : T} {x : Nat} {S S1 : Src} {fl : Fl} (h : exec cf (.pop t x) env S = some (fl, S1)) : ∃ xs d env1, getv env x = some (.dat (.list xs) 1) ∧ xs.getLast? = some d ∧ bindT t d (env.set x (some (.dat (.list xs.dropLast) 1))) = some env1 ∧ fl = .nx env1 ∧ S1 = S := by
  simp only [exec] at h
  split at h
  · rename_i xs hg
    split at h
    · rename_i d hl
      split at h
      · rename_i env1 hb
        cases h
        exact ⟨xs, d, env1, hg, hl, hb, rfl, rfl⟩
      · cases h
    · cases h
  · cases h
theorem s_pop {t : T} {i : Nat} {x : Str} {tg : Expr} {p apos cpos pos : Pos} (hN : X.N[i]? = some x) (hv : Vis X.env.scope x) (hd : (x == ("__debug__" : Str)) = false) (hcd : (x == ("__classdict__" : Str)) = false) (hg : PG X tg (gT c t)) (hl : (apos.endLine == cpos.line) = true) (nt : notStar tg = true) :
    PS X (.Assign [tg] (.Call (.Attribute (.Name x p) "pop" apos) [] [] cpos) pos) (rdS c cf (.pop t i)) :=
  ps_weak (ps_asg (pe_bm0 PySem.F.plainAttrs_list PySem.F.slot_list_pop PySem.F.type_list_pop mt_pop (pe_var hN hv hd hcd) (base_ok _ rfl) hl) hg (hw := by cases tg <;> rfl) (h1 := by cases tg <;> first | rfl | cases nt)) fun De σ H ⟨env, F, S, fl, S1, R, s, ee, q⟩ => by
    obtain ⟨xs, d, env1, hg, hlast, hb, rfl, rfl⟩ := pop_inv ee
    obtain ⟨a, vs, B, h1, hF, la, ha, ra, nB, ow, nt, o0⟩ := R.ownL hg
    have hx : xs[xs.length - 1]? = some d := by rw [← List.getLast?_eq_getElem?]; exact hlast
    obtain ⟨y, C, hy, rd0, sb⟩ := ra.getS hx
    have hvl : vs.length = xs.length := ra.length
    obtain ⟨B', rb, sb'⟩ := ra.take (xs.length - 1)
    refine ⟨_, h1, .inl ⟨rfl, vs, .of ha⟩, a, vs, y, rfl, rfl, ha, by rw [hvl]; exact hy, ?_⟩
    have e1 : vs.dropLast = vs.take (xs.length - 1) := by rw [List.dropLast_eq_take, hvl]
    have e2 : xs.dropLast = xs.take (xs.length - 1) := List.dropLast_eq_take
    rw [← e1, ← e2] at rb
    have nC : a ∉ C := fun z => nB (sb.subset z)
    obtain ⟨F', R', st, sr'⟩ := mut_list (G := []) Ext.refl R s hg a h1 rb (fun b z => .inl ⟨by rw [hF]; exact List.mem_cons_of_mem _ (sb'.subset z), fun e => nB (sb'.subset (e ▸ z))⟩) (fun _ z => (nomatch z)) fun _ z => (nomatch z)
    have noC : ∀ b ∈ C, ¬ Owned (env.set i (some (.dat (.list xs.dropLast) 1))) F' b := fun b z w => by
      have bF : b ∈ F i := by rw [hF]; exact List.mem_cons_of_mem _ (sb.subset z)
      rcases st.own b w with ⟨j, w2⟩ | w2
      · by_cases h : j = i
        · subst h
          rw [hg, hF] at w2
          have e : b = a := by simpa [ownA] using w2
          exact nC (e ▸ z)
        · exact R.apart j b w2 i (Ne.symm h) bF
      · exact foot_n R bF w2
    refine ⟨_, F', d, C, env1, R', rd0.keep (kp_write ha (fun vs z => nomatch z) nC), noC, hb, fun σ' F'' b => ?_⟩
    exact q σ' _ F'' b.rel ⟨st.frame, st.tr, fun z w => st.own z (b.own z w), fun j z w => (b.foot j z w).elim (fun w => st.foot j z w.2) fun w => .inl ⟨i, by rw [hF]; exact List.mem_cons_of_mem _ (sb.subset w)⟩⟩ sr'
end
end N
/-! N23. x.pop(k), d.update(..), x[k] = v. -/
namespace N
open PySem PySem.Spec PyProof.Rows L2

section
variable {c : Cfg} {cf : CF} {Γ : Ct} {X : Cx} {F F' : Foot} {env env' : Env} {σ : L2.St} {H H1 H2 H3 : Hp} {s1 s2 : Src}
/-- d.pop(k) -/
def rPopD (c : Cfg) : V → List V → Hp → VK → Prop := fun x xs H Q => ∃ a kvs B y k d, x = .ref a ∧ xs = [y] ∧ Rep c H (.ref a) (.dict kvs) (a :: B) ∧ (a :: B).count a = 1 ∧ Rep c H y k [] ∧ goes kvs k = true ∧ dget kvs k = some d ∧
  ∀ es' ep' B' v C, Rep c (upd H a (DO a es' ep')) (.ref a) (.dict (dout kvs k)) (a :: B') → Rep c H v d C → C.Sublist (a :: B) → a ∉ C → (∀ x ∈ B', x ∈ a :: B) → a ∉ B' → Q v (upd H a (DO a es' ep'))
theorem mt_popD (hu : X.A.units + 20 < cLine) (hp : X.prog = c.prog) (hw : X.w = c.w) : MtR X "dict.pop" (rPopD c) := by
  intro pins s σ H x xs v us Q I rx r ⟨a, kvs, B, y, k, d, e1, e2, rd0, ct, rk, g, hd, q⟩
  subst e1 e2
  cases rx
  obtain ⟨u, rfl, ru⟩ := vals1 r
  exact d_popK hu I hp hw rd0 ct rk ru g hd fun w' v s' es' ep' B' C wr rv rp sb nC sub nB => ⟨v, _, wr.inv, rv, q es' ep' B' v C wr.rep rp sb nC sub nB⟩
/-- a method of a list or of a dict that stands -/
theorem pe_ld {o e : Expr} {es : List Expr} {to : TE} {t : TA} {name : Str} {apos cpos : Pos} {id id' : String} {r r' : V → List V → Hp → VK → Prop} (slot : PySem.Slot "dict" name id) (hty : typeOf (.builtin id) = pure (.type "method_descriptor")) (hm : MtR X id r)
    (slot' : PySem.Slot "list" name id') (hty' : typeOf (.builtin id') = pure (.type "method_descriptor")) (hm' : MtR X id' r') (ho : PE X o to) (ha : PA X (e :: es) t)
    (hbase : attributeBase o name X.env (eval o X.env) = eval o X.env)
    (hfew : ((backTo cpos (starEach (e :: es) X.env)).all (fun x => !x.1) && (backToKw cpos (keywordEach [] X.env)).all (fun x => x.1.isSome)
      && decide ((e :: es).length + ([] : List Keyword).length + (if ([] : List Keyword).isEmpty then 0 else 1) < 30)) = true)
    (hline : (apos.endLine == cpos.line) = true) (hs : starEach (e :: es) X.env = (false, eval e X.env) :: starEach es X.env) (hplain : (backTo cpos (starEach es X.env)).any (·.1) = false) :
    PE X (.Call (.Attribute o name apos) (e :: es) [] cpos) (fun σ H Q => to σ H fun x H1 => ((∃ kvs A, Rep c H1 x (.dict kvs) A) ∧ t σ H1 fun xs H2 => r x xs H2 Q) ∨ ((∃ ds A, Rep c H1 x (.list ds) A) ∧ t σ H1 fun xs H2 => r' x xs H2 Q)) := by
  refine ⟨fun pins s σ H Q I h => ?_⟩
  refine wpAny_Call_method_late hbase hfew hline rfl (thn (ho.run pins s σ H _ I h) fun v s1 ⟨x, H1, I1, r1, q1⟩ => ?_)
  rcases q1 with ⟨⟨kvs, A, rp⟩, q1⟩ | ⟨⟨ds, A, rp⟩, q1⟩
  · obtain ⟨a, es0, B, rfl, rfl, la, m, ⟨ep, ha0⟩, z, re, _⟩ := rp.dct_inv
    obtain rfl : v = Value.ref a := r1
    have hr := raw_of I1 ha0
    refine ⟨"dict", id, PySem.F.plainAttrs_dict, slot, hty, hr.typeIs, fun b e => (by cases e; obtain ⟨o, h1, h2, _⟩ := hr; exact ⟨o, h1, h2.2.1⟩), ?_⟩
    have hA := ha.run cpos pins s1 σ H1 _ I1 q1
    rw [hs] at hA ⊢
    refine Calls.callWith_builtin (by show (false || (backTo cpos (starEach es X.env)).any (·.1)) = false; rw [hplain] <;> rfl) (Calls.evalArgs_plain ?_)
    exact thn hA fun us s2 ⟨vs, H2, I2, r2, q2⟩ => hm pins s2 σ H2 (.ref a) vs _ us Q I2 rfl r2 q2
  · obtain ⟨a, vs0, B, rfl, rfl, la, ha0, ra⟩ := rp.lst_inv
    obtain rfl : v = Value.ref a := r1
    obtain ⟨hz, its, n, hv, he⟩ := (show ObjOk X.prog X.w H1 s1.heap a (.lst vs0) from I1.hok a _ ha0)
    refine ⟨"list", id', PySem.F.plainAttrs_list, slot', hty', ⟨_, he, rfl⟩, fun b e => (by cases e; exact ⟨_, he, rfl⟩), ?_⟩
    have hA := ha.run cpos pins s1 σ H1 _ I1 q1
    rw [hs] at hA ⊢
    refine Calls.callWith_builtin (by show (false || (backTo cpos (starEach es X.env)).any (·.1)) = false; rw [hplain] <;> rfl) (Calls.evalArgs_plain ?_)
    exact thn hA fun us s2 ⟨vs, H2, I2, r2, q2⟩ => hm' pins s2 σ H2 (.ref a) vs _ us Q I2 rfl r2 q2
theorem ixN_popAt {n : Nat} {i : Int} {j : Nat} (h : ixN n i = some j) (hz : n ≤ LIM) : -(2 ^ 63) ≤ i ∧ i < 2 ^ 63 ∧ seqIndex? i n = some j ∧ j < n := by
  obtain ⟨h1, h2, h3, h4⟩ := ixN_seq h
  have e : LIM = 16777216 := rfl
  exact ⟨by omega, by omega, h1, h2⟩
theorem RepAll.erase {vs : List V} {ds : List D} {A : List Addr} (r : RepAll c H vs ds A) (n : Nat) : ∃ B, RepAll c H (vs.eraseIdx n) (ds.eraseIdx n) B ∧ ∀ b ∈ B, b ∈ A := by
  obtain ⟨B1, r1, s1⟩ := r.take n
  obtain ⟨B2, r2, s2⟩ := r.drop (n + 1)
  rw [List.eraseIdx_eq_take_drop_succ, List.eraseIdx_eq_take_drop_succ]
  exact ⟨B1 ++ B2, r1.append r2, fun b z => (List.mem_append.mp z).elim (fun z => s1.subset z) fun z => s2.subset z⟩
theorem s_popKey {i : Nat} {x : Str} {e : N.X} {xe : Expr} {p apos cpos pos : Pos} (g : Gd c cf Γ X) (hN : X.N[i]? = some x) (hv : Vis X.env.scope x) (hd : (x == ("__debug__" : Str)) = false) (hcd : (x == ("__classdict__" : Str)) = false) (he : PE X xe (rd c cf e)) (ne : notStar xe = true) (hl : (apos.endLine == cpos.line) = true) :
    PS X (.Expr (.Call (.Attribute (.Name x p) "pop" apos) [xe] [] cpos) pos) (rdS c cf (.mut .popKey i e)) := by
  have hu := g.hu
  refine ps_weak (ps_expr (pe_ld (c := c) PySem.F.slot_dict_pop PySem.F.type_dict_pop (mt_popD (c := c) (by omega) g.hp g.hw) PySem.F.slot_list_pop PySem.F.type_list_pop mt_popAt (pe_var hN hv hd hcd) (pa_cons he pa_nil (star_no ne _ _)) (base_ok _ rfl) (few1 ne) hl (star_no ne _ _) rfl) (swap_no rfl none pos.line X.env)) fun De σ H ⟨env, F, S, fl, S1, R, s, ee, q⟩ => ?_
  obtain ⟨d, o, e1, hh⟩ := popKey_inv ee
  rcases hh with ⟨kvs, hg, gk, hk, rfl⟩ | ⟨xs, j, n, rfl, hg, hn, hz0, rfl⟩
  · obtain ⟨a, B, h1, hF, la, r0, nB, ct, ow, nt, o0⟩ := (R.kept (al := al e) (d := d)).ownD hg
    refine ⟨_, h1, .inl ⟨⟨kvs, _, r0⟩, env, F, S, _, _, R, s, e1, fun y H1 G vl sr => ?_⟩⟩
    have Rk : Rel c (kept env (al e) d) σ H1 F := (R.ext vl.ext).kept
    have hi := imm_of_goes gk
    have eG : G = [] := vl.get.imm hi
    subst eG
    obtain ⟨d', hd'⟩ := Option.isSome_iff_exists.mp (show (dget kvs d).isSome = true by rw [dget_has]; exact hk)
    refine ⟨a, kvs, B, y, d, d', rfl, rfl, r0.ext vl.ext, ct, vl.get, gk, hd', fun es' ep' B' v C rp rv sb nC sub nB' => ?_⟩
    obtain ⟨F', R', st, sr'⟩ := mut_dict (G := []) vl.ext Rk sr hg a h1 rp nB' (fun b z => .inl (by rw [hF]; exact sub b z)) (fun _ z => (nomatch z)) fun _ z => (nomatch z)
    exact q σ _ F' R' (kept_step.trans st) sr'
  · obtain ⟨a, vs, B, h1, hF, la, ha, ra, nB, ow, nt, o0⟩ := (R.kept (al := al e) (d := .int j)).ownL hg
    refine ⟨_, h1, .inr ⟨⟨xs, _, .lst la ha ra⟩, env, F, S, _, _, R, s, e1, fun y H1 G vl sr => ?_⟩⟩
    have Rk : Rel c (kept env (al e) (.int j)) σ H1 F := (R.ext vl.ext).kept
    obtain ⟨rfl, rfl⟩ := vl.get.int_inv
    have ha1 := vl.ext.1 _ _ ha la
    obtain ⟨k1, k2, k3, k4⟩ := ixN_popAt hn hz0
    have hvl : vs.length = xs.length := ra.length
    obtain ⟨z, hz⟩ : ∃ z, vs[n]? = some z := ⟨vs[n]'(by omega), List.getElem?_eq_getElem (by omega)⟩
    refine ⟨a, vs, j, n, z, rfl, rfl, ha1, k1, k2, by rw [hvl]; exact k3, hz, ?_⟩
    obtain ⟨B', rb, sb'⟩ := (ra.ext vl.ext).erase n
    obtain ⟨F', R', st, sr'⟩ := mut_list (G := []) vl.ext Rk sr hg a h1 rb (fun b z => .inl ⟨by rw [hF]; exact List.mem_cons_of_mem _ (sb' b z), fun e => nB (sb' a (e ▸ z))⟩) (fun _ z => (nomatch z)) fun _ z => (nomatch z)
    exact q σ _ F' R' (kept_step.trans st) sr'

theorem popAt_inv {t : T} {x : Nat} {e : N.X} {S S1 : Src} {fl : Fl} (h : exec cf (.popAt t x e) env S = some (fl, S1)) : ∃ j o xs n d env1, ev cf e env S = some (.dat (.int j) o, S1) ∧ getv env x = some (.dat (.list xs) 1) ∧ xs.length ≤ LIM ∧ L2.ixN xs.length j = some n ∧ xs[n]? = some d ∧ bindT t d (env.set x (some (.dat (.list (xs.eraseIdx n)) 1))) = some env1 ∧ fl = .nx env1 := by
  simp only [exec] at h
  obtain ⟨d, o, sa, e1, h⟩ := bD_inv h
  split at h
  · rename_i xs j hg
    split at h
    · cases h
    · rename_i hz
      split at h
      · rename_i n hn
        split at h
        · rename_i d hd
          split at h
          · rename_i env1 hb
            cases h
            exact ⟨j, o, xs, n, d, env1, e1, hg, by omega, hn, hd, hb, rfl⟩
          · cases h
        · cases h
      · cases h
  · cases h
theorem s_popAt {t : T} {i : Nat} {x : Str} {e : N.X} {tg xe : Expr} {p apos cpos pos : Pos} (hN : X.N[i]? = some x) (hv : Vis X.env.scope x) (hd : (x == ("__debug__" : Str)) = false) (hcd : (x == ("__classdict__" : Str)) = false) (he : PE X xe (rd c cf e)) (ne : notStar xe = true) (hg : PG X tg (gT c t)) (hl : (apos.endLine == cpos.line) = true) (nt : notStar tg = true) :
    PS X (.Assign [tg] (.Call (.Attribute (.Name x p) "pop" apos) [xe] [] cpos) pos) (rdS c cf (.popAt t i e)) :=
  ps_weak (ps_asg (pe_bm PySem.F.plainAttrs_list PySem.F.slot_list_pop PySem.F.type_list_pop mt_popAt (pe_var hN hv hd hcd) (pa_cons he pa_nil (star_no ne _ _)) (base_ok _ rfl) (few1 ne) hl (star_no ne _ _) rfl) hg (hw := by cases tg <;> rfl) (h1 := by cases tg <;> first | rfl | cases nt)) fun De σ H ⟨env, F, S, fl, S1, R, s, ee, q⟩ => by
    obtain ⟨j, o, xs, n, d, env1, e1, hg, hz0, hn, hx, hb, rfl⟩ := popAt_inv ee
    obtain ⟨a, vs, B, h1, hF, la, ha, ra, nB, ow, nt, o0⟩ := R.ownL hg
    refine ⟨_, h1, .inl ⟨rfl, vs, .of ha⟩, env, F, S, _, _, R, s, e1, fun yj H1 G vl sr => ?_⟩
    obtain ⟨rfl, rfl⟩ := vl.get.int_inv
    have R1 := R.ext vl.ext
    have ha1 := vl.ext.1 _ _ ha la
    have ra1 := ra.ext vl.ext
    obtain ⟨y, C, hy, rd0, sb⟩ := ra1.getS hx
    have hvl : vs.length = xs.length := ra.length
    obtain ⟨k1, k2, k3, k4⟩ := ixN_popAt hn hz0
    obtain ⟨B', rb, sb'⟩ := ra1.erase n
    refine ⟨a, vs, j, n, y, rfl, rfl, ha1, k1, k2, by rw [hvl]; exact k3, hy, ?_⟩
    have nC : a ∉ C := fun z => nB (sb.subset z)
    obtain ⟨F', R', st, sr'⟩ := mut_list (G := []) vl.ext R1 sr hg a h1 rb (fun b z => .inl ⟨by rw [hF]; exact List.mem_cons_of_mem _ (sb' b z), fun e => nB (sb' a (e ▸ z))⟩) (fun _ z => (nomatch z)) fun _ z => (nomatch z)
    have noC : ∀ b ∈ C, ¬ Owned (env.set i (some (.dat (.list (xs.eraseIdx n)) 1))) F' b := fun b z w => by
      have bF : b ∈ F i := by rw [hF]; exact List.mem_cons_of_mem _ (sb.subset z)
      rcases st.own b w with ⟨k, w2⟩ | w2
      · by_cases h : k = i
        · subst h
          rw [hg, hF] at w2
          have e : b = a := by simpa [ownA] using w2
          exact nC (e ▸ z)
        · exact R.apart k b w2 i (Ne.symm h) bF
      · exact foot_n R bF w2
    refine ⟨_, F', d, C, env1, R', rd0.keep (kp_write ha1 (fun vs z => nomatch z) nC), noC, hb, fun σ' F'' b => ?_⟩
    exact q σ' _ F'' b.rel ⟨st.frame, st.tr, fun z w => st.own z (b.own z w), fun k z w => (b.foot k z w).elim (fun w => st.foot k z w.2) fun w => .inl ⟨i, by rw [hF]; exact List.mem_cons_of_mem _ (sb.subset w)⟩⟩ sr'
end
end N
/-! N24. x[k] = v, x op= e, d.update(..). -/
namespace N
open PySem PySem.Spec PyProof.Rows L2

section
variable {c : Cfg} {cf : CF} {Γ : Ct} {X : Cx} {F F' : Foot} {env env' : Env} {σ : L2.St} {H H1 H2 H3 : Hp} {s1 s2 : Src}
def rSetDD (c : Cfg) : V → V → V → Hp → (Hp → Prop) → Prop := fun o i v H Q => ∃ a kvs k d B C, o = .ref a ∧ Rep c H (.ref a) (.dict kvs) (a :: B) ∧ (a :: B).count a = 1 ∧ a ∉ C ∧ Rep c H i k [] ∧ Rep c H v d C ∧ goes kvs k = true ∧ (dput kvs k d).length ≤ LIM ∧
  ∀ es' ep' B', Rep c (upd H a (DO a es' ep')) (.ref a) (.dict (dput kvs k d)) (a :: B') → (∀ x ∈ B', x ∈ a :: B ∨ x ∈ C) → a ∉ B' → Q (upd H a (DO a es' ep'))
theorem set_dd (hu : X.A.units + 20 < cLine) (hp : X.prog = c.prog) (hw : X.w = c.w) : PSet X (rSetDD c) := by
  intro pins s σ H o i v ov iv u Q I ro ri rv ⟨a, kvs, k, d, B, C, e1, rd0, ct, nC, rk, rd1, g, hl, q⟩
  subst e1
  cases ro
  exact d_set hu I hp hw rd0 ct nC rk ri rd1 rv g hl fun s' es' ep' B' wr sub nB => ⟨_, wr.inv, q es' ep' B' wr.rep sub nB⟩
theorem set_or {t t' : TSet} (h : PSet X t) (h' : PSet X t') : PSet X (fun o i v H Q => t o i v H Q ∨ t' o i v H Q) := by
  intro pins s σ H o i v ov iv u Q I ro ri rv q
  rcases q with q | q
  · exact h pins s σ H o i v ov iv u Q I ro ri rv q
  · exact h' pins s σ H o i v ov iv u Q I ro ri rv q
theorem putD_out {x : Nat} {k v : D} {o : Nat} {env1 : Env} (h : putD env x k v o = some env1) : (∃ kvs, getv env x = some (.dat (.dict kvs) 1) ∧ goes kvs k = true ∧ (dput kvs k v).length ≤ LIM ∧ env1 = env.set x (some (.dat (.dict (dput kvs k v)) 1))) ∨
    ∃ xs i j, k = .int i ∧ getv env x = some (.dat (.list xs) 1) ∧ L2.ixN xs.length i = some j ∧ env1 = env.set x (some (.dat (.list (xs.set j v)) 1)) := by
  unfold putD at h
  split at h
  · rename_i kvs hg
    split at h
    · rename_i g
      simp only [Bool.and_eq_true, decide_eq_true_eq] at g
      cases h
      exact .inl ⟨kvs, hg, g.1, g.2, rfl⟩
    · cases h
  · rename_i xs hg
    split at h
    · rename_i i
      split at h
      · rename_i j hj
        cases h
        exact .inr ⟨xs, i, j, rfl, hg, hj, rfl⟩
      · cases h
    · cases h
  · cases h
theorem RepAll.setAt {vs : List V} {ds : List D} {A G : List Addr} {v : V} {d : D} (r : RepAll c H vs ds A) (rd : Rep c H v d G) (j : Nat) : ∃ B, RepAll c H (vs.set j v) (ds.set j d) B ∧ ∀ b ∈ B, b ∈ A ∨ b ∈ G := by
  induction vs generalizing ds A j with
  | nil => cases r; exact ⟨[], .nil, fun _ z => (nomatch z)⟩
  | cons w ws ih =>
    cases r with
    | cons r1 r2 =>
      cases j with
      | zero => exact ⟨_, .cons rd r2, fun b z => (List.mem_append.mp z).elim .inr fun z => .inl (List.mem_append_right _ z)⟩
      | succ j =>
        obtain ⟨B, q1, q2⟩ := ih r2 j
        exact ⟨_, .cons r1 q1, fun b z => (List.mem_append.mp z).elim (fun z => .inl (List.mem_append_left _ z)) fun z => (q2 b z).imp (List.mem_append_right _) id⟩
/-- a store into an own container: the step -/
theorem put_end {i : Nat} {kd d : D} {o : Nat} {env0 env1 : Env} {S1 : Src} {v ik : V} {G : List Addr} {Q : Hp → Prop} (x0 : Ext c H H1) (R : Rel c env0 σ H1 F) (sr : SrcAt c H1 S1) (rk : Rep c H1 ik kd []) (rv : Rep c H1 v d G) (no : ∀ b ∈ G, ¬ Owned env0 F b) (ft : ∀ b ∈ G, (∃ j, b ∈ F j) ∨ H b = none) (hp : putD env0 i kd d o = some env1)
    (q : ∀ H' F', Rel c env1 σ H' F' → Step c env0 F H env1 F' H' → SrcAt c H' S1 → Q H') : ∃ a, σ[i]? = some (some (.ref a)) ∧ (rSetDD c (.ref a) ik v H1 Q ∨ rSetL (.ref a) ik v H1 Q) := by
  rcases putD_out hp with ⟨kvs, hg, gk, hl, rfl⟩ | ⟨xs, n, j, rfl, hg, hj, rfl⟩
  · obtain ⟨a, B, h1, hF, la, r0, nB, ct, ow, nt, o0⟩ := R.ownD hg
    refine ⟨a, h1, .inl ⟨a, kvs, kd, d, B, G, rfl, r0, ct, fun z => no a z o0, rk, rv, gk, hl, fun es' ep' B' rp sub nB' => ?_⟩⟩
    obtain ⟨F', R', st, sr'⟩ := mut_dict (G := G) x0 R sr hg a h1 rp nB' (fun b z => (sub b z).imp (fun z => by rw [hF]; exact z) id) no ft
    exact q _ F' R' st sr'
  · obtain ⟨a, vs, B, h1, hF, la, ha, ra, nB, ow, nt, o0⟩ := R.ownL hg
    obtain ⟨rfl, _⟩ := rk.int_inv
    obtain ⟨B', rb, sb⟩ := ra.setAt rv j
    refine ⟨a, h1, .inr ⟨a, vs, n, j, rfl, rfl, ha, by rw [ra.length]; exact hj, ?_⟩⟩
    obtain ⟨F', R', st, sr'⟩ := mut_list (G := G) x0 R sr hg a h1 rb (fun b z => (sb b z).imp (fun z => ⟨by rw [hF]; exact List.mem_cons_of_mem _ z, fun e => nB (e ▸ z)⟩) id) no ft
    exact q _ F' R' st sr'
theorem putD_imm {x : Nat} {k v : D} {o : Nat} {env1 : Env} (h : putD env x k v o = some env1) : imm k = true := by
  rcases putD_out h with ⟨kvs, _, g, _⟩ | ⟨xs, i, j, rfl, _⟩
  · exact imm_of_goes g
  · rfl
def sub_ok (xk : Expr) : Bool := match xk with
  | .Slice _ _ _ _ => false
  | .Starred _ _ => false
  | _ => true
theorem sub_set {xk : Expr} (h : sub_ok xk = true) {o : Expr} {p2 : Pos} (env : PySem.Env) (v : Value) : assign (.Subscript o xk p2) env v = (do
      let ov ← holding [v] (eval o env)
      let iv ← holding [v, ov] (eval xk env)
      standAt p2
      holding [v, ov, iv] (setItem ov iv v)
      release [v, ov, iv] []) := by cases xk <;> first | rfl | (cases h)
theorem s_asg_sb {i : Nat} {x : Str} {k e : N.X} {xk xe : Expr} {p p2 pos : Pos} (g : Gd c cf Γ X) (hN : X.N[i]? = some x) (hv : Vis X.env.scope x) (hd : (x == ("__debug__" : Str)) = false) (hcd : (x == ("__classdict__" : Str)) = false) (hk : PE X xk (rd c cf k)) (he : PE X xe (rd c cf e))
    (nc : isComp xe = false) (so : sub_ok xk = true) : PS X (.Assign [.Subscript (.Name x p) xk p2] xe pos) (rdS c cf (.asg (.sb i k) e)) := by
  have hu := g.hu
  refine ps_weak (ps_asg he (pg_sub (pe_var hN hv hd hcd) hk (set_or (set_dd (c := c) (by omega) g.hp g.hw) set_list) (sub_set so X.env)) (swap_no nc (some (.Subscript (.Name x p) xk p2)) pos.line X.env)) fun De σ H ⟨env, F, S, fl, S1, R, s, ee, q⟩ => ?_
  simp only [exec] at ee
  obtain ⟨d, o, sa, e1, ee⟩ := bD_inv ee
  split at ee
  · rename_i env1 s2 es
    cases ee
    simp only [store] at es
    obtain ⟨kd, ok, sk, ek, es⟩ := bD_inv es
    split at es
    · rename_i env2 hp
      cases es
      refine ⟨env, F, S, _, _, R, s, e1, fun v H1 G vl sr => ?_⟩
      have Rk0 : Rel c (kept env (alK env (al e) d o) d) σ H1 F := (R.ext vl.ext).kept
      have hx : ∃ r, σ[i]? = some (some r) := by
        rcases putD_out hp with ⟨kvs, hg, _⟩ | ⟨xs, n, j, _, hg, _⟩
        · obtain ⟨a, _, h1, _⟩ := Rk0.ownD hg; exact ⟨_, h1⟩
        · obtain ⟨a, _, _, h1, _⟩ := Rk0.ownL hg; exact ⟨_, h1⟩
      obtain ⟨r0, hr0⟩ := hx
      refine ⟨r0, hr0, env, F, _, _, _, R.ext vl.ext, sr, ek, fun ik H2 Gk vk sr2 => ?_⟩
      have gk : Gk = [] := vk.get.imm (putD_imm hp)
      subst gk
      have Rk : Rel c (kept env (alK env (al e) d o) d) σ H2 F := ((R.ext vl.ext).ext vk.ext).kept
      obtain ⟨a, h1, hq⟩ := put_end (Q := fun H3 => De.nx σ H3) (vl.ext.trans vk.ext) Rk sr2 vk.get (vl.get.ext vk.ext) (kept_val R (val_alK vl)) (fun b z => (vl.foot b z).elim .inr fun ⟨j, _, w⟩ => .inl ⟨j, w⟩) hp fun H' F' R' st sr' => q σ H' F' R' (kept_step.trans st) sr'
      rw [hr0] at h1
      cases h1
      exact hq
    · cases es
  · cases ee
end
end N
/-! N25. x op= e. -/
namespace N
open PySem PySem.Spec PyProof.Rows L2

section
variable {c : Cfg} {cf : CF} {Γ : Ct} {X : Cx} {F F' : Foot} {env env' : Env} {σ : L2.St} {H H1 H2 H3 : Hp} {s1 s2 : Src}
def tAg (op : Operator) : TIp := fun x y H Q => (∃ i j : Int, op = .Add ∧ x = .int i ∧ y = .int j ∧ Q (.int (i + j)) H) ∨ (∃ i j : Int, op = .Sub ∧ x = .int i ∧ y = .int j ∧ Q (.int (i - j)) H) ∨ (∃ i j : Str, op = .Add ∧ x = .str i ∧ y = .str j ∧ i.length + j.length ≤ LIM ∧ Q (.str (i ++ j)) H)
theorem ip_ag {op : Operator} : PIp X op (tAg op) := by
  intro pins s σ H x y v u Q I r1 r2 h
  rcases h with ⟨i, j, rfl, rfl, rfl, q⟩ | ⟨i, j, rfl, rfl, rfl, q⟩ | ⟨i, j, rfl, rfl, rfl, hl, q⟩
  · exact ip_add pins s σ H _ _ v u Q I r1 r2 ⟨i, j, rfl, rfl, q⟩
  · exact ip_sub pins s σ H _ _ v u Q I r1 r2 ⟨i, j, rfl, rfl, q⟩
  · exact iop_add_str pins s σ H _ _ v u Q I r1 r2 ⟨i, j, rfl, rfl, by rw [← lim_eq]; exact hl, q⟩
theorem aug_inv {i : Nat} {op : Operator} {e : N.X} {S S1 : Src} {fl : Fl} (h : exec cf (.aug i op e) env S = some (fl, S1)) : ∃ d o d0 o0 r, ev cf e env S = some (.dat d o, S1) ∧ getv env i = some (.dat d0 o0) ∧ fl = .nx (env.set i (some (.dat r 0))) ∧
    ((∃ n m : Int, op = .Add ∧ d0 = .int n ∧ d = .int m ∧ r = .int (n + m)) ∨ (∃ n m : Int, op = .Sub ∧ d0 = .int n ∧ d = .int m ∧ r = .int (n - m)) ∨ (∃ n m : Str, op = .Add ∧ d0 = .str n ∧ d = .str m ∧ n.length + m.length ≤ LIM ∧ r = .str (n ++ m))) := by
  simp only [exec] at h
  obtain ⟨d, o, sa, e1, h⟩ := bD_inv h
  split at h
  · rename_i n o0 m hg _
    cases h
    exact ⟨_, o, _, o0, _, e1, hg, rfl, .inl ⟨n, m, rfl, rfl, rfl, rfl⟩⟩
  · rename_i n o0 m hg _
    cases h
    exact ⟨_, o, _, o0, _, e1, hg, rfl, .inr (.inl ⟨n, m, rfl, rfl, rfl, rfl⟩)⟩
  · rename_i n o0 m hg _
    split at h
    · rename_i hl
      cases h
      exact ⟨_, o, _, o0, _, e1, hg, rfl, .inr (.inr ⟨n, m, rfl, rfl, rfl, hl, rfl⟩)⟩
    · cases h
  · cases h
theorem dat_at {i : Nat} {d : D} {o : Nat} (R : Rel c env σ H F) (hg : getv env i = some (.dat d o)) : ∃ v, σ[i]? = some (some v) ∧ Rep c H v d (F i) := by
  have rp := R.rep i
  rw [hg] at rp
  exact rp
theorem aug_end {i : Nat} {d r : D} {v z : V} {G : List Addr} {o : Nat} {al : List Nat} (R : Rel c env σ H F) (vl : Val c env F al H v (.dat d o) G H1) (rz : Rep c H1 z r []) (nw : imm r = true) :
    ∃ F', Rel c (env.set i (some (.dat r 0))) (σ.set i (some z)) H1 F' ∧ Step c env F H (env.set i (some (.dat r 0))) F' H1 := by
  have v2 : Val c env F [] H1 z (.dat r 0) [] H1 := ⟨Ext.refl, ⟨z, rfl, rz⟩, fun _ z => (nomatch z), fun a z => (nomatch z)⟩
  obtain ⟨F', R', st⟩ := set_end (R.ext vl.ext) v2 i
  exact ⟨F', R', vl.ext.step.trans st⟩
theorem s_aug {i : Nat} {op : Operator} {x : Str} {e : N.X} {xe : Expr} {p pos : Pos} (hN : X.N.Nodup) (hi : X.N[i]? = some x) (hx : Loc X.env.scope x) (hf : X.fn x = true ∨ X.env.scope.names.lookup x = some .local) (he : PE X xe (rd c cf e)) : PS X (.AugAssign (.Name x p) op xe pos) (rdS c cf (.aug i op e)) :=
  ps_weak (ps_aug hN hi hx he ip_ag hf) fun De σ H ⟨env, F, S, fl, S1, R, s, ee, q⟩ => by
    obtain ⟨d, o, d0, o0, r, e1, hg, rfl, hh⟩ := aug_inv ee
    obtain ⟨v0, h0, r0⟩ := dat_at R hg
    refine ⟨v0, h0, env, F, S, _, _, R, s, e1, fun v H1 G vl sr => ?_⟩
    rcases hh with ⟨n, m, rfl, rfl, rfl, rfl⟩ | ⟨n, m, rfl, rfl, rfl, rfl⟩ | ⟨n, m, rfl, rfl, rfl, hl, rfl⟩
    · obtain ⟨rfl, _⟩ := r0.int_inv
      obtain ⟨rfl, _⟩ := vl.get.int_inv
      obtain ⟨F', R', st⟩ := aug_end (i := i) R vl (.int (n + m)) rfl
      exact .inl ⟨n, m, rfl, rfl, rfl, q _ H1 F' R' st sr⟩
    · obtain ⟨rfl, _⟩ := r0.int_inv
      obtain ⟨rfl, _⟩ := vl.get.int_inv
      obtain ⟨F', R', st⟩ := aug_end (i := i) R vl (.int (n - m)) rfl
      exact .inr (.inl ⟨n, m, rfl, rfl, rfl, q _ H1 F' R' st sr⟩)
    · obtain ⟨rfl, _⟩ := r0.str_inv
      obtain ⟨rfl, _⟩ := vl.get.str_inv
      obtain ⟨F', R', st⟩ := aug_end (i := i) R vl (.str (n ++ m)) rfl
      exact .inr (.inr ⟨n, m, rfl, rfl, rfl, hl, q _ H1 F' R' st sr⟩)
end
end N
/-! A1. Dict comprehensions of two clauses. The walk follows the hand layer's rule for lists. -/
namespace L2
open PySem PySem.Spec PyProof.Rows
theorem compTurn2d_out (kx vx t0 i0 t1 i1 : Expr) (ifs0 ifs1 : List Expr) (scope : Scope) (pos : Pos) (it acc : Value) (env : Env) :
    compTurn (.DictComp kx vx [⟨t0, i0, ifs0, 0⟩, ⟨t1, i1, ifs1, 0⟩] scope pos) 0 it acc env = (do
      standAt i0.pos
      match ← pyNext it with
      | none => pure (.done .next)
      | some v =>
        letOwnedTupleGo t0 it v
        assign t0 env v
        let mut ok := true
        for c in ifs0 do
          if ok then ok ← isTrue c env (eval c env)
        if ok then
          let x ← eval i1 env
          standAt i1.pos
          let x ← foldedSetIterable i1 env x
          let _ ← runOwn (.compStart (.DictComp kx vx [⟨t0, i0, ifs0, 0⟩, ⟨t1, i1, ifs1, 0⟩] scope pos) 1 (← holding [x] (pyIter x)) acc env) env
        again (.compLoop (.DictComp kx vx [⟨t0, i0, ifs0, 0⟩, ⟨t1, i1, ifs1, 0⟩] scope pos) 0 it acc env)) := by rfl
theorem compTurn2d_in (kx vx t0 i0 t1 i1 : Expr) (ifs0 ifs1 : List Expr) (scope : Scope) (pos : Pos) (it : Value) (D : Addr) (env : Env) :
    compTurn (.DictComp kx vx [⟨t0, i0, ifs0, 0⟩, ⟨t1, i1, ifs1, 0⟩] scope pos) 1 it (.ref D) env = (do
      standAt i1.pos
      match ← pyNext it with
      | none => pure (.done .next)
      | some v =>
        letOwnedTupleGo t1 it v
        assign t1 env v
        let mut ok := true
        for c in ifs1 do
          if ok then ok ← isTrue c env (eval c env)
        if ok then
          (do
            let kv ← eval kx env
            let vv ← holding [kv] (eval vx env)
            standAt { kx.pos with endLine := vx.pos.endLine, endCol := vx.pos.endCol }
            holding [kv, vv] (dictSet D kv vv))
        again (.compLoop (.DictComp kx vx [⟨t0, i0, ifs0, 0⟩, ⟨t1, i1, ifs1, 0⟩] scope pos) 1 it (.ref D) env)) := by rfl

section
variable {prog : Program} {w : World} {A : Around} {R : Result → Shared → Prop} {s : Shared} {kx vx t0 i0 t1 i1 : Expr} {ifs0 ifs1 : List Expr} {scope : Scope} {pos : Pos} {it acc : Value} {env : Env}
/-- the loop of the first clause -/
theorem compLoop2d_out (hs : ∀ x, foldedSetIterable i1 env x = pure x) (I : Nat → Shared → Prop)
    (turn : ∀ n s, I n s → wpAny (model prog w) A (pyNext it) (fun r s₁ => match r with
      | none => R (.ok .next) s₁
      | some v => wpAny (model prog w) A (letOwnedTupleGo t0 it v) (fun _ s₁' => wpAny (model prog w) A (assign t0 env v) (fun _ s₂ =>
          wpAny (model prog w) A (forIn ifs0 true fun c r => if r = true then do let ok ← isTrue c env (eval c env); pure (ForInStep.yield ok) else pure (ForInStep.yield r)) (fun ok s₃ =>
            if ok = true then wpAny (model prog w) A (eval i1 env) (fun x s₄ => wpAny (model prog w) A (pyIter x) (fun it1 s₅ =>
              codeAny (model prog w) A (.compStart (.DictComp kx vx [⟨t0, i0, ifs0, 0⟩, ⟨t1, i1, ifs1, 0⟩] scope pos) 1 it1 acc env) (fun r s' => match r with
                | .ok _ => ∃ m, m < n ∧ I m s'
                | .error _ => False) s₅) (notedBy (model prog w) A env fun e s' => R (.error e) s') s₄) (notedBy (model prog w) A env fun e s' => R (.error e) s') s₃
            else ∃ m, m < n ∧ I m s₃) (notedBy (model prog w) A env fun e s' => R (.error e) s') s₂) (notedBy (model prog w) A env fun e s' => R (.error e) s') s₁') (notedBy (model prog w) A env fun e s' => R (.error e) s') s₁) (notedBy (model prog w) A env fun e s' => R (.error e) s') s)
    (n : Nat) (h : I n s) :
    codeAny (model prog w) A (.compLoop (.DictComp kx vx [⟨t0, i0, ifs0, 0⟩, ⟨t1, i1, ifs1, 0⟩] scope pos) 0 it acc env) R s := by
  refine codeAny_loop rfl I (fun n s hI => ?_) n h
  show wpAny _ A ((compTurn (.DictComp kx vx [⟨t0, i0, ifs0, 0⟩, ⟨t1, i1, ifs1, 0⟩] scope pos) 0 it acc env).onRaise (fun x => do noteFrame x env; theTreesLotGoes x)) _ _ s
  refine wpAny_noted ?_
  rw [compTurn2d_out]
  refine wpAny_bind (wpAny_standAt (wpAny_bind (wpAny_mono (turn n s hI) (fun r s₁ h₁ => ?_) fun _ _ h' => h')))
  cases r with
  | none => exact wpAny_pure h₁
  | some v =>
    refine wpAny_bind (wpAny_mono h₁ (fun _ s₁' h₁' => ?_) fun _ _ h' => h')
    refine wpAny_bind (wpAny_mono h₁' (fun _ s₂ h₂ => wpAny_bind (wpAny_mono h₂ (fun ok s₃ h₃ => ?_) fun _ _ h' => h')) fun _ _ h' => h')
    cases ok with
    | false => exact wpAny_pure ⟨rfl, h₃⟩
    | true =>
      refine wpAny_bind (wpAny_mono h₃ (fun x s₄ h₄ => ?_) fun _ _ h' => h')
      refine wpAny_bind (wpAny_standAt (wpAny_bind (wpAny_of_eq (hs x) (wpAny_bind (wpAny_holding (wpAny_mono h₄ (fun it1 s₅ h₅ => ?_) fun _ _ h' => h'))))))
      refine wpAny_bind (wpAny_runOwn ?_)
      rw [Around.mark_none]
      refine codeAny_mono h₅ fun r s' hr => ?_
      cases r with
      | ok f =>
        first
          | exact wpAny_pure ⟨rfl, hr⟩
          | exact wpAny_bind (wpAny_pure (wpAny_pure ⟨rfl, hr⟩))
      | error e => exact hr.elim
/-- the loop of the second -/
theorem compLoop2d_in {D : Addr} (I : Nat → Shared → Prop)
    (turn : ∀ n s, I n s → wpAny (model prog w) A (pyNext it) (fun r s₁ => match r with
      | none => R (.ok .next) s₁
      | some v => wpAny (model prog w) A (letOwnedTupleGo t1 it v) (fun _ s₁' => wpAny (model prog w) A (assign t1 env v) (fun _ s₂ =>
          wpAny (model prog w) A (forIn ifs1 true fun c r => if r = true then do let ok ← isTrue c env (eval c env); pure (ForInStep.yield ok) else pure (ForInStep.yield r)) (fun ok s₃ =>
            if ok = true then wpAny (model prog w) A (eval kx env) (fun kv s₄ => wpAny (model prog w) A (eval vx env) (fun vv s₅ =>
              wpAny (model prog w) A (dictSet D kv vv) (fun _ s₆ => ∃ m, m < n ∧ I m s₆) (notedBy (model prog w) A env fun e s' => R (.error e) s') s₅) (notedBy (model prog w) A env fun e s' => R (.error e) s') s₄) (notedBy (model prog w) A env fun e s' => R (.error e) s') s₃
            else ∃ m, m < n ∧ I m s₃) (notedBy (model prog w) A env fun e s' => R (.error e) s') s₂) (notedBy (model prog w) A env fun e s' => R (.error e) s') s₁') (notedBy (model prog w) A env fun e s' => R (.error e) s') s₁) (notedBy (model prog w) A env fun e s' => R (.error e) s') s)
    (n : Nat) (h : I n s) :
    codeAny (model prog w) A (.compLoop (.DictComp kx vx [⟨t0, i0, ifs0, 0⟩, ⟨t1, i1, ifs1, 0⟩] scope pos) 1 it (.ref D) env) R s := by
  refine codeAny_loop rfl I (fun n s hI => ?_) n h
  show wpAny _ A ((compTurn (.DictComp kx vx [⟨t0, i0, ifs0, 0⟩, ⟨t1, i1, ifs1, 0⟩] scope pos) 1 it (.ref D) env).onRaise (fun x => do noteFrame x env; theTreesLotGoes x)) _ _ s
  refine wpAny_noted ?_
  rw [compTurn2d_in]
  refine wpAny_bind (wpAny_standAt (wpAny_bind (wpAny_mono (turn n s hI) (fun r s₁ h₁ => ?_) fun _ _ h' => h')))
  cases r with
  | none => exact wpAny_pure h₁
  | some v =>
    refine wpAny_bind (wpAny_mono h₁ (fun _ s₁' h₁' => ?_) fun _ _ h' => h')
    refine wpAny_bind (wpAny_mono h₁' (fun _ s₂ h₂ => wpAny_bind (wpAny_mono h₂ (fun ok s₃ h₃ => ?_) fun _ _ h' => h')) fun _ _ h' => h')
    cases ok with
    | false => exact wpAny_pure ⟨rfl, h₃⟩
    | true =>
      exact wpAny_bind (wpAny_bind (wpAny_mono h₃ (fun kv s₄ h₄ => wpAny_bind (wpAny_holding (wpAny_mono h₄ (fun vv s₅ h₅ => wpAny_bind (wpAny_standAt (wpAny_holding (wpAny_mono h₅ (fun _ s₆ h₆ => wpAny_pure ⟨rfl, h₆⟩) fun _ _ h' => h')))) fun _ _ h' => h'))) fun _ _ h' => h'))
/-- the second clause's start -/
theorem compStart1d_ok (h0 : codeAny (model prog w) A (.compLoop (.DictComp kx vx [⟨t0, i0, ifs0, 0⟩, ⟨t1, i1, ifs1, 0⟩] scope pos) 1 it acc env) R s)
    (h : wpAny (model prog w) A (pyIter it) (fun it' s' => codeAny (model prog w) A (.compLoop (.DictComp kx vx [⟨t0, i0, ifs0, 0⟩, ⟨t1, i1, ifs1, 0⟩] scope pos) 1 it' acc env) R s')
      (notedBy (model prog w) A env fun x s' => R (.error x) s') s) :
    codeAny (model prog w) A (.compStart (.DictComp kx vx [⟨t0, i0, ifs0, 0⟩, ⟨t1, i1, ifs1, 0⟩] scope pos) 1 it acc env) R s := by
  refine codeAny_of_tree ?_
  show wpAny _ _ ((compStart (.DictComp kx vx [⟨t0, i0, ifs0, 0⟩, ⟨t1, i1, ifs1, 0⟩] scope pos) 1 it acc env).onRaise (fun x => do noteFrame x env; standAt theWindowsPlace)) _ _ s
  refine wpAny_notedAt ?_
  unfold compStart
  show wpAny _ _ (ask >>= _) _ _ s
  refine wpAny_bind (wpAny_askSetting (wpAny_ite ?_))
  split
  · first
      | exact wpAny_bind (wpAny_pure (wpAny_pure (And.intro rfl h0)))
      | exact wpAny_pure (And.intro rfl h0)
  · first
      | exact wpAny_bind (wpAny_rule (wpAny_bind (wpAny_standAt (wpAny_bind (wpAny_mono h (fun it' s' h' => wpAny_pure (And.intro rfl h')) fun _ _ x => x)))))
      | (refine wpAny_bind (wpAny_rule ?_); show wpAny _ _ (standAt i1.pos >>= _) _ _ s; exact wpAny_bind (wpAny_standAt (wpAny_bind (wpAny_mono h (fun it' s' h' => wpAny_pure (And.intro rfl h')) fun _ _ x => x))))
end

end L2
namespace N
open PySem PySem.Spec PyProof.Rows L2
section
variable {c : Cfg} {X : Cx}
/-- two clauses -/
def tDcD2 (c : Cfg) (wi : TI) (g : TG) (tt : TT) (wi1 : TI) (g1 : TG) (tt1 : TT) (tk tv : TE) (vs vs1 : List Nat) : TE := fun σ H Q => wi σ H fun J H1 => ∀ D, H1 D = none → (D == sysModules) = false → ∃ W : Nat → Nat → Hp → Prop, (∃ m, W 0 m (upd H1 D (DO D #[] 0))) ∧ ∀ i m H, W i m H →
  (J.stop i H ∧ Q (.ref D) H) ∨ (J.go i H ∧ ∃ Nx : Hp → Prop, (∀ H', Nx H' → ∃ m', m' < m ∧ W (i + 1) m' H') ∧ ∀ x H', J.yld i H x H' → g x (L2.wipe σ vs) H' fun σ2 H2 => L2.wipe σ2 vs = L2.wipe σ vs ∧ tt σ2 H2 fun b H3 =>
    if b = true then wi1 σ2 H3 fun J1 H4 => ∃ W1 : Nat → Nat → Hp → Prop, (∃ m, W1 0 m H4) ∧ ∀ j k H, W1 j k H →
      (J1.stop j H ∧ Nx H) ∨ (J1.go j H ∧ ∃ Nx1 : Hp → Prop, (∀ H', Nx1 H' → ∃ k', k' < k ∧ W1 (j + 1) k' H') ∧ ∀ x H', J1.yld j H x H' → g1 x (L2.wipe σ2 vs1) H' fun σ3 H5 => L2.wipe σ3 vs1 = L2.wipe σ2 vs1 ∧ tt1 σ3 H5 fun b H6 =>
        if b = true then tk σ3 H6 fun y H7 => tv σ3 H7 fun z H8 => ∃ kvs k d B C, Rep c H8 (.ref D) (.dict kvs) (D :: B) ∧ D ∉ B ∧ D ∉ C ∧ Rep c H8 y k [] ∧ Rep c H8 z d C ∧ tkey k = true ∧ kvs.all (fun p => tkey p.1) = true ∧ (dput kvs k d).length ≤ LIM ∧
          (∀ es' ep' B', Rep c (upd H8 D (DO D es' ep')) (.ref D) (.dict (dput kvs k d)) (D :: B') → (∀ x ∈ B', x ∈ B ∨ x ∈ C) → D ∉ B' → (dhas kvs k = false → B' = B ++ (C ++ [])) → Nx1 (upd H8 D (DO D es' ep'))) else Nx1 H6)
    else Nx H3)
theorem dcD2_core {pins : List (Addr × Obj)} {s : Shared} {σ : L2.St} {H : Hp} {Q : VK} {kx vx tg iter tg1 iter1 : Expr} {ifs ifs1 : List Expr} {scope : Scope} {own : List (Str × Nat)} {vs1 : List Nat} {pos pos' : Pos} {wi wi1 : TI} {g g1 : TG} {tt tt1 : TT} {tk tv : TE} {use : Option (Value → Sem Unit)} {Qf : Value → Shared → Prop}
    (hu : X.A.units + 20 < cLine) (hp : X.prog = c.prog) (hw : X.w = c.w) (hc : X.calm = true) (hN : X.N.Nodup) (I : Inv X pins σ H s) (hi : PI X tg iter wi) (ok : BlkOk X.N X.env.scope scope own) (hv : ∀ i ∈ vs1, i ∈ own.map (·.2))
    (hg : ∀ (s : Shared) (H : Hp) (C : Addr) (cl : List (Str × Addr)) (fp : List Addr), PG (X.blk s H scope (compEnvC scope cl C X.env) fp) tg g) (ht : ∀ (s : Shared) (H : Hp) (C : Addr) (cl : List (Str × Addr)) (fp : List Addr), PTs (X.blk s H scope (compEnvC scope cl C X.env) fp) ifs tt)
    (hk : ∀ (s : Shared) (H : Hp) (C : Addr) (cl : List (Str × Addr)) (fp : List Addr), PE (X.blk s H scope (compEnvC scope cl C X.env) fp) kx tk) (he : ∀ (s : Shared) (H : Hp) (C : Addr) (cl : List (Str × Addr)) (fp : List Addr), PE (X.blk s H scope (compEnvC scope cl C X.env) fp) vx tv) (hs : ∀ x, foldedSetIterable iter X.env x = pure x)
    (hi1 : ∀ (s : Shared) (H : Hp) (C : Addr) (cl : List (Str × Addr)) (fp : List Addr), PI (X.blk s H scope (compEnvC scope cl C X.env) fp) tg1 iter1 wi1)
    (hg1 : ∀ (s : Shared) (H : Hp) (C : Addr) (cl : List (Str × Addr)) (fp : List Addr), PG (X.blk s H scope (compEnvC scope cl C X.env) fp) tg1 g1)
    (ht1 : ∀ (s : Shared) (H : Hp) (C : Addr) (cl : List (Str × Addr)) (fp : List Addr), PTs (X.blk s H scope (compEnvC scope cl C X.env) fp) ifs1 tt1)
    (hs1 : ∀ env x, foldedSetIterable iter1 env x = pure x)
    (h : tDcD2 c wi g tt wi1 g1 tt1 tk tv (own.map (·.2)) vs1 σ H Q)
    (hRR : ∀ D C s' m H', Inv X pins σ H' s' → Q (.ref D) H' → s'.heap.Ns C m → FpOk X pins H' C → compPost (model X.prog X.w) X.A X.xe use Qf (.ref D) C (.ok .next) s') :
    wpAny (model X.prog X.w) X.A (comprehension (.DictComp kx vx [⟨tg, iter, ifs, 0⟩, ⟨tg1, iter1, ifs1, 0⟩] scope pos) scope X.env pos' newDict false (eval iter X.env) use) Qf X.xe s := by
  have hfree : ∀ y ∈ scope.names, y.2 = .free → ∃ c, X.env.cells.lookup y.1 = some c := fun y hy e => by
    rcases ok.free y hy e with k | k
    · exact I.ok.has _ (.inl k)
    · exact I.ok.has _ (.inr k)
  refine wpAny_comprehension_free (use := use) rfl hs (closure_ok hfree) ok.kind (fun y hy e => by rw [ok.uniq y hy, e])
    (thn (hi.run pins s σ H _ I h) fun xv s1 hx => thn hx fun itv s2 h2 => ?_)
  obtain ⟨it, fp, tn, J, H2, e, I2, T, st2, f2, q⟩ := h2
  subst e
  refine wpAny_newObj_type (newEnv_comp ?_)
  generalize hD : s2.heap.objs.size = D
  have hDn : H2 D = none := I2.hok.fresh (Nat.le_of_eq hD)
  obtain ⟨W, ⟨m0, w0⟩, turn⟩ := q D hDn (by rw [← hD]; exact beq_eq_false_iff_ne.mpr (Ne.symm (Nat.ne_of_lt I2.big)))
  -- the new list
  generalize hs3 : ({ s2 with heap := s2.heap.push { cls := .type "dict", data := .dict #[] } } : Shared) = s3
  have I3 : Inv X pins σ (upd H2 D (DO D #[] 0)) s3 := by
    rw [← hs3]
    refine I2.laid (t' := s2.toks) (fun b o e => Heap.get?_push_of_some _ e) (Nat.le_of_eq hD) ?_
    rw [← hD]
    exact obj_DO ⟨_, Heap.get?_push_size _ rfl, ⟨rfl, rfl, rfl⟩, rfl⟩
  have h3 : s3.heap = s2.heap.push { cls := .type "dict", data := .dict #[] } := by rw [← hs3]
  have sz : ∀ b ∈ fp, b < s2.heap.objs.size := fun b hb => by
    obtain ⟨o, e, _⟩ := T.obj _ _ st2 b hb
    exact Heap.lt_size e
  have f3 : ∀ b ∈ fp, FpOk X pins (upd H2 D (DO D #[] 0)) b ∧ b < s3.heap.objs.size := fun b hb => by
    have hlt := sz b hb
    refine ⟨⟨?_, (f2 b hb).2⟩, by rw [h3, Heap.size_push]; exact Nat.lt_succ_of_lt hlt⟩
    rw [upd_ne (by rw [← hD]; exact Nat.ne_of_lt hlt)]
    exact (f2 b hb).1
  have st3 : tn 0 s3.heap := T.keep _ _ _ st2 fun b _ o e => by rw [h3]; exact Heap.get?_push_of_some _ e
  have I4 := block_start I3 ok hN f3
  have pg := hg s3 (upd H2 D (DO D #[] 0)) s3.heap.objs.size (cellsFrom (s3.heap.objs.size + 1) scope.names (cloFrom X.env.cells scope.names [])) fp
  have pt := ht s3 (upd H2 D (DO D #[] 0)) s3.heap.objs.size (cellsFrom (s3.heap.objs.size + 1) scope.names (cloFrom X.env.cells scope.names [])) fp
  have pk := hk s3 (upd H2 D (DO D #[] 0)) s3.heap.objs.size (cellsFrom (s3.heap.objs.size + 1) scope.names (cloFrom X.env.cells scope.names [])) fp
  have pe := he s3 (upd H2 D (DO D #[] 0)) s3.heap.objs.size (cellsFrom (s3.heap.objs.size + 1) scope.names (cloFrom X.env.cells scope.names [])) fp
  have pi1 := hi1 s3 (upd H2 D (DO D #[] 0)) s3.heap.objs.size (cellsFrom (s3.heap.objs.size + 1) scope.names (cloFrom X.env.cells scope.names [])) fp
  have pg1 := hg1 s3 (upd H2 D (DO D #[] 0)) s3.heap.objs.size (cellsFrom (s3.heap.objs.size + 1) scope.names (cloFrom X.env.cells scope.names [])) fp
  have pt1 := ht1 s3 (upd H2 D (DO D #[] 0)) s3.heap.objs.size (cellsFrom (s3.heap.objs.size + 1) scope.names (cloFrom X.env.cells scope.names [])) fp
  show codeAny _ _ (.compStart (.DictComp kx vx [⟨tg, iter, ifs, 0⟩, ⟨tg1, iter1, ifs1, 0⟩] scope pos) 0 (.ref it) (.ref D) (compEnvC scope (cellsFrom (s3.heap.objs.size + 1) scope.names (cloFrom X.env.cells scope.names [])) s3.heap.objs.size X.env)) (compPost (model X.prog X.w) X.A X.xe use Qf (.ref D) s3.heap.objs.size) { s3 with heap := pushCells (s3.heap.push { cls := .type "dict", data := .dict #[] }) scope.names }
  have nfp : ∀ b ∈ fp, (upd H2 D (DO D #[] 0)) b = none := fun b hb => (f3 b hb).1.1
  generalize hce : compEnvC scope (cellsFrom (s3.heap.objs.size + 1) scope.names (cloFrom X.env.cells scope.names [])) s3.heap.objs.size X.env = ce at I4 pg pt pk pe pi1 pg1 pt1 ⊢
  have cL : ce.locals = s3.heap.objs.size := by subst hce; rfl
  generalize hH3 : upd H2 D (DO D #[] 0) = H3 at I3 I4 pg pt pk pe pi1 pg1 pt1 w0 nfp f3
  generalize hs4 : ({ s3 with heap := pushCells (s3.heap.push { cls := .type "dict", data := .dict #[] }) scope.names } : Shared) = s4 at I4 ⊢
  have st4 : tn 0 s4.heap := T.keep _ _ _ st3 fun b _ o e => by rw [← hs4]; exact pushCells_keeps _ _ _ _ (Heap.get?_push_of_some _ e)
  have stat : ∀ {σ' : L2.St} {H' : Hp} {s' : Shared}, Inv (X.blk s3 H3 scope ce fp) [] σ' H' s' → (∀ b ∈ fp, H' b = none) → ∀ b ∈ fp, FpOk (X.blk s3 H3 scope ce fp) [] H' b := fun {σ' H' s'} I' hn b hb =>
    ⟨hn b hb, (I'.ok.exf b hb).1, I'.ok.exfs b hb, .inl hb, fun x c e => (I'.ok.exf b hb).2 x c e, fun p hp => absurd (show p ∈ ([] : List (Addr × Obj)) ++ [] from hp) (by simp)⟩
  have loop : codeAny (model X.prog X.w) X.A (.compLoop (.DictComp kx vx [⟨tg, iter, ifs, 0⟩, ⟨tg1, iter1, ifs1, 0⟩] scope pos) 0 (.ref it) (.ref D) ce) (compPost (model X.prog X.w) X.A X.xe use Qf (.ref D) s3.heap.objs.size) s4 := by
    refine compLoop2d_out (hs1 ce) (fun n s' => ∃ i H', Inv (X.blk s3 H3 scope ce fp) [] (L2.wipe σ (own.map (·.2))) H' s' ∧ tn i s'.heap ∧ (∀ b ∈ fp, H' b = none) ∧ W i n H') ?_ m0 ⟨0, H3, I4, st4, nfp, w0⟩
    rintro n s5 ⟨i, H5, I5, st5, n5, w5⟩
    rcases turn i n H5 w5 with ⟨stop, qq⟩ | ⟨go, Nx, hNx, step⟩
    · have td := T.done (X.blk s3 H3 scope ce fp) rfl rfl rfl hc i [] s5 _ H5 (fun _ _ => False) I5 (stat I5 n5) st5 stop
      refine thnF td fun r s6 ⟨hr, I6⟩ => ?_
      subst hr
      -- back in the def's context
      have I7 : Inv X pins σ H5 s6 := I3.call' (ch := fp) I6.os I6.base I6.hok I6.bare fun b hb => ⟨(f3 b hb).1.2.2.2.1, (f3 b hb).1.2.1, (f3 b hb).1.2.2.2.2.1, (f3 b hb).1.2.2.2.2.2⟩
      have nC : H5 s3.heap.objs.size = none := by
        have z : H5 ce.locals = none := I6.free
        rw [cL] at z
        exact z
      obtain ⟨m, hn, _⟩ := I6.loc
      have hn : s6.heap.Ns ce.locals m := hn
      rw [cL] at hn
      exact hRR D s3.heap.objs.size s6 m H5 I7 qq hn (I3.fpOk (Nat.le_refl _) nC)
    · have ti := T.item (X.blk s3 H3 scope ce fp) rfl rfl rfl hc i [] s5 _ H5 (fun _ _ => False) I5 (stat I5 n5) st5 go
      refine thnF ti fun r s6 ⟨u, hr, h6⟩ => ?_
      subst hr
      refine thnF h6 fun _ s7 ⟨x, H7, I7, r7, y7, st7, n7⟩ => ?_
      have I7' := I7.pinned (stat I7 n7) (T.obj _ _ st7)
      refine thnF (pg.run _ s7 _ H7 x u _ I7' r7 (step x H7 y7)) fun _ s8 ⟨σ8, H8, I8, hw8, q8⟩ => ?_
      refine thnF (pt.run _ s8 σ8 H8 _ I8 q8) fun b s9 ⟨H9, I9, q9⟩ => ?_
      -- the turn's end, from any slots that know what the block knew at its start
      have fin : ∀ {σ9 : L2.St} {s' : Shared} {H' : Hp}, Inv (X.blk s3 H3 scope ce fp) ([] ++ pinsAt fp s7.heap) σ9 H' s' → (L2.wipe σ (own.map (·.2))).length = σ9.length → (∀ (j : Nat) v, (L2.wipe σ (own.map (·.2)))[j]? = some (some v) → σ9[j]? = some (some v)) → Nx H' →
          ∃ m, m < n ∧ ∃ i H', Inv (X.blk s3 H3 scope ce fp) [] (L2.wipe σ (own.map (·.2))) H' s' ∧ tn i s'.heap ∧ (∀ b ∈ fp, H' b = none) ∧ W i m H' := fun {σ9 s' H'} I' hl hk nx => by
        obtain ⟨m', hm, w'⟩ := hNx H' nx
        have pin' : ∀ b ∈ fp, ∀ o, s7.heap.get? b = some o → s'.heap.get? b = some o ∧ H' b = none := fun b hb o e =>
          let z := I'.pin (b, o) (List.mem_append_right _ (List.mem_append_right _ (mem_pinsAt hb e)))
          ⟨z.1, z.2.1⟩
        refine ⟨m', hm, i + 1, H', (I'.unpinned (pins := [])).weak hl hk, T.keep _ _ _ st7 fun b hb o e => (pin' b hb o e).1, fun b hb => ?_, w'⟩
        obtain ⟨o, e, _⟩ := T.obj _ _ st7 b hb
        exact (pin' b hb o e).2
      have hl8 : (L2.wipe σ (own.map (·.2))).length = σ8.length := by rw [← hw8, L2.wipe_length]
      have hk8 : ∀ (j : Nat) v, (L2.wipe σ (own.map (·.2)))[j]? = some (some v) → σ8[j]? = some (some v) := fun j v e => by
        rw [← hw8] at e
        exact ( L2.wipe_some e).1
      have hk9 : ∀ (j : Nat) v, (L2.wipe σ (own.map (·.2)))[j]? = some (some v) → (L2.wipe σ8 vs1)[j]? = some (some v) := fun j v e => by
        rw [← hw8] at e
        obtain ⟨e1, e2⟩ :=  L2.wipe_some e
        rw [L2.wipe_out fun z => e2 (hv j z)]
        exact e1
      cases b with
      | false =>
        simp only [Bool.false_eq_true, if_false] at q9 ⊢
        exact fin I9 hl8 hk8 q9
      | true =>
        simp only [if_true] at q9 ⊢
        refine thnF (pi1.run _ s9 σ8 H9 _ I9 q9) fun xv s10 hx => thnF hx fun itv s11 h11 => ?_
        obtain ⟨it1, fp1, tn1, J1, H11, e1, I11, T1, st11, f11, W1, ⟨m1, w1⟩, turn1⟩ := h11
        subst e1
        -- the inner loop
        have stat1 : ∀ {H' : Hp}, (∀ b ∈ fp1, H' b = none) → ∀ b ∈ fp1, FpOk (X.blk s3 H3 scope ce fp) ([] ++ pinsAt fp s7.heap) H' b := fun hn b hb => ⟨hn b hb, (f11 b hb).2⟩
        have loop1 : codeAny (model X.prog X.w) X.A (.compLoop (.DictComp kx vx [⟨tg, iter, ifs, 0⟩, ⟨tg1, iter1, ifs1, 0⟩] scope pos) 1 (.ref it1) (.ref D) ce)
            (fun r s' => match r with
              | .ok _ => ∃ m, m < n ∧ ∃ i H', Inv (X.blk s3 H3 scope ce fp) [] (L2.wipe σ (own.map (·.2))) H' s' ∧ tn i s'.heap ∧ (∀ b ∈ fp, H' b = none) ∧ W i m H'
              | .error _ => False) s11 := by
          refine compLoop2d_in (fun k s' => ∃ j H', Inv (X.blk s3 H3 scope ce fp) ([] ++ pinsAt fp s7.heap) (L2.wipe σ8 vs1) H' s' ∧ tn1 j s'.heap ∧ (∀ b ∈ fp1, H' b = none) ∧ W1 j k H') ?_ m1 ⟨0, H11, I11.weak (L2.wipe_length _ _) (fun j v e => ( L2.wipe_some e).1), st11, fun b hb => (f11 b hb).1, w1⟩
          rintro k s12 ⟨j, H12, I12, st12, n12, w12⟩
          rcases turn1 j k H12 w12 with ⟨stop1, nx1⟩ | ⟨go1, Nx1, hNx1, step1⟩
          · refine thnF (T1.done (X.blk s3 H3 scope ce fp) rfl rfl rfl hc j _ s12 (L2.wipe σ8 vs1) H12 (fun _ _ => False) I12 (stat1 n12) st12 stop1) fun r s13 ⟨hr, I13⟩ => ?_
            subst hr
            exact fin I13 (hl8.trans (L2.wipe_length σ8 vs1).symm) hk9 nx1
          · refine thnF (T1.item (X.blk s3 H3 scope ce fp) rfl rfl rfl hc j _ s12 (L2.wipe σ8 vs1) H12 (fun _ _ => False) I12 (stat1 n12) st12 go1) fun r s13 ⟨u1, hr, h13⟩ => ?_
            subst hr
            refine thnF h13 fun _ s14 ⟨x1, H14, I14, r14, y14, st14, n14⟩ => ?_
            have I14' := I14.pinned (stat1 n14) (T1.obj _ _ st14)
            refine thnF (pg1.run _ s14 (L2.wipe σ8 vs1) H14 x1 u1 _ I14' r14 (step1 x1 H14 y14)) fun _ s15 ⟨σ15, H15, I15, hw15, q15⟩ => ?_
            refine thnF (pt1.run _ s15 σ15 H15 _ I15 q15) fun b1 s16 ⟨H16, I16, q16⟩ => ?_
            have fin1 : ∀ {s' : Shared} {H' : Hp}, Inv (X.blk s3 H3 scope ce fp) (([] ++ pinsAt fp s7.heap) ++ pinsAt fp1 s14.heap) σ15 H' s' → Nx1 H' → ∃ m, m < k ∧ ∃ j H', Inv (X.blk s3 H3 scope ce fp) ([] ++ pinsAt fp s7.heap) (L2.wipe σ8 vs1) H' s' ∧ tn1 j s'.heap ∧ (∀ b ∈ fp1, H' b = none) ∧ W1 j m H' := fun {s' H'} I' nx => by
              obtain ⟨m', hm, w'⟩ := hNx1 H' nx
              have pin' : ∀ b ∈ fp1, ∀ o, s14.heap.get? b = some o → s'.heap.get? b = some o ∧ H' b = none := fun b hb o e =>
                let z := I'.pin (b, o) (List.mem_append_right _ (List.mem_append_right _ (mem_pinsAt hb e)))
                ⟨z.1, z.2.1⟩
              refine ⟨m', hm, j + 1, H', I'.unpinned.weak (by rw [← hw15, L2.wipe_length]) (fun j v e => by rw [← hw15] at e; exact ( L2.wipe_some e).1), T1.keep _ _ _ st14 fun b hb o e => (pin' b hb o e).1, fun b hb => ?_, w'⟩
              obtain ⟨o, e, _⟩ := T1.obj _ _ st14 b hb
              exact (pin' b hb o e).2
            cases b1 with
            | false =>
              simp only [Bool.false_eq_true, if_false] at q16 ⊢
              exact fin1 I16 q16
            | true =>
              simp only [if_true] at q16 ⊢
              refine thnF (pk.run _ s16 σ15 H16 _ I16 q16) fun z s17 ⟨yk, H17, I17, r17, q17⟩ => ?_
              refine thnF (pe.run _ s17 σ15 H17 _ I17 q17) fun z2 s18 ⟨yv, H18, I18, r18, kvs, k, d, B, C, rD, nB, nC, rk, rv, tk, ta, hl, nx⟩ => ?_
              exact d_dset (X := X.blk s3 H3 scope ce fp) hu I18 hp hw rD nB nC rk r17 rv r18 tk ta hl fun s19 es' ep' B' wr b1 b2 b3 => fin1 wr.inv (nx es' ep' B' wr.rep b1 b2 b3)
        exact compStart1d_ok loop1 (T1.self X.A 0 _ _ _ st11 loop1)
  exact codeAny_compStart_dict loop (T.self X.A 0 _ _ _ st4 loop)
/-- as a value -/
theorem pe_dcD2 {kx vx tg iter tg1 iter1 : Expr} {ifs ifs1 : List Expr} {scope : Scope} {own : List (Str × Nat)} {vs1 : List Nat} {pos : Pos} {wi wi1 : TI} {g g1 : TG} {tt tt1 : TT} {tk tv : TE} (hu : X.A.units + 20 < cLine) (hp : X.prog = c.prog) (hw : X.w = c.w) (hc : X.calm = true) (hN : X.N.Nodup) (hi : PI X tg iter wi) (ok : BlkOk X.N X.env.scope scope own) (hv : ∀ i ∈ vs1, i ∈ own.map (·.2))
    (hg : ∀ (s : Shared) (H : Hp) (C : Addr) (cl : List (Str × Addr)) (fp : List Addr), PG (X.blk s H scope (compEnvC scope cl C X.env) fp) tg g) (ht : ∀ (s : Shared) (H : Hp) (C : Addr) (cl : List (Str × Addr)) (fp : List Addr), PTs (X.blk s H scope (compEnvC scope cl C X.env) fp) ifs tt)
    (hi1 : ∀ (s : Shared) (H : Hp) (C : Addr) (cl : List (Str × Addr)) (fp : List Addr), PI (X.blk s H scope (compEnvC scope cl C X.env) fp) tg1 iter1 wi1)
    (hg1 : ∀ (s : Shared) (H : Hp) (C : Addr) (cl : List (Str × Addr)) (fp : List Addr), PG (X.blk s H scope (compEnvC scope cl C X.env) fp) tg1 g1) (ht1 : ∀ (s : Shared) (H : Hp) (C : Addr) (cl : List (Str × Addr)) (fp : List Addr), PTs (X.blk s H scope (compEnvC scope cl C X.env) fp) ifs1 tt1)
    (hk : ∀ (s : Shared) (H : Hp) (C : Addr) (cl : List (Str × Addr)) (fp : List Addr), PE (X.blk s H scope (compEnvC scope cl C X.env) fp) kx tk) (he : ∀ (s : Shared) (H : Hp) (C : Addr) (cl : List (Str × Addr)) (fp : List Addr), PE (X.blk s H scope (compEnvC scope cl C X.env) fp) vx tv) (hs : ∀ x, foldedSetIterable iter X.env x = pure x := by intro _; rfl) (hs1 : ∀ env x, foldedSetIterable iter1 env x = pure x := by intro _ _; rfl) :
    PE X (.DictComp kx vx [⟨tg, iter, ifs, 0⟩, ⟨tg1, iter1, ifs1, 0⟩] scope pos) (tDcD2 c wi g tt wi1 g1 tt1 tk tv (own.map (·.2)) vs1) := by
  refine ⟨fun pins s σ H Q I h => ?_⟩
  rw [arm_eval_DictComp]
  refine dcD2_core hu hp hw hc hN I hi ok hv hg ht hk he hs hi1 hg1 ht1 hs1 h fun D C s' m H' I' q hn f => ⟨m, hn, fun h'' sb => ?_⟩
  obtain ⟨f0, f1, f2, f3, f4, f5⟩ := f
  exact ⟨.ref D, H', I'.turned (t' := s'.toks) (fun b o hb e => (sb.2 b hb).trans e) f0 f1 f3 f4 f5, rfl, q⟩
end
end N
/-! A2. Dict comprehensions of two clauses: the case. -/
namespace N
open PySem PySem.Spec PyProof.Rows L2

section
variable {c : Cfg} {cf : CF} {Γ : Ct} {X : Cx} {F : Foot} {env : Env} {σ : L2.St} {H H1 H2 H3 : Hp} {S S1 S2 : Src}
/-- name = {..} on one line, two clauses -/
theorem ps_setDcD2 {i : Nat} {y : Str} {py : Pos} {kx vx tg iter tg1 iter1 : Expr} {ifs ifs1 : List Expr} {scope : Scope} {own : List (Str × Nat)} {vs1 : List Nat} {pos spos : Pos} {wi wi1 : TI} {g g1 : TG} {tt tt1 : TT} {tk tv : TE} (hu : X.A.units + 20 < cLine) (hp : X.prog = c.prog) (hw : X.w = c.w) (hc : X.calm = true) (hN : X.N.Nodup) (hy : X.N[i]? = some y) (hyl : X.env.scope.names.lookup y = some .local)
    (hsw : swapsWith (.DictComp kx vx [⟨tg, iter, ifs, 0⟩, ⟨tg1, iter1, ifs1, 0⟩] scope pos) (some (.Name y py)) spos.line X.env = pure true) (hi : PI X tg iter wi) (ok : BlkOk X.N X.env.scope scope own) (hv : ∀ i ∈ vs1, i ∈ own.map (·.2))
    (hg : ∀ (s : Shared) (H : Hp) (C : Addr) (cl : List (Str × Addr)) (fp : List Addr), PG (X.blk s H scope (compEnvC scope cl C X.env) fp) tg g) (ht : ∀ (s : Shared) (H : Hp) (C : Addr) (cl : List (Str × Addr)) (fp : List Addr), PTs (X.blk s H scope (compEnvC scope cl C X.env) fp) ifs tt)
    (hi1 : ∀ (s : Shared) (H : Hp) (C : Addr) (cl : List (Str × Addr)) (fp : List Addr), PI (X.blk s H scope (compEnvC scope cl C X.env) fp) tg1 iter1 wi1)
    (hg1 : ∀ (s : Shared) (H : Hp) (C : Addr) (cl : List (Str × Addr)) (fp : List Addr), PG (X.blk s H scope (compEnvC scope cl C X.env) fp) tg1 g1)
    (ht1 : ∀ (s : Shared) (H : Hp) (C : Addr) (cl : List (Str × Addr)) (fp : List Addr), PTs (X.blk s H scope (compEnvC scope cl C X.env) fp) ifs1 tt1)
    (hk : ∀ (s : Shared) (H : Hp) (C : Addr) (cl : List (Str × Addr)) (fp : List Addr), PE (X.blk s H scope (compEnvC scope cl C X.env) fp) kx tk)
    (he : ∀ (s : Shared) (H : Hp) (C : Addr) (cl : List (Str × Addr)) (fp : List Addr), PE (X.blk s H scope (compEnvC scope cl C X.env) fp) vx tv) (hs : ∀ x, foldedSetIterable iter X.env x = pure x) (hs1 : ∀ env x, foldedSetIterable iter1 env x = pure x) :
    PS X (.Assign [.Name y py] (.DictComp kx vx [⟨tg, iter, ifs, 0⟩, ⟨tg1, iter1, ifs1, 0⟩] scope pos) spos) (tAsg (tDcD2 c wi g tt wi1 g1 tt1 tk tv (own.map (·.2)) vs1) (gName i)) := by
  refine ⟨fun pins s σ H D I h => ?_⟩
  rw [exec_Assign_Name_used _ _ _ _ hsw]
  refine wpAny_bind (wpAny_standAt (wpAny_bind ?_))
  show wpAny _ X.A (do let _ ← comprehension (.DictComp kx vx [⟨tg, iter, ifs, 0⟩, ⟨tg1, iter1, ifs1, 0⟩] scope pos) scope X.env (firstIterPos [⟨tg, iter, ifs, 0⟩, ⟨tg1, iter1, ifs1, 0⟩] pos) newDict false (eval iter X.env) (some (assign (.Name y py) X.env))) _ _ s
  have h : tDcD2 c wi g tt wi1 g1 tt1 tk tv (own.map (·.2)) vs1 σ H (fun x H1 => gName i x σ H1 D.nx) := h
  refine wpAny_bind (thn (dcD2_core (Qf := fun _ s' => SP X pins D .next s') hu hp hw hc hN I hi ok hv hg ht hk he hs hi1 hg1 ht1 hs1 h fun L C s' m H' I' q hn f => ?_) fun _ s' hq => wpAny_pure (wpAny_pure hq))
  show wpAny _ _ (assign (.Name y py) X.env (.ref L)) _ _ _
  refine wpAny_assign_Name (store_ok2 (v := V.ref L) I' hN hy (.inl hyl) rfl (fun s2 I2 ⟨a, sb, ha⟩ => ?_) (.inr hyl))
  obtain ⟨f0, f1, f2, f3, f4, f5⟩ := f
  have haC : C ≠ a := by
    rcases ha with z | z
    · rw [z]; exact f1
    · exact fun e => f4 y a z e.symm
  refine ⟨m, hn.sameBut sb haC, fun h3 sb3 => ?_⟩
  exact ⟨_, H', I2.turned (t' := s2.toks) (fun b o hb e => (sb3.2 b hb).trans e) f0 f1 f3 f4 f5, q⟩

def step3 (cf : CF) (ke ve : N.X) (t1 : T) (own1 : List Nat) (env1 : Env) : D → Src → Option (Option D × Src) := fun d1 s5 => match bindT t1 d1 (N.wipe (N.flat env1) own1) with
  | some env2 => bD (ev cf ke env2 s5) fun kd _ s7 => bD (ev cf ve env2 s7) fun vd _ s8 => if imm kd && imm vd then some (some (.tuple [kd, vd]), s8) else none
  | none => none
def step2 (cf : CF) (ke ve : N.X) (t : T) (it1 : It) (t1 : T) (own own1 : List Nat) (env : Env) : D → Src → Option (List D × Src) := fun d s2 => match bindT t d (N.wipe (N.flat env) own) with
  | some env1 => (match evi cf it1 env1 s2 with
    | some (ds1, s4) => lcRun (step3 cf ke ve t1 own1 env1) ds1 s4
    | none => none)
  | none => none
theorem step3_inv {ke ve : N.X} {t1 : T} {own1 : List Nat} {d : D} {Si S' : Src} {o : Option D} (h : step3 cf ke ve t1 own1 env d Si = some (o, S')) :
    ∃ env2 kd o1 s7 vd o2, bindT t1 d (N.wipe (N.flat env) own1) = some env2 ∧ ev cf ke env2 Si = some (.dat kd o1, s7) ∧ ev cf ve env2 s7 = some (.dat vd o2, S') ∧ imm kd = true ∧ imm vd = true ∧ o = some (.tuple [kd, vd]) := by
  unfold step3 at h
  split at h
  · rename_i env2 e1
    obtain ⟨kd, o1, s5, e2, h⟩ := bD_inv h
    obtain ⟨vd, o2, s6, e3, h⟩ := bD_inv h
    split at h
    · rename_i g
      cases h
      rw [Bool.and_eq_true] at g
      exact ⟨env2, kd, o1, s5, vd, o2, e1, e2, e3, g.1, g.2, rfl⟩
    · cases h
  · cases h
theorem step2_inv {ke ve : N.X} {t t1 : T} {it1 : It} {own own1 : List Nat} {d : D} {Si S' : Src} {zs : List D} (h : step2 cf ke ve t it1 t1 own own1 env d Si = some (zs, S')) :
    ∃ env1 ds1 s4, bindT t d (N.wipe (N.flat env) own) = some env1 ∧ evi cf it1 env1 Si = some (ds1, s4) ∧ lcRun (step3 cf ke ve t1 own1 env1) ds1 s4 = some (zs, S') := by
  unfold step2 at h
  split at h
  · rename_i env1 e1
    split at h
    · rename_i ds1 s4 e2
      exact ⟨env1, ds1, s4, e1, e2, h⟩
    · cases h
  · cases h
theorem lc2Run_nil {step : D → Src → Option (List D × Src)} {s : Src} {r : List D × Src} (h : lc2Run step [] s = some r) : r = ([], s) := by
  rw [lc2Run] at h
  exact (Option.some.inj h).symm
theorem lc2Run_cons {step : D → Src → Option (List D × Src)} {x : D} {xs : List D} {s : Src} {rs : List D} {s2 : Src} (h : lc2Run step (x :: xs) s = some (rs, s2)) :
    ∃ zs s1 ys, step x s = some (zs, s1) ∧ lc2Run step xs s1 = some (ys, s2) ∧ rs = zs ++ ys := by
  rw [lc2Run] at h
  split at h
  · rename_i zs s1 e
    split at h
    · rename_i ys s2' e2
      cases h
      exact ⟨zs, s1, ys, e, e2, rfl⟩
    · cases h
  · cases h
theorem Rel.keepK (r : Rel c env σ H F) (k : ∀ i, Kp c H H1 (F i)) : Rel c env σ H1 F := ⟨r.len, fun i => (r.rep i).keep (k i), r.one, r.apart⟩
/-- keeping all that does not lean on a dict that is written to -/
theorem kp_dict {D0 : Addr} {kvs : List (D × D)} {B U : List Addr} {o : HO} (r : Rep c H (.ref D0) (.dict kvs) B) (nU : D0 ∉ U) : Kp c H (upd H D0 o) U := fun a o' e l hq => by
  have ne : a ≠ D0 := by
    rintro rfl
    rcases hq with ⟨ws, z⟩ | hq
    · subst z
      obtain ⟨a', es, B0, ea, eF, _⟩ := r.dct_inv
      cases ea
      exact (r.foot a (by rw [eF]; exact List.mem_cons_self ..)).2.2 ws e
    · exact nU hq
  rw [upd_ne ne]
  exact e
theorem c_dc2 {ke ve : N.X} {t t1 : T} {it it1 : It} {xk xv tg iter tg1 iter1 : Expr} {scope : Scope} {ow : List (Str × Nat)} {own1 : List Nat} {pos : Pos} (gd : Gd c cf Γ X) (hi : PI X tg iter (rdI c cf it)) (ok : BlkOk X.N X.env.scope scope ow) (hv1 : ∀ i ∈ own1, i ∈ ow.map (·.2))
    (hg : ∀ (s : Shared) (H : Hp) (C : Addr) (cl : List (Str × Addr)) (fp : List Addr), PG (X.blk s H scope (compEnvC scope cl C X.env) fp) tg (gT c t))
    (hi1 : ∀ (s : Shared) (H : Hp) (C : Addr) (cl : List (Str × Addr)) (fp : List Addr), PI (X.blk s H scope (compEnvC scope cl C X.env) fp) tg1 iter1 (rdI c cf it1))
    (hg1 : ∀ (s : Shared) (H : Hp) (C : Addr) (cl : List (Str × Addr)) (fp : List Addr), PG (X.blk s H scope (compEnvC scope cl C X.env) fp) tg1 (gT c t1))
    (hk : ∀ (s : Shared) (H : Hp) (C : Addr) (cl : List (Str × Addr)) (fp : List Addr), PE (X.blk s H scope (compEnvC scope cl C X.env) fp) xk (rd c cf ke)) (hv : ∀ (s : Shared) (H : Hp) (C : Addr) (cl : List (Str × Addr)) (fp : List Addr), PE (X.blk s H scope (compEnvC scope cl C X.env) fp) xv (rd c cf ve))
    (hs : ∀ x, foldedSetIterable iter X.env x = pure x) (hs1 : ∀ env x, foldedSetIterable iter1 env x = pure x) (hsub : ∀ i ∈ tns t, i ∈ ow.map (·.2)) (hsub1 : ∀ i ∈ tns t1, i ∈ own1) :
    PE X (.DictComp xk xv [⟨tg, iter, [], 0⟩, ⟨tg1, iter1, [], 0⟩] scope pos) (rd c cf (.dc2 ke ve t it t1 it1 (ow.map (·.2)) own1)) ∧ ∀ σ H Q, rd c cf (.dc2 ke ve t it t1 it1 (ow.map (·.2)) own1) σ H Q → tDcD2 c (rdI c cf it) (gT c t) (rdTs c cf .nil) (rdI c cf it1) (gT c t1) (rdTs c cf .nil) (rd c cf ke) (rd c cf ve) (ow.map (·.2)) own1 σ H Q := by
  have hu := gd.hu
  suffices key : ∀ σ H Q, rd c cf (.dc2 ke ve t it t1 it1 (ow.map (·.2)) own1) σ H Q → tDcD2 c (rdI c cf it) (gT c t) (rdTs c cf .nil) (rdI c cf it1) (gT c t1) (rdTs c cf .nil) (rd c cf ke) (rd c cf ve) (ow.map (·.2)) own1 σ H Q from
    ⟨pe_weak (pe_dcD2 (c := c) (by omega) gd.hp gd.hw gd.calm gd.nd hi ok hv1 hg (fun _ _ _ _ _ => ts_nil) hi1 hg1 (fun _ _ _ _ _ => ts_nil) hk hv hs hs1) key, key⟩
  rintro σ H Q ⟨env, F, S, r, S1, R, sr, ee, q⟩
  simp only [ev] at ee
  split at ee
  · rename_i ds s1 ei
    split at ee
    · rename_i rs s2 er
      split at ee
      · rename_i ls ek
        cases ee
        have er' : lc2Run (step2 cf ke ve t it1 t1 (ow.map (·.2)) own1 env) ds s1 = some (rs, _) := er
        clear er
        obtain ⟨tp, _, ek⟩ := dputsT_out ek
        refine ⟨env, F, S, ds, s1, R, sr, ei, fun H1 U x1 sr1 fu S0 hS0 kS hlen hU => ?_⟩
        intro Dd hD msys
        have lD : c.Live Dd := sr1.tk.live hD
        have nFD : ∀ i, Dd ∉ F i := fun i z => x1.2 _ (foot_n R z) hD
        have nUD : Dd ∉ U := fun z => hU _ z hD
        refine ⟨fun i m H' => m = ds.length - i ∧ i ≤ ds.length ∧ ∃ Si kvs rest, S0 H' ∧ SrcAt c H' Si ∧ Ext c H1 H' ∧ Rep c H' (.ref Dd) (.dict kvs) [Dd] ∧ kvs.all (fun p => tkey p.1) = true ∧ lc2Run (step2 cf ke ve t it1 t1 (ow.map (·.2)) own1 env) (ds.drop i) Si = some (rest, S1) ∧ dputs kvs rest = some ls ∧ rest.all tpair = true,
          ⟨ds.length, Nat.sub_zero _, Nat.zero_le _, s1, [], rs, kS H1 _ (fun a o e l hq => by rw [upd_ne (ne_of_none e hD)]; exact e) hS0, sr1.upd hD, Ext.upd hD, .dct lD msys upd_same (Nat.zero_le _) .nil List.nodup_nil rfl, rfl, er', ek, tp⟩, ?_⟩
        rintro i m H' ⟨rfl, hi, Si, kvs, rest, hS, sri, xi, rD, ta, el, ed, tp⟩
        rcases Nat.lt_or_ge i ds.length with hlt | hge
        · refine .inr ⟨⟨hS, sri.tk, hlt⟩, ?_⟩
          have hd : ds.drop i = ds[i] :: ds.drop (i + 1) := List.drop_eq_getElem_cons hlt
          rw [hd] at el
          obtain ⟨zs, s5, ys, es, ey, rfl⟩ := lc2Run_cons el
          refine ⟨fun H5 => ∃ kvs', S0 H5 ∧ SrcAt c H5 s5 ∧ Ext c H1 H5 ∧ Rep c H5 (.ref Dd) (.dict kvs') [Dd] ∧ kvs'.all (fun p => tkey p.1) = true ∧ dputs kvs' ys = some ls ∧ ys.all tpair = true,
            fun H5 ⟨kvs', p1, p2, p3, p4, p5, p6, p7⟩ => ⟨ds.length - (i + 1), by omega, rfl, hlt, s5, kvs', ys, p1, p2, p3, p4, p5, ey, p6, p7⟩, fun x Hi ⟨sm, d, A0, edd, rd0, hA0⟩ => ?_⟩
          have ed' : d = ds[i] := by rw [List.getElem?_eq_getElem hlt] at edd; exact (Option.some.inj edd).symm
          subst ed'
          have xH : Ext c H' Hi := same_ext sm
          obtain ⟨env1, ds1, s4, e1, ei1, el1⟩ := step2_inv es
          refine turn_head R hsub hA0 ((x1.trans xi).trans xH) (sri.same sm) rd0 e1 (show tests cf .nil env1 Si = some (true, Si) by simp only [tests]) fun σ2 F2 H3 R2 nO x3 sr3 _ ft => ?_
          rw [if_pos rfl]
          have nF2 : ∀ i, Dd ∉ F2 i := fun i z => (ft i Dd z).elim (fun z => nFD i z.2) nUD
          have xt := xH.trans x3
          refine ⟨env1, F2, Si, ds1, s4, R2, sr3, ei1, fun H4 U1 x4 sr4 fu1 S01 hS01 kS1 hlen1 hU1 => ?_⟩
          have hD3 : H3 Dd ≠ none := fun z => (rD.ext xt).foot Dd (List.mem_cons_self ..) |>.1 z
          have nU1 : Dd ∉ U1 := fun z => (fu1 _ z).elim hD3 fun ⟨i, _, w⟩ => nF2 i w
          have el1' := el1
          refine ⟨fun j k Hc => k = ds1.length - j ∧ j ≤ ds1.length ∧ ∃ Sj kvs' rest1, S01 Hc ∧ S0 Hc ∧ SrcAt c Hc Sj ∧ Ext c H1 Hc ∧ Rel c env1 σ2 Hc F2 ∧ Rep c Hc (.ref Dd) (.dict kvs') [Dd] ∧ kvs'.all (fun p => tkey p.1) = true ∧ lcRun (step3 cf ke ve t1 own1 env1) (ds1.drop j) Sj = some (rest1, s5) ∧ dputs kvs' (rest1 ++ ys) = some ls ∧ (rest1 ++ ys).all tpair = true,
            ⟨ds1.length, Nat.sub_zero _, Nat.zero_le _, s4, kvs, zs, hS01, kS H' _ (fun a o e l hq => x4.1 _ _ (xt.1 _ _ e l) l) hS, sr4, (xi.trans xt).trans x4, R2.ext x4, (rD.ext xt).ext x4, ta, el1, ed, tp⟩, ?_⟩
          rintro j k Hc ⟨rfl, hj, Sj, kvs', rest1, hc1, hc0, src, xc, Rc, rDc, tac, elc, edc, tpc⟩
          rcases Nat.lt_or_ge j ds1.length with hlt1 | hge1
          · refine .inr ⟨⟨hc1, src.tk, hlt1⟩, ?_⟩
            have hd1 : ds1.drop j = ds1[j] :: ds1.drop (j + 1) := List.drop_eq_getElem_cons hlt1
            rw [hd1] at elc
            obtain ⟨o, s6, ys1, es1, ey1, e01⟩ := lcRun_cons elc
            obtain ⟨env2, kd, o1, s7, vd, o2, b2, ek2, ev2, ik, iv, rfl⟩ := step3_inv es1
            have e01 : rest1 = .tuple [kd, vd] :: ys1 := e01
            subst e01
            refine ⟨fun H5 => ∃ kvs'', S01 H5 ∧ S0 H5 ∧ SrcAt c H5 s6 ∧ Ext c H1 H5 ∧ Rel c env1 σ2 H5 F2 ∧ Rep c H5 (.ref Dd) (.dict kvs'') [Dd] ∧ kvs''.all (fun p => tkey p.1) = true ∧ dputs kvs'' (ys1 ++ ys) = some ls ∧ (ys1 ++ ys).all tpair = true,
              fun H5 ⟨kvs'', p1, p2, p3, p4, p5, p6, p7, p8, p9⟩ => ⟨ds1.length - (j + 1), by omega, rfl, hlt1, s6, kvs'', ys1, p1, p2, p3, p4, p5, p6, p7, ey1, p8, p9⟩, fun x1' Hi1 ⟨sm1, d1, A1, edd1, rd1, hA1⟩ => ?_⟩
            have ed1' : d1 = ds1[j] := by rw [List.getElem?_eq_getElem hlt1] at edd1; exact (Option.some.inj edd1).symm
            subst ed1'
            have xH1 : Ext c Hc Hi1 := same_ext sm1
            refine turn_head Rc hsub1 hA1 xH1 (src.same sm1) rd1 b2 (show tests cf .nil env2 Sj = some (true, Sj) by simp only [tests]) fun σ3 F3 H6 R3 nO3 x6 sr6 _ ft3 => ?_
            rw [if_pos rfl]
            rw [List.cons_append, List.all_cons, Bool.and_eq_true] at tpc
            obtain ⟨hl1, hd2⟩ := dputs_cons edc
            refine ⟨env2, F3, _, _, _, R3, sr6, ek2, fun yk H7 Gk vk sr7 => ⟨env2, F3, _, _, _, R3.ext vk.ext, sr7, ev2, fun yv H8 Gv vv sr8 => ?_⟩⟩
            have gk : Gk = [] := vk.get.imm ik
            subst gk
            have gv : Gv = [] := vv.get.imm iv
            subst gv
            have xa := (xH1.trans x6).trans (vk.ext.trans vv.ext)
            have r8 := rDc.ext xa
            refine ⟨kvs', kd, vd, [], [], r8, fun z => (nomatch z), fun z => (nomatch z), vk.get.ext vv.ext, vv.get, tpc.1, tac, hl1, fun es' ep' B' rp sub n' _ => ?_⟩
            have eB : B' = [] := by
              cases B' with
              | nil => rfl
              | cons b B' => exact ((sub b (List.mem_cons_self ..)).elim (fun z => (nomatch z)) fun z => (nomatch z))
            subst eB
            refine ⟨dput kvs' kd vd, kS1 Hc _ (fun a o e l hq => kp_dict r8 nU1 a o (xa.1 _ _ e l) l hq) hc1, kS Hc _ (fun a o e l hq => kp_dict r8 nUD a o (xa.1 _ _ e l) l hq) hc0, ?_, ?_, (Rc.ext xa).keepK (fun i => kp_dict r8 (nF2 i)), rp, keys_dput tac tpc.1, hd2, tpc.2⟩
            · exact sr8.ext (upd_ne fun z => lD.1 z.symm) (upd_ne fun z => lD.2 z.symm)
            · refine ⟨fun a o e l => ?_, fun a e => ?_⟩
              · rw [upd_ne (ne_of_none e hD)]
                exact xa.1 _ _ (xc.1 _ _ e l) l
              · by_cases h : a = Dd
                · subst h; rw [upd_same]; exact fun z => nomatch z
                · rw [upd_ne h]; exact xa.2 _ (xc.2 _ e)
          · have hje : j = ds1.length := by omega
            subst hje
            refine .inl ⟨⟨hc1, src.tk, rfl⟩, ?_⟩
            rw [List.drop_length] at elc
            cases lcRun_nil elc
            exact ⟨kvs', hc0, src, xc, rDc, tac, edc, tpc⟩
        · have hie : i = ds.length := by omega
          subst hie
          refine .inl ⟨⟨hS, sri.tk, rfl⟩, ?_⟩
          rw [List.drop_length] at el
          cases lc2Run_nil el
          rw [dputs] at ed
          cases ed
          exact q _ H' [Dd] (dict_val (own2 := false) (x1.trans xi) (x1.none hD) rD (fun z => (nomatch z)) (fun a z => (nomatch z)) fun h => (nomatch h)) sri
      · cases ee
    · cases ee
  · cases ee
theorem s_asg_dc2 {i : Nat} {y : Str} {py : Pos} {ke ve : N.X} {t t1 : T} {it it1 : It} {xk xv tg iter tg1 iter1 : Expr} {scope : Scope} {ow : List (Str × Nat)} {own1 : List Nat} {pos spos : Pos} (gd : Gd c cf Γ X) (hy : X.N[i]? = some y) (hyl : X.env.scope.names.lookup y = some .local)
    (hsw : swapsWith (.DictComp xk xv [⟨tg, iter, [], 0⟩, ⟨tg1, iter1, [], 0⟩] scope pos) (some (.Name y py)) spos.line X.env = pure true) (hi : PI X tg iter (rdI c cf it)) (ok : BlkOk X.N X.env.scope scope ow) (hv1 : ∀ i ∈ own1, i ∈ ow.map (·.2))
    (hg : ∀ (s : Shared) (H : Hp) (C : Addr) (cl : List (Str × Addr)) (fp : List Addr), PG (X.blk s H scope (compEnvC scope cl C X.env) fp) tg (gT c t))
    (hi1 : ∀ (s : Shared) (H : Hp) (C : Addr) (cl : List (Str × Addr)) (fp : List Addr), PI (X.blk s H scope (compEnvC scope cl C X.env) fp) tg1 iter1 (rdI c cf it1))
    (hg1 : ∀ (s : Shared) (H : Hp) (C : Addr) (cl : List (Str × Addr)) (fp : List Addr), PG (X.blk s H scope (compEnvC scope cl C X.env) fp) tg1 (gT c t1))
    (hk : ∀ (s : Shared) (H : Hp) (C : Addr) (cl : List (Str × Addr)) (fp : List Addr), PE (X.blk s H scope (compEnvC scope cl C X.env) fp) xk (rd c cf ke)) (hv : ∀ (s : Shared) (H : Hp) (C : Addr) (cl : List (Str × Addr)) (fp : List Addr), PE (X.blk s H scope (compEnvC scope cl C X.env) fp) xv (rd c cf ve))
    (hs : ∀ x, foldedSetIterable iter X.env x = pure x) (hs1 : ∀ env x, foldedSetIterable iter1 env x = pure x) (hsub : ∀ i ∈ tns t, i ∈ ow.map (·.2)) (hsub1 : ∀ i ∈ tns t1, i ∈ own1) :
    PS X (.Assign [.Name y py] (.DictComp xk xv [⟨tg, iter, [], 0⟩, ⟨tg1, iter1, [], 0⟩] scope pos) spos) (rdS c cf (.asg (.nm i) (.dc2 ke ve t it t1 it1 (ow.map (·.2)) own1))) :=
  have hu := gd.hu
  ps_weak (ps_setDcD2 (c := c) (by omega) gd.hp gd.hw gd.calm gd.nd hy hyl hsw hi ok hv1 hg (fun _ _ _ _ _ => ts_nil) hi1 hg1 (fun _ _ _ _ _ => ts_nil) hk hv hs hs1) fun De σ H h => (c_dc2 (pos := pos) gd hi ok hv1 hg hi1 hg1 hk hv hs hs1 hsub hsub1).2 σ H _ (asg_name De σ H h)
end
end N
/-! A3. Displays with text keys, list.index, tuples of constants to targets. -/
namespace N
open PySem PySem.Spec PyProof.Rows L2

section
variable {c : Cfg} {cf : CF} {Γ : Ct} {X : Cx} {F : Foot} {env : Env} {σ : L2.St} {H H1 H2 H3 : Hp} {S S1 S2 : Src}
/-! ### displays with text keys -/
def trsOf (c : Cfg) (cf : CF) : Ps → List (TE × TE)
  | .nil => []
  | .cons k v ps => (rd c cf k, rd c cf v) :: trsOf c cf ps
inductive KvRep (c : Cfg) (H : Hp) : List (Key × V) → List D → List Addr → Prop
  | nil : KvRep c H [] [] []
  | cons {x v d kvs rs A B} : Rep c H v d A → KvRep c H kvs rs B → KvRep c H ((.inr x, v) :: kvs) (.tuple [.str x, d] :: rs) (A ++ B)
theorem KvRep.length {kvs : List (Key × V)} {rs : List D} {A : List Addr} (r : KvRep c H kvs rs A) : kvs.length = rs.length := by
  induction r with
  | nil => rfl
  | cons _ _ ih => rw [List.length_cons, List.length_cons, ih]
theorem evp_pairs : ∀ {ps : Ps} {env : Env} {F : Foot} {σ : L2.St} {H : Hp} {S S1 : Src} {prs : List D} {K : List (V × V) → Hp → Prop}, Rel c env σ H F → SrcAt c H S → evp cf ps env S = some (prs, S1) → prs.all spair = true →
    (∀ H' A kvs, Ext c H H' → KvRep c H' kvs prs A → Ft F (alp ps) H A → SrcAt c H' S1 → K (kvs.map fun kv => (kV kv.1, kv.2)) H') → tPairs (trsOf c cf ps) σ H K
  | .nil, env, F, σ, H, S, S1, prs, K, R, sr, e, _, q => by
    simp only [evp] at e
    cases e
    exact q H [] [] Ext.refl .nil Ft.nil sr
  | .cons k v ps, env, F, σ, H, S, S1, prs, K, R, sr, e, hp, q => by
    simp only [evp] at e
    obtain ⟨kd, o1, s1, e1, e⟩ := bD_inv e
    obtain ⟨vd, o2, s2, e2, e⟩ := bD_inv e
    split at e
    · rename_i prs' s3 e3
      cases e
      rw [List.all_cons, Bool.and_eq_true] at hp
      obtain ⟨x, rfl⟩ : ∃ x, kd = .str x := by
        have h := hp.1
        cases kd <;> first | exact ⟨_, rfl⟩ | (simp [spair] at h)
      refine ⟨env, F, S, _, _, R, sr, e1, fun yk H1 Gk vk sr1 => ⟨env, F, s1, _, _, R.ext vk.ext, sr1, e2, fun yv H2 Gv vv sr2 => ?_⟩⟩
      refine evp_pairs ((R.ext vk.ext).ext vv.ext) sr2 e3 hp.2 fun H3 A kvs x3 kr ft sr3 => ?_
      have gk : Gk = [] := vk.get.imm rfl
      subst gk
      have ek : yk = kV (.inr x) := by
        have r := vk.get
        cases r
        rfl
      subst ek
      exact q H3 (Gv ++ A) ((.inr x, yv) :: kvs) ((vk.ext.trans vv.ext).trans x3) (.cons (vv.get.ext x3) kr) (Ft.app (Ft.back vk.ext vv.foot) (Ft.back (vk.ext.trans vv.ext) ft)) sr3
    · cases e
theorem merge_rep : ∀ {more : List (Key × V)} {prs : List D} {A : List Addr}, KvRep c H more prs A → ∀ {rs acc : List (Key × Value)} {kvs0 kvs : List (D × D)} {B0 : List Addr}, KV more rs → PsRep c H acc kvs0 B0 → (kvs0.map fun p => nk p.1).Nodup → dputs kvs0 prs = some kvs →
    ∃ B, PsRep c H (merged acc rs) kvs B ∧ (∀ x ∈ B, x ∈ B0 ∨ x ∈ A) ∧ (kvs.map fun p => nk p.1).Nodup
  | _, _, _, .nil, rs, acc, kvs0, kvs, B0, kv, r, n, h => by
    cases kv
    rw [dputs] at h
    cases h
    exact ⟨B0, r, fun x z => .inl z, n⟩
  | _, _, _, .cons (x := x) (v := v) (d := d) (A := A) (B := B1) rv t, rs, acc, kvs0, kvs, B0, kv, r, n, h => by
    cases kv with
    | @cons _ q _ qs hq tq =>
      obtain ⟨hl, h2⟩ := dputs_cons h
      obtain ⟨B', p1, p2⟩ := ps_put (k := .str x) (d := d) rfl hq.2 rv r
      have e1 : q.1 = .inr x := hq.1.symm
      obtain ⟨B, r1, r2, r3⟩ := merge_rep t tq p1 (nodup_dput n) h2
      refine ⟨B, ?_, fun y z => ?_, r3⟩
      · show PsRep c H (merged (stored acc q.1 q.2) qs) kvs B
        rw [e1]
        exact r1
      · rcases r2 y z with z | z
        · exact (p2 y z).imp id fun z => List.mem_append_left _ z
        · exact .inr (List.mem_append_right _ z)
theorem c_dicS {ps : Ps} {ks : List (Option Expr)} {vs : List Expr} {pos : Pos} (gd : Gd c cf Γ X) (h : PPs X pos ks vs (trsOf c cf ps)) (hall : ks.all (·.isSome) = true) (hl : ks.length = vs.length) (h2 : 2 ≤ ks.length) (h15 : ks.length ≤ 15)
    (hps : ∀ env S prs S1, evp cf ps env S = some (prs, S1) → prs.length = ks.length) : PE X (.Dict ks vs pos) (rd c cf (.dic false ps)) := by
  refine ⟨fun pins s σ H Q I ⟨env, F, S, r, S1, R, sr, e, q⟩ => ?_⟩
  simp only [ev] at e
  split at e
  · rename_i prs s1 e1
    split at e
    · rename_i kvs ek
      split at e
      · rename_i hle
        rw [if_neg Bool.false_ne_true] at e
        cases e
        have hlen := hps _ _ _ _ e1
        obtain ⟨hsp, hd⟩ : prs.all spair = true ∧ dputs [] prs = some kvs := by
          unfold dputsD at ek
          split at ek
          · simp at hlen; omega
          · simp at hlen; omega
          · split at ek
            · rename_i g; exact ⟨g, ek⟩
            · cases ek
        have hn := I.hok.fresh (Nat.le_refl s.heap.objs.size)
        have lD := sr.tk.live hn
        have msys : (s.heap.objs.size == sysModules) = false := beq_eq_false_iff_ne.mpr (Ne.symm (Nat.ne_of_lt I.big))
        have I1 := I.laid (a := s.heap.objs.size) (o := .dK []) (h' := s.heap.push { cls := .type "dict", data := .dict #[] }) (t' := s.toks) (fun _ _ q => Heap.get?_push_of_some _ q) (Nat.le_refl _) (dk_empty s.heap I.big)
        have x0 : Ext c H (upd H s.heap.objs.size (.dK [])) := Ext.upd hn
        refine wpAny_Dict_walk (knd := mixKind X.prog X.w) hall hl (by intro z; rw [z] at h2; simp at h2) h15 (thn (h.run pins _ σ _ _ I1 (evp_pairs (R.ext x0) (sr.upd hn) e1 hsp (K := fun pps H2 => ∃ A kv, pps = kv.map (fun kv => (kV kv.1, kv.2)) ∧ Ext c (upd H s.heap.objs.size (.dK [])) H2 ∧ KvRep c H2 kv prs A ∧ Ft F (alp ps) (upd H s.heap.objs.size (.dK [])) A ∧ SrcAt c H2 S1) fun H2 A kv x2 kr ft sr2 => ⟨A, kv, rfl, x2, kr, ft, sr2⟩)) fun ws s2 ⟨pps, H2, I2, rel, A, kv, ep, x2, kr, ft, sr2⟩ => ?_)
        subst ep
        have e2 : H2 s.heap.objs.size = some (.dK []) := x2.1 _ _ upd_same lD
        obtain ⟨rs, cr, rk⟩ := carries_of (P := X.prog) (w := X.w) rel
        obtain ⟨z, _, vs0, r0, dd⟩ := dk_of I2.hok e2
        cases r0
        refine ⟨rs, cr, dd, fun h' dd' hs => ?_⟩
        obtain ⟨o, es, ep, g1, g2, g3, g4, g5, g6⟩ := dd'
        obtain ⟨B, p1, p2, p3⟩ := merge_rep kr rk .nil List.nodup_nil hd
        rw [gd.hp, gd.hw] at g4 g5
        have re := es_of_ps p1 g5 fun x hx => g4 x (by simpa using hx)
        have nB : s.heap.objs.size ∉ B := by
          intro z
          rcases p2 _ z with z | z
          · cases z
          · rcases ft _ z with z | ⟨i, _, z⟩
            · rw [upd_same] at z; cases z
            · exact foot_n R z hn
        have hz : es.size ≤ sizeLine := by
          have q1 := dputs_le hd
          rw [size_es re, ← lim_eq]
          simp only [List.length_nil] at q1
          have q2 : (15 : Nat) ≤ LIM := by decide
          omega
        have kp : Kp c H2 (upd H2 s.heap.objs.size (DO s.heap.objs.size es ep)) B := kp_write e2 (fun vs z => nomatch z) nB
        refine ⟨.ref s.heap.objs.size, upd H2 s.heap.objs.size (DO s.heap.objs.size es ep), d_write I2 (by rw [e2]; exact True.intro) hs ⟨o, g1⟩ (obj_DO ⟨o, g1, g2, g3⟩), rfl, q _ _ (s.heap.objs.size :: B) ?_ ?_⟩
        · refine dict_val (own2 := false) ⟨fun a o e l => ?_, fun a e => ?_⟩ hn (.dct lD msys upd_same hz (re.keep kp) p3 (or_S p1.all.1)) nB (fun a z => ?_) fun z => (nomatch z)
          · rw [upd_ne (ne_of_none e hn)]
            exact x2.1 _ _ (x0.1 _ _ e l) l
          · by_cases h : a = s.heap.objs.size
            · subst h; rw [upd_same]; exact fun z => nomatch z
            · rw [upd_ne h]; exact x2.2 _ (x0.2 _ e)
          · rcases p2 a z with z | z
            · cases z
            · rcases ft a z with z | ⟨i, h1, z⟩
              · exact .inl (x0.none z)
              · exact .inr ⟨i, by simpa [al] using h1, z⟩
        · exact sr2.ext (upd_ne fun z => lD.1 z.symm) (upd_ne fun z => lD.2 z.symm)
      · cases e
    · cases e
  · cases e

/-! ### list.index of ints -/
theorem idx_ints {ns : List Int} {i : Int} (h : i ∈ ns) : ∃ z, ns[ns.idxOf i]? = some z ∧ z = i ∧ ∀ m z', m < ns.idxOf i → ns[m]? = some z' → z' ≠ i := by
  have hl := List.idxOf_lt_length_of_mem h
  refine ⟨ns[ns.idxOf i], List.getElem?_eq_getElem hl, List.getElem_idxOf hl, fun m z' hm hz e => ?_⟩
  subst e
  have q : ns.idxOf z' ≤ m := by
    obtain ⟨hml, hme⟩ := List.getElem?_eq_some_iff.mp hz
    rw [← hme]
    clear hm h hl hz hme
    induction ns generalizing m with
    | nil => simp at hml
    | cons a r ih =>
      cases m with
      | zero => simp
      | succ m =>
        rw [List.getElem_cons_succ, List.idxOf_cons, cond_eq_ite]
        split
        · omega
        · have := ih m (by simpa using hml)
          omega
  omega
theorem c_index {o : N.X} {as : Xs} {xo xa : Expr} {apos cpos : Pos} (g : Gd c cf Γ X) (ho : PE X xo (rd c cf o)) (hs : PA X [xa] (rdA c cf as)) (ns : [xa].all notStar = true) (hb : notCall xo = true) (hl : (apos.endLine == cpos.line) = true) :
    PE X (.Call (.Attribute xo "index" apos) [xa] [] cpos) (rd c cf (.me .index o as)) := by
  have hu := g.hu
  obtain ⟨f1, f2⟩ := few_ok (env := X.env) (cpos := cpos) ns
  rw [List.all_cons, Bool.and_eq_true] at ns
  obtain ⟨_, f3⟩ := few_ok (env := X.env) (cpos := cpos) ns.2
  refine pe_weak (pe_bm PySem.F.plainAttrs_list PySem.F.slot_list_index (by rfl) mt_index ho hs (base_ok _ hb) (by rw [f1]; rfl) hl (star_no ns.1 _ _) f3) ?_
  rintro σ H Q ⟨env, F, S, r, S1, R, s, e, q⟩
  simp only [ev] at e
  obtain ⟨d, o1, s1, eo, e⟩ := bD_inv e
  split at e
  · rename_i ds s2 es
    split at e
    · rename_i r1 o2 er
      cases e
      unfold meD at er
      split at er <;> try contradiction
      · rename_i xs i _
        obtain ⟨ks, hk, er⟩ := Option.bind_eq_some_iff.mp er
        split at er
        · rename_i hi
          cases er
          refine ⟨env, F, S, _, _, R, s, eo, fun x H1 G v sr1 => ?_⟩
          obtain ⟨a, vs, B, rfl, rfl, la, ha, ra⟩ := v.get.lst_inv
          refine ⟨.inl ⟨rfl, vs, .of ha⟩, env, F, _, _, _, R.ext v.ext, sr1, es, fun us H2 A x2 rb ft sr2 => ?_⟩
          have ev := ints_rep hk ra
          subst ev
          cases rb with
          | cons r1 r2 =>
            cases r2
            obtain ⟨rfl, rfl⟩ := r1.int_inv
            obtain ⟨z, hz, rfl, hno⟩ := idx_ints hi.1
            refine ⟨a, ks.map V.int, .int z, ks.idxOf z, .int z, rfl, rfl, .of (x2.1 _ _ ha la), rfl, List.all_eq_true.mpr fun v hv => ?_, by rw [List.getElem?_map, hz]; rfl, by simp [eqV], fun m z' hm hz' => ?_, q _ H2 [] (Val.flat (v.ext.trans x2) (.int _)) sr2⟩
            · obtain ⟨j, _, rfl⟩ := List.mem_map.mp hv
              rfl
            · rw [List.getElem?_map] at hz'
              obtain ⟨j, hj, rfl⟩ := Option.map_eq_some_iff.mp hz'
              have := hno m j hm hj
              simp [eqV, this]
        · cases er
    · cases e
  · cases e

/-! ### tuples of constants, tuples to targets that are no names -/
def notName : Expr → Bool
  | .Name _ _ => false
  | _ => true
/-- no stores are swapped -/
def noSw (es : List Expr) (xe : Expr) : Bool := match xe with
  | .Tuple vs _ _ => !(es.length == 2 || es.length == 3) || vs.length != es.length || es.any notName || vs.all (foldedForSure 8)
  | _ => true
theorem names_less {f : Expr → Option Str} (hf : ∀ e, notName e = true → f e = none) : ∀ {es : List Expr}, es.any notName = true → (es.filterMap f).length < es.length
  | e :: es, h => by
    rw [List.any_cons, Bool.or_eq_true] at h
    rw [List.filterMap_cons]
    cases hn : notName e with
    | true =>
      rw [hf e hn]
      have := List.length_filterMap_le f es
      simp only [List.length_cons]
      omega
    | false =>
      rw [hn] at h
      have := names_less hf (h.resolve_left (by simp))
      cases f e with
      | none => simp only [List.length_cons]; omega
      | some => simp only [List.length_cons]; omega
theorem sw_none {env : PySem.Env} {es : List Expr} {k : Nat} {p : Pos} {xe : Expr} (h : noSw es xe = true) : swappedStores [.Tuple es k p] xe env = pure none := by
  cases xe with
  | Tuple vs k2 p2 =>
    unfold swappedStores
    simp only []
    split
    · rfl
    · rename_i h1
      split
      · rfl
      · split
        · rfl
        · rename_i h3
          split
          · rfl
          · rename_i h4
            exfalso
            simp only [noSw, Bool.or_eq_true] at h
            simp only [Bool.or_eq_true, not_or, Bool.not_eq_true] at h1 h3
            rcases h with ((h | h) | h) | h
            · exact absurd h (by simp [h1.1.1])
            · exact absurd h (by simp [h1.1.2])
            · have h3 := h3.1
              simp only [bne_eq_false_iff_eq] at h3
              exact absurd h3 (Nat.ne_of_lt (names_less (fun e he => by cases e <;> first | rfl | cases he) h))
            · exact h4 h
  | _ => rfl
end
end N
/-! A4. Constants to two places; list comprehensions of two clauses. -/
namespace N
open PySem PySem.Spec PyProof.Rows L2

section
variable {c : Cfg} {cf : CF} {Γ : Ct} {X : Cx} {F : Foot} {env : Env} {σ : L2.St} {H H1 H2 H3 : Hp} {S S1 S2 : Src}
def scal : D → Bool
  | .none | .bool _ | .int _ | .str _ => true
  | _ => false
theorem Rep.scal {v : V} {d : D} {A : List Addr} (r : Rep c H v d A) (h : scal d = true) (H' : Hp) : Rep c H' v d [] := by
  cases r <;> first | (simp [N.scal] at h; done) | constructor
theorem own_slot {i : Nat} {k v : D} {o : Nat} {env1 : Env} (R : Rel c env σ H F) (hp : putD env i k v o = some env1) : ∃ r, σ[i]? = some (some r) := by
  rcases putD_out hp with ⟨kvs, hg, _⟩ | ⟨xs, n, j, _, hg, _⟩
  · obtain ⟨a, _, h1, _⟩ := R.ownD hg; exact ⟨_, h1⟩
  · obtain ⟨a, _, _, h1, _⟩ := R.ownL hg; exact ⟨_, h1⟩
/-- one store of a constant to x[k] -/
theorem sb_one {i : Nat} {kx : N.X} {d : D} {v : V} {env1 : Env} {al0 : List Nat} {Q : L2.St → Hp → Prop} (R : Rel c env σ H F) (sr : SrcAt c H S) (rv : Rep c H v d []) (hd : scal d = true) (hs : store cf al0 (.sb i kx) d 0 env S = some (env1, S1)) (hk : kept env al0 d = env)
    (q : ∀ H' F', Rel c env1 σ H' F' → Step c env F H env1 F' H' → SrcAt c H' S1 → Q σ H') :
    gSub (tVar i) (rd c cf kx) (fun o i v H Q => rSetDD c o i v H Q ∨ rSetL o i v H Q) v σ H Q := by
  simp only [store] at hs
  obtain ⟨kd, ok, sk, ek, hs⟩ := bD_inv hs
  split at hs
  · rename_i env2 hp
    cases hs
    rw [hk] at hp
    obtain ⟨r0, hr0⟩ := own_slot R hp
    refine ⟨r0, hr0, env, F, _, _, _, R, sr, ek, fun ik H2 Gk vk sr2 => ?_⟩
    have gk : Gk = [] := vk.get.imm (putD_imm hp)
    subst gk
    obtain ⟨a, h1, hq⟩ := put_end (Q := fun H3 => Q σ H3) vk.ext (R.ext vk.ext) sr2 vk.get (rv.ext vk.ext) (fun b z => (nomatch z)) (fun b z => (nomatch z)) hp fun H' F' R' st sr' => q H' F' R' st sr'
    rw [hr0] at h1
    cases h1
    exact hq
  · cases hs
theorem k_evr {d : D} {x : List Nat × D × Nat} {S S1 : Src} {o : Nat} {d' : D} (h : ev cf (.k d) env S = some (.dat d' o, S1)) : d' = d ∧ o = 0 ∧ S1 = S := by
  simp only [ev] at h
  cases h
  exact ⟨rfl, rfl, rfl⟩
theorem s_parSb {i j : Nat} {x y : Str} {kx ky : N.X} {d1 d2 : D} {xk yk x1 x2 : Expr} {px py p2 p3 pt pos pt2 : Pos} {kt k2 : Nat} (g : Gd c cf Γ X) (hN1 : X.N[i]? = some x ∧ Vis X.env.scope x ∧ (x == ("__debug__" : Str)) = false ∧ (x == ("__classdict__" : Str)) = false) (hN2 : X.N[j]? = some y ∧ Vis X.env.scope y ∧ (y == ("__debug__" : Str)) = false ∧ (y == ("__classdict__" : Str)) = false)
    (hk1 : PE X xk (rd c cf kx)) (hk2 : PE X yk (rd c cf ky)) (so1 : sub_ok xk = true) (so2 : sub_ok yk = true) (h1 : PE X x1 (rd c cf (.k d1))) (h2 : PE X x2 (rd c cf (.k d2))) (n1 : notStar x1 = true) (n2 : notStar x2 = true) (s1 : scal d1 = true) (s2 : scal d2 = true) :
    PS X (.Assign [.Tuple [.Subscript (.Name x px) xk p2, .Subscript (.Name y py) yk p3] kt pt] (.Tuple [x1, x2] k2 pt2) pos) (rdS c cf (.par (.cons (.sb i kx) (.cons (.sb j ky) .nil)) (.cons false (.k d1) (.cons false (.k d2) .nil)))) := by
  have hu := g.hu
  obtain ⟨a1, a2, a3, a4⟩ := hN1
  obtain ⟨b1, b2, b3, b4⟩ := hN2
  refine ps_weak (ps_asg (pe_tup (pa_cons h1 (pa_cons h2 pa_nil (star_no n2 _ _)) (star_no n1 _ _)))
    (pg_tup g.calm (pgs_cons (pg_sub (pe_var a1 a2 a3 a4) hk1 (set_or (set_dd (c := c) (by omega) g.hp g.hw) set_list) (sub_set so1 X.env)) (pgs_cons (pg_sub (pe_var b1 b2 b3 b4) hk2 (set_or (set_dd (c := c) (by omega) g.hp g.hw) set_list) (sub_set so2 X.env)) pgs_nil)))
    (swap_no (e := .Tuple [x1, x2] k2 pt2) rfl (some (.Tuple [.Subscript (.Name x px) xk p2, .Subscript (.Name y py) yk p3] kt pt)) pos.line X.env) (sw_none rfl)) fun De σ H ⟨env, F, S, fl, S1, R, s, ee, q⟩ => ?_
  obtain ⟨xs, sa, env1, er, es, rfl, _⟩ := par_inv ee
  obtain ⟨e1, o1, sb, ys, ev1, er2, rfl⟩ := evr_cons er
  obtain ⟨e2, o2, sc, zs, ev2, er3, rfl⟩ := evr_cons er2
  obtain ⟨rfl, rfl⟩ := evr_nil er3
  obtain ⟨rfl, rfl, rfl⟩ := k_evr (x := ([], e1, o1)) ev1
  obtain ⟨rfl, rfl, rfl⟩ := k_evr (x := ([], e2, o2)) ev2
  refine ⟨env, F, _, _, _, R, s, ev1, fun v1 H1 G1 vl1 sr1 => ⟨env, F, _, _, _, R.ext vl1.ext, sr1, ev2, fun v2 H2 G2 vl2 sr2 => ⟨by show 2 ≤ sizeLine; decide, fun p hn => ⟨p, [v1, v2], rfl, .of upd_same, rfl, v1, [v2], rfl, ?_⟩⟩⟩⟩
  have xe : Ext c H (upd H2 p (.tup [v1, v2])) := (vl1.ext.trans vl2.ext).trans (Ext.upd hn)
  have kk : ∀ (e : Env) (d : D), kept e [] d = e := fun e d => rfl
  simp only [stores, keptAll, al, kk] at es
  split at es
  · rename_i enva sx ea
    split at es
    · rename_i envb sy eb
      cases es
      refine sb_one (al0 := []) (R.ext xe) (sr2.upd hn) (vl1.get.scal s1 _) s1 ea (kk _ _) fun H4 F4 R4 st4 sr4 => ⟨v2, [], rfl, ?_⟩
      refine sb_one (al0 := []) R4 sr4 (vl2.get.scal s2 _) s2 eb (kk _ _) fun H5 F5 R5 st5 sr5 => ⟨rfl, ?_⟩
      exact q σ H5 F5 R5 ((xe.step.trans st4).trans st5) sr5
    · cases es
  · cases es

/-! ### list comprehensions of two clauses -/
def step3L (cf : CF) (e : N.X) (t1 : T) (ifs : Xs) (own1 : List Nat) (env1 : Env) : D → Src → Option (Option D × Src) := fun d1 s5 => match bindT t1 d1 (N.wipe (N.flat env1) own1) with
  | some env2 => (match tests cf ifs env2 s5 with
    | some (true, s7) => bD (ev cf e env2 s7) fun r _ s8 => if imm r then some (some r, s8) else none
    | some (false, s7) => some (none, s7)
    | none => none)
  | none => none
def step2L (cf : CF) (e : N.X) (t : T) (it1 : It) (t1 : T) (ifs : Xs) (own own1 : List Nat) (env : Env) : D → Src → Option (List D × Src) := fun d s2 => match bindT t d (N.wipe (N.flat env) own) with
  | some env1 => (match evi cf it1 env1 s2 with
    | some (ds1, s4) => lcRun (step3L cf e t1 ifs own1 env1) ds1 s4
    | none => none)
  | none => none
theorem step3L_inv {e : N.X} {t1 : T} {ifs : Xs} {own1 : List Nat} {d : D} {Si S' : Src} {o : Option D} (h : step3L cf e t1 ifs own1 env d Si = some (o, S')) :
    ∃ env2 bb s7, bindT t1 d (N.wipe (N.flat env) own1) = some env2 ∧ tests cf ifs env2 Si = some (bb, s7) ∧ ((bb = true ∧ ∃ r o1, ev cf e env2 s7 = some (.dat r o1, S') ∧ imm r = true ∧ o = some r) ∨ (bb = false ∧ S' = s7 ∧ o = none)) := by
  unfold step3L at h
  split at h
  · rename_i env2 e1
    split at h
    · rename_i s7 et
      obtain ⟨r, o1, s8, e2, h⟩ := bD_inv h
      split at h
      · rename_i gi
        cases h
        exact ⟨env2, true, s7, e1, et, .inl ⟨rfl, r, o1, e2, gi, rfl⟩⟩
      · cases h
    · rename_i s7 et
      cases h
      exact ⟨env2, false, _, e1, et, .inr ⟨rfl, rfl, rfl⟩⟩
    · cases h
  · cases h
theorem step2L_inv {e : N.X} {t t1 : T} {it1 : It} {ifs : Xs} {own own1 : List Nat} {d : D} {Si S' : Src} {zs : List D} (h : step2L cf e t it1 t1 ifs own own1 env d Si = some (zs, S')) :
    ∃ env1 ds1 s4, bindT t d (N.wipe (N.flat env) own) = some env1 ∧ evi cf it1 env1 Si = some (ds1, s4) ∧ lcRun (step3L cf e t1 ifs own1 env1) ds1 s4 = some (zs, S') := by
  unfold step2L at h
  split at h
  · rename_i env1 e1
    split at h
    · rename_i ds1 s4 e2
      exact ⟨env1, ds1, s4, e1, e2, h⟩
    · cases h
  · cases h
/-- keeping all that does not lean on a list that is written to -/
theorem kp_lst {D0 : Addr} {vs : List V} {U : List Addr} {o : HO} (hD : H D0 = some (.lst vs)) (nU : D0 ∉ U) : Kp c H (upd H D0 o) U := fun a o' e l hq => by
  have ne : a ≠ D0 := by
    rintro rfl
    rcases hq with ⟨ws, z⟩ | hq
    · rw [hD] at e; cases e; cases z
    · exact nU hq
  rw [upd_ne ne]
  exact e
theorem c_lc2 {e : N.X} {t t1 : T} {it it1 : It} {ifs : Xs} {xe tg iter tg1 iter1 : Expr} {xifs : List Expr} {scope : Scope} {ow : List (Str × Nat)} {own1 : List Nat} {pos : Pos} (gd : Gd c cf Γ X) (hi : PI X tg iter (rdI c cf it)) (ok : BlkOk X.N X.env.scope scope ow) (hv1 : ∀ i ∈ own1, i ∈ ow.map (·.2))
    (hg : ∀ (s : Shared) (H : Hp) (C : Addr) (cl : List (Str × Addr)) (fp : List Addr), PG (X.blk s H scope (compEnvC scope cl C X.env) fp) tg (gT c t))
    (hi1 : ∀ (s : Shared) (H : Hp) (C : Addr) (cl : List (Str × Addr)) (fp : List Addr), PI (X.blk s H scope (compEnvC scope cl C X.env) fp) tg1 iter1 (rdI c cf it1))
    (hg1 : ∀ (s : Shared) (H : Hp) (C : Addr) (cl : List (Str × Addr)) (fp : List Addr), PG (X.blk s H scope (compEnvC scope cl C X.env) fp) tg1 (gT c t1))
    (ht : ∀ (s : Shared) (H : Hp) (C : Addr) (cl : List (Str × Addr)) (fp : List Addr), PTs (X.blk s H scope (compEnvC scope cl C X.env) fp) xifs (rdTs c cf ifs))
    (he : ∀ (s : Shared) (H : Hp) (C : Addr) (cl : List (Str × Addr)) (fp : List Addr), PE (X.blk s H scope (compEnvC scope cl C X.env) fp) xe (rd c cf e))
    (hs : ∀ x, foldedSetIterable iter X.env x = pure x) (hs1 : ∀ env x, foldedSetIterable iter1 env x = pure x) (hsub : ∀ i ∈ tns t, i ∈ ow.map (·.2)) (hsub1 : ∀ i ∈ tns t1, i ∈ own1) :
    PE X (.ListComp xe [⟨tg, iter, [], 0⟩, ⟨tg1, iter1, xifs, 0⟩] scope pos) (rd c cf (.lc2 e t it t1 it1 ifs (ow.map (·.2)) own1)) ∧ ∀ σ H Q, rd c cf (.lc2 e t it t1 it1 ifs (ow.map (·.2)) own1) σ H Q → tLc2 (rdI c cf it) (gT c t) (rdTs c cf .nil) (rdI c cf it1) (gT c t1) (rdTs c cf ifs) (rd c cf e) (ow.map (·.2)) own1 σ H Q := by
  have hu := gd.hu
  suffices key : ∀ σ H Q, rd c cf (.lc2 e t it t1 it1 ifs (ow.map (·.2)) own1) σ H Q → tLc2 (rdI c cf it) (gT c t) (rdTs c cf .nil) (rdI c cf it1) (gT c t1) (rdTs c cf ifs) (rd c cf e) (ow.map (·.2)) own1 σ H Q from
    ⟨pe_weak (pe_lc2 gd.calm gd.nd hi ok hv1 hg (fun _ _ _ _ _ => ts_nil) hi1 hg1 ht he hs hs1) key, key⟩
  rintro σ H Q ⟨env, F, S, r, S1, R, sr, ee, q⟩
  simp only [ev] at ee
  split at ee
  · rename_i ds s1 ei
    split at ee
    · rename_i rs s2 er
      split at ee
      · rename_i hlim
        cases ee
        have er' : lc2Run (step2L cf e t it1 t1 ifs (ow.map (·.2)) own1 env) ds s1 = some (rs, _) := er
        clear er
        refine ⟨env, F, S, ds, s1, R, sr, ei, fun H1 U x1 sr1 fu S0 hS0 kS hlen hU => ?_⟩
        intro Dd hD
        have lD : c.Live Dd := sr1.tk.live hD
        have nFD : ∀ i, Dd ∉ F i := fun i z => x1.2 _ (foot_n R z) hD
        have nUD : Dd ∉ U := fun z => hU _ z hD
        refine ⟨fun i m H' => m = ds.length - i ∧ i ≤ ds.length ∧ ∃ Si vs acc rest, S0 H' ∧ SrcAt c H' Si ∧ Ext c H1 H' ∧ H' Dd = some (.lst vs) ∧ RepAll c H' vs acc [] ∧ lc2Run (step2L cf e t it1 t1 ifs (ow.map (·.2)) own1 env) (ds.drop i) Si = some (rest, S1) ∧ acc ++ rest = rs,
          ⟨ds.length, Nat.sub_zero _, Nat.zero_le _, s1, [], [], rs, kS H1 _ (fun a o e l hq => by rw [upd_ne (ne_of_none e hD)]; exact e) hS0, sr1.upd hD, Ext.upd hD, upd_same, .nil, er', rfl⟩, ?_⟩
        rintro i m H' ⟨rfl, hi, Si, vs, acc, rest, hS, sri, xi, hDi, ra, el, et⟩
        rcases Nat.lt_or_ge i ds.length with hlt | hge
        · refine .inr ⟨⟨hS, sri.tk, hlt⟩, ?_⟩
          have hd : ds.drop i = ds[i] :: ds.drop (i + 1) := List.drop_eq_getElem_cons hlt
          rw [hd] at el
          obtain ⟨zs, s5, ys, es, ey, rfl⟩ := lc2Run_cons el
          refine ⟨fun H5 => ∃ vs' acc', S0 H5 ∧ SrcAt c H5 s5 ∧ Ext c H1 H5 ∧ H5 Dd = some (.lst vs') ∧ RepAll c H5 vs' acc' [] ∧ acc' ++ ys = rs,
            fun H5 ⟨vs', acc', p1, p2, p3, p4, p5, p6⟩ => ⟨ds.length - (i + 1), by omega, rfl, hlt, s5, vs', acc', ys, p1, p2, p3, p4, p5, ey, p6⟩, fun x Hi ⟨sm, d, A0, edd, rd0, hA0⟩ => ?_⟩
          have ed' : d = ds[i] := by rw [List.getElem?_eq_getElem hlt] at edd; exact (Option.some.inj edd).symm
          subst ed'
          have xH : Ext c H' Hi := same_ext sm
          obtain ⟨env1, ds1, s4, e1, ei1, el1⟩ := step2L_inv es
          refine turn_head R hsub hA0 ((x1.trans xi).trans xH) (sri.same sm) rd0 e1 (show tests cf .nil env1 Si = some (true, Si) by simp only [tests]) fun σ2 F2 H3 R2 nO x3 sr3 _ ft => ?_
          rw [if_pos rfl]
          have nF2 : ∀ i, Dd ∉ F2 i := fun i z => (ft i Dd z).elim (fun z => nFD i z.2) nUD
          have xt := xH.trans x3
          have hD3 : H3 Dd = some (.lst vs) := xt.1 _ _ hDi lD
          refine ⟨env1, F2, Si, ds1, s4, R2, sr3, ei1, fun H4 U1 x4 sr4 fu1 S01 hS01 kS1 hlen1 hU1 => ?_⟩
          have nU1 : Dd ∉ U1 := fun z => (fu1 _ z).elim (fun z => by rw [hD3] at z; cases z) fun ⟨i, _, w⟩ => nF2 i w
          refine ⟨fun j k Hc => k = ds1.length - j ∧ j ≤ ds1.length ∧ ∃ Sj vs' acc' rest1, S01 Hc ∧ S0 Hc ∧ SrcAt c Hc Sj ∧ Ext c H1 Hc ∧ Rel c env1 σ2 Hc F2 ∧ Hc Dd = some (.lst vs') ∧ RepAll c Hc vs' acc' [] ∧ lcRun (step3L cf e t1 ifs own1 env1) (ds1.drop j) Sj = some (rest1, s5) ∧ acc' ++ (rest1 ++ ys) = rs,
            ⟨ds1.length, Nat.sub_zero _, Nat.zero_le _, s4, vs, acc, zs, hS01, kS H' _ (fun a o e l hq => x4.1 _ _ (xt.1 _ _ e l) l) hS, sr4, (xi.trans xt).trans x4, R2.ext x4, x4.1 _ _ hD3 lD, (ra.ext xt).ext x4, el1, et⟩, ?_⟩
          rintro j k Hc ⟨rfl, hj, Sj, vs', acc', rest1, hc1, hc0, src, xc, Rc, hDc, rac, elc, etc⟩
          rcases Nat.lt_or_ge j ds1.length with hlt1 | hge1
          · refine .inr ⟨⟨hc1, src.tk, hlt1⟩, ?_⟩
            have hd1 : ds1.drop j = ds1[j] :: ds1.drop (j + 1) := List.drop_eq_getElem_cons hlt1
            rw [hd1] at elc
            obtain ⟨o, s6, ys1, es1, ey1, e01⟩ := lcRun_cons elc
            obtain ⟨env2, bb, s7, b2, et2, hh⟩ := step3L_inv es1
            refine ⟨fun H5 => ∃ vs'' acc'', S01 H5 ∧ S0 H5 ∧ SrcAt c H5 s6 ∧ Ext c H1 H5 ∧ Rel c env1 σ2 H5 F2 ∧ H5 Dd = some (.lst vs'') ∧ RepAll c H5 vs'' acc'' [] ∧ acc'' ++ (ys1 ++ ys) = rs,
              fun H5 ⟨vs'', acc'', p1, p2, p3, p4, p5, p6, p7, p8⟩ => ⟨ds1.length - (j + 1), by omega, rfl, hlt1, s6, vs'', acc'', ys1, p1, p2, p3, p4, p5, p6, p7, ey1, p8⟩, fun x1' Hi1 ⟨sm1, d1, A1, edd1, rd1, hA1⟩ => ?_⟩
            have ed1' : d1 = ds1[j] := by rw [List.getElem?_eq_getElem hlt1] at edd1; exact (Option.some.inj edd1).symm
            subst ed1'
            have xH1 : Ext c Hc Hi1 := same_ext sm1
            refine turn_head Rc hsub1 hA1 xH1 (src.same sm1) rd1 b2 et2 fun σ3 F3 H6 R3 nO3 x6 sr6 _ ft3 => ?_
            rcases hh with ⟨rfl, r1, o1, er1, ir, rfl⟩ | ⟨rfl, rfl, rfl⟩
            · rw [if_pos rfl]
              have e01 : rest1 = r1 :: ys1 := e01
              subst e01
              refine ⟨env2, F3, _, _, _, R3, sr6, er1, fun y H7 G vl sr7 => ?_⟩
              have gk : G = [] := vl.get.imm ir
              subst gk
              have xa := (xH1.trans x6).trans vl.ext
              have h7 : H7 Dd = some (.lst vs') := xa.1 _ _ hDc lD
              have hla : vs'.length < sizeLine := by
                rw [rac.length, ← lim_eq]
                have := congrArg List.length etc
                simp only [List.length_append, List.length_cons] at this
                omega
              refine ⟨vs', h7, hla, vs' ++ [y], acc' ++ [r1], kS1 Hc _ (fun a o e l hq => kp_lst h7 nU1 a o (xa.1 _ _ e l) l hq) hc1, kS Hc _ (fun a o e l hq => kp_lst h7 nUD a o (xa.1 _ _ e l) l hq) hc0, ?_, ?_, (Rc.ext xa).keepK (fun i => kp_lst h7 (nF2 i)), upd_same, ?_, ?_⟩
              · exact sr7.ext (upd_ne fun z => lD.1 z.symm) (upd_ne fun z => lD.2 z.symm)
              · refine ⟨fun a o e l => ?_, fun a e => ?_⟩
                · rw [upd_ne (ne_of_none e hD)]
                  exact xa.1 _ _ (xc.1 _ _ e l) l
                · by_cases h : a = Dd
                  · subst h; rw [upd_same]; exact fun z => nomatch z
                  · rw [upd_ne h]; exact xa.2 _ (xc.2 _ e)
              · exact ((rac.ext xa).keep (kp_lst (U := []) h7 (fun z => (nomatch z)))).append (RepAll.cons (vl.get.keep (kp_lst (U := []) h7 (fun z => (nomatch z)))) .nil)
              · rw [← etc, List.append_assoc]; rfl
            · rw [if_neg Bool.false_ne_true]
              have e01 : rest1 = ys1 := e01
              subst e01
              have xt6 := xH1.trans x6
              exact ⟨vs', acc', kS1 Hc _ (fun a o e l hq => xt6.1 _ _ e l) hc1, kS Hc _ (fun a o e l hq => xt6.1 _ _ e l) hc0, sr6, xc.trans xt6, Rc.ext xt6, xt6.1 _ _ hDc lD, rac.ext xt6, etc⟩
          · have hje : j = ds1.length := by omega
            subst hje
            refine .inl ⟨⟨hc1, src.tk, rfl⟩, ?_⟩
            rw [List.drop_length] at elc
            cases lcRun_nil elc
            exact ⟨vs', acc', hc0, src, xc, hDc, rac, etc⟩
        · have hie : i = ds.length := by omega
          subst hie
          refine .inl ⟨⟨hS, sri.tk, rfl⟩, ?_⟩
          rw [List.drop_length] at el
          cases lc2Run_nil el
          rw [List.append_nil] at et
          subst et
          exact q _ H' [Dd] (lc_end (e := e) (it := it) (x1.trans xi) (x1.none hD) lD hDi ra (fun z => (nomatch z)) (fun a z => (nomatch z)) (fun i z => List.mem_append_left _ (List.mem_append_left _ z)) fun i z => List.mem_append_left _ (List.mem_append_right _ z)) sri
      · cases ee
    · cases ee
  · cases ee
theorem s_asg_lc2 {i : Nat} {y : Str} {py : Pos} {e : N.X} {t t1 : T} {it it1 : It} {ifs : Xs} {xe tg iter tg1 iter1 : Expr} {xifs : List Expr} {scope : Scope} {ow : List (Str × Nat)} {own1 : List Nat} {pos spos : Pos} (gd : Gd c cf Γ X) (hy : X.N[i]? = some y) (hyl : X.env.scope.names.lookup y = some .local)
    (hsw : swapsWith (.ListComp xe [⟨tg, iter, [], 0⟩, ⟨tg1, iter1, xifs, 0⟩] scope pos) (some (.Name y py)) spos.line X.env = pure true) (hi : PI X tg iter (rdI c cf it)) (ok : BlkOk X.N X.env.scope scope ow) (hv1 : ∀ i ∈ own1, i ∈ ow.map (·.2))
    (hg : ∀ (s : Shared) (H : Hp) (C : Addr) (cl : List (Str × Addr)) (fp : List Addr), PG (X.blk s H scope (compEnvC scope cl C X.env) fp) tg (gT c t))
    (hi1 : ∀ (s : Shared) (H : Hp) (C : Addr) (cl : List (Str × Addr)) (fp : List Addr), PI (X.blk s H scope (compEnvC scope cl C X.env) fp) tg1 iter1 (rdI c cf it1))
    (hg1 : ∀ (s : Shared) (H : Hp) (C : Addr) (cl : List (Str × Addr)) (fp : List Addr), PG (X.blk s H scope (compEnvC scope cl C X.env) fp) tg1 (gT c t1))
    (ht : ∀ (s : Shared) (H : Hp) (C : Addr) (cl : List (Str × Addr)) (fp : List Addr), PTs (X.blk s H scope (compEnvC scope cl C X.env) fp) xifs (rdTs c cf ifs))
    (he : ∀ (s : Shared) (H : Hp) (C : Addr) (cl : List (Str × Addr)) (fp : List Addr), PE (X.blk s H scope (compEnvC scope cl C X.env) fp) xe (rd c cf e))
    (hs : ∀ x, foldedSetIterable iter X.env x = pure x) (hs1 : ∀ env x, foldedSetIterable iter1 env x = pure x) (hsub : ∀ i ∈ tns t, i ∈ ow.map (·.2)) (hsub1 : ∀ i ∈ tns t1, i ∈ own1) :
    PS X (.Assign [.Name y py] (.ListComp xe [⟨tg, iter, [], 0⟩, ⟨tg1, iter1, xifs, 0⟩] scope pos) spos) (rdS c cf (.asg (.nm i) (.lc2 e t it t1 it1 ifs (ow.map (·.2)) own1))) :=
  ps_weak (ps_setLc2 gd.calm gd.nd hy hyl hsw hi ok hv1 hg (fun _ _ _ _ _ => ts_nil) hi1 hg1 ht he hs hs1) fun De σ H h => (c_lc2 (pos := pos) gd hi ok hv1 hg hi1 hg1 ht he hs hs1 hsub hsub1).2 σ H _ (asg_name De σ H h)
end
end N
/-! N26. The check: an own expression against a written one. -/
namespace N
open PySem PySem.Spec PyProof.Rows L2

def noIf : Expr → Bool
  | .IfExp _ _ _ _ => false
  | _ => true
def isBool : Expr → Bool
  | .BoolOp _ _ _ => true
  | _ => false
def isLow : Expr → Bool
  | .IfExp _ _ _ _ => false
  | .BoolOp _ _ _ => false
  | .Compare _ _ _ _ => false
  | .UnaryOp _ _ _ => false
  | _ => true
def notSet : Expr → Bool
  | .Set _ _ _ => false
  | _ => true
theorem low_true {e : Expr} (h : isLow e = true) (env : PySem.Env) : ∀ whole, isTrue e env whole = (do let v ← whole; standAt e.pos; holding [v] (truthy v)) := by
  cases e <;> first | (intro _; rfl) | cases h
theorem usub_true {e : Expr} {p : Pos} (env : PySem.Env) : ∀ whole, isTrue (.UnaryOp .USub e p) env whole = (do let v ← whole; standAt (Expr.UnaryOp .USub e p).pos; holding [v] (truthy v)) := fun _ => rfl
theorem plain_ix {e : Expr} (h : sub_ok e = true) : PlainIx e := by
  cases e <;> first | (intro _ _; rfl) | cases h
theorem no_set {e : Expr} (h : notSet e = true) (env : PySem.Env) : ∀ x, foldedSetIterable e env x = pure x := by
  cases e <;> first | (intro _; rfl) | cases h

def visB (Γ : Ct) (x : Str) : Bool := match Γ.sc.names.lookup x with
  | some .local => true
  | some .cell => true
  | some .free => true
  | _ => false
def glB (Γ : Ct) (x : Str) : Bool := match Γ.sc.names.lookup x with
  | some .globalImplicit => true
  | _ => false
def isLo (Γ : Ct) (x : Str) : Bool := match Γ.sc.names.lookup x with
  | some .local => true
  | _ => false
def okN (Γ : Ct) (i : Nat) (x : Str) : Bool := decide (Γ.N[i]? = some x) && visB Γ x && !(x == ("__debug__" : Str)) && !(x == ("__classdict__" : Str))
def okV (Γ : Ct) (i : Nat) : Expr → Bool
  | .Name x _ => okN Γ i x
  | _ => false
def okK : D → Expr → Bool
  | .none, .Constant .none _ _ => true
  | .bool b, .Constant (.bool b') _ _ => b == b'
  | .int b, .Constant (.int b') _ _ => decide (b = b')
  | .str b, .Constant (.str b') _ _ => decide (b = b')
  | _, _ => false
/-- what stands behind the first of a row of 'and', 'or' -/
def rest1 (op : BoolOp) (e : Expr) (r : List Expr) (pos : Pos) : Expr := match r with
  | [] => e
  | y :: r => .BoolOp op (e :: y :: r) pos
mutual
def okT (Γ : Ct) : T → Expr → Bool
  | .nm i, e => match e with
    | .Name x _ => decide (Γ.N[i]? = some x) && Γ.st x
    | _ => false
  | .tp ts, e => match e with
    | .Tuple es _ _ => okTs Γ ts es && es.all notStar && es.length == lenTs ts
    | _ => false
  | .sb _ _, _ => false
  | .sb2 _ _ _, _ => false
def okTs (Γ : Ct) : Ts → List Expr → Bool
  | .nil, es => es.isEmpty
  | .cons t ts, es => match es with
    | e :: es => okT Γ t e && notStar e && okTs Γ ts es
    | [] => false
end
def Ct.blk (Γ : Ct) (scope : Scope) : Ct := { Γ with sc := relS scope Γ.sc, st := fun x => match (relS scope Γ.sc).names.lookup x with
  | some .local => true
  | some .cell => scope.names.lookup x == some .cell
  | _ => false }
def ownOf (Γ : Ct) (ow : List Nat) : List (Str × Nat) := ow.map fun i => ((Γ.N[i]?).getD "", i)
theorem ownOf_snd {Γ : Ct} {ow : List Nat} : (ownOf Γ ow).map (·.2) = ow := by
  unfold ownOf
  rw [List.map_map]
  exact (List.map_congr_left fun _ _ => rfl).trans (List.map_id _)
def okB (Γ : Ct) (scope : Scope) (t : T) (ow : List Nat) : Bool := blkC Γ.N Γ.sc scope (ownOf Γ ow) && (tns t).all fun i => decide (i ∈ ow)
def line2 (a b : Pos) : Bool := a.endLine == b.line
def okG (f : B) (Γ : Ct) (x : Str) : Bool := match biName f with
  | some (n, _) => decide (x = n) && glB Γ x
  | none => false
def okIs (f : B) (Γ : Ct) (x : Str) : Bool := match isaT f with
  | some n => decide (x = n) && glB Γ x && glB Γ "isinstance" && decide (f ≠ .isDict)
  | none => false

mutual
def okX (Γ : Ct) : N.X → Expr → Bool
  | .v i, e => okV Γ i e
  | .k d, e => okK d e
  | .tup es, e => match e with
    | .Tuple xs _ _ => okXs Γ es xs
    | _ => false
  | .lst es, e => match e with
    | .List xs _ => okXs Γ es xs
    | _ => false
  | .dic own ps, e => match e with
    | .Dict ks vs _ => okP Γ own ps ks vs || (!own && okPS Γ ps ks vs && decide (2 ≤ ks.length) && decide (ks.length ≤ 15))
    | _ => false
  | .bin op a b, e => match e with
    | .BinOp xa op' xb _ => decide (op = op') && okX Γ a xa && okX Γ b xb
    | _ => false
  | .neg a, e => match e with
    | .UnaryOp .USub xa _ => okX Γ a xa
    | _ => false
  | .nt a, e => match e with
    | .UnaryOp .Not xa _ => okX Γ a xa && noIf xa
    | _ => false
  | .and a b, e => match e with
    | .BoolOp .And (xa :: xb :: r) pos => okX Γ a xa && noIf xa && okX Γ b (rest1 .And xb r pos) && noIf (rest1 .And xb r pos)
    | _ => false
  | .or a b, e => match e with
    | .BoolOp .Or (xa :: xb :: r) pos => okX Γ a xa && noIf xa && okX Γ b (rest1 .Or xb r pos) && noIf (rest1 .Or xb r pos)
    | _ => false
  | .ite k a b, e => match e with
    | .IfExp xk xa xb _ => okX Γ k xk && noIf xk && okX Γ a xa && okX Γ b xb
    | _ => false
  | .cmp op a b, e => match e with
    | .Compare xa [op'] [xb] _ => decide (op = op') && okX Γ a xa && okX Γ b xb && !behindInMarks op xb
    | _ => false
  | .chn op1 op2 a b k, e => match e with
    | .Compare xa [op1', op2'] [xb, xk] _ => decide (op1 = op1') && decide (op2 = op2') && okX Γ a xa && okX Γ b xb && okX Γ k xk && !lastMarks [op1, op2] [xb, xk]
    | _ => false
  | .sub a i, e => match e with
    | .Subscript xa xi _ => okX Γ a xa && okX Γ i xi && sub_ok xi
    | _ => false
  | .sl a lo hi, e => match e with
    | .Subscript xa (.Slice xl xh none _) _ => okX Γ a xa && okO Γ lo xl && okO Γ hi xh
    | _ => false
  | .rev a, e => match e with
    | .Subscript xa (.Slice none none (some (.UnaryOp .USub (.Constant (.int n) _ _) _)) _) _ => okX Γ a xa && decide (n = 1)
    | _ => false
  | .call f as, e => match e with
    | .Call (.Name x _) xs [] _ => decide (Γ.fn f = some x) && glB Γ x && !(x == ("__debug__" : Str)) && okXs Γ as xs && xs.all notStar
    | _ => false
  | .bi f as, e => match e with
    | .Call (.Name x _) (xa :: xs) [] _ => (okG f Γ x && okXs Γ as (xa :: xs) && (xa :: xs).all notStar) || (decide (x = "isinstance") && (match xs with
      | [.Name y _] => okIs f Γ y && okXs Γ as [xa] && notStar xa
      | _ => false))
    | _ => false
  | .me m r as, e => match m with
    | .get => (match e with
      | .Call (.Attribute xo n apos) (xa :: xs) [] cpos => decide (n = "get") && okX Γ r xo && okXs Γ as (xa :: xs) && (xa :: xs).all notStar && notCall xo && line2 apos cpos && decide ((xa :: xs).length < 30)
      | _ => false)
    | .index => (match e with
      | .Call (.Attribute xo n apos) [xa] [] cpos => decide (n = "index") && okX Γ r xo && okXs Γ as [xa] && [xa].all notStar && notCall xo && line2 apos cpos
      | _ => false)
    | _ => false
  | .lc el t it ifs ow, e => match e with
    | .ListComp xe [⟨tg, iter, xifs, n⟩] scope _ => okI Γ it tg iter && okB Γ scope t ow && okT (Γ.blk scope) t tg && okF (Γ.blk scope) ifs xifs && okX (Γ.blk scope) el xe && notSet iter && n == 0
    | _ => false
  | .lc2 el t it t1 it1 ifs ow ow1, e => match e with
    | .ListComp xe [⟨tg, iter, [], n⟩, ⟨tg1, iter1, xifs, n1⟩] scope _ => okI Γ it tg iter && okB Γ scope t ow && okT (Γ.blk scope) t tg && okI (Γ.blk scope) it1 tg1 iter1 && okT (Γ.blk scope) t1 tg1 && okF (Γ.blk scope) ifs xifs && okX (Γ.blk scope) el xe && ow1.all (fun i => decide (i ∈ ow)) && (tns t1).all (fun i => decide (i ∈ ow1)) && notSet iter && notSet iter1 && n == 0 && n1 == 0
    | _ => false
  | .dc own2 ke ve t it ifs ow, e => match e with
    | .DictComp xk xv [⟨tg, iter, xifs, n⟩] scope _ => okI Γ it tg iter && okB Γ scope t ow && okT (Γ.blk scope) t tg && okF (Γ.blk scope) ifs xifs && okX (Γ.blk scope) ke xk && okX (Γ.blk scope) ve xv && notSet iter && n == 0
    | _ => false
  | .dc2 ke ve t it t1 it1 ow ow1, e => match e with
    | .DictComp xk xv [⟨tg, iter, [], n⟩, ⟨tg1, iter1, [], n1⟩] scope _ => okI Γ it tg iter && okB Γ scope t ow && okT (Γ.blk scope) t tg && okI (Γ.blk scope) it1 tg1 iter1 && okT (Γ.blk scope) t1 tg1 && okX (Γ.blk scope) ke xk && okX (Γ.blk scope) ve xv && ow1.all (fun i => decide (i ∈ ow)) && (tns t1).all (fun i => decide (i ∈ ow1)) && notSet iter && notSet iter1 && n == 0 && n1 == 0
    | _ => false
  | .dlc own2 ke ve t it ifs ow, e => match e with
    | .Call (.Name x _) [.ListComp (.Tuple [xk, xv] _ _) [⟨tg, iter, xifs, n⟩] scope _] [] _ => decide (x = "dict") && glB Γ "dict" && notStar xk && notStar xv && okI Γ it tg iter && okB Γ scope t ow && okT (Γ.blk scope) t tg && okF (Γ.blk scope) ifs xifs && okX (Γ.blk scope) ke xk && okX (Γ.blk scope) ve xv && notSet iter && n == 0
    | _ => false
  | .dOf a, e => match e with
    | .Call (.Name x _) [xa] [] _ => decide (x = "dict") && glB Γ "dict" && okX Γ a xa && notStar xa
    | _ => false
def okXs (Γ : Ct) : Xs → List Expr → Bool
  | .nil, xs => xs.isEmpty
  | .cons st a es, xs => match xs with
    | x :: xs => (match st, x with
      | false, x => notStar x && okX Γ a x
      | true, .Starred x _ => okX Γ a x
      | true, _ => false) && okXs Γ es xs
    | [] => false
def okP (Γ : Ct) (own : Bool) : Ps → List (Option Expr) → List Expr → Bool
  | .nil, ks, vs => ks.isEmpty && vs.isEmpty
  | .cons k v ps, ks, vs => match ps, ks, vs with
    | .nil, [some xk], [xv] => !own && okX Γ k xk && okX Γ v xv
    | _, _, _ => false
def okPS (Γ : Ct) : Ps → List (Option Expr) → List Expr → Bool
  | .nil, ks, vs => ks.isEmpty && vs.isEmpty
  | .cons k v ps, ks, vs => match ks, vs with
    | some xk :: ks, xv :: vs => okX Γ k xk && okX Γ v xv && okPS Γ ps ks vs
    | _, _ => false
def okO (Γ : Ct) : Xs → Option Expr → Bool
  | .nil, x => x.isNone
  | .cons st a es, x => match st, es, x with
    | false, .nil, some x => okX Γ a x
    | _, _, _ => false
def okF (Γ : Ct) : Xs → List Expr → Bool
  | .nil, xs => xs.isEmpty
  | .cons st a es, xs => match st, es, xs with
    | false, .nil, [x] => okX Γ a x && noIf x
    | _, _, _ => false
def okI (Γ : Ct) : N.It → Expr → Expr → Bool
  | .e a, _, e => okX Γ a e
  | .r1 a, _, e => match e with
    | .Call (.Name x _) [xa] [] _ => decide (x = "range") && glB Γ "range" && okX Γ a xa && notStar xa
    | _ => false
  | .r2 a b, _, e => match e with
    | .Call (.Name x _) [xa, xb] [] _ => decide (x = "range") && glB Γ "range" && okX Γ a xa && notStar xa && okX Γ b xb && notStar xb
    | _ => false
  | .r3 a b k, _, e => match e with
    | .Call (.Name x _) [xa, xb, xk] [] _ => decide (x = "range") && glB Γ "range" && okX Γ a xa && notStar xa && okX Γ b xb && notStar xb && okX Γ k xk && notStar xk
    | _ => false
  | .en a, t, e => match t, e with
    | .Tuple _ _ _, .Call (.Name x _) [xa] [] _ => decide (x = "enumerate") && glB Γ "enumerate" && okX Γ a xa && notStar xa
    | _, _ => false
  | .zp st a b, t, e => match t, e with
    | .Tuple _ _ _, .Call (.Name x _) [xa, xb] [] _ => !st && decide (x = "zip") && glB Γ "zip" && okX Γ a xa && notStar xa && okX Γ b xb && notStar xb
    | _, _ => false
  | .its a, t, e => match t, e with
    | .Tuple _ _ _, .Call (.Attribute xa n apos) [] [] cpos => decide (n = "items") && okX Γ a xa && notCall xa && line2 apos cpos
    | _, _ => false
  | .vals a, _, e => match e with
    | .Call (.Attribute xa n apos) [] [] cpos => decide (n = "values") && okX Γ a xa && notCall xa && line2 apos cpos
    | _ => false
end
end N
/-! N27. The check is sound: expressions. -/
namespace N
open PySem PySem.Spec PyProof.Rows L2

section
variable {c : Cfg} {cf : CF} {Γ : Ct} {X : Cx}
structure Sd (c : Cfg) (cf : CF) (X : Cx) (a : N.X) (e : Expr) : Prop where
  pe : PE X e (rd c cf a)
  pt : noIf e = true → PT X e (rdT c cf a)
  pw : isBool e = true → PW X e (rdT c cf a)
  sw : isComp e = true → ∀ (i : Nat) (y : Str) (py spos : Pos), X.N[i]? = some y → X.env.scope.names.lookup y = some .local → swapsWith e (some (.Name y py)) spos.line X.env = pure true → PS X (.Assign [.Name y py] e spos) (rdS c cf (.asg (.nm i) a))
theorem Sd.low {a : N.X} {e : Expr} (p : PE X e (rd c cf a)) (h : isLow e = true) (nc : isComp e = false) : Sd c cf X a e :=
  ⟨p, fun _ => t_val p (low_true h _), fun h' => (by cases e <;> first | (cases h; done) | (cases h'; done)), fun h' => (by rw [nc] at h'; cases h')⟩
theorem visB_ok (g : Gd c cf Γ X) {x : Str} (h : visB Γ x = true) : Vis X.env.scope x := by
  unfold visB at h
  rw [← g.sc] at h
  unfold Vis
  split at h
  · rename_i e; exact .inl e
  · rename_i e; exact .inr (.inl e)
  · rename_i e; exact .inr (.inr e)
  · cases h
theorem glB_ok (g : Gd c cf Γ X) {x : Str} (h : glB Γ x = true) : Gl X x := by
  unfold glB at h
  rw [← g.sc] at h
  split at h
  · assumption
  · cases h
theorem okN_ok (g : Gd c cf Γ X) {i : Nat} {x : Str} (h : okN Γ i x = true) : X.N[i]? = some x ∧ Vis X.env.scope x ∧ (x == ("__debug__" : Str)) = false ∧ (x == ("__classdict__" : Str)) = false := by
  unfold okN at h
  simp only [Bool.and_eq_true, decide_eq_true_eq, Bool.not_eq_true'] at h
  rw [g.hN]
  exact ⟨h.1.1.1, visB_ok g h.1.1.2, h.1.2, h.2⟩
theorem okV_ok (g : Gd c cf Γ X) {i : Nat} {e : Expr} (h : okV Γ i e = true) : Sd c cf X (.v i) e := by
  unfold okV at h
  split at h
  · obtain ⟨h1, h2, h3, h4⟩ := okN_ok g h
    exact .low (c_v h1 h2 h3 h4) rfl rfl
  · cases h
theorem okK_ok {d : D} {e : Expr} (h : okK d e = true) : Sd c cf X (.k d) e := by
  unfold okK at h
  split at h
  · exact .low (c_k pe_non fun H => .non) rfl rfl
  · simp only [beq_iff_eq] at h
    subst h
    exact .low (c_k pe_bl fun H => .bl _) rfl rfl
  · simp only [decide_eq_true_eq] at h
    subst h
    exact .low (c_k pe_int fun H => .int _) rfl rfl
  · simp only [decide_eq_true_eq] at h
    subst h
    exact .low (c_k pe_str fun H => .str _) rfl rfl
  · cases h
mutual
theorem okT_ok (g : Gd c cf Γ X) : ∀ {t : T} {e : Expr}, okT Γ t e = true → PG X e (gT c t)
  | .nm i, e, h => by
    unfold okT at h
    split at h
    · simp only [Bool.and_eq_true, decide_eq_true_eq] at h
      obtain ⟨h1, h2⟩ := g.st _ h.2
      exact g_name g.nd (by rw [g.hN]; exact h.1) h1 h2
    · cases h
  | .tp ts, e, h => by
    unfold okT at h
    split at h
    · simp only [Bool.and_eq_true, beq_iff_eq] at h
      exact g_tup g.calm (okTs_ok g h.1.1) h.2 h.1.2
    · cases h
  | .sb _ _, e, h => by unfold okT at h; cases h
  | .sb2 _ _ _, e, h => by unfold okT at h; cases h
theorem okTs_ok (g : Gd c cf Γ X) : ∀ {ts : Ts} {es : List Expr}, okTs Γ ts es = true → PGs X es (gTs c ts)
  | .nil, es, h => by
    unfold okTs at h
    cases es with
    | nil => exact g_nil
    | cons => cases h
  | .cons t ts, es, h => by
    unfold okTs at h
    cases es with
    | nil => cases h
    | cons e es =>
      simp only [Bool.and_eq_true] at h
      exact g_cons (okT_ok g h.1.1) (okTs_ok g h.2) h.1.2
end
theorem Gd.blk (g : Gd c cf Γ X) (s : Shared) (H : Hp) (scope : Scope) (C : Addr) (cl : List (Str × Addr)) (fp : List Addr) : Gd c cf (Γ.blk scope) (X.blk s H scope (compEnvC scope cl C X.env) fp) where
  hp := g.hp
  hw := g.hw
  hN := g.hN
  nd := g.nd
  sc := by show relS scope X.env.scope = relS scope Γ.sc; rw [g.sc]
  calm := g.calm
  xe := rfl
  hu := g.hu
  mg := g.mg
  fn := g.fn
  st := fun x h => by
    have h : (match (relS scope Γ.sc).names.lookup x with | some .local => true | some .cell => scope.names.lookup x == some .cell | _ => false) = true := h
    rw [← g.sc] at h
    show Loc (relS scope X.env.scope) x ∧ ((scope.names.lookup x == some .cell) = true ∨ (relS scope X.env.scope).names.lookup x = some .local)
    split at h
    · rename_i e; exact ⟨.inl e, .inr e⟩
    · rename_i e; exact ⟨.inr e, .inl h⟩
    · cases h
theorem okB_ok (g : Gd c cf Γ X) {scope : Scope} {t : T} {ow : List Nat} (h : okB Γ scope t ow = true) : BlkOk X.N X.env.scope scope (ownOf Γ ow) ∧ ∀ i ∈ tns t, i ∈ (ownOf Γ ow).map (·.2) := by
  unfold okB at h
  rw [Bool.and_eq_true] at h
  rw [g.hN, g.sc, ownOf_snd]
  exact ⟨blkOk_by h.1, fun i hi => by
    have q := List.all_eq_true.mp h.2 i hi
    simpa using q⟩
theorem call0 {f : Nat} {x : Str} {p pos : Pos} (g : Gd c cf Γ X) (hf : Γ.fn f = some x) (hg : Gl X x) (hdb : (x == ("__debug__" : Str)) = false) : PE X (.Call (.Name x p) [] [] pos) (rd c cf (.call f .nil)) := by
  obtain ⟨k, cl, rm⟩ := g.fn f x hf
  obtain ⟨a, fd, ps, ds, F, hm, kp, b, d⟩ := cl.ex
  refine call_end (pe_call0 F rm hg hm kp b d pass0 hdb) fun σ H Q z => ?_
  obtain ⟨env, F', S, ss, S1, R, s, e, q⟩ := z
  simp only [evc] at e
  cases e
  exact q [] H [] Ext.refl .nil Ft.nil s
end
end N
/-! N28. The check is sound: expressions, all. -/
namespace N
open PySem PySem.Spec PyProof.Rows L2

section
variable {c : Cfg} {cf : CF}
/-- a row of expressions, for values and for slots -/
structure Sr (c : Cfg) (cf : CF) (X : Cx) (as : Xs) (es : List Expr) : Prop where
  pa : PA X es (rdA c cf as)
  pc : es.all notStar = true → PA X es (rdC c cf as)
theorem Sd.bool {X : Cx} {a : N.X} {op : BoolOp} {es : List Expr} {pos : Pos} (p : PE X (.BoolOp op es pos) (rd c cf a)) (w : PW X (.BoolOp op es pos) (rdT c cf a)) : Sd c cf X a (.BoolOp op es pos) :=
  ⟨p, fun _ => w.pt, fun _ => w, fun h => (nomatch h)⟩
theorem Sd.rest {X : Cx} {Γ : Ct} {b : N.X} {xb : Expr} {r : List Expr} {op : BoolOp} {pos : Pos} (s : Sd c cf X b (rest1 op xb r pos)) (h : noIf (rest1 op xb r pos) = true) : PE X (.BoolOp op (xb :: r) pos) (rd c cf b) ∧ PW X (.BoolOp op (xb :: r) pos) (rdT c cf b) := by
  cases r with
  | nil =>
    refine ⟨c_one s.pe, ?_⟩
    cases op
    · exact pw_and1 (s.pt h)
    · exact pw_or1 (s.pt h)
  | cons y r => exact ⟨s.pe, s.pw rfl⟩
theorem isa_arg {X : Cx} {Γ : Ct} {as : Xs} {xa : Expr} (h : okXs Γ as [xa] = true) (n : notStar xa = true) : ∃ a, as = .cons false a .nil ∧ okX Γ a xa = true := by
  cases as with
  | nil => simp [okXs] at h
  | cons st a es =>
    unfold okXs at h
    simp only [Bool.and_eq_true] at h
    cases es with
    | cons => simp [okXs] at h
    | nil =>
      cases st with
      | false => exact ⟨a, rfl, by have := h.1; simp only [Bool.and_eq_true] at this; exact this.2⟩
      | true =>
        have q := h.1
        cases xa <;> first | (cases n; done) | (simp at q; done)

set_option maxHeartbeats 4000000 in
mutual
theorem snd : ∀ (a : N.X) {Γ : Ct} {X : Cx} {e : Expr}, Gd c cf Γ X → okX Γ a e = true → Sd c cf X a e
  | .v i, Γ, X, e, g, h => okV_ok g (by unfold okX at h; exact h)
  | .k d, Γ, X, e, g, h => okK_ok (by unfold okX at h; exact h)
  | .tup es, Γ, X, e, g, h => by
    unfold okX at h
    split at h
    · exact .low (c_tup (snds es g h).pa) rfl rfl
    · cases h
  | .lst es, Γ, X, e, g, h => by
    unfold okX at h
    split at h
    · exact .low (c_lst (snds es g h).pa) rfl rfl
    · cases h
  | .dic own ps, Γ, X, e, g, h => by
    unfold okX at h
    split at h
    · rw [Bool.or_eq_true] at h
      rcases h with h | h
      · exact .low (sndp ps g h) rfl rfl
      · simp only [Bool.and_eq_true, decide_eq_true_eq, Bool.not_eq_true'] at h
        obtain ⟨⟨⟨rfl, h1⟩, h2⟩, h3⟩ := h
        obtain ⟨p, a1, a2, a3⟩ := sndps ps (pos := by assumption) g h1
        exact .low (c_dicS g p a1 a2 h2 h3 fun env S prs S1 e => a3 env S prs S1 e) rfl rfl
    · cases h
  | .bin op a b, Γ, X, e, g, h => by
    unfold okX at h
    split at h
    · simp only [Bool.and_eq_true, decide_eq_true_eq] at h
      obtain ⟨⟨rfl, h1⟩, h2⟩ := h
      exact .low (c_bin (snd a g h1).pe (snd b g h2).pe) rfl rfl
    · cases h
  | .neg a, Γ, X, e, g, h => by
    unfold okX at h
    split at h
    · have p := c_neg (pos := by assumption) (snd a g h).pe
      exact ⟨p, fun _ => t_val p (usub_true _), fun h => (nomatch h), fun h => (nomatch h)⟩
    · cases h
  | .nt a, Γ, X, e, g, h => by
    unfold okX at h
    split at h
    · simp only [Bool.and_eq_true] at h
      have s := snd a g h.1
      obtain ⟨p, t⟩ := c_nt (pos := by assumption) s.pe (s.pt h.2)
      exact ⟨p, fun _ => t, fun h => (nomatch h), fun h => (nomatch h)⟩
    · cases h
  | .and a b, Γ, X, e, g, h => by
    unfold okX at h
    split at h
    · simp only [Bool.and_eq_true] at h
      have s := snd a g h.1.1.1
      obtain ⟨q1, q2⟩ := (snd b g h.1.2).rest (Γ := Γ) h.2
      obtain ⟨p, w⟩ := c_and s.pe (s.pt h.1.1.2) q1 q2
      exact .bool p w
    · cases h
  | .or a b, Γ, X, e, g, h => by
    unfold okX at h
    split at h
    · simp only [Bool.and_eq_true] at h
      have s := snd a g h.1.1.1
      obtain ⟨q1, q2⟩ := (snd b g h.1.2).rest (Γ := Γ) h.2
      obtain ⟨p, w⟩ := c_or s.pe (s.pt h.1.1.2) q1 q2
      exact .bool p w
    · cases h
  | .ite k a b, Γ, X, e, g, h => by
    unfold okX at h
    split at h
    · simp only [Bool.and_eq_true] at h
      exact ⟨c_ite ((snd k g h.1.1.1).pt h.1.1.2) (snd a g h.1.2).pe (snd b g h.2).pe, fun h => (nomatch h), fun h => (nomatch h), fun h => (nomatch h)⟩
    · cases h
  | .cmp op a b, Γ, X, e, g, h => by
    have hu := g.hu
    unfold okX at h
    split at h
    · simp only [Bool.and_eq_true, decide_eq_true_eq, Bool.not_eq_true'] at h
      obtain ⟨⟨⟨rfl, h1⟩, h2⟩, h3⟩ := h
      obtain ⟨p, t⟩ := c_cmp (pos := by assumption) (by omega) g.hp g.hw (snd a g h1).pe (snd b g h2).pe h3
      exact ⟨p, fun _ => t, fun h => (nomatch h), fun h => (nomatch h)⟩
    · cases h
  | .chn op1 op2 a b k, Γ, X, e, g, h => by
    have hu := g.hu
    unfold okX at h
    split at h
    · simp only [Bool.and_eq_true, decide_eq_true_eq, Bool.not_eq_true'] at h
      obtain ⟨⟨⟨⟨⟨rfl, rfl⟩, h1⟩, h2⟩, h3⟩, h4⟩ := h
      obtain ⟨p, t⟩ := c_chn (pos := by assumption) (by omega) g.hp g.hw (snd a g h1).pe (snd b g h2).pe (snd k g h3).pe h4
      exact ⟨p, fun _ => t, fun h => (nomatch h), fun h => (nomatch h)⟩
    · cases h
  | .sub a i, Γ, X, e, g, h => by
    have hu := g.hu
    unfold okX at h
    split at h
    · simp only [Bool.and_eq_true] at h
      exact .low (c_sub (by omega) g.hp g.hw (snd a g h.1.1).pe (snd i g h.1.2).pe (plain_ix h.2)) rfl rfl
    · cases h
  | .sl a lo hi, Γ, X, e, g, h => by
    unfold okX at h
    split at h
    · simp only [Bool.and_eq_true] at h
      exact .low (c_sl (snd a g h.1.1).pe (sndo lo g h.1.2) (sndo hi g h.2)) rfl rfl
    · cases h
  | .rev a, Γ, X, e, g, h => by
    unfold okX at h
    split at h
    · simp only [Bool.and_eq_true, decide_eq_true_eq] at h
      obtain ⟨h, rfl⟩ := h
      exact .low (c_rev (snd a g h).pe) rfl rfl
    · cases h
  | .call f as, Γ, X, e, g, h => by
    unfold okX at h
    split at h
    · simp only [Bool.and_eq_true, decide_eq_true_eq, Bool.not_eq_true'] at h
      obtain ⟨⟨⟨⟨hf, hg⟩, hd⟩, h1⟩, h2⟩ := h
      have s := snds as g h1
      rename_i x p xs pos
      cases xs with
      | nil =>
        cases as with
        | nil => exact .low (call0 g hf (glB_ok g hg) hd) rfl rfl
        | cons => simp [okXs] at h1
      | cons xa xs => exact .low (c_call g hf (glB_ok g hg) hd (s.pc h2) h2) rfl rfl
    · cases h
  | .bi f as, Γ, X, e, g, h => by
    unfold okX at h
    split at h
    · simp only [Bool.or_eq_true] at h
      rcases h with h | h
      · simp only [Bool.and_eq_true] at h
        obtain ⟨⟨h1, h2⟩, h3⟩ := h
        unfold okG at h1
        split at h1
        · rename_i n ty hb
          simp only [Bool.and_eq_true, decide_eq_true_eq] at h1
          obtain ⟨rfl, h1⟩ := h1
          exact .low (c_bi g hb (snds as g h2).pa (by simpa using h3) (glB_ok g h1)) rfl rfl
        · cases h1
      · simp only [Bool.and_eq_true, decide_eq_true_eq] at h
        obtain ⟨rfl, h⟩ := h
        split at h
        · simp only [Bool.and_eq_true] at h
          obtain ⟨⟨h1, h2⟩, h3⟩ := h
          unfold okIs at h1
          split at h1
          · rename_i n hb
            simp only [Bool.and_eq_true, decide_eq_true_eq] at h1
            obtain ⟨⟨⟨rfl, h4⟩, h5⟩, h6⟩ := h1
            have q := (snds as g h2).pa
            obtain ⟨a, rfl, h7⟩ := isa_arg (X := X) h2 h3
            exact .low (c_isa g hb h6 (glB_ok g h5) (glB_ok g h4) (snd1 (.cons false a .nil) g h2 h3 a rfl).pe h3) rfl rfl
          · cases h1
        · cases h
    · cases h
  | .me m r as, Γ, X, e, g, h => by
    unfold okX at h
    split at h
    · split at h
      · simp only [Bool.and_eq_true, decide_eq_true_eq] at h
        obtain ⟨⟨⟨⟨⟨⟨rfl, h1⟩, h2⟩, h3⟩, h4⟩, h5⟩, h6⟩ := h
        exact .low (c_get g (snd r g h1).pe (snds as g h2).pa h3 h4 h5 h6) rfl rfl
      · cases h
    · split at h
      · simp only [Bool.and_eq_true, decide_eq_true_eq] at h
        obtain ⟨⟨⟨⟨⟨rfl, h1⟩, h2⟩, h3⟩, h4⟩, h5⟩ := h
        exact .low (c_index g (snd r g h1).pe (snds as g h2).pa h3 h4 h5) rfl rfl
      · cases h
    · cases h
  | .lc el t it ifs ow, Γ, X, e, g, h => by
    unfold okX at h
    split at h
    · simp only [Bool.and_eq_true, beq_iff_eq] at h
      obtain ⟨⟨⟨⟨⟨⟨h1, h2⟩, h3⟩, h4⟩, h5⟩, h6⟩, rfl⟩ := h
      obtain ⟨b1, b2⟩ := okB_ok g h2
      have q1 := sndi it g h1
      have q2 := fun s H C cl fp => okT_ok (g.blk s H _ C cl fp) h3
      have q3 := fun s H C cl fp => sndf ifs (g.blk s H _ C cl fp) h4
      have q4 := fun s H C cl fp => (snd el (g.blk s H _ C cl fp) h5).pe
      have r1 := (c_lc (pos := by assumption) g.calm g.nd q1 b1 q2 q3 q4 (no_set h6 _) b2).1
      rw [ownOf_snd] at r1
      refine ⟨r1, fun _ => t_val r1 (low_true rfl _), fun h => (nomatch h), fun _ i y py spos hi hy hs => ?_⟩
      have r2 := s_asg_lc g.calm g.nd hi hy hs q1 b1 q2 q3 q4 (no_set h6 _) b2
      rw [ownOf_snd] at r2
      exact r2
    · cases h
  | .lc2 el t it t1 it1 ifs ow ow1, Γ, X, e, g, h => by
    unfold okX at h
    split at h
    · simp only [Bool.and_eq_true, beq_iff_eq] at h
      obtain ⟨⟨⟨⟨⟨⟨⟨⟨⟨⟨⟨⟨h1, h2⟩, h3⟩, h4⟩, h5⟩, h6⟩, h7⟩, h8⟩, h9⟩, h10⟩, h11⟩, rfl⟩, rfl⟩ := h
      obtain ⟨b1, b2⟩ := okB_ok g h2
      have q1 := sndi it g h1
      have q2 := fun s H C cl fp => okT_ok (g.blk s H _ C cl fp) h3
      have q3 := fun s H C cl fp => sndi it1 (g.blk s H _ C cl fp) h4
      have q4 := fun s H C cl fp => okT_ok (g.blk s H _ C cl fp) h5
      have q5 := fun s H C cl fp => sndf ifs (g.blk s H _ C cl fp) h6
      have q6 := fun s H C cl fp => (snd el (g.blk s H _ C cl fp) h7).pe
      have v1 : ∀ i ∈ ow1, i ∈ (ownOf Γ ow).map (·.2) := fun i hi => by rw [ownOf_snd]; simpa using List.all_eq_true.mp h8 i hi
      have v2 : ∀ i ∈ tns t1, i ∈ ow1 := fun i hi => by simpa using List.all_eq_true.mp h9 i hi
      have r1 := (c_lc2 (pos := by assumption) g q1 b1 v1 q2 q3 q4 q5 q6 (no_set h10 _) (fun env => no_set h11 env) b2 v2).1
      rw [ownOf_snd] at r1
      refine ⟨r1, fun _ => t_val r1 (low_true rfl _), fun h => (nomatch h), fun _ i y py spos hi hy hs => ?_⟩
      have r2 := s_asg_lc2 g hi hy hs q1 b1 v1 q2 q3 q4 q5 q6 (no_set h10 _) (fun env => no_set h11 env) b2 v2
      rw [ownOf_snd] at r2
      exact r2
    · cases h
  | .dc own2 ke ve t it ifs ow, Γ, X, e, g, h => by
    unfold okX at h
    split at h
    · simp only [Bool.and_eq_true, beq_iff_eq] at h
      obtain ⟨⟨⟨⟨⟨⟨⟨h1, h2⟩, h3⟩, h4⟩, h5⟩, h5'⟩, h6⟩, rfl⟩ := h
      obtain ⟨b1, b2⟩ := okB_ok g h2
      have q1 := sndi it g h1
      have q2 := fun s H C cl fp => okT_ok (g.blk s H _ C cl fp) h3
      have q3 := fun s H C cl fp => sndf ifs (g.blk s H _ C cl fp) h4
      have q4 := fun s H C cl fp => (snd ke (g.blk s H _ C cl fp) h5).pe
      have q5 := fun s H C cl fp => (snd ve (g.blk s H _ C cl fp) h5').pe
      have r1 := (c_dc (own2 := own2) (pos := by assumption) g q1 b1 q2 q3 q4 q5 (no_set h6 _) b2).1
      rw [ownOf_snd] at r1
      refine ⟨r1, fun _ => t_val r1 (low_true rfl _), fun h => (nomatch h), fun _ i y py spos hi hy hs => ?_⟩
      have r2 := s_asg_dc (own2 := own2) g hi hy hs q1 b1 q2 q3 q4 q5 (no_set h6 _) b2
      rw [ownOf_snd] at r2
      exact r2
    · cases h
  | .dc2 ke ve t it t1 it1 ow ow1, Γ, X, e, g, h => by
    unfold okX at h
    split at h
    · simp only [Bool.and_eq_true, beq_iff_eq] at h
      obtain ⟨⟨⟨⟨⟨⟨⟨⟨⟨⟨⟨⟨h1, h2⟩, h3⟩, h4⟩, h5⟩, h6⟩, h7⟩, h8⟩, h9⟩, h10⟩, h11⟩, rfl⟩, rfl⟩ := h
      obtain ⟨b1, b2⟩ := okB_ok g h2
      have q1 := sndi it g h1
      have q2 := fun s H C cl fp => okT_ok (g.blk s H _ C cl fp) h3
      have q3 := fun s H C cl fp => sndi it1 (g.blk s H _ C cl fp) h4
      have q4 := fun s H C cl fp => okT_ok (g.blk s H _ C cl fp) h5
      have q5 := fun s H C cl fp => (snd ke (g.blk s H _ C cl fp) h6).pe
      have q6 := fun s H C cl fp => (snd ve (g.blk s H _ C cl fp) h7).pe
      have v1 : ∀ i ∈ ow1, i ∈ (ownOf Γ ow).map (·.2) := fun i hi => by rw [ownOf_snd]; simpa using List.all_eq_true.mp h8 i hi
      have v2 : ∀ i ∈ tns t1, i ∈ ow1 := fun i hi => by simpa using List.all_eq_true.mp h9 i hi
      have r1 := (c_dc2 (pos := by assumption) g q1 b1 v1 q2 q3 q4 q5 q6 (no_set h10 _) (fun env => no_set h11 env) b2 v2).1
      rw [ownOf_snd] at r1
      refine ⟨r1, fun _ => t_val r1 (low_true rfl _), fun h => (nomatch h), fun _ i y py spos hi hy hs => ?_⟩
      have r2 := s_asg_dc2 g hi hy hs q1 b1 v1 q2 q3 q4 q5 q6 (no_set h10 _) (fun env => no_set h11 env) b2 v2
      rw [ownOf_snd] at r2
      exact r2
    · cases h
  | .dlc own2 ke ve t it ifs ow, Γ, X, e, g, h => by
    unfold okX at h
    split at h
    · simp only [Bool.and_eq_true, beq_iff_eq, decide_eq_true_eq] at h
      obtain ⟨⟨⟨⟨⟨⟨⟨⟨⟨⟨⟨rfl, h7⟩, h8⟩, h9⟩, h1⟩, h2⟩, h3⟩, h4⟩, h5⟩, h5'⟩, h6⟩, rfl⟩ := h
      obtain ⟨b1, b2⟩ := okB_ok g h2
      have q1 := sndi it g h1
      have q2 := fun s H C cl fp => okT_ok (g.blk s H _ C cl fp) h3
      have q3 := fun s H C cl fp => sndf ifs (g.blk s H _ C cl fp) h4
      have q4 := fun s H C cl fp => (snd ke (g.blk s H _ C cl fp) h5).pe
      have q5 := fun s H C cl fp => (snd ve (g.blk s H _ C cl fp) h5').pe
      have r1 := fun (k0 : Nat) (pn p0 pos pos' : Pos) => c_dlc (own2 := own2) (k0 := k0) (pn := pn) (p0 := p0) (pos := pos) (pos' := pos') g (glB_ok g h7) q1 b1 q2 q3 q4 q5 h8 h9 (no_set h6 _) b2
      simp only [ownOf_snd] at r1
      exact .low (r1 _ _ _ _ _) rfl rfl
    · cases h
  | .dOf a, Γ, X, e, g, h => by
    unfold okX at h
    split at h
    · simp only [Bool.and_eq_true, decide_eq_true_eq] at h
      obtain ⟨⟨⟨rfl, h1⟩, h2⟩, h3⟩ := h
      exact .low (c_dOf g (glB_ok g h1) (snd a g h2).pe h3) rfl rfl
    · cases h
theorem snds : ∀ (as : Xs) {Γ : Ct} {X : Cx} {es : List Expr}, Gd c cf Γ X → okXs Γ as es = true → Sr c cf X as es
  | .nil, Γ, X, es, g, h => by
    unfold okXs at h
    cases es with
    | nil => exact ⟨a_nil, fun _ => k_nil⟩
    | cons => cases h
  | .cons st a as, Γ, X, es, g, h => by
    unfold okXs at h
    split at h
    · rename_i x xs
      rw [Bool.and_eq_true] at h
      have r := snds as g h.2
      have h1 := h.1
      split at h1
      · rw [Bool.and_eq_true] at h1
        have s := snd a g h1.2
        exact ⟨a_cons s.pe r.pa h1.1, fun w => by
          rw [List.all_cons, Bool.and_eq_true] at w
          exact k_cons s.pe (r.pc w.2) h1.1⟩
      · have s := snd a g h1
        exact ⟨a_star s.pe r.pa, fun w => by
          rw [List.all_cons, Bool.and_eq_true] at w
          cases w.1⟩
      · cases h1
    · cases h
theorem snd1 : ∀ (as : Xs) {Γ : Ct} {X : Cx} {e : Expr}, Gd c cf Γ X → okXs Γ as [e] = true → notStar e = true → ∀ a, as = .cons false a .nil → Sd c cf X a e
  | .nil, Γ, X, e, g, h, n, a, ea => nomatch ea
  | .cons st a as, Γ, X, e, g, h, n, a', ea => by
    obtain ⟨a1, e1, h1⟩ := isa_arg (X := X) h n
    have e2 : a = a1 := by cases e1; rfl
    have e3 : a = a' := by cases ea; rfl
    subst e2 e3
    exact snd a g h1
theorem sndp : ∀ (ps : Ps) {Γ : Ct} {X : Cx} {own : Bool} {ks : List (Option Expr)} {vs : List Expr} {pos : Pos}, Gd c cf Γ X → okP Γ own ps ks vs = true → PE X (.Dict ks vs pos) (rd c cf (.dic own ps))
  | .nil, Γ, X, own, ks, vs, pos, g, h => by
    unfold okP at h
    rw [Bool.and_eq_true] at h
    obtain rfl := List.isEmpty_iff.mp h.1
    obtain rfl := List.isEmpty_iff.mp h.2
    exact c_dic0
  | .cons k v ps, Γ, X, own, ks, vs, pos, g, h => by
    have hu := g.hu
    unfold okP at h
    split at h
    · simp only [Bool.and_eq_true, Bool.not_eq_true'] at h
      obtain ⟨⟨rfl, h1⟩, h2⟩ := h
      exact c_dic1 (by omega) g.hp g.hw (snd k g h1).pe (snd v g h2).pe
    · cases h
theorem sndps : ∀ (ps : Ps) {Γ : Ct} {X : Cx} {ks : List (Option Expr)} {vs : List Expr} {pos : Pos}, Gd c cf Γ X → okPS Γ ps ks vs = true → PPs X pos ks vs (trsOf c cf ps) ∧ ks.all (·.isSome) = true ∧ ks.length = vs.length ∧ ∀ env S prs S1, evp cf ps env S = some (prs, S1) → prs.length = ks.length
  | .nil, Γ, X, ks, vs, pos, g, h => by
    unfold okPS at h
    rw [Bool.and_eq_true] at h
    obtain rfl := List.isEmpty_iff.mp h.1
    obtain rfl := List.isEmpty_iff.mp h.2
    refine ⟨pps_nil, rfl, rfl, fun env S prs S1 e => ?_⟩
    simp only [evp] at e
    cases e
    rfl
  | .cons k v ps, Γ, X, ks, vs, pos, g, h => by
    unfold okPS at h
    split at h
    · simp only [Bool.and_eq_true] at h
      obtain ⟨⟨h1, h2⟩, h3⟩ := h
      obtain ⟨p, a1, a2, a3⟩ := sndps ps (pos := pos) g h3
      refine ⟨pps_cons (snd k g h1).pe (snd v g h2).pe p, by rw [List.all_cons, a1]; rfl, by rw [List.length_cons, List.length_cons, a2], fun env S prs S1 e => ?_⟩
      simp only [evp] at e
      obtain ⟨kd, o1, s1, e1, e⟩ := bD_inv e
      obtain ⟨vd, o2, s2, e2, e⟩ := bD_inv e
      split at e
      · rename_i ps' s3 e3
        cases e
        rw [List.length_cons, List.length_cons, a3 _ _ _ _ e3]
      · cases e
    · cases h
theorem sndo : ∀ (as : Xs) {Γ : Ct} {X : Cx} {e : Option Expr}, Gd c cf Γ X → okO Γ as e = true → PO X e (rdO c cf as)
  | .nil, Γ, X, e, g, h => by
    unfold okO at h
    cases e with
    | none => exact o_none
    | some => cases h
  | .cons st a as, Γ, X, e, g, h => by
    unfold okO at h
    split at h
    · exact o_some (snd a g h).pe
    · cases h
theorem sndf : ∀ (as : Xs) {Γ : Ct} {X : Cx} {es : List Expr}, Gd c cf Γ X → okF Γ as es = true → PTs X es (rdTs c cf as)
  | .nil, Γ, X, es, g, h => by
    unfold okF at h
    obtain rfl := List.isEmpty_iff.mp h
    exact ts_nil
  | .cons st a as, Γ, X, es, g, h => by
    unfold okF at h
    split at h
    · rw [Bool.and_eq_true] at h
      exact ts_one ((snd a g h.1).pt h.2)
    · cases h
theorem sndi : ∀ (it : N.It) {Γ : Ct} {X : Cx} {tg e : Expr}, Gd c cf Γ X → okI Γ it tg e = true → PI X tg e (rdI c cf it)
  | .e a, Γ, X, tg, e, g, h => by unfold okI at h; exact i_e (snd a g h).pe
  | .r1 a, Γ, X, tg, e, g, h => by
    unfold okI at h
    split at h
    · simp only [Bool.and_eq_true, decide_eq_true_eq] at h
      obtain ⟨⟨⟨rfl, h1⟩, h2⟩, h3⟩ := h
      exact i_r1 g (glB_ok g h1) (snd a g h2).pe h3
    · cases h
  | .r2 a b, Γ, X, tg, e, g, h => by
    unfold okI at h
    split at h
    · simp only [Bool.and_eq_true, decide_eq_true_eq] at h
      obtain ⟨⟨⟨⟨⟨rfl, h1⟩, h2⟩, h3⟩, h4⟩, h5⟩ := h
      exact i_r2 g (glB_ok g h1) (snd a g h2).pe (snd b g h4).pe h3 h5
    · cases h
  | .r3 a b k, Γ, X, tg, e, g, h => by
    unfold okI at h
    split at h
    · simp only [Bool.and_eq_true, decide_eq_true_eq] at h
      obtain ⟨⟨⟨⟨⟨⟨⟨rfl, h1⟩, h2⟩, h3⟩, h4⟩, h5⟩, h6⟩, h7⟩ := h
      exact i_r3 g (glB_ok g h1) (snd a g h2).pe (snd b g h4).pe (snd k g h6).pe h3 h5 h7
    · cases h
  | .en a, Γ, X, tg, e, g, h => by
    unfold okI at h
    split at h
    · simp only [Bool.and_eq_true, decide_eq_true_eq] at h
      obtain ⟨⟨⟨rfl, h1⟩, h2⟩, h3⟩ := h
      exact i_en g (glB_ok g h1) (snd a g h2).pe h3
    · cases h
  | .zp st a b, Γ, X, tg, e, g, h => by
    unfold okI at h
    split at h
    · simp only [Bool.and_eq_true, decide_eq_true_eq, Bool.not_eq_true'] at h
      obtain ⟨⟨⟨⟨⟨⟨rfl, rfl⟩, h1⟩, h2⟩, h3⟩, h4⟩, h5⟩ := h
      exact i_zp g (glB_ok g h1) (snd a g h2).pe (snd b g h4).pe h3 h5
    · cases h
  | .its a, Γ, X, tg, e, g, h => by
    unfold okI at h
    split at h
    · simp only [Bool.and_eq_true, decide_eq_true_eq] at h
      obtain ⟨⟨⟨rfl, h1⟩, h2⟩, h3⟩ := h
      exact i_its (snd a g h1).pe h2 h3
    · cases h
  | .vals a, Γ, X, tg, e, g, h => by
    unfold okI at h
    split at h
    · simp only [Bool.and_eq_true, decide_eq_true_eq] at h
      obtain ⟨⟨⟨rfl, h1⟩, h2⟩, h3⟩ := h
      exact i_vals (snd a g h1).pe h2 h3
    · cases h
end
end
end N
/-! N29. The check: statements. -/
namespace N
open PySem PySem.Spec PyProof.Rows L2

def isRetV : N.X → Bool
  | .v _ => true
  | _ => false
/-- would the comprehension's names be swapped with the target -/
def compSc : Expr → Option (Scope × Pos)
  | .ListComp _ _ s p => some (s, p)
  | .DictComp _ _ _ s p => some (s, p)
  | _ => none
/-- swapsWith, told -/
def swapB (Γ : Ct) (x : Str) (p : Pos) (e : Expr) : Bool := match compSc e with
  | some (s, q) => isLo Γ x && (p.line == q.line) && !(s.names.any fun (n, k) => n == x && (k == .local || k == .cell))
  | none => false
def isFun (Γ : Ct) : Bool := match Γ.sc.kind with
  | .function => true
  | _ => false
def noSetC : Expr → Bool
  | .SetComp _ _ _ _ => false
  | _ => true
def swapNames (Γ : Ct) (ts : List Expr) (vs : List Expr) : Bool := ts.all (fun t => match t with
    | .Name x p => isLo Γ x && p.line == ((ts.head?.map (·.pos.line)).getD 0)
    | _ => false) && ((ts.filterMap fun t => match t with | .Name x _ => some x | _ => none).eraseDups.length == ts.length) && !vs.all (foldedForSure 8) && !vs.all (constantsAlone 8) && ((ts.length == 2 || ts.length == 3) && vs.length == ts.length) && vs.all notStar
/-- the targets and values of a parallel assignment -/
def parB (Γ : Ct) : Ts → Xs → List Expr → List Expr → Bool
  | .cons (.nm i) (.cons (.nm j) .nil), .cons false e1 (.cons false e2 .nil), [.Name x px, .Name y py], [x1, x2] => decide (Γ.N[i]? = some x) && decide (Γ.N[j]? = some y) && decide (i ≠ j) && isLo Γ x && isLo Γ y && okX Γ e1 x1 && okX Γ e2 x2 && notStar x1 && notStar x2 && isFun Γ && swapNames Γ [.Name x px, .Name y py] [x1, x2]
  | .cons (.nm i) (.cons (.nm j) (.cons (.nm l) .nil)), .cons false e1 (.cons false e2 (.cons false e3 .nil)), [.Name x px, .Name y py, .Name z pz], [x1, x2, x3] => decide (Γ.N[i]? = some x) && decide (Γ.N[j]? = some y) && decide (Γ.N[l]? = some z) && decide (i ≠ j) && decide (i ≠ l) && decide (j ≠ l) && isLo Γ x && isLo Γ y && isLo Γ z && okX Γ e1 x1 && okX Γ e2 x2 && okX Γ e3 x3 && notStar x1 && notStar x2 && notStar x3 && isFun Γ && swapNames Γ [.Name x px, .Name y py, .Name z pz] [x1, x2, x3]
  | .cons (.sb i kx) (.cons (.sb j ky) .nil), .cons false (.k d1) (.cons false (.k d2) .nil), [.Subscript (.Name x px) xk p2, .Subscript (.Name y py) yk p3], [x1, x2] => okN Γ i x && okX Γ kx xk && sub_ok xk && okN Γ j y && okX Γ ky yk && sub_ok yk && okX Γ (.k d1) x1 && okX Γ (.k d2) x2 && notStar x1 && notStar x2 && scal d1 && scal d2
  | _, _, _, _ => false
/-- the tuple target of a value that is no written tuple -/
def notTup : Expr → Bool
  | .Tuple _ _ _ => false
  | _ => true
/-- no stores are swapped: the names that are cells, too -/
def notLo (Γ : Ct) : Expr → Bool
  | .Name x _ => !isLo Γ x
  | _ => true
def noSwL (Γ : Ct) (es : List Expr) (xe : Expr) : Bool := match xe with
  | .Tuple vs _ _ => !(es.length == 2 || es.length == 3) || vs.length != es.length || es.any (notLo Γ) || vs.all (foldedForSure 8)
  | _ => true
mutual
def okS (Γ : Ct) : N.S → Stmt → Bool
  | .asg t e, s => match s with
    | .Assign [.Name x p] xe pos => (match t with
      | .nm i => decide (Γ.N[i]? = some x) && Γ.st x && okX Γ e xe && noSetC xe && isFun Γ && (if swapB Γ x p xe then true else (match compSc xe with | some _ => !isLo Γ x | none => true))
      | _ => false)
    | .Assign [.Tuple es k p] xe pos => (match t with
      | .tp ts => okT Γ (.tp ts) (.Tuple es k p) && okX Γ e xe && !isComp xe && noSwL Γ es xe
      | _ => false)
    | .Assign [.Subscript (.Name x p) xk p2] xe pos => (match t with
      | .sb i k => okN Γ i x && okX Γ k xk && okX Γ e xe && !isComp xe && sub_ok xk
      | _ => false)
    | _ => false
  | .par ts as, s => match s with
    | .Assign [.Tuple es _ _] (.Tuple vs _ _) _ => parB Γ ts as es vs
    | _ => false
  | .pop t i, s => match s with
    | .Assign [tg] (.Call (.Attribute (.Name x _) n apos) [] [] cpos) _ => decide (n = "pop") && okN Γ i x && okT Γ t tg && line2 apos cpos && notStar tg
    | _ => false
  | .popAt t i k, s => match s with
    | .Assign [tg] (.Call (.Attribute (.Name x _) n apos) [xe] [] cpos) _ => decide (n = "pop") && okN Γ i x && okT Γ t tg && line2 apos cpos && notStar tg && okX Γ k xe && notStar xe
    | _ => false
  | .mut m i e, s => match s with
    | .Expr (.Call (.Attribute (.Name x _) n apos) [xe] [] cpos) _ => okN Γ i x && okX Γ e xe && notStar xe && line2 apos cpos && (match m with
      | .append => decide (n = "append")
      | .extend => decide (n = "extend")
      | .popKey => decide (n = "pop")
      | .update => false)
    | _ => false
  | .sdf _ _ _, _ => false
  | .sdfa _ _ _, _ => false
  | .catpop _ _ _, _ => false
  | .aug i op e, s => match s with
    | .AugAssign (.Name x _) op' xe _ => decide (op = op') && decide (Γ.N[i]? = some x) && Γ.st x && okX Γ e xe
    | _ => false
  | .ex e, s => match s with
    | .Expr xe _ => okX Γ e xe && !isComp xe
    | _ => false
  | .ret e, s => match s with
    | .Return (some xe) _ => if isRetV e then (match e, xe with
        | .v i, .Name x _ => okN Γ i x
        | _, _ => false) else okX Γ e xe && notV e
    | _ => false
  | .retn, s => match s with
    | .Return none _ => true
    | _ => false
  | .ite k a b, s => match s with
    | .If xk xa xb _ => okX Γ k xk && noIf xk && okSs Γ a xa && okSs Γ b xb
    | _ => false
  | .wh k b _, s => match s with
    | .While xk xb [] _ => okX Γ k xk && noIf xk && okSs Γ b xb
    | _ => false
  | .for t it b _, s => match s with
    | .For tg iter xb [] _ => okI Γ it tg iter && okT Γ t tg && okSs Γ b xb && notSet iter
    | _ => false
  | .brk, s => match s with
    | .Break _ => true
    | _ => false
  | .cont, s => match s with
    | .Continue _ => true
    | _ => false
  | .pass, s => match s with
    | .Pass _ => true
    | _ => false
def okSs (Γ : Ct) : Ss → List Stmt → Bool
  | .nil, ss => ss.isEmpty
  | .cons s ss, xs => match xs with
    | x :: xs => okS Γ s x && okSs Γ ss xs
    | [] => false
end
end N
/-! N30. Swapped stores. -/
namespace N
open PySem PySem.Spec PyProof.Rows L2
section
variable {c : Cfg} {cf : CF} {Γ : Ct} {X : Cx}
theorem isLo_ok {env : PySem.Env} (sc : env.scope = Γ.sc) {x : Str} (h : isLo Γ x = true) : env.scope.names.lookup x = some .local := by
  unfold isLo at h
  rw [← sc] at h
  split at h
  · assumption
  · cases h
theorem isFun_ok {env : PySem.Env} (sc : env.scope = Γ.sc) (h : isFun Γ = true) : env.scope.kind = .function := by
  unfold isFun at h
  rw [← sc] at h
  split at h
  · assumption
  · cases h
theorem block_ok {env : PySem.Env} (h : env.scope.kind = .function) : env.blockKind = .function := by unfold Env.blockKind; rw [h]; rfl
theorem star_any : ∀ {vs : List Expr}, vs.all notStar = true → (vs.any fun | .Starred .. => true | _ => false) = false
  | [], _ => rfl
  | v :: vs, h => by
    rw [List.all_cons, Bool.and_eq_true] at h
    rw [List.any_cons, star_any h.2, Bool.or_false]
    have := h.1
    cases v <;> first | rfl | cases this
theorem swapped2 {env : PySem.Env} (sc : env.scope = Γ.sc) (f : isFun Γ = true) {x y : Str} {px py pt pt2 : Pos} {kt k2 : Nat} {x1 x2 : Expr} (h : swapNames Γ [.Name x px, .Name y py] [x1, x2] = true) :
    swappedStores [.Tuple [.Name x px, .Name y py] kt pt] (.Tuple [x1, x2] k2 pt2) env = pure (some [x, y]) := by
  have hb := block_ok (isFun_ok sc f)
  unfold swapNames at h
  simp only [Bool.and_eq_true, Bool.not_eq_true', List.all_cons, List.all_nil, List.head?_cons, Option.map_some, Option.getD_some, Bool.and_true, List.filterMap_cons, List.filterMap_nil, beq_iff_eq] at h
  obtain ⟨⟨⟨⟨⟨⟨⟨l1, e1⟩, l2, e2⟩, nd⟩, c1⟩, c2⟩, _⟩, n1, n2⟩ := h
  have k1 : env.kindOf x = some .local := isLo_ok sc l1
  have k2 : env.kindOf y = some .local := isLo_ok sc l2
  have s1 := star_any (vs := [x1, x2]) (by simp [n1, n2])
  unfold swappedStores
  simp only [Expr.pos] at e1 e2
  simp [hb, k1, k2, s1, Expr.pos, e2, nd, c1, c2, List.filterMap_cons]
  intro z
  rcases z with z | z <;> split at z <;> first | (cases n1; done) | (cases n2; done) | cases z
theorem swapped3 {env : PySem.Env} (sc : env.scope = Γ.sc) (f : isFun Γ = true) {x y z : Str} {px py pz pt pt2 : Pos} {kt k2 : Nat} {x1 x2 x3 : Expr} (h : swapNames Γ [.Name x px, .Name y py, .Name z pz] [x1, x2, x3] = true) :
    swappedStores [.Tuple [.Name x px, .Name y py, .Name z pz] kt pt] (.Tuple [x1, x2, x3] k2 pt2) env = pure (some [x, y, z]) := by
  have hb := block_ok (isFun_ok sc f)
  unfold swapNames at h
  simp only [Bool.and_eq_true, Bool.not_eq_true', List.all_cons, List.all_nil, List.head?_cons, Option.map_some, Option.getD_some, Bool.and_true, List.filterMap_cons, List.filterMap_nil, beq_iff_eq] at h
  obtain ⟨⟨⟨⟨⟨⟨⟨l1, e1⟩, ⟨l2, e2⟩, l3, e3⟩, nd⟩, c1⟩, c2⟩, _⟩, n1, n2, n3⟩ := h
  have k1 : env.kindOf x = some .local := isLo_ok sc l1
  have k2 : env.kindOf y = some .local := isLo_ok sc l2
  have k3 : env.kindOf z = some .local := isLo_ok sc l3
  unfold swappedStores
  simp only [Expr.pos] at e1 e2 e3
  simp [hb, k1, k2, k3, Expr.pos, e2, e3, nd, c1, c2, List.filterMap_cons]
  intro z
  rcases z with z | z | z <;> split at z <;> first | (cases n1; done) | (cases n2; done) | (cases n3; done) | cases z
theorem comp_sw {env : PySem.Env} (sc : env.scope = Γ.sc) (f : isFun Γ = true) {x : Str} {p : Pos} {e : Expr} {l : Nat} (h : swapB Γ x p e = true) : isComp e = true ∧ env.scope.names.lookup x = some .local ∧ swapsWith e (some (.Name x p)) l env = pure true := by
  have hb := block_ok (isFun_ok sc f)
  unfold swapB at h
  split at h
  · rename_i s q hs
    simp only [Bool.and_eq_true, Bool.not_eq_true'] at h
    have ky : env.kindOf x = some .local := isLo_ok sc h.1.1
    have kx := isLo_ok sc h.1.1
    unfold compSc at hs
    split at hs
    · cases hs
      refine ⟨rfl, kx, ?_⟩
      unfold swapsWith
      simp only [hb, ky, h.2, Expr.pos, h.1.2]
      rfl
    · cases hs
      refine ⟨rfl, kx, ?_⟩
      unfold swapsWith
      simp only [hb, ky, h.2, Expr.pos, h.1.2]
      rfl
    · cases hs
  · cases h
theorem comp_no {env : PySem.Env} (sc : env.scope = Γ.sc) {x : Str} {p : Pos} {e : Expr} {l : Nat} (ns : noSetC e = true) (h : (match compSc e with | some _ => !isLo Γ x | none => true) = true) : swapsWith e (some (.Name x p)) l env = pure false := by
  cases hc : isComp e with
  | false => exact swap_no hc _ _ _
  | true =>
    have hn : (isLo Γ x) = false := by
      cases e <;> first | (cases hc; done) | (cases ns; done) | simpa [compSc] using h
    refine swap_false ?_
    unfold isLo at hn
    rw [← sc] at hn
    show (env.scope.names.lookup x == some .local) = false
    split at hn
    · cases hn
    · rename_i hne
      cases hk : env.scope.names.lookup x with
      | none => rfl
      | some k => cases k <;> first | rfl | exact absurd hk hne
theorem names_lessL {p : Expr → Bool} {f : Expr → Option Str} (hf : ∀ e, p e = true → f e = none) : ∀ {es : List Expr}, es.any p = true → (es.filterMap f).length < es.length
  | e :: es, h => by
    rw [List.any_cons, Bool.or_eq_true] at h
    rw [List.filterMap_cons]
    cases hn : p e with
    | true =>
      rw [hf e hn]
      have := List.length_filterMap_le f es
      simp only [List.length_cons]
      omega
    | false =>
      rw [hn] at h
      have := names_lessL hf (h.resolve_left (by simp))
      cases f e with
      | none => simp only [List.length_cons]; omega
      | some => simp only [List.length_cons]; omega
theorem notLo_kind {env : PySem.Env} (sc : env.scope = Γ.sc) {x : Str} (h : isLo Γ x = false) : (env.kindOf x == some .local) = false := by
  unfold isLo at h
  rw [← sc] at h
  show (env.scope.names.lookup x == some .local) = false
  split at h
  · cases h
  · rename_i hne
    cases hk : env.scope.names.lookup x with
    | none => rfl
    | some k => cases k <;> first | rfl | exact absurd hk hne
theorem sw_noneL {env : PySem.Env} (sc : env.scope = Γ.sc) {es : List Expr} {k : Nat} {p : Pos} {xe : Expr} (h : noSwL Γ es xe = true) : swappedStores [.Tuple es k p] xe env = pure none := by
  cases xe with
  | Tuple vs k2 p2 =>
    unfold swappedStores
    simp only []
    split
    · rfl
    · rename_i h1
      split
      · rfl
      · split
        · rfl
        · rename_i h3
          split
          · rfl
          · rename_i h4
            exfalso
            simp only [noSwL, Bool.or_eq_true] at h
            simp only [Bool.or_eq_true, not_or, Bool.not_eq_true] at h1 h3
            rcases h with ((h | h) | h) | h
            · exact absurd h (by simp [h1.1.1])
            · exact absurd h (by simp [h1.1.2])
            · have h3 := h3.1
              simp only [bne_eq_false_iff_eq] at h3
              refine absurd h3 (Nat.ne_of_lt (names_lessL (fun e he => ?_) h))
              cases e with
              | Name x px =>
                have hx : isLo Γ x = false := by simpa [notLo] using he
                simp only [notLo_kind sc hx, Bool.false_and, Bool.false_eq_true, if_false]
              | _ => rfl
            · exact h4 h
  | _ => rfl
end
end N
/-! N31. The check is sound: statements. -/
namespace N
open PySem PySem.Spec PyProof.Rows L2
section
variable {c : Cfg} {cf : CF}
theorem tup_sw {env : PySem.Env} {es : List Expr} {k : Nat} {p : Pos} {xe : Expr} (h : notTup xe = true) : swappedStores [.Tuple es k p] xe env = pure none := by
  cases xe <;> first | rfl | cases h
theorem par_ok {Γ : Ct} {X : Cx} (g : Gd c cf Γ X) {ts : Ts} {as : Xs} {es vs : List Expr} {k k2 : Nat} {p p2 pos : Pos} (h : parB Γ ts as es vs = true) : PS X (.Assign [.Tuple es k p] (.Tuple vs k2 p2) pos) (rdS c cf (.par ts as)) := by
  unfold parB at h
  split at h
  · simp only [Bool.and_eq_true, decide_eq_true_eq] at h
    obtain ⟨⟨⟨⟨⟨⟨⟨⟨⟨⟨h1, h2⟩, h3⟩, h4⟩, h5⟩, h6⟩, h7⟩, h8⟩, h9⟩, h10⟩, h11⟩ := h
    exact s_par2 g.calm g.nd (by rw [g.hN]; exact h1) (by rw [g.hN]; exact h2) h3 (isLo_ok g.sc h4) (isLo_ok g.sc h5) (snd _ g h6).pe (snd _ g h7).pe h8 h9 (swapped2 g.sc h10 h11)
  · simp only [Bool.and_eq_true, decide_eq_true_eq] at h
    obtain ⟨⟨⟨⟨⟨⟨⟨⟨⟨⟨⟨⟨⟨⟨⟨⟨h1, h2⟩, h3⟩, h4⟩, h5⟩, h6⟩, h7⟩, h8⟩, h9⟩, h10⟩, h11⟩, h12⟩, h13⟩, h14⟩, h15⟩, h16⟩, h17⟩ := h
    exact s_par3 g.calm g.nd (by rw [g.hN]; exact h1) (by rw [g.hN]; exact h2) (by rw [g.hN]; exact h3) h4 h5 h6 (isLo_ok g.sc h7) (isLo_ok g.sc h8) (isLo_ok g.sc h9) (snd _ g h10).pe (snd _ g h11).pe (snd _ g h12).pe h13 h14 h15 (swapped3 g.sc h16 h17)
  · simp only [Bool.and_eq_true] at h
    obtain ⟨⟨⟨⟨⟨⟨⟨⟨⟨⟨⟨h1, h2⟩, h3⟩, h4⟩, h5⟩, h6⟩, h7⟩, h8⟩, h9⟩, h10⟩, h11⟩, h12⟩ := h
    exact s_parSb g (okN_ok g h1) (okN_ok g h4) (snd _ g h2).pe (snd _ g h5).pe h3 h6 (snd _ g h7).pe (snd _ g h8).pe h9 h10 h11 h12
  · cases h
set_option maxHeartbeats 4000000 in
mutual
theorem sndS : ∀ (a : N.S) {Γ : Ct} {X : Cx} {s : Stmt}, Gd c cf Γ X → okS Γ a s = true → PS X s (rdS c cf a)
  | .asg t e, Γ, X, s, g, h => by
    unfold okS at h
    split at h
    · split at h
      · simp only [Bool.and_eq_true, decide_eq_true_eq] at h
        obtain ⟨⟨⟨⟨⟨h1, h2⟩, h3⟩, h4⟩, h5⟩, h6⟩ := h
        obtain ⟨l1, l2⟩ := g.st _ h2
        have sd := snd e g h3
        split at h6
        · rename_i hs
          obtain ⟨q1, q2, q3⟩ := comp_sw g.sc h5 hs
          exact sd.sw q1 _ _ _ _ (by rw [g.hN]; exact h1) q2 q3
        · exact s_asg_name g.nd (by rw [g.hN]; exact h1) l1 l2 sd.pe (comp_no g.sc h4 h6)
      · cases h
    · split at h
      · simp only [Bool.and_eq_true, Bool.not_eq_true'] at h
        obtain ⟨⟨⟨h1, h2⟩, h3⟩, h4⟩ := h
        exact s_asg_tup (snd e g h2).pe (okT_ok g h1) h3 (sw_noneL g.sc h4)
      · cases h
    · split at h
      · simp only [Bool.and_eq_true, Bool.not_eq_true'] at h
        obtain ⟨⟨⟨⟨h1, h2⟩, h3⟩, h4⟩, h5⟩ := h
        obtain ⟨n1, n2, n3, n4⟩ := okN_ok g h1
        exact s_asg_sb g n1 n2 n3 n4 (snd _ g h2).pe (snd e g h3).pe h4 h5
      · cases h
    · cases h
  | .par ts as, Γ, X, s, g, h => by
    unfold okS at h
    split at h
    · exact par_ok g h
    · cases h
  | .pop t i, Γ, X, s, g, h => by
    unfold okS at h
    split at h
    · simp only [Bool.and_eq_true, decide_eq_true_eq] at h
      obtain ⟨⟨⟨⟨rfl, h1⟩, h2⟩, h3⟩, h4⟩ := h
      obtain ⟨n1, n2, n3, n4⟩ := okN_ok g h1
      exact s_pop n1 n2 n3 n4 (okT_ok g h2) h3 h4
    · cases h
  | .popAt t i k, Γ, X, s, g, h => by
    unfold okS at h
    split at h
    · simp only [Bool.and_eq_true, decide_eq_true_eq] at h
      obtain ⟨⟨⟨⟨⟨⟨rfl, h1⟩, h2⟩, h3⟩, h4⟩, h5⟩, h6⟩ := h
      obtain ⟨n1, n2, n3, n4⟩ := okN_ok g h1
      exact s_popAt n1 n2 n3 n4 (snd k g h5).pe h6 (okT_ok g h2) h3 h4
    · cases h
  | .mut m i e, Γ, X, s, g, h => by
    unfold okS at h
    split at h
    · simp only [Bool.and_eq_true] at h
      obtain ⟨⟨⟨⟨h1, h2⟩, h3⟩, h4⟩, h5⟩ := h
      obtain ⟨n1, n2, n3, n4⟩ := okN_ok g h1
      split at h5
      · simp only [decide_eq_true_eq] at h5
        subst h5
        exact s_append n1 n2 n3 n4 (snd e g h2).pe h3 h4
      · simp only [decide_eq_true_eq] at h5
        subst h5
        exact s_extend n1 n2 n3 n4 (snd e g h2).pe h3 h4
      · simp only [decide_eq_true_eq] at h5
        subst h5
        exact s_popKey g n1 n2 n3 n4 (snd e g h2).pe h3 h4
      · cases h5
    · cases h
  | .sdf _ _ _, Γ, X, s, g, h => by unfold okS at h; cases h
  | .sdfa _ _ _, Γ, X, s, g, h => by unfold okS at h; cases h
  | .catpop _ _ _, Γ, X, s, g, h => by unfold okS at h; cases h
  | .aug i op e, Γ, X, s, g, h => by
    unfold okS at h
    split at h
    · simp only [Bool.and_eq_true, decide_eq_true_eq] at h
      obtain ⟨⟨⟨rfl, h1⟩, h2⟩, h3⟩ := h
      obtain ⟨l1, l2⟩ := g.st _ h2
      exact s_aug g.nd (by rw [g.hN]; exact h1) l1 l2 (snd e g h3).pe
    · cases h
  | .ex e, Γ, X, s, g, h => by
    unfold okS at h
    split at h
    · simp only [Bool.and_eq_true, Bool.not_eq_true'] at h
      exact s_ex (snd e g h.1).pe h.2
    · cases h
  | .ret e, Γ, X, s, g, h => by
    unfold okS at h
    split at h
    · split at h
      · split at h
        · obtain ⟨n1, n2, n3, n4⟩ := okN_ok g h
          exact s_retv n1 n2 n3 n4
        · cases h
      · simp only [Bool.and_eq_true] at h
        exact s_ret (snd e g h.1).pe h.2
    · cases h
  | .retn, Γ, X, s, g, h => by
    unfold okS at h
    split at h
    · exact s_retn
    · cases h
  | .ite k a b, Γ, X, s, g, h => by
    unfold okS at h
    split at h
    · simp only [Bool.and_eq_true] at h
      obtain ⟨⟨⟨h1, h2⟩, h3⟩, h4⟩ := h
      exact s_ite ((snd k g h1).pt h2) (sndSs a g h3) (sndSs b g h4)
    · cases h
  | .wh k b ws, Γ, X, s, g, h => by
    unfold okS at h
    split at h
    · simp only [Bool.and_eq_true] at h
      obtain ⟨⟨h1, h2⟩, h3⟩ := h
      exact s_while g ((snd k g h1).pt h2) (sndSs b g h3)
    · cases h
  | .for t it b ws, Γ, X, s, g, h => by
    unfold okS at h
    split at h
    · simp only [Bool.and_eq_true] at h
      obtain ⟨⟨⟨h1, h2⟩, h3⟩, h4⟩ := h
      exact s_for g (sndi it g h1) (okT_ok g h2) (sndSs b g h3) (no_set h4 _)
    · cases h
  | .brk, Γ, X, s, g, h => by
    unfold okS at h
    split at h
    · exact s_brk
    · cases h
  | .cont, Γ, X, s, g, h => by
    unfold okS at h
    split at h
    · exact s_cont
    · cases h
  | .pass, Γ, X, s, g, h => by
    unfold okS at h
    split at h
    · exact s_pass
    · cases h
theorem sndSs : ∀ (as : Ss) {Γ : Ct} {X : Cx} {ss : List Stmt}, Gd c cf Γ X → okSs Γ as ss = true → PSs X ss (rdSs c cf as)
  | .nil, Γ, X, ss, g, h => by
    unfold okSs at h
    obtain rfl := List.isEmpty_iff.mp h
    exact s_nil
  | .cons a as, Γ, X, ss, g, h => by
    unfold okSs at h
    split at h
    · rw [Bool.and_eq_true] at h
      exact s_cons (sndS a g h.1) (sndSs as g h.2)
    · cases h
end
end
end N
/-! N32. Defs: the entry. -/
namespace N
open PySem PySem.Spec PyProof.Rows L2
section
variable {c : Cfg} {cf : CF} {H : Hp}
theorem getv_rep (n i : Nat) : getv (List.replicate n none) i = none := by
  unfold getv
  rw [List.getElem?_replicate]
  split <;> rfl
theorem Slots.len {vs : List V} {ss : List N.Slot} {A : List Addr} (r : Slots c H vs ss A) : vs.length = ss.length := by
  induction r with
  | nil => rfl
  | dat _ _ ih => simp [ih]
  | src _ ih => simp [ih]
theorem slots_foot (n : Nat) {vs : List V} {ss : List N.Slot} {A : List Addr} (r : Slots c H vs ss A) : ∃ F : Foot, ∀ i, SlotRep c H ((vs.map some ++ List.replicate n none)[i]?) (getv (ss.map some ++ List.replicate n none) i) (F i) ∧ (∀ a ∈ F i, a ∈ A) ∧ ownA (getv (ss.map some ++ List.replicate n none) i) (F i) = [] := by
  induction r with
  | nil =>
    refine ⟨fun _ => [], fun i => ?_⟩
    simp only [List.map_nil, List.nil_append, getv_rep]
    exact ⟨rfl, fun _ z => (nomatch z), rfl⟩
  | @dat v d vs ss A B rp _ ih =>
    obtain ⟨F, hF⟩ := ih
    refine ⟨fun i => match i with | 0 => A | i + 1 => F i, fun i => ?_⟩
    cases i with
    | zero => exact ⟨⟨_, rfl, rp⟩, fun a z => List.mem_append_left _ z, rfl⟩
    | succ i => exact ⟨(hF i).1, fun a z => List.mem_append_right _ ((hF i).2.1 a z), (hF i).2.2⟩
  | src _ ih =>
    obtain ⟨F, hF⟩ := ih
    refine ⟨fun i => match i with | 0 => [] | i + 1 => F i, fun i => ?_⟩
    cases i with
    | zero => exact ⟨⟨rfl, rfl⟩, fun a z => (nomatch z), rfl⟩
    | succ i => exact ⟨(hF i).1, (hF i).2.1, (hF i).2.2⟩
theorem enter_rel {d : N.Def} {N0 : List Str} {vs : List V} {ss : List N.Slot} {A : List Addr} (r : Slots c H vs ss A) (hn : d.ns = N0.length) : ∃ F : Foot, Rel c (enter d ss) (L2.start N0 vs) H F ∧ (∀ i, ∀ a ∈ F i, a ∈ A) ∧ ∀ a, ¬ Owned (enter d ss) F a := by
  obtain ⟨F, hF⟩ := slots_foot (d.ns - ss.length) r
  have e : L2.start N0 vs = vs.map some ++ List.replicate (d.ns - ss.length) none := by unfold L2.start; rw [hn, r.len]
  refine ⟨F, ⟨?_, fun i => ?_, fun i a z => ?_, fun i a z => ?_⟩, fun i => (hF i).2.1, fun a ⟨i, z⟩ => ?_⟩
  · rw [e]; unfold enter; simp [r.len]
  · rw [e]; exact (hF i).1
  · rw [show ownA (getv (enter d ss) i) (F i) = [] from (hF i).2.2] at z; cases z
  · rw [show ownA (getv (enter d ss) i) (F i) = [] from (hF i).2.2] at z; cases z
  · rw [show ownA (getv (enter d ss) i) (F i) = [] from (hF i).2.2] at z; cases z
end
end N
/-! N33. Defs: the promise, level by level. -/
namespace N
open PySem PySem.Spec PyProof.Rows L2
section
variable {c : Cfg} {K : PySem.W.Frag} {mg : Str → Option Value} {base : Heap} {Pt : Nat → Option N.Def}
def locB (sc : Scope) (x : Str) : Bool := match sc.names.lookup x with
  | some .local => true
  | some .cell => true
  | _ => false
def ctOf (N0 : List Str) (sc : Scope) (fnN : Nat → Option Str) : Ct := ⟨N0, sc, fnN, locB sc⟩
theorem callN_def {k f : Nat} {d : N.Def} (f0 : 2 ≤ f) (hP : Pt f = some d) (ss : List N.Slot) (S : Src) : callN Pt (k + 1) f ss S = runDef (callN Pt k) d ss S := by
  rw [callN.eq_def]
  simp only [if_neg (show ¬ f = 0 by omega), if_neg (show ¬ f = 1 by omega), hP]
theorem spF_len {k f : Nat} {d : N.Def} (f0 : 2 ≤ f) (hP : Pt f = some d) {vs : List V} {H : Hp} {Q : VK} {E : XK} (h : spF c (callN Pt k) f vs H Q E) : vs.length = d.np := by
  obtain ⟨S, ss, A, r, S1, _, sl, e, _⟩ := h
  cases k with
  | zero => simp [callN] at e
  | succ k =>
    rw [callN_def f0 hP] at e
    simp only [runDef] at e
    split at e
    · rename_i hl; rw [sl.len]; exact hl
    · cases e
theorem cal_step {k f : Nat} {d : N.Def} {x : Str} {st : Stmt} {fa : Addr} {fd : FuncData} {N0 ps : List Str} (D : C8.Def K mg x st fa fd) (b : Binds K fd ps []) (S : FnScope N0 ps (C8.fnScope st)) (f0 : 2 ≤ f) (hP : Pt f = some d) (hnp : d.np = ps.length) (hns : d.ns = N0.length) (fnN : Nat → Option Str)
    (ok : okSs (ctOf N0 (C8.fnScope st) fnN) d.body (C8.fnBody st) = true) (mgn : ∀ x ∈ bnames, mg x = none) (ih : ∀ g y, fnN g = some y → C8.Cal c.prog c.w K mg base (k + 1) y (spF c (callN Pt k) g) []) :
    C8.Cal c.prog c.w K mg base (k + 2) x (spF c (callN Pt (k + 1)) f) [] := by
  refine C8.cal0 D b .nil S (fun vs H Q E h => (spF_len f0 hP h).trans hnp) fun cdv A outer s H vs Q E rm h => ?_
  have g : Gd c (callN Pt k) (ctOf N0 (C8.fnScope st) fnN) (cxOf C8.CX0 c.prog c.w K mg base N0 x (C8.fnScope st) fa cdv A outer s H E).nox := {
    hp := rfl
    hw := rfl
    hN := rfl
    nd := S.nd
    sc := rfl
    calm := rfl
    xe := rfl
    hu := by have := rm.un; show (A.deeper _).units + 150 < _; omega
    mg := mgn
    fn := fun g y hg => ⟨k + 1, ih g y hg, rm⟩
    st := fun y hy => by
      have hy : locB (C8.fnScope st) y = true := hy
      unfold locB at hy
      refine ⟨?_, .inl rfl⟩
      split at hy
      · rename_i e; exact .inl e
      · rename_i e; exact .inr e
      · cases hy }
  refine ⟨_, sndSs d.body g ok, ?_⟩
  obtain ⟨S0, ss, As, r, S1, sr, sl, e, q⟩ := h
  rw [callN_def f0 hP] at e
  simp only [runDef] at e
  obtain ⟨F, R, fs, no⟩ := enter_rel (d := d) sl hns
  split at e
  · split at e
    · rename_i r0 s1 he
      cases e
      exact ⟨_, F, S0, _, _, R, sr, he, fun v H' G rp fr tr ft ow sr' => q v H' G ⟨fun a o h l => fr a o h l (no a), tr⟩ rp (fun a z => (ft a z).imp id fun ⟨i, w⟩ => fs i a w) (fun a z => ⟨(ow a z).2.resolve_right (no a), (ow a z).1⟩) sr'⟩
    · rename_i e1 s1 he
      cases e
      exact ⟨_, F, S0, _, _, R, sr, he, fun σ' H' F' R' st' sr' => q .non H' [] ⟨fun a o h l => st'.frame a o h l (no a), st'.tr⟩ ⟨_, rfl, .non⟩ (fun a z => (nomatch z)) (fun a z => (nomatch z)) sr'⟩
    · cases e
  · cases e
end
end N
/-! N34. Defs: a whole table. -/
namespace N
open PySem PySem.Spec PyProof.Rows L2
section
variable {K : PySem.W.Frag} {mg : Str → Option Value} {base : Heap} {Pt : Nat → Option N.Def}
/-- a def of the table, as it stands -/
structure Row (K : PySem.W.Frag) (mg : Str → Option Value) (Pt : Nat → Option N.Def) (fnN : Nat → Option Str) (f : Nat) (x : Str) : Prop where
  ex : ∃ (d : N.Def) (st : Stmt) (fa : Addr) (fd : FuncData) (N0 ps : List Str), 2 ≤ f ∧ Pt f = some d ∧ C8.Def K mg x st fa fd ∧ Binds K fd ps [] ∧ FnScope N0 ps (C8.fnScope st) ∧ d.np = ps.length ∧ d.ns = N0.length ∧ okSs (ctOf N0 (C8.fnScope st) fnN) d.body (C8.fnBody st) = true
theorem cal_none {c : Cfg} {f : Nat} {x : Str} {fnN : Nat → Option Str} (r : Row K mg Pt fnN f x) : C8.Cal c.prog c.w K mg base 1 x (spF c (callN Pt 0) f) [] := by
  obtain ⟨d, st, fa, fd, N0, ps, f0, hP, D, b, S, hnp, hns, ok⟩ := r.ex
  have no : ∀ vs H Q E, ¬ spF c (callN Pt 0) f vs H Q E := fun vs H Q E ⟨S, ss, A, r, S1, _, _, e, _⟩ => by simp [callN] at e
  exact C8.cal0 D b .nil S (fun vs H Q E h => absurd h (no vs H Q E)) fun cdv A outer s H vs Q E rm h => absurd h (no vs H Q E)
theorem cals {c : Cfg} {fnN : Nat → Option Str} (mgn : ∀ x ∈ bnames, mg x = none) (rows : ∀ f x, fnN f = some x → 2 ≤ f → Row K mg Pt fnN f x)
    (pk : ∀ k x, fnN 0 = some x → C8.Cal c.prog c.w K mg base (k + 1) x (spF c (callN Pt k) 0) [])
    (ao : ∀ k x, fnN 1 = some x → (∀ y, fnN 0 = some y → ∀ j ≤ k, C8.Cal c.prog c.w K mg base (j + 1) y (spF c (callN Pt j) 0) []) → C8.Cal c.prog c.w K mg base (k + 1) x (spF c (callN Pt k) 1) []) :
    ∀ (k f : Nat) (x : Str), fnN f = some x → C8.Cal c.prog c.w K mg base (k + 1) x (spF c (callN Pt k) f) []
  | k, 0, x, h => pk k x h
  | k, 1, x, h => ao k x h fun y hy j _ => pk j y hy
  | 0, f + 2, x, h => cal_none (rows _ x h (by omega))
  | k + 1, f + 2, x, h => by
    obtain ⟨d, st, fa, fd, N0, ps, f0, hP, D, b, S, hnp, hns, ok⟩ := (rows _ x h (by omega)).ex
    exact cal_step D b S f0 hP hnp hns fnN ok mgn fun g y hg => cals mgn rows pk ao k g y hg
end
end N
/-! N35. The draw, by hand: its reading. -/
namespace N
open PySem PySem.Spec PyProof.Rows L2
def dgS (k : Str) : TE := tDGet (tVar 0) (tC (.str k))
def rLtI : R2 := rI0 fun i j => .bl (decide (i < j))
def rGtI : R2 := rI0 fun i j => .bl (decide (j < i))
def rAddI : R2 := rI0 fun i j => .int (i + j)
def rMulI : R2 := rI CMulW fun i j => .int (i * j)
def rDivI : R2 := rI CDivW fun i j => .int (i / j)
def rModI : R2 := rI (fun _ j => 0 < j) fun i j => .int (i % j)
def rLenL (K : PySem.W.Frag) : List V → Hp → VK → Prop := fun xs H Q => ∃ p ys, xs = [.ref p] ∧ (SqL K H p ys ∨ SqT K H p ys) ∧ Q (.int ys.length) H
def rInt1 : List V → Hp → VK → Prop := fun xs H Q => (∃ i, xs = [.int i] ∧ Q (.int i) H) ∨ ∃ k, xs = [.bl k] ∧ Q (.int (if k then 1 else 0)) H
def tInt (e : TE) : TE := tCB rInt1 (tCons e tNil)
def tPick (K : PySem.W.Frag) : TS :=
  tSeq (tIfS (tTest (tOp rLtI (tVar 1) (tC (.int 2)))) (tRet (tC (.int 0))) tNext)
  (tSeq (tAsg (dgS "cells") (gName 2))
  (tSeq (tWhile (tAnd (tTest (tOp rLtI (dgS "left") (tC (.int 2)))) (tTest (tOp rGtI (tCB (rLenL K) (tCons (tVar 2) tNil)) (tC (.int 0))))) (sDPut (tVar 0) (tC (.str "left")) (tBM0 K "list" rPop (tVar 2))))
  (tSeq (tAsg (dgS "left") (gName 3))
  (tSeq (tIfS (tTest (tOp rGtI (tVar 3) (tC (.int 1)))) (tSeq (sDPut (tVar 0) (tC (.str "left")) (tOp rDivI (tVar 3) (tVar 1))) (tRet (tOp rModI (tInt (tVar 3)) (tVar 1)))) tNext)
  (tSeq (sDPut (tVar 0) (tC (.str "turn")) (tOp rAddI (dgS "turn") (tC (.int 1))))
  (tSeq (tAsg (dgS "turn") (gName 4))
  (tSeq (tAsg (tOp rModI (tInt (tOp rAddI (dgS "mixed") (tOp rMulI (tVar 4) (tC (.int 104729))))) (tC (.int 998244353))) (gName 5))
  (tSeq (tAsg (tOp rModI (tInt (tOp rAddI (tOp rMulI (tVar 5) (tVar 5)) (tOp rMulI (tVar 4) (tC (.int 17))))) (tC (.int 2147483647))) (gName 5))
  (tRet (tOp rModI (tInt (tOp rDivI (tVar 5) (tC (.int 16)))) (tVar 1)))))))))))

section
variable {c : Cfg} {H H1 : Hp} {S : Src}
theorem srcG_cells : valV (srcKvs c S) (.inr "cells") = some (.ref c.ca) := by simp [valV, srcKvs]
theorem srcG_left : valV (srcKvs c S) (.inr "left") = some (.int S.left) := by
  have h1 : ((.inr "cells" : Key) = .inr "left") = False := by simp; decide
  simp [valV, srcKvs, h1]
theorem srcG_mixed : valV (srcKvs c S) (.inr "mixed") = some (.int S.mixed) := by
  have h1 : ((.inr "cells" : Key) = .inr "mixed") = False := by simp; decide
  have h2 : ((.inr "left" : Key) = .inr "mixed") = False := by simp; decide
  simp [valV, srcKvs, h1, h2]
theorem srcG_turn : valV (srcKvs c S) (.inr "turn") = some (.int S.turn) := by
  have h1 : ((.inr "cells" : Key) = .inr "turn") = False := by simp; decide
  have h2 : ((.inr "left" : Key) = .inr "turn") = False := by simp; decide
  have h3 : ((.inr "mixed" : Key) = .inr "turn") = False := by simp; decide
  simp [valV, srcKvs, h1, h2, h3]
theorem srcP_left {v : Int} : putK (srcKvs c S) (.inr "left") (.int v) = srcKvs c { S with left := v } := by
  have h1 : ((.inr "cells" : Key) = .inr "left") = False := by simp; decide
  have h2 : ((.inr "mixed" : Key) = .inr "left") = False := by simp; decide
  have h3 : ((.inr "turn" : Key) = .inr "left") = False := by simp; decide
  simp [putK, srcKvs, h1, h2, h3]
theorem srcP_turn {v : Int} : putK (srcKvs c S) (.inr "turn") (.int v) = srcKvs c { S with turn := v } := by
  have h1 : ((.inr "cells" : Key) = .inr "turn") = False := by simp; decide
  have h2 : ((.inr "left" : Key) = .inr "turn") = False := by simp; decide
  have h3 : ((.inr "mixed" : Key) = .inr "turn") = False := by simp; decide
  simp [putK, srcKvs, h1, h2, h3]
theorem ext_sa {o : HO} {x : Addr} (hx : x = c.sa ∨ x = c.ca) : Ext c H (upd H x o) := ⟨fun a o' e l => by
    have ne : a ≠ x := by rcases hx with rfl | rfl; exact l.1; exact l.2
    rw [upd_ne ne]; exact e, fun a e => by
    by_cases h : a = x
    · subst h; rw [upd_same]; exact fun z => nomatch z
    · rw [upd_ne h]; exact e⟩
/-- the source with another rest of the present number -/
theorem SrcAt.putLeft (sr : SrcAt c H S) {v : Int} : SrcAt c (L2.upd H c.sa (.dK (srcKvs c { S with left := v }))) { S with left := v } where
  d := upd_same
  l := by rw [upd_ne sr.ne.symm]; exact sr.l
  ne := sr.ne
  turn := sr.turn
theorem SrcAt.putTurn (sr : SrcAt c H S) {v : Int} (hv : 0 ≤ v) : SrcAt c (L2.upd H c.sa (.dK (srcKvs c { S with turn := v }))) { S with turn := v } where
  d := upd_same
  l := by rw [upd_ne sr.ne.symm]; exact sr.l
  ne := sr.ne
  turn := hv
theorem SrcAt.popCell (sr : SrcAt c H S) {x : Int} {r : List Int} (h : S.cells = x :: r) : SrcAt c (L2.upd (L2.upd H c.ca (.lst (r.reverse.map V.int))) c.sa (.dK (srcKvs c { S with left := x, cells := r }))) { S with left := x, cells := r } where
  d := upd_same
  l := by rw [upd_ne sr.ne.symm]; exact upd_same
  ne := sr.ne
  turn := sr.turn
theorem refill_two {l : Int} {cs : List Int} (h : 2 ≤ l) : refill l cs = (l, cs) := by
  cases cs with
  | nil => rfl
  | cons => rw [refill, if_neg (by omega)]
theorem log_lt {n : Nat} {k : Nat} (hk : 0 < k) (h : n < 2 ^ k) : n.log2 < k := by
  by_cases h0 : n = 0
  · subst h0; simpa using hk
  · exact (Nat.log2_lt h0).mpr h
theorem srcKvs_len : (srcKvs c S).length < sizeLine := by show 4 < sizeLine; decide
theorem if_t {b : Bool} {P Q : Prop} (h : b = true) (p : P) : if b = true then P else Q := by rw [if_pos h]; exact p
theorem if_f {b : Bool} {P Q : Prop} (h : b = false) (p : Q) : if b = true then P else Q := by rw [h, if_neg Bool.false_ne_true]; exact p
theorem size4 : (srcKvs c S).length < sizeLine := srcKvs_len
theorem pick_read {K : PySem.W.Frag} {m : Int} {De : Ends} (sr : SrcAt c H S) (hm : m ≤ 1000000) (ht : S.turn < 2 ^ 62) (q : ∀ H', Ext c H H' → SrcAt c H' (pick S m).2 → De.rt (.int (pick S m).1) H') :
    tPick K De (L2.start ["source", "most", "cells", "others", "lap", "stirred"] [.ref c.sa, .int m]) H := by
  refine ⟨_, rfl, m, 2, rfl, rfl, _, rfl, ?_⟩
  by_cases h2 : m < 2
  · refine if_t (by simpa using h2) ?_
    have e : pick S m = (0, S) := by unfold pick; rw [if_pos h2]
    rw [e] at q
    exact q H Ext.refl sr
  refine if_f (by simpa using h2) ?_
  -- the list
  refine ⟨_, rfl, c.sa, .ref c.ca, rfl, ?_, ?_⟩
  · have := DGet.k sr.d (k := .inr "cells")
    rw [srcG_cells] at this
    exact this
  -- the loop
  refine ⟨fun n σ' H' => ∃ S' : Src, n = S'.cells.length ∧ σ' = [some (.ref c.sa), some (.int m), some (.ref c.ca), none, none, none] ∧ SrcAt c H' S' ∧ Ext c H H' ∧ refill S'.left S'.cells = refill S.left S.cells ∧ S'.mixed = S.mixed ∧ S'.turn = S.turn,
    ⟨_, S, rfl, rfl, sr, Ext.refl, rfl, rfl, rfl⟩, ?_⟩
  rintro n σ' H' ⟨S', rfl, rfl, sr', x', hr, hmx, htn⟩
  refine ⟨_, rfl, c.sa, _, rfl, ?_, S'.left, 2, rfl, rfl, _, rfl, ?_⟩
  · have := DGet.k sr'.d (k := .inr "left")
    rw [srcG_left] at this
    exact this
  -- behind the loop
  have behind : ∀ S1 : Src, S1 = S' → (¬ S1.left < 2 ∨ S1.cells = []) → (tSeq (tAsg (dgS "left") (gName 3))
      (tSeq (tIfS (tTest (tOp rGtI (tVar 3) (tC (.int 1)))) (tSeq (sDPut (tVar 0) (tC (.str "left")) (tOp rDivI (tVar 3) (tVar 1))) (tRet (tOp rModI (tInt (tVar 3)) (tVar 1)))) tNext)
      (tSeq (sDPut (tVar 0) (tC (.str "turn")) (tOp rAddI (dgS "turn") (tC (.int 1))))
      (tSeq (tAsg (dgS "turn") (gName 4))
      (tSeq (tAsg (tOp rModI (tInt (tOp rAddI (dgS "mixed") (tOp rMulI (tVar 4) (tC (.int 104729))))) (tC (.int 998244353))) (gName 5))
      (tSeq (tAsg (tOp rModI (tInt (tOp rAddI (tOp rMulI (tVar 5) (tVar 5)) (tOp rMulI (tVar 4) (tC (.int 17))))) (tC (.int 2147483647))) (gName 5))
      (tRet (tOp rModI (tInt (tOp rDivI (tVar 5) (tC (.int 16)))) (tVar 1))))))))) De [some (.ref c.sa), some (.int m), some (.ref c.ca), none, none, none] H' := by
    rintro S1 rfl hend
    have er : refill S.left S.cells = (S1.left, S1.cells) := by
      rw [← hr]
      rcases hend with h | h
      · exact refill_two (by omega)
      · rw [h]; rfl
    refine ⟨_, rfl, c.sa, .int S1.left, rfl, ?_, ?_⟩
    · have := DGet.k sr'.d (k := .inr "left")
      rw [srcG_left] at this
      exact this
    refine ⟨_, rfl, S1.left, 1, rfl, rfl, _, rfl, ?_⟩
    by_cases h1 : 1 < S1.left
    · refine if_t (by simpa using h1) ?_
      have e : pick S m = (S1.left % m, { S with left := S1.left / m, cells := S1.cells }) := by
        unfold pick
        rw [if_neg h2, er]
        simp only [h1, if_true]
      rw [e] at q
      refine ⟨_, rfl, _, rfl, S1.left, m, rfl, rfl, ⟨by omega, log_lt (by decide) (Nat.lt_of_lt_of_le (show m.natAbs < 2 ^ 20 by omega) (Nat.pow_le_pow_right (by decide) (by decide)))⟩, _, rfl, c.sa, _, rfl, DPut.k (k := .inr "left") sr'.d size4, ?_⟩
      dsimp only
      rw [srcP_left]
      refine ⟨_, rfl, .inl ⟨_, rfl, _, rfl, S1.left, m, rfl, rfl, by omega, q _ (x'.trans (ext_sa (.inl rfl))) ?_⟩⟩
      have z := sr'.putLeft (v := S1.left / m)
      have e2 : ({ S with left := S1.left / m, cells := S1.cells } : Src) = { S1 with left := S1.left / m } := by
        cases S; cases S1
        simp at hmx htn ⊢
        exact ⟨hmx.symm, htn.symm⟩
      rw [e2]
      exact z
    · refine if_f (by simpa using h1) ?_
      have e : pick S m = ((mixIt S.mixed (S.turn + 1) / 16) % m, { S with left := S1.left, cells := S1.cells, turn := S.turn + 1 }) := by
        unfold pick
        rw [if_neg h2, er]
        simp only [h1, if_false]
      rw [e] at q
      have hturn := sr'.turn
      have hT : (S1.turn + 1).natAbs < 2 ^ 63 := by
        rw [htn] at hturn ⊢
        have : (2 : Int) ^ 62 = 4611686018427387904 := by decide
        have : (2 : Nat) ^ 63 = 9223372036854775808 := by decide
        omega
      refine ⟨_, rfl, c.sa, _, rfl, ?_, S1.turn, 1, rfl, rfl, _, rfl, c.sa, _, rfl, DPut.k (k := .inr "turn") sr'.d size4, ?_⟩
      · have := DGet.k sr'.d (k := .inr "turn")
        rw [srcG_turn] at this
        exact this
      dsimp only
      rw [srcP_turn]
      have sr2 := sr'.putTurn (v := S1.turn + 1) (by omega)
      refine ⟨_, rfl, c.sa, .int (S1.turn + 1), rfl, ?_, ?_⟩
      · have := DGet.k sr2.d (k := .inr "turn")
        rw [srcG_turn] at this
        exact this
      refine ⟨_, rfl, c.sa, .int S1.mixed, rfl, ?_, _, rfl, S1.turn + 1, 104729, rfl, rfl, ?_, S1.mixed, (S1.turn + 1) * 104729, rfl, rfl, .inl ⟨_, rfl, _, _, rfl, rfl, (show (0 : Int) < _ by decide), ?_⟩⟩
      · have := DGet.k sr2.d (k := .inr "mixed")
        rw [srcG_mixed] at this
        exact this
      · have h5 : (S1.turn + 1).natAbs.log2 < 63 := log_lt (by decide) hT
        have h6 : (104729 : Int).natAbs.log2 < 17 := log_lt (by decide) (by decide)
        show _ + _ < 1000000
        omega
      refine ⟨_, rfl, _, rfl, (S1.mixed + (S1.turn + 1) * 104729) % 998244353, _, rfl, rfl, ?_, _, rfl, S1.turn + 1, 17, rfl, rfl, ?_, _, _, rfl, rfl, .inl ⟨_, rfl, _, _, rfl, rfl, (show (0 : Int) < _ by decide), ?_⟩⟩
      · have g1 : 0 ≤ (S1.mixed + (S1.turn + 1) * 104729) % 998244353 := Int.emod_nonneg _ (by decide)
        have g2 : (S1.mixed + (S1.turn + 1) * 104729) % 998244353 < 998244353 := Int.emod_lt_of_pos _ (by decide)
        have h5 : ((S1.mixed + (S1.turn + 1) * 104729) % 998244353).natAbs.log2 < 30 := log_lt (by decide) (by omega)
        show _ + _ < 1000000
        omega
      · have h5 : (S1.turn + 1).natAbs.log2 < 63 := log_lt (by decide) hT
        have h6 : (17 : Int).natAbs.log2 < 17 := log_lt (by decide) (by decide)
        show _ + _ < 1000000
        omega
      refine ⟨_, rfl, _, _, rfl, rfl, ⟨by decide, log_lt (by decide) (by decide)⟩, .inl ⟨_, rfl, _, rfl, _, m, rfl, rfl, by omega, ?_⟩⟩
      have e2 : ({ S with left := S1.left, cells := S1.cells, turn := S.turn + 1 } : Src) = { S1 with turn := S1.turn + 1 } := by
        cases S; cases S1
        simp at hmx htn ⊢
        exact ⟨hmx.symm, htn.symm⟩
      rw [e2, ← hmx, ← htn] at q
      exact q _ (x'.trans (ext_sa (.inl rfl))) sr2
  by_cases hl : S'.left < 2
  · refine if_t (by simpa using hl) ?_
    refine ⟨_, rfl, c.ca, _, rfl, .inl (.of sr'.l), _, _, rfl, rfl, _, rfl, ?_⟩
    cases hc : S'.cells with
    | nil =>
      refine if_f (by simp [hc]) ?_
      exact behind S' rfl (.inr hc)
    | cons x r =>
      refine if_t (by simp [hc]) ?_
      refine ⟨fun σ1 H1 => ∃ S2 : Src, S2.cells = r ∧ σ1 = [some (.ref c.sa), some (.int m), some (.ref c.ca), none, none, none] ∧ SrcAt c H1 S2 ∧ Ext c H H1 ∧ refill S2.left S2.cells = refill S.left S.cells ∧ S2.mixed = S.mixed ∧ S2.turn = S.turn,
        fun σ1 H1 ⟨S2, e1, e2, e3, e4, e5, e6, e7⟩ => ⟨r.length, by simp, S2, by rw [e1], e2, e3, e4, e5, e6, e7⟩, ?_⟩
      have hl' : H' c.ca = some (.lst ((r.reverse ++ [x]).map V.int)) := by
        have := sr'.l
        rw [hc, List.reverse_cons] at this
        exact this
      refine ⟨_, rfl, .inl ⟨rfl, _, .of sr'.l⟩, c.ca, (r.reverse ++ [x]).map V.int, .int x, rfl, rfl, hl', by simp, _, rfl, c.sa, _, rfl, DPut.k (k := .inr "left") (kvs := srcKvs c S') (by rw [upd_ne sr'.ne]; exact sr'.d) size4, ?_⟩
      dsimp only
      rw [srcP_left]
      refine ⟨{ S' with left := x, cells := r }, rfl, rfl, ?_, x'.trans ((ext_sa (.inr rfl)).trans (ext_sa (.inl rfl))), ?_, hmx, htn⟩
      · have z := sr'.popCell hc
        have e3 : (((r.reverse ++ [x]).map V.int).dropLast) = r.reverse.map V.int := by simp
        rw [e3]
        exact z
      · rw [← hr, hc]
        show refill x r = refill S'.left (x :: r)
        rw [refill, if_pos hl]
  · refine if_f (by simpa using hl) ?_
    exact behind S' rfl (.inl hl)
end
end N
/-! N36. The source's making, by hand: its reading. -/
namespace N
open PySem PySem.Spec PyProof.Rows L2
def rAbs1 : List V → Hp → VK → Prop := fun xs H Q => ∃ i, xs = [.int i] ∧ Q (.int (if i < 0 then -i else i)) H
def rMulC : R2 := rI CMul fun i j => .int (i * j)
def tOpen (K : PySem.W.Frag) : TS :=
  tSeq (tAsg (tC (.int 11)) (gName 1))
  (tSeq (tFor (iList K (tVar 0)) (gName 2) (tAsg (tOp rModI (tInt (tOp rAddI (tOp rAddI (tOp rMulC (tVar 1) (tC (.int 69069))) (tOp rMulC (tVar 2) (tC (.int 31)))) (tC (.int 5)))) (tC (.int 2147483629))) (gName 1)))
  (tSeq (tAsg (tLc (iList K (tVar 0)) (gName 2) tYes (tCB rAbs1 (tCons (tVar 2) tNil)) [2]) (gName 3))
  (tRet (tDisp [(tC (.str "cells"), tRevL K (tVar 3)), (tC (.str "left"), tC (.int 1)), (tC (.str "mixed"), tVar 1), (tC (.str "turn"), tC (.int 0))]))))
def absI (i : Int) : Int := if i < 0 then -i else i
def spOpen (P : Program) (w : World) (K : PySem.W.Frag) : Sp := fun vs H Q _ => ∃ (a : Addr) (ns : List Int), vs = [.ref a] ∧ SqL K H a (ns.map V.int) ∧ ns.length ≤ 63 ∧
  ∀ (c : Cfg) (S : Src) (H' : Hp), c.prog = P → c.w = w → Same H H' → H c.sa = none → H c.ca = none → SrcAt c H' S → S.turn = 0 → Q (.ref c.sa) H'
theorem srcMerge {c : Cfg} {S : Src} : mergeK [] [(.inr "cells", V.ref c.ca), (.inr "left", .int S.left), (.inr "mixed", .int S.mixed), (.inr "turn", .int S.turn)] = srcKvs c S := by
  have h1 : ((.inr "cells" : Key) = .inr "left") = False := by simp; decide
  have h2 : ((.inr "cells" : Key) = .inr "mixed") = False := by simp; decide
  have h3 : ((.inr "left" : Key) = .inr "mixed") = False := by simp; decide
  have h4 : ((.inr "cells" : Key) = .inr "turn") = False := by simp; decide
  have h5 : ((.inr "left" : Key) = .inr "turn") = False := by simp; decide
  have h6 : ((.inr "mixed" : Key) = .inr "turn") = False := by simp; decide
  simp [mergeK, putK, srcKvs, h1, h2, h3, h4, h5, h6]
theorem open_read {P : Program} {w : World} {K : PySem.W.Frag} {vs : List V} {H : Hp} {De : Ends} {E : XK} (h : spOpen P w K vs H De.rt E) : tOpen K De (L2.start ["script", "stirred", "cell", "cells"] vs) H := by
  obtain ⟨a, ns, rfl, hS, h63, q⟩ := h
  refine ⟨_, rfl, a, rfl, ⟨_, hS⟩, for_list (xs := ns.map V.int) (fun i σ' H' => H' = H ∧ ∃ st u, σ' = [some (.ref a), some (.int st), u, none]) ⟨rfl, 11, none, rfl⟩ (fun i σ' H' _ p => by rw [p.1]; exact hS) (fun i x σ' H' hx ⟨e, st, u, es⟩ => ?_) fun σ' H' ⟨e, st, u, es⟩ => ?_⟩
  · subst e es
    rw [List.getElem?_map] at hx
    obtain ⟨n, hn, rfl⟩ := Option.map_eq_some_iff.mp hx
    refine ⟨_, rfl, st, 69069, rfl, rfl, .inr ⟨by decide, by decide⟩, _, rfl, n, 31, rfl, rfl, .inr ⟨by decide, by decide⟩, _, _, rfl, rfl, _, _, rfl, rfl, .inl ⟨_, rfl, _, _, rfl, rfl, (show (0 : Int) < _ by decide), rfl, _, _, rfl⟩⟩
  · have e := e.symm
    subst e es
    refine ⟨_, rfl, a, rfl, ⟨_, hS⟩, fun Dd hD => ?_⟩
    refine lc_list (xs := ns.map V.int) (fun i H' => Same H' H' ∧ Same H H' ∧ H' Dd = some (.lst (((ns.take i).map absI).map V.int))) ⟨fun b o e => e, fun b o e => by rw [upd_ne (ne_of_none e hD)]; exact e, by rw [List.take_zero]; exact upd_same⟩ (fun i H' _ p => p.2.1.seq hS) (fun i x H' hx ⟨_, sm, hl⟩ => ?_) fun H' ⟨_, sm, hl⟩ => ?_
    · rw [List.getElem?_map] at hx
      obtain ⟨n, hn, rfl⟩ := Option.map_eq_some_iff.mp hx
      refine ⟨rfl, ?_⟩
      unfold tYes
      refine if_t rfl ?_
      refine ⟨_, rfl, n, rfl, _, hl, ?_, fun b o e => e, fun b o e => ?_, ?_⟩
      · have := List.length_take_le i ns
        rw [List.length_map, List.length_map]
        have : (63 : Nat) < sizeLine := by decide
        have := List.length_take_le' i ns
        omega
      · rw [upd_ne (ne_of_none e hD)]
        exact sm _ _ e
      · rw [upd_same, List.take_add_one, hn]
        simp [absI]
    · rw [List.length_map, List.take_length] at hl
      intro p hp
      refine ⟨_, rfl, Dd, _, rfl, .of (by rw [upd_ne (ne_of_none hl hp)]; exact hl), fun r hr => ⟨_, rfl, ?_⟩⟩
      have npr : p ≠ r := by
        rintro rfl
        rw [upd_same] at hr
        cases hr
      refine ⟨by rw [upd_ne npr]; exact upd_same, [(.inr "cells", .ref r), (.inr "left", .int 1), (.inr "mixed", .int st), (.inr "turn", .int 0)], rfl, (show (4 : Nat) ≤ 15 by decide), ?_⟩
      have hHp : H p = none := by
        cases e : H p with
        | none => rfl
        | some o => rw [sm _ _ e] at hp; cases hp
      have hHr : H r = none := by
        cases e : H r with
        | none => rfl
        | some o =>
          rw [upd_ne npr.symm, sm _ _ e] at hr
          cases hr
      have e1 := srcMerge (c := ⟨P, w, p, r⟩) (S := ⟨ns.map absI, 1, st, 0⟩)
      refine q ⟨P, w, p, r⟩ ⟨ns.map absI, 1, st, 0⟩ _ rfl rfl (fun b o e => ?_) hHp hHr ⟨?_, ?_, npr, Int.le_refl _⟩ rfl
      · rw [upd_ne (ne_of_none e hHp), upd_ne (ne_of_none e hHr), upd_ne (ne_of_none e hHp)]
        exact sm _ _ e
      · show L2.upd _ p _ p = _
        rw [upd_same]
        exact congrArg (fun z => some (HO.dK z)) e1
      · show L2.upd _ p _ r = _
        rw [upd_ne npr.symm, upd_same, ← List.map_reverse]
end N
/-! N37. The drawn order, by hand: its reading; the promises of the numbers 0 and 1. -/
namespace N
open PySem PySem.Spec PyProof.Rows L2
section
variable {c : Cfg} {cf : CF} {H H1 : Hp} {S : Src} {Pt : Nat → Option N.Def}
/-- the draw's promise, told -/
theorem pick_sp {k : Nat} {vs : List V} {Q : VK} {E : XK} (h : spF c (callN Pt k) 0 vs H Q E) : ∃ S m, vs = [.ref c.sa, .int m] ∧ SrcAt c H S ∧ m ≤ 1000000 ∧ S.turn < 2 ^ 62 ∧ ∀ H', Ext c H H' → SrcAt c H' (pick S m).2 → Q (.int (pick S m).1) H' := by
  obtain ⟨S, ss, A, r, S1, sr, sl, e, q⟩ := h
  cases k with
  | zero => simp [callN] at e
  | succ k =>
    rw [callN.eq_def] at e
    simp only [if_true] at e
    split at e
    · rename_i m o
      split at e
      · rename_i hm
        cases e
        cases sl with
        | src sl =>
          cases sl with
          | dat r1 sl =>
            cases sl
            obtain ⟨rfl, rfl⟩ := r1.int_inv
            exact ⟨S, m, rfl, sr, hm.1, hm.2, fun H' x s' => q _ H' [] x ⟨_, rfl, .int _⟩ (fun a z => (nomatch z)) (fun a z => (ownA_nil z).elim) s'⟩
      · cases e
    · cases e
def tCallP (c : Cfg) (cf : CF) (ta : TA) : TE := tCall (spF c cf 0) [] C8.E0 ta
def tAny (c : Cfg) (cf : CF) (K : PySem.W.Frag) : TS :=
  tSeq (tAsg (tCB (rBi c .list) (tCons (tVar 1) tNil)) (gName 2))
  (tRet (tLc (iRng1 (tCons (tCB (rLenL K) (tCons (tVar 2) tNil)) tNil)) (gName 3) tYes (tBM K "list" rPopAt (tVar 2) (tCons (tCallP c cf (tCons (tVar 0) (tCons (tCB (rLenL K) (tCons (tVar 2) tNil)) tNil))) tNil)) [3]))
theorem anyRun_len : ∀ {n : Nat} {xs r : List D} {s s1 : Src}, anyRun cf n xs s = some (r, s1) → r.length = n
  | 0, xs, r, s, s1, h => by rw [anyRun] at h; cases h; rfl
  | n + 1, xs, r, s, s1, h => by
    rw [anyRun] at h
    obtain ⟨d, o, s2, e, h⟩ := bD_inv h
    split at h
    · split at h
      · split at h
        · split at h
          · rename_i r2 s3 h3
            cases h
            rw [List.length_cons, anyRun_len h3]
          · cases h
        · cases h
      · cases h
    · cases h
theorem any_read {k : Nat} {K : PySem.W.Frag} {vs : List V} {De : Ends} {E : XK} (h : spF c (callN Pt (k + 1)) 1 vs H De.rt E) : tAny c (callN Pt k) K De (L2.start ["source", "things", "others", "lap"] vs) H := by
  obtain ⟨S, ss, A, r, S1, sr, sl, e, q⟩ := h
  rw [callN.eq_def] at e
  simp only [if_neg (show ¬ (1 : Nat) = 0 by decide), if_true] at e
  -- the things
  obtain ⟨v, d, xs, A1, rfl, hd, rv, hlim, res, hrun, hr, hA⟩ : ∃ v d xs A1, vs = [.ref c.sa, v] ∧ (d = .list xs ∨ d = .tuple xs) ∧ Rep c H v d A1 ∧ xs.length ≤ LIM ∧ ∃ res, anyRun (callN Pt k) xs.length xs S = some (res, S1) ∧ r = .dat (.list res) 1 ∧ ∀ a ∈ A1, a ∈ A := by
    unfold anyOrd at e
    split at e
    · split at e
      · rename_i xs o hl
        split at e
        · rename_i res s1 hrun
          cases e
          cases sl with
          | src sl =>
            cases sl with
            | dat r1 sl =>
              cases sl
              exact ⟨_, _, xs, _, rfl, .inl rfl, r1, hl, res, hrun, rfl, fun a z => List.mem_append_left _ z⟩
        · cases e
      · cases e
    · split at e
      · rename_i xs o hl
        split at e
        · rename_i res s1 hrun
          cases e
          cases sl with
          | src sl =>
            cases sl with
            | dat r1 sl =>
              cases sl
              exact ⟨_, _, xs, _, rfl, .inr rfl, r1, hl, res, hrun, rfl, fun a z => List.mem_append_left _ z⟩
        · cases e
      · cases e
    · cases e
  subst hr
  have hsz : xs.length ≤ sizeLine := by rw [← lim_eq]; exact hlim
  have hres := anyRun_len hrun
  refine ⟨_, rfl, sr.tk, [d], A1 ++ [], .list xs, 1, .cons rv .nil, ?_, fun lv H1 G1 sm rl ft ow => ?_⟩
  · rcases hd with rfl | rfl <;> rfl
  obtain ⟨l, vs0, B, rfl, rfl, la, hl, ra⟩ := rl.lst_inv
  have x1 : Ext c H H1 := same_ext sm
  have nl : H l = none ∧ (l :: B).count l = 1 := ow l (by simp [ownA])
  have nB : l ∉ B := by
    have := nl.2
    rw [List.count_cons_self] at this
    exact List.count_eq_zero.mp (by omega)
  have fB : ∀ a ∈ B, H a = none ∨ a ∈ A := fun a z => (ft a (List.mem_cons_of_mem _ z)).imp id fun z => hA a (by simpa using z)
  have hlen : vs0.length = xs.length := ra.length
  refine ⟨_, rfl, l, vs0, rfl, .inl (.of hl), _, rfl, by omega, by rw [hlen, sizeLine_eq] at *; omega, fun Dd hD => ?_⟩
  have lD : c.Live Dd := (sr.same sm).tk.live hD
  have nDl : Dd ≠ l := fun z => by rw [z, hl] at hD; cases hD
  have nDB : Dd ∉ B := fun z => (ra.foot _ z).1 hD
  have hH : H Dd = none := x1.none hD
  rw [hlen]
  refine ⟨fun i m Hc => m = xs.length - i ∧ i ≤ xs.length ∧ ∃ Si vs' rest B1 ws done B2 r', Hc l = some (.lst vs') ∧ RepAll c Hc vs' rest B1 ∧ (∀ b ∈ B1, b ∈ B) ∧ Hc Dd = some (.lst ws) ∧ RepAll c Hc ws done B2 ∧ (∀ b ∈ B2, b ∈ B) ∧ SrcAt c Hc Si ∧ Ext c H Hc ∧ anyRun (callN Pt k) (xs.length - i) rest Si = some (r', S1) ∧ done ++ r' = res ∧ rest.length = xs.length - i,
    ⟨xs.length, Nat.sub_zero _, Nat.zero_le _, S, vs0, xs, B, [], [], [], res, by rw [upd_ne nDl.symm]; exact hl, ra.ext (Ext.upd hD), fun _ z => z, upd_same, .nil, fun _ z => (nomatch z), (sr.same sm).upd hD, x1.trans (Ext.upd hD), hrun, rfl, rfl⟩, ?_⟩
  rintro i m Hc ⟨rfl, hi, Si, vs', rest, B1, ws, done, B2, r', hlc, rac, sB1, hDc, rdc, sB2, src, xc, hrc, hdr, hrl⟩
  rcases Nat.lt_or_ge i xs.length with hlt | hge
  · refine .inr ⟨by show i < _; rw [Int.toNat_natCast]; exact hlt, fun H5 => ∃ Si vs' rest B1 ws done B2 r', H5 l = some (.lst vs') ∧ RepAll c H5 vs' rest B1 ∧ (∀ b ∈ B1, b ∈ B) ∧ H5 Dd = some (.lst ws) ∧ RepAll c H5 ws done B2 ∧ (∀ b ∈ B2, b ∈ B) ∧ SrcAt c H5 Si ∧ Ext c H H5 ∧ anyRun (callN Pt k) (xs.length - (i + 1)) rest Si = some (r', S1) ∧ done ++ r' = res ∧ rest.length = xs.length - (i + 1),
      fun H5 h5 => ⟨xs.length - (i + 1), by omega, rfl, hlt, h5⟩, fun x H5 y => ?_⟩
    obtain ⟨rfl, rfl⟩ := y
    have e1 : xs.length - i = (xs.length - (i + 1)) + 1 := by omega
    rw [e1, anyRun] at hrc
    obtain ⟨pd, po, s2, ep, hrc⟩ := bD_inv hrc
    split at hrc
    · rename_i j
      split at hrc
      · rename_i n hn
        split at hrc
        · rename_i x hx
          split at hrc
          · rename_i r2 s3 hr2
            cases hrc
            refine ⟨rfl, ?_⟩
            unfold tYes
            refine if_t rfl ?_
            refine ⟨_, rfl, .inl ⟨rfl, _, .of hlc⟩, _, rfl, _, rfl, l, vs', rfl, .inl (.of hlc), ?_⟩
            refine ⟨Si, [.src, .dat (.int rest.length) 0], [] ++ [], _, s2, src, .src (by rw [rac.length]; exact .dat (.int _) .nil), ep, fun pv H6 G6 x6 sp6 _ _ sr6 => ?_⟩
            obtain ⟨w, ew, rw6⟩ := sp6
            cases ew
            obtain ⟨rfl, rfl⟩ := rw6.int_inv
            have hvl : vs'.length = rest.length := rac.length
            obtain ⟨b1, b2, b3, b4⟩ := ixN_popAt hn (by rw [hrl]; omega)
            have hl6 := x6.1 _ _ hlc la
            have hD6 := x6.1 _ _ hDc lD
            obtain ⟨yv, C, hy, ry, sC⟩ := (rac.ext x6).get' hx
            obtain ⟨B1', rb', sb'⟩ := (rac.ext x6).erase n
            have kl : ∀ U : List Addr, (∀ b ∈ U, b ∈ B) → Kp c H6 (L2.upd H6 l (.lst (vs'.eraseIdx n))) U := fun U hU a o e l' hq => by
              have ne : a ≠ l := by
                rintro rfl
                rcases hq with ⟨ws, z⟩ | hq
                · rw [hl6] at e; cases e; cases z
                · exact nB (hU _ hq)
              rw [upd_ne ne]
              exact e
            have hD7 : (L2.upd H6 l (.lst (vs'.eraseIdx n))) Dd = some (.lst ws) := by rw [upd_ne nDl]; exact hD6
            have kD : ∀ U : List Addr, (∀ b ∈ U, b ∈ B) → Kp c (L2.upd H6 l (.lst (vs'.eraseIdx n))) (L2.upd (L2.upd H6 l (.lst (vs'.eraseIdx n))) Dd (.lst (ws ++ [yv]))) U := fun U hU a o e l' hq => by
              have ne : a ≠ Dd := by
                rintro rfl
                rcases hq with ⟨ws', z⟩ | hq
                · rw [hD7] at e; cases e; cases z
                · exact nDB (hU _ hq)
              rw [upd_ne ne]
              exact e
            refine ⟨l, vs', j, n, yv, rfl, rfl, hl6, b1, b2, by rw [hvl]; exact b3, hy, ws, hD7, ?_, s2, vs'.eraseIdx n, rest.eraseIdx n, B1', ws ++ [yv], done ++ [x], B2 ++ (C ++ []), r2, ?_, (rb'.keep (kl _ fun b z => sB1 b (sb' b z))).keep (kD _ fun b z => sB1 b (sb' b z)), fun b z => sB1 b (sb' b z), upd_same, ?_, fun b z => ?_, ?_, ?_, hr2, by rw [← hdr, List.append_assoc]; rfl, ?_⟩
            · rw [rdc.length]
              have h1 := congrArg List.length hdr
              rw [List.length_append, hres] at h1
              simp only [List.length_cons] at h1
              omega
            · rw [upd_ne nDl.symm, upd_same]
            · refine (((rdc.ext x6).keep (kl _ sB2)).keep (kD _ sB2)).append (.cons ((ry.keep (kl _ fun b z => sB1 b (sC b z))).keep (kD _ fun b z => sB1 b (sC b z))) .nil)
            · rcases List.mem_append.mp z with z | z
              · exact sB2 b z
              · exact sB1 b (sC b (by simpa using z))
            · exact (sr6.ext (upd_ne fun z => la.1 z.symm) (upd_ne fun z => la.2 z.symm)).ext (upd_ne fun z => lD.1 z.symm) (upd_ne fun z => lD.2 z.symm)
            · refine ⟨fun a o e l' => ?_, fun a e => ?_⟩
              · rw [upd_ne (ne_of_none e hH), upd_ne (ne_of_none e nl.1)]
                exact x6.1 _ _ (xc.1 _ _ e l') l'
              · by_cases h : a = Dd
                · subst h; rw [upd_same]; exact fun z => nomatch z
                · rw [upd_ne h]
                  by_cases h2 : a = l
                  · subst h2; rw [upd_same]; exact fun z => nomatch z
                  · rw [upd_ne h2]; exact x6.2 _ (xc.2 _ e)
            · rw [List.length_eraseIdx, if_pos (by omega), hrl]
              omega
          · cases hrc
        · cases hrc
      · cases hrc
    · cases hrc
  · have hie : i = xs.length := by omega
    subst hie
    refine .inl ⟨by show _ ≤ _; rw [Int.toNat_natCast]; omega, ?_⟩
    rw [Nat.sub_self, anyRun] at hrc
    cases hrc
    rw [List.append_nil] at hdr
    subst hdr
    refine q (.ref Dd) Hc (Dd :: B2) xc ⟨_, rfl, .lst lD hDc rdc⟩ (fun a z => ?_) (fun a z => ?_) src
    · rcases List.mem_cons.mp z with rfl | z
      · exact .inl hH
      · exact fB a (sB2 a z)
    · have e : a = Dd := by simpa [ownA] using z
      subst e
      exact ⟨hH, by rw [List.count_cons_self, List.count_eq_zero.mpr fun z => nDB (sB2 _ z)]⟩
end
end N
/-! N38. Defs by hand, the law's own def, a table's rows. -/
namespace N
open PySem PySem.Spec PyProof.Rows L2
abbrev pN : List Str := ["source", "most", "cells", "others", "lap", "stirred"]
abbrev aN : List Str := ["source", "things", "others", "lap"]
abbrev oN : List Str := ["script", "stirred", "cell", "cells"]
section
variable {P : Program} {w : World} {c : Cfg} {K : PySem.W.Frag} {mg : Str → Option Value} {base : Heap} {Pt : Nat → Option N.Def} {x : Str} {st : Stmt} {fa : Addr} {fd : FuncData}
/-- the context in which a def's body runs -/
abbrev cxd (P : Program) (w : World) (K : PySem.W.Frag) (mg : Str → Option Value) (base : Heap) (N0 : List Str) (x : Str) (st : Stmt) (fa : Addr) (cdv : Value) (A : Around) (outer : List PySem.Env) (s : Shared) (H : Hp) (E : XK) : Cx := (cxOf C8.CX0 P w K mg base N0 x (C8.fnScope st) fa cdv A outer s H E).nox
theorem pick_cal (D : C8.Def K mg x st fa fd) (b : Binds K fd ["source", "most"] []) (Sc : FnScope pN ["source", "most"] (C8.fnScope st))
    (body : ∀ cdv A outer s H E, (cxd c.prog c.w K mg base pN x st fa cdv A outer s H E).A.units + 150 < cLine → PSs (cxd c.prog c.w K mg base pN x st fa cdv A outer s H E) (C8.fnBody st) (tPick K)) (k : Nat) : C8.Cal c.prog c.w K mg base (k + 1) x (spF c (callN Pt k) 0) [] := by
  refine C8.cal0 D b .nil Sc (fun vs H Q E h => ?_) fun cdv A outer s H vs Q E rm h => ?_
  · obtain ⟨S, m, rfl, _⟩ := pick_sp h
    rfl
  · refine ⟨_, body cdv A outer s H E (by have := rm.un; show (A.deeper _).units + 150 < _; omega), ?_⟩
    obtain ⟨S, m, e, sr, hm, ht, q⟩ := pick_sp h
    subst e
    exact pick_read sr hm ht q
theorem any_cal (D : C8.Def K mg x st fa fd) (b : Binds K fd ["source", "things"] []) (Sc : FnScope aN ["source", "things"] (C8.fnScope st)) (k : Nat)
    (body : ∀ j, j < k → ∀ cdv A outer s H E, (cxd c.prog c.w K mg base aN x st fa cdv A outer s H E).A.units + 150 < cLine → Room (j + 1) (cxd c.prog c.w K mg base aN x st fa cdv A outer s H E).A → PSs (cxd c.prog c.w K mg base aN x st fa cdv A outer s H E) (C8.fnBody st) (tAny c (callN Pt j) K)) : C8.Cal c.prog c.w K mg base (k + 1) x (spF c (callN Pt k) 1) [] := by
  cases k with
  | zero =>
    have no : ∀ vs H Q E, ¬ spF c (callN Pt 0) 1 vs H Q E := fun vs H Q E ⟨S, ss, A, r, S1, _, _, e, _⟩ => by simp [callN] at e
    exact C8.cal0 D b .nil Sc (fun vs H Q E h => absurd h (no vs H Q E)) fun cdv A outer s H vs Q E rm h => absurd h (no _ H Q E)
  | succ k =>
    refine C8.cal0 D b .nil Sc (fun vs H Q E h => ?_) fun cdv A outer s H vs Q E rm h => ?_
    · obtain ⟨S, ss, A, r, S1, sr, sl, e, q⟩ := h
      rw [callN.eq_def] at e
      simp only [if_neg (show ¬ (1 : Nat) = 0 by decide), if_true] at e
      rw [sl.len]
      unfold anyOrd at e
      split at e
      · rfl
      · rfl
      · cases e
    · refine ⟨_, body k (Nat.lt_succ_self _) cdv A outer s H E (by have := rm.un; show (A.deeper _).units + 150 < _; omega) rm, ?_⟩
      exact any_read h
theorem open_cal (D : C8.Def K mg x st fa fd) (b : Binds K fd ["script"] []) (Sc : FnScope oN ["script"] (C8.fnScope st))
    (body : ∀ cdv A outer s H E, (cxd P w K mg base oN x st fa cdv A outer s H E).A.units + 150 < cLine → PSs (cxd P w K mg base oN x st fa cdv A outer s H E) (C8.fnBody st) (tOpen K)) : C8.Cal P w K mg base 1 x (spOpen P w K) [] := by
  refine C8.cal0 (k := 0) D b .nil Sc (fun vs H Q E h => ?_) fun cdv A outer s H vs Q E rm h => ?_
  · obtain ⟨a, ns, rfl, _⟩ := h
    rfl
  · refine ⟨_, body cdv A outer s H E (by have := rm.un; show (A.deeper _).units + 150 < _; omega), ?_⟩
    exact open_read h

/-- what law(script) promises -/
def spLaw (K : PySem.W.Frag) : Sp := fun vs H Q _ => ∃ (a : Addr) (ns : List Int), vs = [.ref a] ∧ SqL K H a (ns.map V.int) ∧ ns.length ≤ 63 ∧ ∀ H', Q (.bl true) H'
theorem law_fn {k : Nat} {N0 : List Str} {fnN : Nat → Option Str} {rest : Ss} {restB : List Stmt} (D : C8.Def K mg x st fa fd) (Sc : FnScope N0 ["script"] (C8.fnScope st)) (h0 : N0[0]? = some ("script" : Str)) (h1 : N0[1]? = some ("source" : Str))
    (hb : ∃ p p2 p3 p4 pos, C8.fnBody st = .Assign [.Name "source" p] (.Call (.Name "_law_open_cells" p2) [.Name "script" p3] [] p4) pos :: restB)
    (hsrc : (C8.fnScope st).names.lookup ("source" : Str) = some .local ∨ (C8.fnScope st).names.lookup ("source" : Str) = some .cell) (hscr : Vis (C8.fnScope st) "script") (hop : (C8.fnScope st).names.lookup ("_law_open_cells" : Str) = some .globalImplicit)
    (op : C8.Cal P w K mg base 1 "_law_open_cells" (spOpen P w K) []) (mgn : ∀ x ∈ bnames, mg x = none)
    (cal : ∀ c : Cfg, c.prog = P → c.w = w → ∀ g y, fnN g = some y → C8.Cal c.prog c.w K mg base (k + 1) y (spF c (callN Pt k) g) []) (ok : okSs (ctOf N0 (C8.fnScope st) fnN) rest restB = true)
    (ans : ∀ S : Src, S.turn = 0 → ∃ o S1, execs (callN Pt k) rest (none :: some .src :: List.replicate (N0.length - 2) none) S = some (.rt (.dat (.bool true) o), S1)) : FnOk P w K mg base C8.CX0 (k + 2) fa fd ["script"] (spLaw K) := by
  refine C8.fn0 D.fn Sc (fun vs H Q E h => ?_) fun cdv A outer s H vs Q E rm h => ?_
  · obtain ⟨a, ns, rfl, _⟩ := h
    rfl
  obtain ⟨p, p2, p3, p4, pos, hb⟩ := hb
  have hu : (cxd P w K mg base N0 x st fa cdv A outer s H E).A.units + 150 < cLine := by have := rm.un; show (A.deeper _).units + 150 < _; omega
  have g : ∀ c : Cfg, c.prog = P → c.w = w → Gd c (callN Pt k) (ctOf N0 (C8.fnScope st) fnN) (cxd P w K mg base N0 x st fa cdv A outer s H E) := fun c hp hw => {
    hp := hp.symm
    hw := hw.symm
    hN := rfl
    nd := Sc.nd
    sc := rfl
    calm := rfl
    xe := rfl
    hu := hu
    mg := mgn
    fn := fun g y hg => ⟨k + 1, by rw [← hp, ← hw]; exact cal c hp hw g y hg, rm⟩
    st := fun y hy => by
      have hy : locB (C8.fnScope st) y = true := hy
      unfold locB at hy
      refine ⟨?_, .inl rfl⟩
      split at hy
      · rename_i e; exact .inl e
      · rename_i e; exact .inr e
      · cases hy }
  have rest_ok : PSs (cxd P w K mg base N0 x st fa cdv A outer s H E) restB (fun De σ H => ∃ c : Cfg, c.prog = P ∧ c.w = w ∧ rdSs c (callN Pt k) rest De σ H) :=
    ⟨fun pins s σ H D I ⟨c, hp, hw, h⟩ => (sndSs rest (g c hp hw) ok).run pins s σ H D I h⟩
  rw [hb]
  refine ⟨_, pss_cons (ps_set (i := 1) Sc.nd h1 hsrc (C8.pe_c op rm (by omega) (show Gl (cxd P w K mg base N0 x st fa cdv A outer s H E) "_law_open_cells" from hop) (pa_cons (pe_var (i := 0) h0 hscr (by decide) (by decide)) pa_nil (by rfl)) (by decide) (by rfl) (by rfl)) (swap_no rfl _ _ _) (.inl rfl)) rest_ok, ?_⟩
  obtain ⟨a, ns, rfl, hS, h63, q⟩ := h
  have l2 : 2 ≤ N0.length := by
    have := (List.getElem?_eq_some_iff.mp h1).1
    omega
  have es : L2.start N0 [.ref a] = some (.ref a) :: none :: List.replicate (N0.length - 2) none := by
    unfold L2.start
    have e2 : N0.length - ([V.ref a].length) = (N0.length - 2) + 1 := by simp; omega
    rw [e2, List.replicate_succ]
    rfl
  rw [es]
  refine ⟨_, rfl, a, ns, rfl, hS, h63, fun c S H' hp hw sm n1 n2 sr ht => ⟨c, hp, hw, ?_⟩⟩
  obtain ⟨o, S1, he⟩ := ans S ht
  refine ⟨none :: some .src :: List.replicate (N0.length - 2) none, fun _ => [], S, _, S1, ⟨by simp, fun i => ?_, fun i a z => ?_, fun i a z => ?_⟩, sr, he, fun v H5 G rp fr tr ft ow sr' => ?_⟩
  · match i with
    | 0 => exact rfl
    | 1 => exact ⟨rfl, rfl⟩
    | i + 2 =>
      have e3 : getv (none :: some N.Slot.src :: List.replicate (N0.length - 2) none) (i + 2) = none := by
        unfold getv
        rw [List.getElem?_cons_succ, List.getElem?_cons_succ, List.getElem?_replicate]
        split <;> rfl
      rw [e3]
      rfl
  · cases ownA_sub z
  · cases ownA_sub z
  · obtain ⟨w, ew, rw⟩ := rp
    cases ew
    cases rw
    exact q H5
/-! ### rows -/
/-- a def stands at the top -/
structure DefAt (K : PySem.W.Frag) (x : Str) (st : Stmt) : Prop where
  ex : ∃ (f : Addr) (oc : Value) (od : Option Addr) (sl : Array (Option Value)) (kV doc pm : Value) (an : Option Addr) (cd ct : Value),
    PySem.W.nsIn K mainGlobals x = some (some (.ref f)) ∧ K.lookup f = some ⟨oc, od, .func (PySem.W.fnOf x x (C8.fnArgs st) (C8.fnBody st) (C8.fnScope st) .none kV doc pm an cd ct), sl⟩ ∧ PySem.W.codeIn K cd x = true ∧ PySem.W.keepIn K (.ref f) = true
theorem DefAt.mk' {f : Addr} {oc : Value} {od : Option Addr} {sl : Array (Option Value)} {kV doc pm : Value} {an : Option Addr} {cd ct : Value} (a : PySem.W.nsIn K mainGlobals x = some (some (.ref f))) (l : K.lookup f = some ⟨oc, od, .func (PySem.W.fnOf x x (C8.fnArgs st) (C8.fnBody st) (C8.fnScope st) .none kV doc pm an cd ct), sl⟩)
    (c : PySem.W.codeIn K cd x = true) (k : PySem.W.keepIn K (.ref f) = true) : DefAt K x st := ⟨⟨f, oc, od, sl, kV, doc, pm, an, cd, ct, a, l, c, k⟩⟩
theorem def_mk {ps : List Str} {h : Heap} (da : DefAt K x st) (X : K.In h) (G : h.Ns mainGlobals mg)
    (bind : ∀ (kV doc pm : Value) (an : Option Addr) (cdv ct : Value) (us : List Value), us.length = ps.length → bindArgs (PySem.W.fnOf x x (C8.fnArgs st) (C8.fnBody st) (C8.fnScope st) .none kV doc pm an cdv ct) ⟨us, []⟩ = pure (ps.zip us)) :
    ∃ fa fd, C8.Def K mg x st fa fd ∧ Binds K fd ps [] ∧ fd.defaults = .none ∧ PySem.W.nsIn K mainGlobals x = some (some (.ref fa)) ∧ ∃ (kV doc pm : Value) (an : Option Addr) (cd ct : Value), fd = PySem.W.fnOf x x (C8.fnArgs st) (C8.fnBody st) (C8.fnScope st) .none kV doc pm an cd ct := by
  obtain ⟨f, oc, od, sl, kV, doc, pm, an, cd, ct, a, l, c, k⟩ := da.ex
  have F : C8.Fun K x x st f (PySem.W.fnOf x x (C8.fnArgs st) (C8.fnBody st) (C8.fnScope st) .none kV doc pm an cd ct) := ⟨⟨oc, od, .none, kV, doc, pm, an, cd, ct, sl, rfl, l, c⟩⟩
  exact ⟨f, _, ⟨F, PySem.W.mg_of X G a, k⟩, F.binds rfl bind, rfl, a, kV, doc, pm, an, cd, ct, rfl⟩
theorem row_mk {ps : List Str} {h : Heap} {f : Nat} {d : N.Def} {N0 : List Str} {fnN : Nat → Option Str} (da : DefAt K x st) (X : K.In h) (G : h.Ns mainGlobals mg) (ok : okSs (ctOf N0 (C8.fnScope st) fnN) d.body (C8.fnBody st) = true) (sc : C8.scC N0 ps (C8.fnScope st) = true) (hf : 2 ≤ f) (hP : Pt f = some d) (hnp : d.np = ps.length) (hns : d.ns = N0.length)
    (bind : ∀ (kV doc pm : Value) (an : Option Addr) (cdv ct : Value) (us : List Value), us.length = ps.length → bindArgs (PySem.W.fnOf x x (C8.fnArgs st) (C8.fnBody st) (C8.fnScope st) .none kV doc pm an cdv ct) ⟨us, []⟩ = pure (ps.zip us)) : Row K mg Pt fnN f x := by
  obtain ⟨fa, fd, D, b, _⟩ := def_mk da X G bind
  exact ⟨d, st, fa, fd, N0, ps, hf, hP, D, b, C8.fnScope_by sc, hnp, hns, ok⟩
end
end N
namespace N
open PySem
/-- moves -/
def n_moves : List Str := []
def b_moves : Ss := .cons (.ret (.dic false (.cons (.k (.str "r")) (.tup (.cons false (.k (.int 1)) (.cons false (.k (.int 0)) .nil))) (.cons (.k (.str "l")) (.tup (.cons false (.neg (.k (.int 1))) (.cons false (.k (.int 0)) .nil))) (.cons (.k (.str "u")) (.tup (.cons false (.k (.int 0)) (.cons false (.k (.int 1)) .nil))) (.cons (.k (.str "d")) (.tup (.cons false (.k (.int 0)) (.cons false (.neg (.k (.int 1))) .nil))) .nil)))))) .nil
def d_moves : N.Def := ⟨0, 0, b_moves⟩
def b_corner_field_l2 : Ss := .cons (.asg (.nm 10) (.tup (.cons false (.bin .Add (.v 5) (.v 7)) (.cons false (.bin .Add (.v 6) (.v 8)) .nil)))) (.cons (.ite (.and (.cmp .In (.v 10) (.v 0)) (.cmp .NotIn (.v 10) (.v 3))) (.cons (.asg (.sb 3 (.v 10)) (.k (.bool true))) (.cons (.mut .append 4 (.v 10)) .nil)) (.nil)) .nil)
def b_corner_field_l1 : Ss := .cons (.pop (.tp (.cons (.nm 5) (.cons (.nm 6) .nil))) 4) (.cons (.for (.tp (.cons (.nm 7) (.cons (.nm 8) .nil))) (.e (.lc (.sub (.call 2 .nil) (.v 9)) (.nm 9) (.e (.v 2)) .nil [9])) b_corner_field_l2 [7, 8, 10]) .nil)
/-- corner_field -/
def n_corner_field : List Str := ["inner", "stall", "signs", "found", "rest", "x", "y", "p", "q", "sign", "cell"]
def b_corner_field : Ss := .cons (.par (.cons (.nm 3) (.cons (.nm 4) .nil)) (.cons false (.dic false (.cons (.v 1) (.k (.bool true)) .nil)) (.cons false (.lst (.cons false (.v 1) .nil)) .nil))) (.cons (.wh (.v 4) b_corner_field_l1 [5, 6, 7, 8, 10]) (.cons (.ret (.bi .tuple (.cons false (.bi .sorted (.cons false (.v 3) .nil)) .nil))) .nil))
def d_corner_field : N.Def := ⟨3, 11, b_corner_field⟩
/-- corner_fields -/
def n_corner_fields : List Str := ["room", "stall", "inner", "cell", "signs"]
def b_corner_fields : Ss := .cons (.asg (.nm 2) (.dc false (.v 3) (.k (.bool true)) (.nm 3) (.e (.v 0)) .nil [3])) (.cons (.ret (.bi .tuple (.cons false (.lc (.call 3 (.cons false (.v 2) (.cons false (.v 1) (.cons false (.v 4) .nil)))) (.nm 4) (.e (.tup (.cons false (.k (.str "ru")) (.cons false (.k (.str "lu")) (.cons false (.k (.str "ld")) (.cons false (.k (.str "rd")) .nil)))))) .nil [4]) .nil))) .nil)
def d_corner_fields : N.Def := ⟨2, 5, b_corner_fields⟩
/-- field -/
def n_field : List Str := ["room", "stall", "part", "cell"]
def b_field : Ss := .cons (.ret (.bi .tuple (.cons false (.bi .sorted (.cons false (.dc2 (.v 3) (.k (.bool true)) (.nm 2) (.e (.call 4 (.cons false (.v 0) (.cons false (.v 1) .nil)))) (.nm 3) (.e (.v 2)) [2, 3] [3]) .nil)) .nil))) .nil
def d_field : N.Def := ⟨2, 4, b_field⟩
/-- all_fields -/
def n_all_fields : List Str := ["room", "cell"]
def b_all_fields : Ss := .cons (.ret (.bi .tuple (.cons false (.lc (.tup (.cons false (.v 1) (.cons false (.call 5 (.cons false (.v 0) (.cons false (.v 1) .nil))) .nil))) (.nm 1) (.e (.v 0)) .nil [1]) .nil))) .nil
def d_all_fields : N.Def := ⟨1, 2, b_all_fields⟩
/-- lit -/
def n_lit : List Str := ["room", "stalls", "stall", "cell"]
def b_lit : Ss := .cons (.ret (.bi .tuple (.cons false (.bi .sorted (.cons false (.dc2 (.v 3) (.k (.bool true)) (.nm 2) (.e (.v 1)) (.nm 3) (.e (.call 5 (.cons false (.v 0) (.cons false (.v 2) .nil)))) [2, 3] [3]) .nil)) .nil))) .nil
def d_lit : N.Def := ⟨2, 4, b_lit⟩
/-- dark_in -/
def n_dark_in : List Str := ["room", "lot", "stalls", "here", "cell"]
def b_dark_in : Ss := .cons (.asg (.nm 3) (.dc false (.v 4) (.k (.bool true)) (.nm 4) (.e (.call 180 (.cons false (.v 0) (.cons false (.v 2) .nil)))) .nil [4])) (.cons (.ret (.bi .tuple (.cons false (.lc (.v 4) (.nm 4) (.e (.v 1)) (.cons false (.cmp .NotIn (.v 4) (.v 3)) .nil) [4]) .nil))) .nil)
def d_dark_in : N.Def := ⟨3, 5, b_dark_in⟩
/-- serve_all -/
def n_serve_all : List Str := ["room", "lot", "stalls"]
def b_serve_all : Ss := .cons (.ret (.cmp .Eq (.call 181 (.cons false (.v 0) (.cons false (.v 1) (.cons false (.v 2) .nil)))) (.tup .nil))) .nil
def d_serve_all : N.Def := ⟨3, 3, b_serve_all⟩
def b_seen_by_most_l1 : Ss := .cons (.asg (.nm 6) (.bi .len (.cons false (.lc (.v 7) (.nm 7) (.e (.v 1)) (.cons false (.cmp .In (.v 7) (.v 5)) .nil) [7]) .nil))) (.cons (.ite (.cmp .Gt (.v 6) (.v 3)) (.cons (.par (.cons (.nm 2) (.cons (.nm 3) .nil)) (.cons false (.v 4) (.cons false (.v 6) .nil))) .nil) (.nil)) .nil)
/-- seen_by_most -/
def n_seen_by_most : List Str := ["room", "lot", "best", "most", "cell", "served", "many", "spot"]
def b_seen_by_most : Ss := .cons (.asg (.tp (.cons (.nm 2) (.cons (.nm 3) .nil))) (.tup (.cons false (.k .none) (.cons false (.neg (.k (.int 1))) .nil)))) (.cons (.for (.tp (.cons (.nm 4) (.cons (.nm 5) .nil))) (.e (.call 176 (.cons false (.v 0) .nil))) b_seen_by_most_l1 [4, 5, 6]) (.cons (.ret (.tup (.cons false (.v 2) (.cons false (.v 3) .nil)))) .nil))
def d_seen_by_most : N.Def := ⟨2, 8, b_seen_by_most⟩
def b_alone_served_l1 : Ss := .cons (.asg (.nm 7) (.dc2 (.v 9) (.k (.bool true)) (.nm 8) (.e (.bin .Add (.sl (.v 2) .nil (.cons false (.v 5) .nil)) (.sl (.v 2) (.cons false (.bin .Add (.v 5) (.k (.int 1))) .nil) .nil))) (.nm 9) (.e (.v 8)) [8, 9] [9])) (.cons (.mut .append 3 (.bi .tuple (.cons false (.lc (.v 9) (.nm 9) (.e (.v 6)) (.cons false (.cmp .NotIn (.v 9) (.v 7)) .nil) [9]) .nil))) .nil)
/-- alone_served -/
def n_alone_served : List Str := ["room", "stalls", "lots", "found", "stall", "i", "lot", "others", "other", "cell"]
def b_alone_served : Ss := .cons (.par (.cons (.nm 2) (.cons (.nm 3) .nil)) (.cons false (.lc (.call 5 (.cons false (.v 0) (.cons false (.v 4) .nil))) (.nm 4) (.e (.v 1)) .nil [4]) (.cons false (.lst .nil) .nil))) (.cons (.for (.tp (.cons (.nm 5) (.cons (.nm 6) .nil))) (.en (.v 2)) b_alone_served_l1 [5, 6, 7]) (.cons (.ret (.v 3)) .nil))
def d_alone_served : N.Def := ⟨2, 10, b_alone_served⟩
/-- gained -/
def n_gained : List Str := ["room", "one", "other", "here", "there", "first", "cell"]
def b_gained : Ss := .cons (.asg (.tp (.cons (.nm 3) (.cons (.nm 4) .nil))) (.tup (.cons false (.call 5 (.cons false (.v 0) (.cons false (.v 1) .nil))) (.cons false (.call 5 (.cons false (.v 0) (.cons false (.v 2) .nil))) .nil)))) (.cons (.asg (.nm 5) (.bi .tuple (.cons false (.lc (.v 6) (.nm 6) (.e (.v 3)) (.cons false (.cmp .NotIn (.v 6) (.v 4)) .nil) [6]) .nil))) (.cons (.ret (.tup (.cons false (.v 5) (.cons false (.bi .tuple (.cons false (.lc (.v 6) (.nm 6) (.e (.v 4)) (.cons false (.cmp .NotIn (.v 6) (.v 3)) .nil) [6]) .nil)) .nil)))) .nil))
def d_gained : N.Def := ⟨3, 7, b_gained⟩
/-- walk_lit -/
def n_walk_lit : List Str := ["room", "cells", "cell"]
def b_walk_lit : Ss := .cons (.ret (.lc (.bi .len (.cons false (.call 5 (.cons false (.v 0) (.cons false (.v 2) .nil))) .nil)) (.nm 2) (.e (.v 1)) .nil [2])) .nil
def d_walk_lit : N.Def := ⟨2, 3, b_walk_lit⟩
/-- law_sides -/
def n_law_sides : List Str := ["cell", "x", "y"]
def b_law_sides : Ss := .cons (.asg (.tp (.cons (.nm 1) (.cons (.nm 2) .nil))) (.v 0)) (.cons (.ret (.lst (.cons false (.tup (.cons false (.bin .Add (.v 1) (.k (.int 1))) (.cons false (.v 2) .nil))) (.cons false (.tup (.cons false (.v 1) (.cons false (.bin .Add (.v 2) (.k (.int 1))) .nil))) (.cons false (.tup (.cons false (.bin .Sub (.v 1) (.k (.int 1))) (.cons false (.v 2) .nil))) (.cons false (.tup (.cons false (.v 1) (.cons false (.bin .Sub (.v 2) (.k (.int 1))) .nil))) .nil)))))) .nil)
def d_law_sides : N.Def := ⟨1, 3, b_law_sides⟩
/-- law_near -/
def n_law_near : List Str := ["cell", "x", "y", "found"]
def b_law_near : Ss := .cons (.asg (.tp (.cons (.nm 1) (.cons (.nm 2) .nil))) (.v 0)) (.cons (.asg (.nm 3) (.lst (.cons false (.tup (.cons false (.bin .Add (.v 1) (.k (.int 1))) (.cons false (.v 2) .nil))) (.cons false (.tup (.cons false (.bin .Add (.v 1) (.k (.int 1))) (.cons false (.bin .Add (.v 2) (.k (.int 1))) .nil))) (.cons false (.tup (.cons false (.v 1) (.cons false (.bin .Add (.v 2) (.k (.int 1))) .nil))) (.cons false (.tup (.cons false (.bin .Sub (.v 1) (.k (.int 1))) (.cons false (.bin .Add (.v 2) (.k (.int 1))) .nil))) .nil)))))) (.cons (.ret (.bin .Add (.v 3) (.lst (.cons false (.tup (.cons false (.bin .Sub (.v 1) (.k (.int 1))) (.cons false (.v 2) .nil))) (.cons false (.tup (.cons false (.bin .Sub (.v 1) (.k (.int 1))) (.cons false (.bin .Sub (.v 2) (.k (.int 1))) .nil))) (.cons false (.tup (.cons false (.v 1) (.cons false (.bin .Sub (.v 2) (.k (.int 1))) .nil))) (.cons false (.tup (.cons false (.bin .Add (.v 1) (.k (.int 1))) (.cons false (.bin .Sub (.v 2) (.k (.int 1))) .nil))) .nil))))))) .nil))
def d_law_near : N.Def := ⟨1, 4, b_law_near⟩
def b_law_parts_by_l3 : Ss := .cons (.ite (.cmp .In (.v 8) (.v 2)) (.cons (.mut .popKey 2 (.v 8)) (.cons (.mut .append 6 (.v 8)) .nil)) (.nil)) .nil
def b_law_parts_by_l2 : Ss := .cons (.pop (.nm 7) 6) (.cons (.mut .append 5 (.v 7)) (.cons (.for (.nm 8) (.e (.ite (.v 1) (.call 53 (.cons false (.v 7) .nil)) (.call 52 (.cons false (.v 7) .nil)))) b_law_parts_by_l3 [8]) .nil))
def b_law_parts_by_l1 : Ss := .cons (.ite (.cmp .In (.v 4) (.v 2)) (.cons (.par (.cons (.nm 5) (.cons (.nm 6) .nil)) (.cons false (.lst .nil) (.cons false (.lst (.cons false (.v 4) .nil)) .nil))) (.cons (.mut .popKey 2 (.v 4)) (.cons (.wh (.cmp .NotEq (.v 6) (.lst .nil)) b_law_parts_by_l2 [7, 8]) (.cons (.mut .append 3 (.bi .tuple (.cons false (.bi .sorted (.cons false (.v 5) .nil)) .nil))) .nil)))) (.nil)) .nil
/-- law_parts_by -/
def n_law_parts_by : List Str := ["cells", "is_near", "left", "found", "cell", "some", "rest", "here", "late"]
def b_law_parts_by : Ss := .cons (.par (.cons (.nm 2) (.cons (.nm 3) .nil)) (.cons false (.dlc false (.v 4) (.k (.int 0)) (.nm 4) (.e (.v 0)) .nil [4]) (.cons false (.lst .nil) .nil))) (.cons (.for (.nm 4) (.e (.bi .sorted (.cons false (.v 0) .nil))) b_law_parts_by_l1 [4, 5, 6, 7, 8]) (.cons (.ret (.v 3)) .nil))
def d_law_parts_by : N.Def := ⟨2, 9, b_law_parts_by⟩
def b_law_is_room_l1 : Ss := .cons (.asg (.nm 5) (.bin .Add (.v 5) (.lc (.tup (.cons false (.v 3) (.cons false (.v 4) .nil))) (.nm 4) (.r2 (.bin .Sub (.bi .min (.cons false (.v 2) .nil)) (.k (.int 1))) (.bin .Add (.bi .max (.cons false (.v 2) .nil)) (.k (.int 2)))) .nil [4]))) .nil
/-- law_is_room -/
def n_law_is_room : List Str := ["cells", "xs", "ys", "x", "y", "frame", "here", "cell"]
def b_law_is_room : Ss := .cons (.ite (.cmp .NotEq (.bi .len (.cons false (.call 54 (.cons false (.v 0) (.cons false (.k (.bool false)) .nil))) .nil)) (.k (.int 1))) (.cons (.ret (.k (.bool false))) .nil) (.nil)) (.cons (.par (.cons (.nm 1) (.cons (.nm 2) .nil)) (.cons false (.lc (.v 3) (.tp (.cons (.nm 3) (.cons (.nm 4) .nil))) (.e (.v 0)) .nil [3, 4]) (.cons false (.lc (.v 4) (.tp (.cons (.nm 3) (.cons (.nm 4) .nil))) (.e (.v 0)) .nil [3, 4]) .nil))) (.cons (.asg (.nm 5) (.lst .nil)) (.cons (.for (.nm 3) (.r2 (.bin .Sub (.bi .min (.cons false (.v 1) .nil)) (.k (.int 1))) (.bin .Add (.bi .max (.cons false (.v 1) .nil)) (.k (.int 2)))) b_law_is_room_l1 [3]) (.cons (.asg (.nm 6) (.dlc false (.v 7) (.k (.int 0)) (.nm 7) (.e (.v 0)) .nil [7])) (.cons (.ret (.cmp .Eq (.bi .len (.cons false (.call 54 (.cons false (.lc (.v 7) (.nm 7) (.e (.v 5)) (.cons false (.cmp .NotIn (.v 7) (.v 6)) .nil) [7]) (.cons false (.k (.bool true)) .nil))) .nil)) (.k (.int 1)))) .nil)))))
def d_law_is_room : N.Def := ⟨1, 8, b_law_is_room⟩
def b_law_draw_room_l1 : Ss := .cons (.ite (.cmp .Lt (.bi .len (.cons false (.v 2) .nil)) (.v 3)) (.cons (.asg (.nm 5) (.sub (.call 52 (.cons false (.sub (.v 2) (.call 0 (.cons false (.v 0) (.cons false (.bi .len (.cons false (.v 2) .nil)) .nil)))) .nil)) (.call 0 (.cons false (.v 0) (.cons false (.k (.int 4)) .nil))))) (.cons (.ite (.and (.cmp .NotIn (.v 5) (.v 2)) (.call 55 (.cons false (.bin .Add (.v 2) (.lst (.cons false (.v 5) .nil))) .nil))) (.cons (.mut .append 2 (.v 5)) .nil) (.nil)) .nil)) (.nil)) .nil
/-- law_draw_room -/
def n_law_draw_room : List Str := ["source", "most", "cells", "many", "lap", "late"]
def b_law_draw_room : Ss := .cons (.ite (.and (.cmp .Gt (.v 1) (.k (.int 5))) (.cmp .Eq (.call 0 (.cons false (.v 0) (.cons false (.k (.int 3)) .nil))) (.k (.int 0)))) (.cons (.ret (.call 51 (.cons false (.v 0) (.cons false (.v 1) .nil)))) .nil) (.nil)) (.cons (.asg (.nm 2) (.lst (.cons false (.tup (.cons false (.k (.int 0)) (.cons false (.k (.int 0)) .nil))) .nil))) (.cons (.asg (.nm 3) (.bin .Add (.k (.int 1)) (.call 0 (.cons false (.v 0) (.cons false (.v 1) .nil))))) (.cons (.for (.nm 4) (.r1 (.bin .Mult (.k (.int 4)) (.v 1))) b_law_draw_room_l1 [4, 5]) (.cons (.ret (.bi .tuple (.cons false (.bi .sorted (.cons false (.v 2) .nil)) .nil))) .nil))))
def d_law_draw_room : N.Def := ⟨2, 6, b_law_draw_room⟩
def b_law_snake_l2 : Ss := .cons (.ite (.cmp .Lt (.bi .len (.cons false (.v 2) .nil)) (.v 1)) (.cons (.mut .append 2 (.tup (.cons false (.bin .Add (.sub (.sub (.v 2) (.neg (.k (.int 1)))) (.k (.int 0))) (.v 5)) (.cons false (.bin .Add (.sub (.sub (.v 2) (.neg (.k (.int 1)))) (.k (.int 1))) (.v 6)) .nil)))) .nil) (.nil)) .nil
def b_law_snake_l1 : Ss := .cons (.asg (.nm 3) (.ite (.cmp .Gt (.call 0 (.cons false (.v 0) (.cons false (.k (.int 7)) .nil))) (.k (.int 0))) (.bin .Sub (.k (.int 0)) (.v 3)) (.v 3))) (.cons (.for (.tp (.cons (.nm 5) (.cons (.nm 6) .nil))) (.e (.bin .Add (.bin .Mult (.lst (.cons false (.tup (.cons false (.v 3) (.cons false (.k (.int 0)) .nil))) .nil)) (.bin .Add (.k (.int 1)) (.bi .int (.cons false (.cmp .Eq (.call 0 (.cons false (.v 0) (.cons false (.k (.int 5)) .nil))) (.k (.int 0))) .nil)))) (.lst (.cons false (.tup (.cons false (.k (.int 0)) (.cons false (.k (.int 1)) .nil))) (.cons false (.tup (.cons false (.k (.int 0)) (.cons false (.k (.int 1)) .nil))) .nil))))) b_law_snake_l2 [5, 6]) .nil)
/-- law_snake -/
def n_law_snake : List Str := ["source", "many", "cells", "way", "lap", "dx", "dy"]
def b_law_snake : Ss := .cons (.par (.cons (.nm 2) (.cons (.nm 3) .nil)) (.cons false (.lst (.cons false (.tup (.cons false (.k (.int 0)) (.cons false (.k (.int 0)) .nil))) .nil)) (.cons false (.k (.int 1)) .nil))) (.cons (.for (.nm 4) (.r1 (.v 1)) b_law_snake_l1 [4, 5, 6]) (.cons (.ret (.v 2)) .nil))
def d_law_snake : N.Def := ⟨2, 7, b_law_snake⟩
def b_law_bent_room_l1 : Ss := .cons (.ite (.cmp .Lt (.bi .len (.cons false (.v 4) .nil)) (.v 3)) (.cons (.asg (.nm 6) (.sub (.call 52 (.cons false (.sub (.v 4) (.bin .Sub (.bin .Sub (.bi .len (.cons false (.v 4) .nil)) (.k (.int 1))) (.call 0 (.cons false (.v 0) (.cons false (.bi .min (.cons false (.k (.int 3)) (.cons false (.bi .len (.cons false (.v 4) .nil)) .nil))) .nil))))) .nil)) (.call 0 (.cons false (.v 0) (.cons false (.k (.int 4)) .nil))))) (.cons (.asg (.nm 7) (.bi .len (.cons false (.lc (.v 8) (.nm 8) (.e (.call 53 (.cons false (.v 6) .nil))) (.cons false (.cmp .In (.v 8) (.v 4)) .nil) [8]) .nil))) (.cons (.ite (.and (.cmp .NotIn (.v 6) (.v 4)) (.and (.cmp .Lt (.v 7) (.k (.int 4))) (.call 55 (.cons false (.bin .Add (.v 4) (.lst (.cons false (.v 6) .nil))) .nil)))) (.cons (.mut .append 4 (.v 6)) .nil) (.nil)) .nil))) (.nil)) .nil
/-- law_bent_room -/
def n_law_bent_room : List Str := ["source", "most", "is_snake", "many", "cells", "lap", "late", "about", "cell", "x", "y"]
def b_law_bent_room : Ss := .cons (.asg (.nm 2) (.and (.cmp .Gt (.v 1) (.k (.int 3))) (.cmp .Gt (.call 0 (.cons false (.v 0) (.cons false (.k (.int 4)) .nil))) (.k (.int 0))))) (.cons (.asg (.nm 3) (.ite (.v 2) (.bin .Sub (.v 1) (.call 0 (.cons false (.v 0) (.cons false (.k (.int 3)) .nil)))) (.bin .Add (.k (.int 2)) (.call 0 (.cons false (.v 0) (.cons false (.bin .Sub (.v 1) (.k (.int 1))) .nil)))))) (.cons (.asg (.nm 4) (.ite (.v 2) (.call 50 (.cons false (.v 0) (.cons false (.bin .Sub (.v 3) (.call 0 (.cons false (.v 0) (.cons false (.k (.int 3)) .nil)))) .nil))) (.lst (.cons false (.tup (.cons false (.k (.int 0)) (.cons false (.k (.int 0)) .nil))) .nil)))) (.cons (.for (.nm 5) (.r1 (.bin .Mult (.k (.int 8)) (.v 1))) b_law_bent_room_l1 [5, 6, 7]) (.cons (.ret (.bi .tuple (.cons false (.bi .sorted (.cons false (.ite (.cmp .Eq (.call 0 (.cons false (.v 0) (.cons false (.k (.int 2)) .nil))) (.k (.int 0))) (.lc (.tup (.cons false (.v 10) (.cons false (.v 9) .nil))) (.tp (.cons (.nm 9) (.cons (.nm 10) .nil))) (.e (.v 4)) .nil [9, 10]) (.v 4)) .nil)) .nil))) .nil))))
def d_law_bent_room : N.Def := ⟨2, 11, b_law_bent_room⟩
def b_law_field_l4 : Ss := .cons (.ite (.and (.cmp .In (.v 11) (.v 2)) (.cmp .NotIn (.v 11) (.v 7))) (.cons (.par (.cons (.sb 7 (.v 11)) (.cons (.sb 3 (.v 11)) .nil)) (.cons false (.k (.int 0)) (.cons false (.k (.int 0)) .nil))) (.cons (.mut .append 8 (.v 11)) .nil)) (.nil)) .nil
def b_law_field_l3 : Ss := .cons (.pop (.tp (.cons (.nm 9) (.cons (.nm 10) .nil))) 8) (.cons (.for (.nm 11) (.e (.tup (.cons false (.tup (.cons false (.bin .Add (.v 9) (.v 5)) (.cons false (.v 10) .nil))) (.cons false (.tup (.cons false (.v 9) (.cons false (.bin .Add (.v 10) (.v 6)) .nil))) .nil)))) b_law_field_l4 [11]) .nil)
def b_law_field_l2 : Ss := .cons (.par (.cons (.nm 7) (.cons (.nm 8) .nil)) (.cons false (.dic false (.cons (.v 1) (.k (.int 0)) .nil)) (.cons false (.lst (.cons false (.v 1) .nil)) .nil))) (.cons (.wh (.cmp .NotEq (.v 8) (.lst .nil)) b_law_field_l3 [9, 10, 11]) .nil)
def b_law_field_l1 : Ss := .cons (.for (.nm 6) (.e (.tup (.cons false (.k (.int 1)) (.cons false (.bin .Sub (.k (.int 0)) (.k (.int 1))) .nil)))) b_law_field_l2 [6, 7, 8, 9, 10, 11]) .nil
/-- law_field -/
def n_law_field : List Str := ["room", "stall", "here", "found", "cell", "dx", "dy", "some", "rest", "x", "y", "late"]
def b_law_field : Ss := .cons (.par (.cons (.nm 2) (.cons (.nm 3) .nil)) (.cons false (.dlc false (.v 4) (.k (.int 0)) (.nm 4) (.e (.v 0)) .nil [4]) (.cons false (.dic false (.cons (.v 1) (.k (.int 0)) .nil)) .nil))) (.cons (.for (.nm 5) (.e (.tup (.cons false (.k (.int 1)) (.cons false (.bin .Sub (.k (.int 0)) (.k (.int 1))) .nil)))) b_law_field_l1 [5, 6, 7, 8, 9, 10, 11]) (.cons (.ret (.bi .tuple (.cons false (.bi .sorted (.cons false (.bi .list (.cons false (.v 3) .nil)) .nil)) .nil))) .nil))
def d_law_field : N.Def := ⟨2, 12, b_law_field⟩
/-- law_fields -/
def n_law_fields : List Str := ["room", "cell"]
def b_law_fields : Ss := .cons (.ret (.dlc false (.v 1) (.call 156 (.cons false (.v 0) (.cons false (.v 1) .nil))) (.nm 1) (.e (.v 0)) .nil [1])) .nil
def d_law_fields : N.Def := ⟨1, 2, b_law_fields⟩
def b_law_draw_hall_l2 : Ss := .cons (.asg (.nm 9) (.lc (.v 10) (.nm 10) (.e (.v 5)) (.cons false (.cmp .NotEq (.v 10) (.sub (.v 5) (.call 0 (.cons false (.v 0) (.cons false (.bi .len (.cons false (.v 5) .nil)) .nil))))) .nil) [10])) (.cons (.asg (.nm 5) (.ite (.and (.cmp .NotEq (.v 9) (.lst .nil)) (.call 55 (.cons false (.v 9) .nil))) (.v 9) (.v 5))) .nil)
def b_law_draw_hall_l1 : Ss := .cons (.asg (.nm 5) (.bin .Add (.v 5) (.lc (.tup (.cons false (.v 6) (.cons false (.v 7) .nil))) (.nm 7) (.r1 (.v 4)) .nil [7]))) .nil
/-- law_draw_hall -/
def n_law_draw_hall : List Str := ["source", "most", "road", "wide", "high", "cells", "x", "y", "lap", "late", "cell"]
def b_law_draw_hall : Ss := .cons (.asg (.nm 2) (.call 0 (.cons false (.v 0) (.cons false (.k (.int 4)) .nil)))) (.cons (.ite (.cmp .Lt (.v 2) (.k (.int 2))) (.cons (.ret (.call 51 (.cons false (.v 0) (.cons false (.v 1) .nil)))) .nil) (.nil)) (.cons (.ite (.cmp .Eq (.v 2) (.k (.int 2))) (.cons (.ret (.call 56 (.cons false (.v 0) (.cons false (.v 1) .nil)))) .nil) (.nil)) (.cons (.asg (.tp (.cons (.nm 3) (.cons (.nm 4) (.cons (.nm 5) .nil)))) (.tup (.cons false (.bin .Add (.k (.int 1)) (.call 0 (.cons false (.v 0) (.cons false (.k (.int 5)) .nil)))) (.cons false (.bin .Add (.k (.int 1)) (.call 0 (.cons false (.v 0) (.cons false (.k (.int 4)) .nil)))) (.cons false (.lst .nil) .nil))))) (.cons (.for (.nm 6) (.r1 (.v 3)) b_law_draw_hall_l1 [6]) (.cons (.for (.nm 8) (.r1 (.call 0 (.cons false (.v 0) (.cons false (.k (.int 9)) .nil)))) b_law_draw_hall_l2 [8, 9]) (.cons (.ret (.bi .tuple (.cons false (.bi .sorted (.cons false (.v 5) .nil)) .nil))) .nil))))))
def d_law_draw_hall : N.Def := ⟨2, 11, b_law_draw_hall⟩
/-- law_dark_right -/
def n_law_dark_right : List Str := ["room", "due", "stalls", "bright", "dark", "cell", "many", "spot"]
def b_law_dark_right : Ss := .cons (.asg (.nm 4) (.bi .tuple (.cons false (.lc (.v 5) (.nm 5) (.e (.v 0)) (.cons false (.cmp .NotIn (.v 5) (.v 3)) .nil) [5]) .nil))) (.cons (.ite (.or (.cmp .NotEq (.call 181 (.cons false (.v 0) (.cons false (.v 0) (.cons false (.v 2) .nil)))) (.v 4)) (.cmp .NotEq (.call 199 (.cons false (.v 0) (.cons false (.v 0) (.cons false (.v 2) .nil)))) (.cmp .Eq (.v 4) (.tup .nil)))) (.cons (.ret (.k (.bool false))) .nil) (.nil)) (.cons (.asg (.nm 6) (.lc (.bi .len (.cons false (.lc (.v 7) (.nm 7) (.e (.v 4)) (.cons false (.cmp .In (.v 7) (.sub (.v 1) (.v 5))) .nil) [7]) .nil)) (.nm 5) (.e (.v 0)) .nil [5])) (.cons (.ret (.cmp .Eq (.call 200 (.cons false (.v 0) (.cons false (.v 4) .nil))) (.tup (.cons false (.sub (.v 0) (.me .index (.v 6) (.cons false (.bi .max (.cons false (.v 6) .nil)) .nil))) (.cons false (.bi .max (.cons false (.v 6) .nil)) .nil))))) .nil)))
def d_law_dark_right : N.Def := ⟨4, 8, b_law_dark_right⟩
def b_law_k44_l5 : Ss := .cons (.asg (.tp (.cons (.nm 21) (.cons (.nm 22) .nil))) (.call 185 (.cons false (.v 3) (.cons false (.sub (.v 15) (.v 20)) (.cons false (.sub (.v 15) (.bin .Add (.v 20) (.k (.int 1)))) .nil))))) (.cons (.ite (.cmp .NotEq (.bin .Sub (.sub (.v 19) (.bin .Add (.v 20) (.k (.int 1)))) (.sub (.v 19) (.v 20))) (.bin .Sub (.bi .len (.cons false (.v 22) .nil)) (.bi .len (.cons false (.v 21) .nil)))) (.cons (.ret (.k (.bool false))) .nil) (.nil)) (.cons (.asg (.nm 23) (.lc (.v 11) (.nm 11) (.e (.sub (.v 4) (.sub (.v 15) (.v 20)))) (.cons false (.cmp .NotIn (.v 11) (.v 21)) .nil) [11])) (.cons (.ite (.cmp .NotEq (.call 5 (.cons false (.v 3) (.cons false (.sub (.v 15) (.bin .Add (.v 20) (.k (.int 1)))) .nil))) (.bi .tuple (.cons false (.bi .sorted (.cons false (.bin .Add (.v 23) (.bi .list (.cons false (.v 22) .nil))) .nil)) .nil))) (.cons (.ret (.k (.bool false))) .nil) (.nil)) .nil)))
def b_law_k44_l4 : Ss := .cons (.asg (.nm 17) (.lc (.v 18) (.nm 18) (.e (.call 52 (.cons false (.sub (.v 15) (.bin .Sub (.bi .len (.cons false (.v 15) .nil)) (.k (.int 1)))) .nil))) (.cons false (.cmp .In (.v 18) (.v 3)) .nil) [18])) (.cons (.ite (.cmp .NotEq (.v 17) (.lst .nil)) (.cons (.mut .append 15 (.sub (.v 17) (.call 0 (.cons false (.v 1) (.cons false (.bi .len (.cons false (.v 17) .nil)) .nil))))) .nil) (.nil)) .nil)
def b_law_k44_l3 : Ss := .cons (.asg (.nm 13) (.call 180 (.cons false (.v 3) (.cons false (.bin .Add (.sl (.v 5) .nil (.cons false (.v 12) .nil)) (.sl (.v 5) (.cons false (.bin .Add (.v 12) (.k (.int 1))) .nil) .nil)) .nil)))) (.cons (.ite (.cmp .NotEq (.sub (.v 9) (.v 12)) (.bi .tuple (.cons false (.lc (.v 10) (.nm 10) (.e (.sub (.v 4) (.v 11))) (.cons false (.cmp .NotIn (.v 10) (.v 13)) .nil) [10]) .nil))) (.cons (.ret (.k (.bool false))) .nil) (.nil)) .nil)
def b_law_k44_l2 : Ss := .cons (.asg (.tp (.cons (.nm 7) (.cons (.nm 5) .nil))) (.tup (.cons false (.call 180 (.cons false (.v 3) (.cons false (.v 5) .nil))) (.cons false (.bin .Add (.v 5) (.lst (.cons false (.v 6) .nil))) .nil)))) (.cons (.par (.cons (.nm 8) (.cons (.nm 9) .nil)) (.cons false (.call 180 (.cons false (.v 3) (.cons false (.v 5) .nil))) (.cons false (.call 201 (.cons false (.v 3) (.cons false (.v 5) .nil))) .nil))) (.cons (.ite (.cmp .NotEq (.v 8) (.bi .tuple (.cons false (.lc (.v 10) (.nm 10) (.e (.v 3)) (.cons false (.bi .any (.cons false (.lc (.cmp .In (.v 10) (.sub (.v 4) (.v 11))) (.nm 11) (.e (.v 5)) .nil [11]) .nil)) .nil) [10]) .nil))) (.cons (.ret (.k (.bool false))) .nil) (.nil)) (.cons (.ite (.cmp .NotEq (.bi .list (.cons false (.sub (.v 9) (.bin .Sub (.bi .len (.cons false (.v 9) .nil)) (.k (.int 1)))) .nil)) (.lc (.v 10) (.nm 10) (.e (.v 8)) (.cons false (.cmp .NotIn (.v 10) (.v 7)) .nil) [10])) (.cons (.ret (.k (.bool false))) .nil) (.nil)) (.cons (.ite (.cmp .NotEq (.bi .len (.cons false (.v 9) .nil)) (.bi .len (.cons false (.v 5) .nil))) (.cons (.ret (.k (.bool false))) .nil) (.nil)) (.cons (.for (.tp (.cons (.nm 12) (.cons (.nm 11) .nil))) (.en (.v 5)) b_law_k44_l3 [12, 13]) (.cons (.ite (.nt (.call 528 (.cons false (.v 3) (.cons false (.v 4) (.cons false (.v 5) (.cons false (.v 8) .nil)))))) (.cons (.ret (.k (.bool false))) .nil) (.nil)) .nil))))))
def b_law_k44_l1 : Ss := .cons (.asg (.nm 3) (.call 158 (.cons false (.v 1) (.cons false (.k (.int 20)) .nil)))) (.cons (.asg (.tp (.cons (.nm 4) (.cons (.nm 5) .nil))) (.tup (.cons false (.call 187 (.cons false (.v 3) .nil)) (.cons false (.lst .nil) .nil)))) (.cons (.for (.nm 6) (.e (.sl (.call 1 (.cons false (.v 1) (.cons false (.bi .list (.cons false (.v 3) .nil)) .nil))) .nil (.cons false (.k (.int 5)) .nil))) b_law_k44_l2 [6, 7, 8, 9, 12, 13]) (.cons (.asg (.nm 14) (.sub (.v 3) (.call 0 (.cons false (.v 1) (.cons false (.bi .len (.cons false (.v 3) .nil)) .nil))))) (.cons (.asg (.nm 15) (.lst (.cons false (.v 14) .nil))) (.cons (.for (.nm 16) (.r1 (.k (.int 5))) b_law_k44_l4 [16, 17]) (.cons (.asg (.nm 19) (.call 186 (.cons false (.v 3) (.cons false (.bi .tuple (.cons false (.v 15) .nil)) .nil)))) (.cons (.ite (.cmp .NotEq (.v 19) (.lc (.bi .len (.cons false (.sub (.v 4) (.v 10)) .nil)) (.nm 10) (.e (.v 15)) .nil [10])) (.cons (.ret (.k (.bool false))) .nil) (.nil)) (.cons (.for (.nm 20) (.r1 (.bin .Sub (.bi .len (.cons false (.v 15) .nil)) (.k (.int 1)))) b_law_k44_l5 [20, 21, 22, 23]) .nil))))))))
/-- law_k44 -/
def n_law_k44 : List Str := ["script", "source", "lap", "room", "due", "stalls", "stall", "before", "behind", "alone", "cell", "one", "i", "rest", "here", "cells", "turn", "near", "late", "sizes", "k", "first", "second", "stay"]
def b_law_k44 : Ss := .cons (.for (.nm 2) (.r1 (.k (.int 2))) b_law_k44_l1 [2, 3, 4, 5, 6, 7, 8, 9, 12, 13, 14, 15, 16, 17, 19, 20, 21, 22, 23]) (.cons (.ret (.k (.bool true))) .nil)
def Pt : Nat → Option N.Def
  | 2 => some d_moves
  | 3 => some d_corner_field
  | 4 => some d_corner_fields
  | 5 => some d_field
  | 176 => some d_all_fields
  | 180 => some d_lit
  | 181 => some d_dark_in
  | 199 => some d_serve_all
  | 200 => some d_seen_by_most
  | 201 => some d_alone_served
  | 185 => some d_gained
  | 186 => some d_walk_lit
  | 52 => some d_law_sides
  | 53 => some d_law_near
  | 54 => some d_law_parts_by
  | 55 => some d_law_is_room
  | 56 => some d_law_draw_room
  | 50 => some d_law_snake
  | 51 => some d_law_bent_room
  | 156 => some d_law_field
  | 187 => some d_law_fields
  | 158 => some d_law_draw_hall
  | 528 => some d_law_dark_right
  | _ => none
end N
/-! S1. Cells as data; dicts by cells; order; loops. -/
namespace N
open PySem
abbrev Cell := Int × Int
def cD (c : Cell) : D := .tuple [.int c.1, .int c.2]
def kvC (f : Cell → D) (l : List Cell) : List (D × D) := l.map fun c => (cD c, f c)
theorem nk_cD (c : Cell) : nk (cD c) = .tup [.num c.1, .num c.2] := rfl
theorem nk_inj {a b : Cell} : nk (cD a) = nk (cD b) ↔ a = b := by
  rw [nk_cD, nk_cD]
  constructor
  · intro h
    simp at h
    exact Prod.ext h.1 h.2
  · rintro rfl; rfl
theorem cD_inj {a b : Cell} (h : cD a = cD b) : a = b := by
  simp [cD] at h
  exact Prod.ext h.1 h.2
theorem tkey_cD (c : Cell) : tkey (cD c) = true := rfl
theorem imm_cD (c : Cell) : imm (cD c) = true := rfl
theorem imm_cells : ∀ l : List Cell, immAll (l.map cD) = true
  | [] => rfl
  | c :: l => by rw [List.map_cons, immAll, imm_cD, imm_cells l]; rfl
theorem tkey_kvC (f : Cell → D) (l : List Cell) : (kvC f l).all (fun p => tkey p.1) = true := by
  rw [List.all_eq_true]
  intro p hp
  obtain ⟨c, _, rfl⟩ := List.mem_map.mp hp
  rfl
theorem goes_kvC (f : Cell → D) (l : List Cell) (a : Cell) : goes (kvC f l) (cD a) = true := by
  unfold goes
  rw [tkey_kvC, tkey_cD]
  rfl
theorem dhas_kvC (f : Cell → D) (l : List Cell) (a : Cell) : dhas (kvC f l) (cD a) = decide (a ∈ l) := by
  unfold dhas kvC
  induction l with
  | nil => rfl
  | cons c l ih =>
    rw [List.map_cons, List.any_cons, ih]
    by_cases h : c = a
    · subst h; simp
    · have h' : ¬ a = c := fun e => h e.symm
      simp [nk_inj, h, h']
theorem dget_kvC (f : Cell → D) (l : List Cell) (a : Cell) : dget (kvC f l) (cD a) = if a ∈ l then some (f a) else none := by
  unfold dget kvC
  induction l with
  | nil => rfl
  | cons c l ih =>
    rw [List.map_cons, List.find?_cons]
    by_cases h : c = a
    · subst h; simp
    · have h' : ¬ a = c := fun e => h e.symm
      simp only [nk_inj, h, decide_false]
      rw [ih]
      simp [h']
def insC (l : List Cell) (a : Cell) : List Cell := if a ∈ l then l else l ++ [a]
theorem dput_kvC (v : D) (l : List Cell) (a : Cell) : dput (kvC (fun _ => v) l) (cD a) v = kvC (fun _ => v) (insC l a) := by
  unfold dput
  rw [dhas_kvC]
  unfold insC
  by_cases h : a ∈ l
  · rw [if_pos (by simpa using h), if_pos h]
    unfold kvC
    rw [List.map_map]
    refine List.map_congr_left fun c _ => ?_
    show (if nk (cD c) = nk (cD a) then (cD c, v) else (cD c, v)) = _
    split <;> rfl
  · rw [if_neg (by simpa using h), if_neg h]
    simp [kvC]
theorem dout_kvC (f : Cell → D) (l : List Cell) (a : Cell) : dout (kvC f l) (cD a) = kvC f (l.filter fun c => !decide (c = a)) := by
  unfold dout kvC
  rw [List.filter_map]
  congr 1
  refine List.filter_congr fun c _ => ?_
  show (!decide (nk (cD c) = nk (cD a))) = _
  simp [nk_inj]
theorem mem_insC {l : List Cell} {a x : Cell} : x ∈ insC l a ↔ x ∈ l ∨ x = a := by
  unfold insC
  split
  · rename_i h
    constructor
    · exact .inl
    · rintro (h2 | rfl)
      · exact h2
      · exact h
  · simp
theorem nodup_insC {l : List Cell} {a : Cell} (h : l.Nodup) : (insC l a).Nodup := by
  unfold insC
  split
  · exact h
  · rename_i hn
    rw [List.nodup_append]
    refine ⟨h, by simp, fun x hx y hy => ?_⟩
    rintro rfl
    rw [List.mem_singleton] at hy
    subst hy
    exact hn hx
theorem len_insC {l : List Cell} {a : Cell} : (insC l a).length ≤ l.length + 1 := by
  unfold insC
  split
  · omega
  · simp
def insAll (l m : List Cell) : List Cell := m.foldl insC l
theorem mem_insAll {m : List Cell} {x : Cell} : ∀ {l : List Cell}, x ∈ insAll l m ↔ x ∈ l ∨ x ∈ m := by
  induction m with
  | nil => intro l; simp [insAll]
  | cons a m ih =>
    intro l
    show x ∈ insAll (insC l a) m ↔ _
    rw [ih, mem_insC, List.mem_cons, or_assoc]
theorem nodup_insAll {m : List Cell} : ∀ {l : List Cell}, l.Nodup → (insAll l m).Nodup := by
  induction m with
  | nil => intro l h; exact h
  | cons a m ih => intro l h; exact ih (nodup_insC h)
theorem len_insAll {m : List Cell} : ∀ {l : List Cell}, (insAll l m).length ≤ l.length + m.length := by
  induction m with
  | nil => intro l; simp [insAll]
  | cons a m ih =>
    intro l
    have h1 := ih (l := insC l a)
    have h2 := len_insC (l := l) (a := a)
    show (insAll (insC l a) m).length ≤ _
    rw [List.length_cons]
    omega
/-- pairs of cells and one value into a dict -/
theorem dputs_cells (v : D) : ∀ (m l : List Cell), l.length + m.length ≤ LIM → dputs (kvC (fun _ => v) l) (m.map fun c => .tuple [cD c, v]) = some (kvC (fun _ => v) (insAll l m))
  | [], l, _ => by rw [List.map_nil, dputs]; rfl
  | c :: m, l, h => by
    rw [List.length_cons] at h
    have h2 := len_insC (l := l) (a := c)
    rw [List.map_cons, dputs, goes_kvC, dput_kvC]
    have h3 : (kvC (fun _ => v) (insC l c)).length ≤ LIM := by unfold kvC; rw [List.length_map]; omega
    rw [decide_eq_true h3]
    exact dputs_cells v m (insC l c) (by omega)
theorem dputsT_cells (v : D) (m : List Cell) (h : m.length ≤ LIM) : dputsT [] (m.map fun c => .tuple [cD c, v]) = some (kvC (fun _ => v) (insAll [] m)) := by
  unfold dputsT
  have h1 : (m.map fun c => (PyData.tuple [cD c, v] : D)).all tpair = true := by
    rw [List.all_eq_true]
    intro p hp
    obtain ⟨c, _, rfl⟩ := List.mem_map.mp hp
    rfl
  rw [h1]
  have h2 : ([] : List (D × D)).length + (m.map fun c => (PyData.tuple [cD c, v] : D)).length ≤ LIM := by simpa using h
  rw [decide_eq_true h2]
  exact dputs_cells v m [] (by simpa using h)
theorem dput_kvF (f : Cell → D) (l : List Cell) (a : Cell) : dput (kvC f l) (cD a) (f a) = kvC f (insC l a) := by
  unfold dput
  rw [dhas_kvC]
  unfold insC
  by_cases h : a ∈ l
  · rw [if_pos (by simpa using h), if_pos h]
    unfold kvC
    rw [List.map_map]
    refine List.map_congr_left fun c _ => ?_
    show (if nk (cD c) = nk (cD a) then (cD c, f a) else (cD c, f c)) = _
    split
    · rename_i e
      rw [nk_inj.mp e]
    · rfl
  · rw [if_neg (by simpa using h), if_neg h]
    simp [kvC]
theorem dputs_cellsF (f : Cell → D) : ∀ (m l : List Cell), l.length + m.length ≤ LIM → dputs (kvC f l) (m.map fun c => .tuple [cD c, f c]) = some (kvC f (insAll l m))
  | [], l, _ => by rw [List.map_nil, dputs]; rfl
  | c :: m, l, h => by
    rw [List.length_cons] at h
    have h2 := len_insC (l := l) (a := c)
    rw [List.map_cons, dputs, goes_kvC, dput_kvF]
    have h3 : (kvC f (insC l c)).length ≤ LIM := by unfold kvC; rw [List.length_map]; omega
    rw [decide_eq_true h3]
    exact dputs_cellsF f m (insC l c) (by omega)
theorem dputsT_cellsF (f : Cell → D) (m : List Cell) (h : m.length ≤ LIM) : dputsT [] (m.map fun c => .tuple [cD c, f c]) = some (kvC f (insAll [] m)) := by
  unfold dputsT
  have h1 : (m.map fun c => (PyData.tuple [cD c, f c] : D)).all tpair = true := by
    rw [List.all_eq_true]
    intro p hp
    obtain ⟨c, _, rfl⟩ := List.mem_map.mp hp
    rfl
  rw [h1]
  have h2 : ([] : List (D × D)).length + (m.map fun c => (PyData.tuple [cD c, f c] : D)).length ≤ LIM := by simpa using h
  rw [decide_eq_true h2]
  exact dputs_cellsF f m [] (by simpa using h)
theorem insAll_nodup {m : List Cell} : ∀ {l : List Cell}, (l ++ m).Nodup → insAll l m = l ++ m := by
  induction m with
  | nil => intro l _; simp [insAll]
  | cons a m ih =>
    intro l h
    have hn : a ∉ l := fun z => by
      rw [List.nodup_append] at h
      exact h.2.2 a z a (by simp) rfl
    show insAll (insC l a) m = _
    unfold insC
    rw [if_neg hn, ih (by simpa using h)]
    simp
theorem insAll_self {m : List Cell} (h : m.Nodup) : insAll [] m = m := by rw [insAll_nodup (by simpa using h)]; rfl

/-! ### == and in -/
theorem plain_cD (c : Cell) : (cD c).plain = true := rfl
theorem depth_cD (c : Cell) : (cD c).depth = 1 := rfl
theorem eqv_cD (a b : Cell) : PyData.eqv (cD a) (cD b) = decide (a = b) := by
  simp only [cD, PyData.eqv, PyData.eqvAll, Bool.and_true]
  by_cases h : a = b
  · subst h; simp
  · rw [decide_eq_false h]
    rw [Bool.and_eq_false_iff]
    by_cases h1 : a.1 = b.1
    · right
      simpa using fun h2 => h (Prod.ext h1 h2)
    · left
      simpa using h1
theorem plainAll_cells : ∀ l : List Cell, PyData.plainAll (l.map cD) = true
  | [] => rfl
  | c :: l => by rw [List.map_cons, PyData.plainAll, plain_cD, plainAll_cells l]; rfl
theorem depthAll_cells : ∀ l : List Cell, PyData.depthAll (l.map cD) ≤ 1
  | [] => Nat.zero_le _
  | c :: l => by
    rw [List.map_cons, PyData.depthAll, depth_cD]
    have := depthAll_cells l
    omega
theorem eqvAll_cells : ∀ l m : List Cell, PyData.eqvAll (l.map cD) (m.map cD) = decide (l = m)
  | [], [] => rfl
  | [], _ :: _ => rfl
  | _ :: _, [] => rfl
  | a :: l, b :: m => by
    rw [List.map_cons, List.map_cons, PyData.eqvAll, eqv_cD, eqvAll_cells l m]
    by_cases h : a = b
    · subst h; simp
    · simp [h]
def tupC (l : List Cell) : D := .tuple (l.map cD)
def lstC (l : List Cell) : D := .list (l.map cD)
theorem eqOk_cD (a b : Cell) : eqOk (cD a) (cD b) = true := rfl
theorem eqOk_tup (l m : List Cell) : eqOk (tupC l) (tupC m) = true := by
  unfold eqOk tupC
  have h1 := depthAll_cells l
  rw [PyData.plain, PyData.plain, plainAll_cells, plainAll_cells, PyData.depth, PyData.depth]
  simp
  omega
theorem eqOk_lst (l m : List Cell) : eqOk (lstC l) (lstC m) = true := by
  unfold eqOk lstC
  have h1 := depthAll_cells l
  rw [PyData.plain, PyData.plain, plainAll_cells, plainAll_cells, PyData.depth, PyData.depth]
  simp
  omega
theorem eqv_tup (l m : List Cell) : PyData.eqv (tupC l) (tupC m) = decide (l = m) := by rw [tupC, tupC, PyData.eqv]; exact eqvAll_cells l m
theorem eqv_lst (l m : List Cell) : PyData.eqv (lstC l) (lstC m) = decide (l = m) := by rw [lstC, lstC, PyData.eqv]; exact eqvAll_cells l m
theorem cmp_eq_cD (a b : Cell) : cmpD .Eq (cD a) (cD b) = some (decide (a = b)) := by show (if eqOk (cD a) (cD b) then some (PyData.eqv (cD a) (cD b)) else none) = _; rw [eqOk_cD, if_pos rfl, eqv_cD]
theorem cmp_ne_cD (a b : Cell) : cmpD .NotEq (cD a) (cD b) = some (!decide (a = b)) := by show (if eqOk (cD a) (cD b) then some (!PyData.eqv (cD a) (cD b)) else none) = _; rw [eqOk_cD, if_pos rfl, eqv_cD]
theorem cmp_eq_tup (l m : List Cell) : cmpD .Eq (.tuple (l.map cD)) (.tuple (m.map cD)) = some (decide (l = m)) := by show (if eqOk (tupC l) (tupC m) then some (PyData.eqv (tupC l) (tupC m)) else none) = _; rw [eqOk_tup, if_pos rfl, eqv_tup]
theorem cmp_ne_tup (l m : List Cell) : cmpD .NotEq (.tuple (l.map cD)) (.tuple (m.map cD)) = some (!decide (l = m)) := by show (if eqOk (tupC l) (tupC m) then some (!PyData.eqv (tupC l) (tupC m)) else none) = _; rw [eqOk_tup, if_pos rfl, eqv_tup]
theorem cmp_eq_lst (l m : List Cell) : cmpD .Eq (.list (l.map cD)) (.list (m.map cD)) = some (decide (l = m)) := by show (if eqOk (lstC l) (lstC m) then some (PyData.eqv (lstC l) (lstC m)) else none) = _; rw [eqOk_lst, if_pos rfl, eqv_lst]
theorem cmp_ne_lst (l m : List Cell) : cmpD .NotEq (.list (l.map cD)) (.list (m.map cD)) = some (!decide (l = m)) := by show (if eqOk (lstC l) (lstC m) then some (!PyData.eqv (lstC l) (lstC m)) else none) = _; rw [eqOk_lst, if_pos rfl, eqv_lst]
theorem cmp_eq_tup0 (l : List Cell) : cmpD .Eq (.tuple (l.map cD)) (.tuple []) = some (decide (l = [])) := cmp_eq_tup l []
theorem cmp_ne_tup0 (l : List Cell) : cmpD .NotEq (.tuple (l.map cD)) (.tuple []) = some (!decide (l = [])) := cmp_ne_tup l []
theorem cmp_eq_lst0 (l : List Cell) : cmpD .Eq (.list (l.map cD)) (.list []) = some (decide (l = [])) := cmp_eq_lst l []
theorem cmp_ne_lst0 (l : List Cell) : cmpD .NotEq (.list (l.map cD)) (.list []) = some (!decide (l = [])) := cmp_ne_lst l []
theorem any_eqv (l : List Cell) (a : Cell) : ((l.map cD).any fun z => PyData.eqv z (cD a)) = decide (a ∈ l) := by
  induction l with
  | nil => rfl
  | cons c l ih =>
    rw [List.map_cons, List.any_cons, ih, eqv_cD]
    by_cases h : c = a
    · subst h; simp
    · have h' : ¬ a = c := fun e => h e.symm
      simp [h, h']
theorem in_lst (l : List Cell) (a : Cell) : cmpD .In (cD a) (.list (l.map cD)) = some (decide (a ∈ l)) := by
  show (if PyData.plainAll (l.map cD) && (cD a).plain && decide ((cD a).depth ≤ 60) then some ((l.map cD).any fun z => PyData.eqv z (cD a)) else none) = _
  rw [plainAll_cells, plain_cD, depth_cD, any_eqv]
  rfl
theorem in_tup (l : List Cell) (a : Cell) : cmpD .In (cD a) (.tuple (l.map cD)) = some (decide (a ∈ l)) := in_lst l a
theorem in_dict (f : Cell → D) (l : List Cell) (a : Cell) : cmpD .In (cD a) (.dict (kvC f l)) = some (decide (a ∈ l)) := by
  show (if goes (kvC f l) (cD a) then some (dhas (kvC f l) (cD a)) else none) = _
  rw [goes_kvC, dhas_kvC]
  rfl
theorem nin_lst (l : List Cell) (a : Cell) : cmpD .NotIn (cD a) (.list (l.map cD)) = some (!decide (a ∈ l)) := by
  show (cmpD .In (cD a) (.list (l.map cD))).map (!·) = _
  rw [in_lst]; rfl
theorem nin_tup (l : List Cell) (a : Cell) : cmpD .NotIn (cD a) (.tuple (l.map cD)) = some (!decide (a ∈ l)) := nin_lst l a
theorem nin_dict (f : Cell → D) (l : List Cell) (a : Cell) : cmpD .NotIn (cD a) (.dict (kvC f l)) = some (!decide (a ∈ l)) := by
  show (cmpD .In (cD a) (.dict (kvC f l))).map (!·) = _
  rw [in_dict]; rfl

/-! ### order -/
def ltC (a b : Cell) : Prop := a.1 < b.1 ∨ a.1 = b.1 ∧ a.2 < b.2
instance (a b : Cell) : Decidable (ltC a b) := inferInstanceAs (Decidable (_ ∨ _))
def leC (a b : Cell) : Bool := !decide (ltC b a)
theorem lt_cD (a b : Cell) : PySem.W.dataLt (cD a) (cD b) = decide (ltC a b) := by
  unfold cD
  rw [PySem.W.dataLt_tuple]
  by_cases h1 : a.1 = b.1
  · rw [PySem.W.dataLt_all_yes (by simp [PySem.W.alike]) (by simp [PyData.eqv, h1])]
    by_cases h2 : a.2 = b.2
    · rw [PySem.W.dataLt_all_yes (by simp [PySem.W.alike]) (by simp [PyData.eqv, h2])]
      have : ¬ ltC a b := by unfold ltC; omega
      rw [decide_eq_false this]
      rfl
    · rw [PySem.W.dataLt_all_no (by simp [PySem.W.alike]) (by simp [PyData.eqv, h2]), PySem.W.dataLt_int]
      refine decide_eq_decide.mpr ?_
      unfold ltC; omega
  · rw [PySem.W.dataLt_all_no (by simp [PySem.W.alike]) (by simp [PyData.eqv, h1]), PySem.W.dataLt_int]
    refine decide_eq_decide.mpr ?_
    unfold ltC; omega
theorem le_cD (a b : Cell) : PySem.W.dataLe false id (cD a) (cD b) = leC a b := by
  have h : PySem.W.dataLe false id (cD a) (cD b) = !PySem.W.dataLt (cD b) (cD a) := by
    first
      | rfl
      | simp [PySem.W.dataLe, PySem.W.dataLt]
  rw [h, lt_cD]
  rfl
def sortC (l : List Cell) : List Cell := l.mergeSort leC
theorem sortD_cells (l : List Cell) : sortD (l.map cD) = some ((sortC l).map cD) := by
  unfold sortD
  have h1 : allAlike (l.map cD) = true := by
    unfold allAlike
    rw [List.all_eq_true]
    intro x hx
    rw [List.all_eq_true]
    intro y hy
    obtain ⟨a, _, rfl⟩ := List.mem_map.mp hx
    obtain ⟨b, _, rfl⟩ := List.mem_map.mp hy
    rfl
  have h2 : sortable (l.map cD) = true := by
    unfold sortable
    rw [Bool.or_eq_true]
    left
    rw [List.all_eq_true]
    intro x hx
    obtain ⟨a, _, rfl⟩ := List.mem_map.mp hx
    rfl
  have h3 : PyData.depthAll (l.map cD) ≤ 60 := Nat.le_trans (depthAll_cells l) (by decide)
  rw [h1, h2, decide_eq_true h3]
  simp only [Bool.and_true, if_true]
  congr 1
  exact (List.map_mergeSort (fun a _ b _ => (le_cD a b).symm)).symm
theorem leC_total (a b : Cell) : (leC a b || leC b a) = true := by
  unfold leC
  rw [Bool.or_eq_true, Bool.not_eq_true', Bool.not_eq_true', decide_eq_false_iff_not, decide_eq_false_iff_not]
  unfold ltC
  omega
theorem leC_iff (a b : Cell) : leC a b = true ↔ ¬ ltC b a := by
  unfold leC
  rw [Bool.not_eq_true', decide_eq_false_iff_not]
theorem leC_trans (a b c : Cell) (h1 : leC a b = true) (h2 : leC b c = true) : leC a c = true := by
  rw [leC_iff] at *
  unfold ltC at *
  omega
def Asc (l : List Cell) : Prop := l.Pairwise ltC
theorem mem_sortC {l : List Cell} {x : Cell} : x ∈ sortC l ↔ x ∈ l := (List.mergeSort_perm l leC).mem_iff
theorem len_sortC {l : List Cell} : (sortC l).length = l.length := (List.mergeSort_perm l leC).length_eq
theorem ltC_of {a b : Cell} (h : leC a b = true) (ne : a ≠ b) : ltC a b := by
  rw [leC_iff] at h
  have h2 : ¬ (a.1 = b.1 ∧ a.2 = b.2) := fun z => ne (Prod.ext z.1 z.2)
  unfold ltC at *
  omega
theorem sortC_asc {l : List Cell} (h : l.Nodup) : Asc (sortC l) := by
  have h1 : (sortC l).Pairwise (fun a b => leC a b = true) := List.pairwise_mergeSort leC_trans leC_total l
  have h2 : (sortC l).Nodup := (List.mergeSort_perm l leC).nodup_iff.mpr h
  exact (h1.and h2).imp fun ⟨p, q⟩ => ltC_of p q
theorem ltC_irrefl (a : Cell) : ¬ ltC a a := by unfold ltC; omega
theorem ltC_asymm {a b : Cell} (h : ltC a b) : ¬ ltC b a := by unfold ltC at *; omega
theorem Asc.nodup {l : List Cell} (h : Asc l) : l.Nodup := h.imp fun {a b} q e => by subst e; exact ltC_irrefl _ q
theorem asc_ext : ∀ {l m : List Cell}, Asc l → Asc m → (∀ x, x ∈ l ↔ x ∈ m) → l = m
  | [], [], _, _, _ => rfl
  | [], b :: m, _, _, h => by have := (h b).mpr (by simp); simp at this
  | a :: l, [], _, _, h => by have := (h a).mp (by simp); simp at this
  | a :: l, b :: m, hl, hm, h => by
    have hl' := List.pairwise_cons.mp hl
    have hm' := List.pairwise_cons.mp hm
    have e : a = b := by
      have h1 := (h a).mp (by simp)
      have h2 := (h b).mpr (by simp)
      rcases List.mem_cons.mp h1 with e | h1
      · exact e
      · rcases List.mem_cons.mp h2 with e | h2
        · exact e.symm
        · exact absurd (hl'.1 b h2) (ltC_asymm (hm'.1 a h1))
    subst e
    congr 1
    refine asc_ext hl'.2 hm'.2 fun x => ?_
    constructor
    · intro hx
      rcases List.mem_cons.mp ((h x).mp (List.mem_cons_of_mem _ hx)) with e | h3
      · subst e; exact absurd (hl'.1 x hx) (ltC_irrefl x)
      · exact h3
    · intro hx
      rcases List.mem_cons.mp ((h x).mpr (List.mem_cons_of_mem _ hx)) with e | h3
      · subst e; exact absurd (hm'.1 x hx) (ltC_irrefl x)
      · exact h3
theorem Asc.filter {l : List Cell} (p : Cell → Bool) (h : Asc l) : Asc (l.filter p) := h.sublist List.filter_sublist
theorem sortC_eq {l m : List Cell} (hl : l.Nodup) (hm : Asc m) (h : ∀ x, x ∈ l ↔ x ∈ m) : sortC l = m := asc_ext (sortC_asc hl) hm fun x => by rw [mem_sortC, h]
theorem sortC_of_asc {l : List Cell} (h : Asc l) : sortC l = l := sortC_eq h.nodup h fun _ => Iff.rfl

/-! ### loops -/
/-- a for whose turns all go on -/
theorem forL_fold {α β : Type} (emb : α → D) (env : β → Env) (f : β → α → β) {body : D → Env → Src → RS} {l : List α} : ∀ {b : β} {s : Src}, (∀ a ∈ l, ∀ b s, body (emb a) (env b) s = some (.nx (env (f b a)), s)) → forL body (l.map emb) (env b) s = some (.nx (env (l.foldl f b)), s) := by
  induction l with
  | nil => intro b s h; rfl
  | cons a l ih =>
    intro b s h
    rw [List.map_cons, forL, h a (by simp)]
    exact ih fun a' ha' => h a' (List.mem_cons_of_mem _ ha')
/-- a comprehension of pure steps -/
theorem lcRun_map {α : Type} (emb : α → D) (g : α → Option D) {step : D → Src → Option (Option D × Src)} {l : List α} {s : Src} (h : ∀ a ∈ l, step (emb a) s = some (g a, s)) : lcRun step (l.map emb) s = some (l.filterMap g, s) := by
  induction l with
  | nil => rfl
  | cons a l ih =>
    rw [List.map_cons, lcRun, h a (by simp), List.filterMap_cons]
    simp only []
    rw [ih fun a' ha' => h a' (List.mem_cons_of_mem _ ha')]
    cases g a <;> rfl
/-- a while, by a measure: an invariant, kept by each turn -/
theorem whL_inv {test : Env → Src → Option (Bool × Src)} {body : Env → Src → RS} (I : Nat → Env → Src → Prop) {Q : Env → Src → Prop} (h : ∀ n env s, I n env s → (∃ s1, test env s = some (false, s1) ∧ Q env s1) ∨ ∃ s1 env1 s2 m, test env s = some (true, s1) ∧ body env s1 = some (.nx env1, s2) ∧ m < n ∧ I m env1 s2) :
    ∀ n env s, I n env s → ∃ env1 s1, whL test body env s = some (.nx env1, s1) ∧ Q env1 s1 := by
  intro n
  induction n using Nat.strongRecOn with
  | ind n ih =>
    intro env s hI
    rw [whL]
    rcases h n env s hI with ⟨s1, e, q⟩ | ⟨s1, env1, s2, m, e, e2, hm, hI2⟩
    · rw [e]
      exact ⟨env, s1, rfl, q⟩
    · rw [e]
      simp only [e2]
      exact ih m hm env1 s2 hI2
end N
namespace N
open PySem
theorem forL_foldI {α β : Type} (emb : α → D) (env : β → Env) (f : β → α → β) (J : β → Prop) {body : D → Env → Src → RS} {l : List α} : ∀ {b : β} {s : Src}, J b → (∀ a ∈ l, ∀ b s, J b → body (emb a) (env b) s = some (.nx (env (f b a)), s) ∧ J (f b a)) → forL body (l.map emb) (env b) s = some (.nx (env (l.foldl f b)), s) ∧ J (l.foldl f b) := by
  induction l with
  | nil => intro b s hb h; exact ⟨rfl, hb⟩
  | cons a l ih =>
    intro b s hb h
    obtain ⟨h1, h2⟩ := h a (by simp) b s hb
    rw [List.map_cons, forL, h1]
    exact ih h2 fun a' ha' => h a' (List.mem_cons_of_mem _ ha')
theorem forL_foldP {α β : Type} (emb : α → D) (env : β → Env) (f : β → α → β) (J : List α → β → Prop) {body : D → Env → Src → RS} : ∀ (l done : List α) {b : β} {s : Src}, J done b → (∀ d a r, done ++ l = d ++ a :: r → ∀ b s, J d b → body (emb a) (env b) s = some (.nx (env (f b a)), s) ∧ J (d ++ [a]) (f b a)) → forL body (l.map emb) (env b) s = some (.nx (env (l.foldl f b)), s) ∧ J (done ++ l) (l.foldl f b)
  | [], done, b, s, hb, h => ⟨rfl, by simpa using hb⟩
  | a :: l, done, b, s, hb, h => by
    obtain ⟨h1, h2⟩ := h done a l rfl b s hb
    rw [List.map_cons, forL, h1]
    have := forL_foldP emb env f J l (done ++ [a]) (s := s) h2 fun d a' r e => h d a' r (by rw [← e]; simp)
    simpa using this
theorem execs_nx {cf : CF} {st : S} {ss : Ss} {env env1 : Env} {s s1 : Src} (h : exec cf st env s = some (.nx env1, s1)) : execs cf (.cons st ss) env s = execs cf ss env1 s1 := by rw [execs, h]
end N
/-! S2. The interpreter, rule by rule. -/
namespace N
open PySem
section
variable {cf : CF} {env env1 env2 : Env} {s s1 s2 s3 s4 : Src} {a b e k v : X} {d d1 d2 d3 r : D} {o o1 o2 o3 : Nat}
theorem ev_v {i : Nat} (h : getv env i = some (.dat d o)) : ev cf (.v i) env s = some (.dat d 0, s) := by rw [ev, h]
theorem ev_src {i : Nat} (h : getv env i = some .src) : ev cf (.v i) env s = some (.src, s) := by rw [ev, h]
theorem ev_k : ev cf (.k d) env s = some (.dat d 0, s) := by rw [ev]
theorem ev_tup {es : Xs} {ds : List D} (h : evs cf es env s = some (ds, s1)) (hl : ds.length ≤ LIM) : ev cf (.tup es) env s = some (.dat (.tuple ds) 0, s1) := by rw [ev, h]; exact if_pos hl
theorem ev_lst {es : Xs} {ds : List D} (h : evs cf es env s = some (ds, s1)) (hl : ds.length ≤ LIM) : ev cf (.lst es) env s = some (.dat (.list ds) 1, s1) := by rw [ev, h]; exact if_pos hl
theorem ev_dic {ps : Ps} {prs : List D} {kvs : List (D × D)} (h : evp cf ps env s = some (prs, s1)) (h2 : dputsD prs = some kvs) (hl : prs.length ≤ 15) : ev cf (.dic false ps) env s = some (.dat (.dict kvs) 1, s1) := by rw [ev, h]; simp only [h2, if_pos hl]; rfl
theorem ev_dic2 : ev cf (.dic true .nil) env s = some (.dat (.dict []) 2, s) := by rw [ev, evp]; rfl
theorem ev_bin {op : Operator} (ha : ev cf a env s = some (.dat d1 o1, s1)) (hb : ev cf b env s1 = some (.dat d2 o2, s2)) (h : binD op d1 d2 = some (r, o)) : ev cf (.bin op a b) env s = some (.dat r o, s2) := by rw [ev, ha, bD_some, hb, bD_some, h]
theorem ev_neg {i : Int} (ha : ev cf a env s = some (.dat (.int i) o1, s1)) : ev cf (.neg a) env s = some (.dat (.int (-i)) 0, s1) := by rw [ev, ha, bD_some]
theorem ev_nt {t : Bool} (ha : ev cf a env s = some (.dat d1 o1, s1)) (h : truth d1 = some t) : ev cf (.nt a) env s = some (.dat (.bool (!t)) 0, s1) := by rw [ev, ha, bD_some, h]
theorem ev_andb {p q : Bool} (ha : ev cf a env s = some (.dat (.bool p) o1, s)) (hb : p = true → ev cf b env s = some (.dat (.bool q) 0, s)) : ev cf (.and a b) env s = some (.dat (.bool (p && q)) 0, s) := by
  rw [ev, ha, bD_some]
  cases p with
  | true => exact hb rfl
  | false => rfl
theorem ev_orb {p q : Bool} (ha : ev cf a env s = some (.dat (.bool p) o1, s)) (hb : p = false → ev cf b env s = some (.dat (.bool q) 0, s)) : ev cf (.or a b) env s = some (.dat (.bool (p || q)) 0, s) := by
  rw [ev, ha, bD_some]
  cases p with
  | true => rfl
  | false => exact hb rfl
theorem ev_cmp {op : CmpOp} {t : Bool} (ha : ev cf a env s = some (.dat d1 o1, s1)) (hb : ev cf b env s1 = some (.dat d2 o2, s2)) (h : cmpD op d1 d2 = some t) : ev cf (.cmp op a b) env s = some (.dat (.bool t) 0, s2) := by rw [ev, ha, bD_some, hb, bD_some, h]
theorem ev_sub {i : X} (ha : ev cf a env s = some (.dat d1 o1, s1)) (hi : ev cf i env s1 = some (.dat d2 o2, s2)) (h : itemD d1 d2 = some r) : ev cf (.sub a i) env s = some (.dat r 0, s2) := by rw [ev, ha, bD_some, hi, bD_some, h]
theorem ev_sl {lo hi : Xs} {l h : Option Int} (ha : ev cf a env s = some (.dat d1 o1, s1)) (hl : evo cf lo env s1 = some (l, s2)) (hh : evo cf hi env s2 = some (h, s3)) (hs : sliceD d1 l h = some (r, o)) : ev cf (.sl a lo hi) env s = some (.dat r o, s3) := by rw [ev, ha, bD_some, hl]; simp only [hh, hs]
theorem ev_rev (ha : ev cf a env s = some (.dat d1 o1, s1)) (hs : revD d1 = some (r, o)) : ev cf (.rev a) env s = some (.dat r o, s1) := by rw [ev, ha, bD_some, hs]
theorem ev_call {f : Nat} {as : Xs} {vs : List Slot} {res : R} (h : evc cf as env s = some (vs, s1)) (h2 : cf f vs s1 = res) : ev cf (.call f as) env s = res := by rw [ev, h]; exact h2
theorem ev_bi {f : B} {as : Xs} {ds : List D} (h : evs cf as env s = some (ds, s1)) (h2 : biD f ds = some (r, o)) : ev cf (.bi f as) env s = some (.dat r o, s1) := by rw [ev, h]; simp only [h2]
theorem ev_me {m : M} {as : Xs} {ds : List D} (ha : ev cf a env s = some (.dat d1 o1, s1)) (h : evs cf as env s1 = some (ds, s2)) (h2 : meD m d1 ds = some (r, o)) : ev cf (.me m a as) env s = some (.dat r o, s2) := by rw [ev, ha, bD_some, h]; simp only [h2]
theorem ev_ite_t {c : X} (hc : ev cf c env s = some (.dat d1 o1, s1)) (ht : truth d1 = some true) {res : R} (h : ev cf a env s1 = res) : ev cf (.ite c a b) env s = res := by rw [ev, hc, bD_some, ht]; exact h
theorem ev_ite_f {c : X} (hc : ev cf c env s = some (.dat d1 o1, s1)) (ht : truth d1 = some false) {res : R} (h : ev cf b env s1 = res) : ev cf (.ite c a b) env s = res := by rw [ev, hc, bD_some, ht]; exact h
/-- the step of a list comprehension -/
def lcStep (cf : CF) (e : X) (t : T) (ifs : Xs) (own : List Nat) (env : Env) : D → Src → Option (Option D × Src) := fun d s2 => match bindT t d (wipe (flat env) own) with
        | some env1 => (match tests cf ifs env1 s2 with
          | some (true, s4) => bD (ev cf e env1 s4) fun r _ s5 => some (some r, s5)
          | some (false, s4) => some (none, s4)
          | none => none)
        | none => none
theorem ev_lc {t : T} {it : It} {ifs : Xs} {own : List Nat} {ds rs : List D} (h : evi cf it env s = some (ds, s1)) (h2 : lcRun (lcStep cf e t ifs own env) ds s1 = some (rs, s2)) : ev cf (.lc e t it ifs own) env s = some (.dat (.list rs) 1, s2) := by
  rw [ev, h]
  show (match lcRun (lcStep cf e t ifs own env) ds s1 with
    | some (rs, s2) => some (Slot.dat (PyData.list rs) 1, s2)
    | none => none) = _
  rw [h2]
theorem lcStep_t {t : T} {ifs : Xs} {own : List Nat} (hb : bindT t d (wipe (flat env) own) = some env1) (ht : tests cf ifs env1 s = some (true, s1)) (he : ev cf e env1 s1 = some (.dat r o, s2)) : lcStep cf e t ifs own env d s = some (some r, s2) := by
  unfold lcStep
  simp only [hb, ht, he, bD_some]
theorem lcStep_f {t : T} {ifs : Xs} {own : List Nat} (hb : bindT t d (wipe (flat env) own) = some env1) (ht : tests cf ifs env1 s = some (false, s1)) : lcStep cf e t ifs own env d s = some (none, s1) := by
  unfold lcStep
  simp only [hb, ht]
def dcStep (cf : CF) (own2 : Bool) (ke ve : X) (t : T) (ifs : Xs) (own : List Nat) (env : Env) : D → Src → Option (Option D × Src) := fun d s2 => match bindT t d (wipe (flat env) own) with
        | some env1 => (match tests cf ifs env1 s2 with
          | some (true, s4) => bD (ev cf ke env1 s4) fun kd _ s5 => bD (ev cf ve env1 s5) fun vd o s6 => if !imm kd || (own2 && o != 2) then none else some (some (.tuple [kd, vd]), s6)
          | some (false, s4) => some (none, s4)
          | none => none)
        | none => none
theorem dcStep_t {ke ve : X} {t : T} {ifs : Xs} {own : List Nat} {own2 : Bool} (hb : bindT t d (wipe (flat env) own) = some env1) (ht : tests cf ifs env1 s = some (true, s1)) (hk : ev cf ke env1 s1 = some (.dat d1 o1, s2)) (hv : ev cf ve env1 s2 = some (.dat d2 o2, s3)) (hi : (!imm d1 || (own2 && o2 != 2)) = false) : dcStep cf own2 ke ve t ifs own env d s = some (some (.tuple [d1, d2]), s3) := by
  unfold dcStep
  simp only [hb, ht, hk, hv, bD_some, hi]
  rfl
theorem ev_dc {ke ve : X} {t : T} {it : It} {ifs : Xs} {own : List Nat} {ds rs : List D} {kvs : List (D × D)} (h : evi cf it env s = some (ds, s1)) (h2 : lcRun (dcStep cf false ke ve t ifs own env) ds s1 = some (rs, s2)) (h3 : dputsT [] rs = some kvs) : ev cf (.dc false ke ve t it ifs own) env s = some (.dat (.dict kvs) 1, s2) := by
  rw [ev, h]
  show (match lcRun (dcStep cf false ke ve t ifs own env) ds s1 with
    | some (rs, s2) => (match dputsT [] rs with
      | some kvs => if false && decide (kvs.length ≠ rs.length) then none else some (Slot.dat (PyData.dict kvs) (if false then 2 else 1), s2)
      | none => none)
    | none => none) = _
  rw [h2]
  simp only [h3]
  rfl
theorem ev_dlc {ke ve : X} {t : T} {it : It} {ifs : Xs} {own : List Nat} {ds rs : List D} {kvs : List (D × D)} (h : evi cf it env s = some (ds, s1)) (h2 : lcRun (dcStep cf false ke ve t ifs own env) ds s1 = some (rs, s2)) (h3 : dputsT [] rs = some kvs) : ev cf (.dlc false ke ve t it ifs own) env s = some (.dat (.dict kvs) 1, s2) := by
  rw [ev, h]
  show (match lcRun (dcStep cf false ke ve t ifs own env) ds s1 with
    | some (rs, s2) => (match dputsT [] rs with
      | some kvs => if false && decide (kvs.length ≠ rs.length) then none else some (Slot.dat (PyData.dict kvs) (if false then 2 else 1), s2)
      | none => none)
    | none => none) = _
  rw [h2]
  simp only [h3]
  rfl
def dc3 (cf : CF) (ke ve : X) (t1 : T) (own1 : List Nat) (env1 : Env) : D → Src → Option (Option D × Src) := fun d1 s5 => match bindT t1 d1 (wipe (flat env1) own1) with
              | some env2 => bD (ev cf ke env2 s5) fun kd _ s7 => bD (ev cf ve env2 s7) fun vd _ s8 => if imm kd && imm vd then some (some (.tuple [kd, vd]), s8) else none
              | none => none
def dc2S (cf : CF) (ke ve : X) (t : T) (t1 : T) (it1 : It) (own own1 : List Nat) (env : Env) : D → Src → Option (List D × Src) := fun d s2 => match bindT t d (wipe (flat env) own) with
        | some env1 => (match evi cf it1 env1 s2 with
          | some (ds1, s4) => lcRun (dc3 cf ke ve t1 own1 env1) ds1 s4
          | none => none)
        | none => none
theorem ev_dc2 {ke ve : X} {t t1 : T} {it it1 : It} {own own1 : List Nat} {ds rs : List D} {kvs : List (D × D)} (h : evi cf it env s = some (ds, s1)) (h2 : lc2Run (dc2S cf ke ve t t1 it1 own own1 env) ds s1 = some (rs, s2)) (h3 : dputsT [] rs = some kvs) : ev cf (.dc2 ke ve t it t1 it1 own own1) env s = some (.dat (.dict kvs) 1, s2) := by
  rw [ev, h]
  show (match lc2Run (dc2S cf ke ve t t1 it1 own own1 env) ds s1 with
    | some (rs, s2) => (match dputsT [] rs with
      | some kvs => some (Slot.dat (PyData.dict kvs) 1, s2)
      | none => none)
    | none => none) = _
  rw [h2]
  simp only [h3]
theorem dc3_t {ke ve : X} {t1 : T} {own1 : List Nat} (hb : bindT t1 d (wipe (flat env) own1) = some env1) (hk : ev cf ke env1 s = some (.dat d1 o1, s2)) (hv : ev cf ve env1 s2 = some (.dat d2 o2, s3)) (hi : (imm d1 && imm d2) = true) : dc3 cf ke ve t1 own1 env d s = some (some (.tuple [d1, d2]), s3) := by
  unfold dc3
  simp only [hb, hk, hv, bD_some, hi, if_true]
theorem dc2S_t {ke ve : X} {t t1 : T} {it1 : It} {own own1 : List Nat} {ds1 rs : List D} (hb : bindT t d (wipe (flat env) own) = some env1) (hi : evi cf it1 env1 s = some (ds1, s1)) (h : lcRun (dc3 cf ke ve t1 own1 env1) ds1 s1 = some (rs, s2)) : dc2S cf ke ve t t1 it1 own own1 env d s = some (rs, s2) := by
  unfold dc2S
  simp only [hb, hi, h]
theorem lc2Run_map {α : Type} (emb : α → D) (g : α → List D) {step : D → Src → Option (List D × Src)} {l : List α} {s : Src} (h : ∀ a ∈ l, step (emb a) s = some (g a, s)) : lc2Run step (l.map emb) s = some (l.flatMap g, s) := by
  induction l with
  | nil => rfl
  | cons a l ih =>
    rw [List.map_cons, lc2Run, h a (by simp), List.flatMap_cons]
    simp only []
    rw [ih fun a' ha' => h a' (List.mem_cons_of_mem _ ha')]
/-! rows -/
theorem evs_nil : evs cf .nil env s = some ([], s) := by rw [evs]
theorem evs_cons {es : Xs} {ds : List D} (h : ev cf e env s = some (.dat d o, s1)) (h2 : evs cf es env s1 = some (ds, s2)) : evs cf (.cons false e es) env s = some (d :: ds, s2) := by rw [evs, h, bD_some, h2]
theorem evs_star_t {es : Xs} {ds xs : List D} (h : ev cf e env s = some (.dat (.tuple xs) o, s1)) (h2 : evs cf es env s1 = some (ds, s2)) : evs cf (.cons true e es) env s = some (xs ++ ds, s2) := by rw [evs, h, bD_some, h2]
theorem evs_star_l {es : Xs} {ds xs : List D} (h : ev cf e env s = some (.dat (.list xs) o, s1)) (h2 : evs cf es env s1 = some (ds, s2)) : evs cf (.cons true e es) env s = some (xs ++ ds, s2) := by rw [evs, h, bD_some, h2]
theorem evc_nil : evc cf .nil env s = some ([], s) := by rw [evc]
theorem evc_cons {es : Xs} {vs : List Slot} (h : ev cf e env s = some (.dat d o, s1)) (h2 : evc cf es env s1 = some (vs, s2)) : evc cf (.cons false e es) env s = some (.dat d 0 :: vs, s2) := by rw [evc, h]; simp only [h2]
theorem evc_src {es : Xs} {vs : List Slot} (h : ev cf e env s = some (.src, s1)) (h2 : evc cf es env s1 = some (vs, s2)) : evc cf (.cons false e es) env s = some (.src :: vs, s2) := by rw [evc, h]; simp only [h2]
theorem evp_nil : evp cf .nil env s = some ([], s) := by rw [evp]
theorem evp_cons {ps : Ps} {prs : List D} (hk : ev cf k env s = some (.dat d1 o1, s1)) (hv : ev cf v env s1 = some (.dat d2 o2, s2)) (h : evp cf ps env s2 = some (prs, s3)) : evp cf (.cons k v ps) env s = some (.tuple [d1, d2] :: prs, s3) := by rw [evp, hk, bD_some, hv, bD_some, h]
theorem evo_nil : evo cf .nil env s = some (none, s) := by rw [evo]
theorem evo_one {i : Int} (h : ev cf e env s = some (.dat (.int i) o, s1)) : evo cf (.cons false e .nil) env s = some (some i, s1) := by rw [evo, h, bD_some]
theorem tests_nil : tests cf .nil env s = some (true, s) := by rw [tests]
theorem tests_one {t : Bool} (h : ev cf e env s = some (.dat d o, s1)) (ht : truth d = some t) : tests cf (.cons false e .nil) env s = some (t, s1) := by rw [tests, h, bD_some, ht]
theorem evi_e {ds : List D} (h : ev cf a env s = some (.dat d o, s1)) (hi : itemsOf d = some ds) : evi cf (.e a) env s = some (ds, s1) := by rw [evi, h, bD_some, hi]
theorem evi_r1 {n : Int} (h : ev cf a env s = some (.dat (.int n) o, s1)) (hn : -(2 ^ 61) < n ∧ n < 16777216) : evi cf (.r1 a) env s = some (rangeD 0 n.toNat, s1) := by rw [evi, h, bD_some]; exact if_pos hn
theorem evi_r2 {n m : Int} (h : ev cf a env s = some (.dat (.int n) o, s1)) (h2 : ev cf b env s1 = some (.dat (.int m) o2, s2)) (hn : -(2 ^ 61) < n ∧ n < 2 ^ 61 ∧ -(2 ^ 61) < m ∧ m < 2 ^ 61 ∧ m - n < 16777216) : evi cf (.r2 a b) env s = some (rangeD n (m - n).toNat, s2) := by rw [evi, h, bD_some, h2, bD_some]; exact if_pos hn
theorem evi_en {ds : List D} (h : ev cf a env s = some (.dat d o, s1)) (hi : itemsOf d = some ds) (hd : isDictD d = false) : evi cf (.en a) env s = some (enumD 0 ds, s1) := by rw [evi, h, bD_some, hi]; simp only [hd]; rfl
theorem evi_zp {ds es : List D} (h : ev cf a env s = some (.dat d o, s1)) (h2 : ev cf b env s1 = some (.dat d2 o2, s2)) (hi : itemsOf d = some ds) (hi2 : itemsOf d2 = some es) (hd : isDictD d = false) (hd2 : isDictD d2 = false) : evi cf (.zp false a b) env s = some (zipD ds es, s2) := by rw [evi, h, bD_some, h2, bD_some, hi, hi2]; simp only [hd, hd2]; rfl
theorem evi_its {kvs : List (D × D)} (h : ev cf a env s = some (.dat (.dict kvs) o, s1)) : evi cf (.its a) env s = some (kvs.map fun p => .tuple [p.1, p.2], s1) := by rw [evi, h, bD_some]
theorem evi_vals {kvs : List (D × D)} (h : ev cf a env s = some (.dat (.dict kvs) o, s1)) : evi cf (.vals a) env s = some (kvs.map (·.2), s1) := by rw [evi, h, bD_some]

/-! ### statements -/
variable {st : S} {ss : Ss} {res : RS} {fl : Fl}
theorem xs_nil : execs cf .nil env s = some (.nx env, s) := by rw [execs]
theorem xs_cons (h : exec cf st env s = some (.nx env1, s1)) (h2 : execs cf ss env1 s1 = res) : execs cf (.cons st ss) env s = res := by rw [execs, h]; exact h2
theorem xs_stop_rt {x : Slot} (h : exec cf st env s = some (.rt x, s1)) : execs cf (.cons st ss) env s = some (.rt x, s1) := by rw [execs, h]
theorem xs_stop_bk (h : exec cf st env s = some (.bk env1, s1)) : execs cf (.cons st ss) env s = some (.bk env1, s1) := by rw [execs, h]
theorem xs_stop_ct (h : exec cf st env s = some (.ct env1, s1)) : execs cf (.cons st ss) env s = some (.ct env1, s1) := by rw [execs, h]
theorem kept_imm {a : List Nat} (h : imm d = true) : kept env a d = env := by unfold kept; rw [h]; simp
theorem kept_tup {a : List Nat} {l : List Cell} : kept env a (.tuple (l.map cD)) = env := kept_imm (imm_cells l)
theorem x_asgK {i : Nat} (h : ev cf e env s = some (.dat d o, s1)) (hk : kept env (alK env (al e) d o) d = env1) : exec cf (.asg (.nm i) e) env s = some (.nx (env1.set i (some (.dat d o))), s1) := by subst hk; rw [exec, h, bD_some, store]
theorem x_asgTK {ts : Ts} (h : ev cf e env s = some (.dat d o, s1)) (hk : kept env (alK env (al e) d o) d = env2) (hb : bindT (.tp ts) d env2 = some env1) : exec cf (.asg (.tp ts) e) env s = some (.nx env1, s1) := by subst hk; rw [exec, h, bD_some, store, hb]; rfl
theorem x_asgBK {i : Nat} (h : ev cf e env s = some (.dat d o, s1)) (hk : ev cf k env s1 = some (.dat d1 o1, s2)) (hk2 : kept env (alK env (al e) d o) d = env2) (hp : putD env2 i d1 d o = some env1) : exec cf (.asg (.sb i k) e) env s = some (.nx env1, s2) := by subst hk2; rw [exec, h, bD_some, store, hk, bD_some, hp]
theorem alK_no {a : List Nat} (h : a.any (ownAt env) = false) : kept env (alK env a d o) d = env := by
  unfold alK kept
  rw [h]
  simp only [Bool.false_eq_true, if_false]
  rw [h]
  rfl
theorem x_asg {i : Nat} (h : ev cf e env s = some (.dat d o, s1)) (hk : (al e).any (ownAt env) = false) : exec cf (.asg (.nm i) e) env s = some (.nx (env.set i (some (.dat d o))), s1) := x_asgK h (alK_no hk)
theorem x_asgT {ts : Ts} (h : ev cf e env s = some (.dat d o, s1)) (hk : (al e).any (ownAt env) = false) (hb : bindT (.tp ts) d env = some env1) : exec cf (.asg (.tp ts) e) env s = some (.nx env1, s1) := x_asgTK h (alK_no hk) hb
theorem x_asgB {i : Nat} (h : ev cf e env s = some (.dat d o, s1)) (hk : ev cf k env s1 = some (.dat d1 o1, s2)) (hk2 : (al e).any (ownAt env) = false) (hp : putD env i d1 d o = some env1) : exec cf (.asg (.sb i k) e) env s = some (.nx env1, s2) := x_asgBK h hk (alK_no hk2) hp
/-- a new list of plain things -/
theorem alK_lst {a : List Nat} {xs : List D} (h : immAll xs = true) : kept env (alK env a (.list xs) 1) (.list xs) = env := by
  unfold alK
  have hs : (1 != 0 && shallow (.list xs)) = true := h
  rw [hs]
  by_cases ha : a.any (ownAt env) = true
  · rw [if_pos ha, if_pos rfl]; rfl
  · rw [if_neg ha]; unfold kept; rw [if_neg ha]
theorem x_asgL {i : Nat} {xs : List D} (h : ev cf e env s = some (.dat (.list xs) 1, s1)) (hx : immAll xs = true) : exec cf (.asg (.nm i) e) env s = some (.nx (env.set i (some (.dat (.list xs) 1))), s1) := x_asgK h (alK_lst hx)
theorem immAll_append : ∀ {a b : List D}, immAll a = true → immAll b = true → immAll (a ++ b) = true
  | [], _, _, hb => hb
  | x :: a, b, ha, hb => by
    rw [immAll, Bool.and_eq_true] at ha
    rw [List.cons_append, immAll, ha.1, immAll_append ha.2 hb]
    rfl
theorem immAll_map {α : Type} (f : α → D) (h : ∀ a, imm (f a) = true) : ∀ l : List α, immAll (l.map f) = true
  | [] => rfl
  | c :: l => by rw [List.map_cons, immAll, h c, immAll_map f h l]; rfl
theorem x_par {ts : Ts} {es : Xs} {ds : List (List Nat × D × Nat)} (h : evr cf es env s = some (ds, s1)) (hn : (namesOnly ts || ds.all (fun x => imm x.2.1)) = true) (hs : stores cf ts ds (keptAll env ds) s1 = some (env1, s2)) : exec cf (.par ts es) env s = some (.nx env1, s2) := by rw [exec, h]; simp only [hn, if_true, hs]
theorem evr_nil' : evr cf .nil env s = some ([], s) := by rw [evr]
theorem evr_cons' {es : Xs} {ds : List (List Nat × D × Nat)} (h : ev cf e env s = some (.dat d o, s1)) (h2 : evr cf es env s1 = some (ds, s2)) : evr cf (.cons false e es) env s = some ((al e, d, o) :: ds, s2) := by rw [evr, h, bD_some, h2]
theorem sts_nil : stores cf .nil [] env s = some (env, s) := by rw [stores]
theorem sts_nm {i : Nat} {ts : Ts} {xs : List (List Nat × D × Nat)} {l : List Nat} {r : Option (Env × Src)} (hk : kept env l d = env1) (h : stores cf ts xs (env1.set i (some (.dat d o))) s = r) : stores cf (.cons (.nm i) ts) ((l, d, o) :: xs) env s = r := by subst hk; rw [stores, store]; exact h
theorem sts_sb {i : Nat} {ts : Ts} {xs : List (List Nat × D × Nat)} {l : List Nat} {r : Option (Env × Src)} (hk : ev cf k env s = some (.dat d1 o1, s1)) (hp : putD (kept env l d) i d1 d o = some env1) (h : stores cf ts xs env1 s1 = r) : stores cf (.cons (.sb i k) ts) ((l, d, o) :: xs) env s = r := by rw [stores, store, hk, bD_some, hp]; exact h
theorem x_pop {t : T} {i : Nat} {xs : List D} (hg : getv env i = some (.dat (.list xs) 1)) (hl : xs.getLast? = some d) (hb : bindT t d (env.set i (some (.dat (.list xs.dropLast) 1))) = some env1) : exec cf (.pop t i) env s = some (.nx env1, s) := by rw [exec, hg]; simp only [hl, hb]
theorem x_append {i : Nat} {xs : List D} (h : ev cf e env s = some (.dat d o, s1)) (hk : kept env (al e) d = env1) (hg : getv env1 i = some (.dat (.list xs) 1)) (hl : xs.length < LIM) : exec cf (.mut .append i e) env s = some (.nx (env1.set i (some (.dat (.list (xs ++ [d])) 1))), s1) := by subst hk; rw [exec, h, bD_some, hg]; exact if_pos hl
theorem x_extend {i : Nat} {xs ys : List D} (h : ev cf e env s = some (.dat (.list ys) o, s1)) (hk : kept env (al e) (.list ys) = env1) (hg : getv env1 i = some (.dat (.list xs) 1)) (hl : xs.length + ys.length ≤ LIM) : exec cf (.mut .extend i e) env s = some (.nx (env1.set i (some (.dat (.list (xs ++ ys)) 1))), s1) := by subst hk; rw [exec, h, bD_some, hg]; exact if_pos hl
theorem x_popKey {i : Nat} {kvs : List (D × D)} (h : ev cf e env s = some (.dat d o, s1)) (hk : kept env (al e) d = env1) (hg : getv env1 i = some (.dat (.dict kvs) 1)) (hl : (goes kvs d && dhas kvs d) = true) : exec cf (.mut .popKey i e) env s = some (.nx (env1.set i (some (.dat (.dict (dout kvs d)) 1))), s1) := by subst hk; rw [exec, h, bD_some, hg]; exact if_pos hl
theorem x_ite_t {c : X} {x y : Ss} (hc : ev cf c env s = some (.dat d1 o1, s1)) (ht : truth d1 = some true) (h : execs cf x env s1 = res) : exec cf (.ite c x y) env s = res := by rw [exec, hc, bD_some, ht]; exact h
theorem x_ite_f {c : X} {x y : Ss} (hc : ev cf c env s = some (.dat d1 o1, s1)) (ht : truth d1 = some false) (h : execs cf y env s1 = res) : exec cf (.ite c x y) env s = res := by rw [exec, hc, bD_some, ht]; exact h
theorem x_retv {i : Nat} (h : getv env i = some (.dat d o)) : exec cf (.ret (.v i)) env s = some (.rt (.dat d o), s) := by rw [exec]; simp only [h]
theorem x_ret {x : Slot} (hv : (match e with | .v _ => false | _ => true) = true) (h : ev cf e env s = some (x, s1)) : exec cf (.ret e) env s = some (.rt x, s1) := by
  unfold exec
  split
  · cases hv
  · rw [h]
theorem x_retn : exec cf .retn env s = some (.rt (.dat .none 0), s) := by rw [exec]
/-- a while's test and turn -/
def whT (cf : CF) (c : X) : Env → Src → Option (Bool × Src) := fun e s' => bD (ev cf c e s') fun d _ s2 => match truth d with
      | some t => some (t, s2)
      | none => none
def whB (cf : CF) (b : Ss) (ws : List Nat) : Env → Src → RS := fun e s' => (execs cf b e s').map fun p => (wipeF ws p.1, p.2)
theorem x_wh {c : X} {b : Ss} {ws : List Nat} (h : whL (whT cf c) (whB cf b ws) (wipe env ws) s = res) : exec cf (.wh c b ws) env s = res := by rw [exec]; exact h
theorem whT_of {c : X} {t : Bool} (h : ev cf c env s = some (.dat d o, s1)) (ht : truth d = some t) : whT cf c env s = some (t, s1) := by unfold whT; rw [h, bD_some, ht]
theorem whB_of {b : Ss} {ws : List Nat} (h : execs cf b env s = some (fl, s1)) : whB cf b ws env s = some (wipeF ws fl, s1) := by unfold whB; rw [h]; rfl
def foB (cf : CF) (t : T) (b : Ss) (ws : List Nat) : D → Env → Src → RS := fun d e s' => match bindT t d e with
        | some e1 => (execs cf b e1 s').map fun p => (wipeF ws p.1, p.2)
        | none => none
theorem x_for {t : T} {it : It} {b : Ss} {ws : List Nat} {ds : List D} (h : evi cf it env s = some (ds, s1)) (hk : kept env (alI it) (.list ds) = env1) (h2 : forL (foB cf t b ws) ds (wipe env1 ws) s1 = res) : exec cf (.for t it b ws) env s = res := by subst hk; rw [exec, h]; exact h2
theorem foB_of {t : T} {b : Ss} {ws : List Nat} (hb : bindT t d env = some env1) (h : execs cf b env1 s = some (fl, s1)) : foB cf t b ws d env s = some (wipeF ws fl, s1) := by unfold foB; rw [hb]; show Option.map _ (execs cf b env1 s) = _; rw [h]; rfl
theorem x_brk : exec cf .brk env s = some (.bk env, s) := by rw [exec]
theorem x_cont : exec cf .cont env s = some (.ct env, s) := by rw [exec]
theorem putD_cells {i : Nat} {l : List Cell} {c : Cell} {x : D} (hg : getv env i = some (.dat (.dict (kvC (fun _ => x) l)) 1)) (hl : l.length < LIM) : putD env i (cD c) x o = some (env.set i (some (.dat (.dict (kvC (fun _ => x) (insC l c))) 1))) := by
  unfold putD
  rw [hg]
  simp only []
  rw [dput_kvC, goes_kvC]
  have h : (kvC (fun _ => x) (insC l c)).length ≤ LIM := by
    have := len_insC (l := l) (a := c)
    unfold kvC
    rw [List.length_map]
    omega
  rw [decide_eq_true h]
  rfl
theorem x_popCells {t : T} {i : Nat} {l : List Cell} {c : Cell} (hg : getv env i = some (.dat (.list ((l ++ [c]).map cD)) 1)) (hb : bindT t (cD c) (env.set i (some (.dat (.list (l.map cD)) 1))) = some env1) : exec cf (.pop t i) env s = some (.nx env1, s) := by
  rw [List.map_append] at hg
  apply x_pop hg
  · exact List.getLast?_concat
  · rw [show (List.map cD l ++ List.map cD [c]).dropLast = l.map cD from List.dropLast_concat]
    exact hb
theorem x_appCells {i : Nat} {l : List Cell} {c : Cell} (h : ev cf e env s = some (.dat (cD c) o, s1)) (hg : getv env i = some (.dat (.list (l.map cD)) 1)) (hl : l.length < LIM) : exec cf (.mut .append i e) env s = some (.nx (env.set i (some (.dat (.list ((l ++ [c]).map cD)) 1))), s1) := by
  have := x_append (cf := cf) (i := i) h (kept_imm (imm_cD c)) hg (by rw [List.length_map]; exact hl)
  rw [this, List.map_append]
  rfl
theorem bi_sorted_dict (f : Cell → D) (l : List Cell) : biD .sorted [.dict (kvC f l)] = some (.list ((sortC l).map cD), 1) := by
  show ((some ((kvC f l).map (·.1))).bind fun ds => (sortD ds).map fun es => (PyData.list es, 1)) = _
  have e : (kvC f l).map (·.1) = l.map cD := by unfold kvC; rw [List.map_map]; rfl
  rw [e]
  show (sortD (l.map cD)).map _ = _
  rw [sortD_cells]
  rfl
theorem bi_sorted_list (l : List Cell) : biD .sorted [.list (l.map cD)] = some (.list ((sortC l).map cD), 1) := by
  show (sortD (l.map cD)).map _ = _
  rw [sortD_cells]
  rfl
theorem bi_sorted_tup (l : List Cell) : biD .sorted [.tuple (l.map cD)] = some (.list ((sortC l).map cD), 1) := bi_sorted_list l
theorem bi_list_dict (f : Cell → D) (l : List Cell) : biD .list [.dict (kvC f l)] = some (.list (l.map cD), 1) := by
  show some (PyData.list ((kvC f l).map (·.1)), 1) = _
  have e : (kvC f l).map (·.1) = l.map cD := by unfold kvC; rw [List.map_map]; rfl
  rw [e]
theorem items_dict (f : Cell → D) (l : List Cell) : itemsOf (.dict (kvC f l)) = some (l.map cD) := by
  show some ((kvC f l).map (·.1)) = _
  have e : (kvC f l).map (·.1) = l.map cD := by unfold kvC; rw [List.map_map]; rfl
  rw [e]
theorem bi_len_dict (f : Cell → D) (l : List Cell) : biD .len [.dict (kvC f l)] = some (.int l.length, 0) := by
  show some (PyData.int ((kvC f l).length : Nat), 0) = _
  rw [show (kvC f l).length = l.length from List.length_map _]
theorem bi_len_list (l : List Cell) : biD .len [.list (l.map cD)] = some (.int l.length, 0) := by
  show some (PyData.int ((l.map cD).length : Nat), 0) = _
  rw [List.length_map]
theorem bi_len_tup (l : List Cell) : biD .len [.tuple (l.map cD)] = some (.int l.length, 0) := bi_len_list l
theorem fmap_some {α β : Type} (g : α → β) (l : List α) : (l.filterMap fun c => some (g c)) = l.map g := by
  induction l with
  | nil => rfl
  | cons c l ih => rw [List.filterMap_cons, List.map_cons, ← ih]
/-- {c: v for c in l} -/
theorem ev_dcCells {v : X} {x : D} {it : It} {i : Nat} {l : List Cell} (hi : evi cf it env s = some (l.map cD, s)) (hl : l.length ≤ LIM) (hlen : i < env.length) (hv : ∀ c s, ev cf v ((wipe (flat env) [i]).set i (some (.dat (cD c) 0))) s = some (.dat x 0, s)) : ev cf (.dc false (.v i) v (.nm i) it .nil [i]) env s = some (.dat (.dict (kvC (fun _ => x) (insAll [] l))) 1, s) := by
  have gl : ∀ c, getv ((wipe (flat env) [i]).set i (some (.dat (cD c) 0))) i = some (.dat (cD c) 0) := fun c => by
    unfold getv wipe wipe flat
    rw [List.getElem?_set_self (by simpa using hlen)]
    rfl
  have h2 : lcRun (dcStep cf false (.v i) v (.nm i) .nil [i] env) (l.map cD) s = some ((l.filterMap fun c => some (PyData.tuple [cD c, x])), s) :=
    lcRun_map cD _ fun c _ => by
      apply dcStep_t
      · rfl
      · exact tests_nil
      · exact ev_v (gl c)
      · exact hv c s
      · rfl
  have e : (l.filterMap fun c => some (PyData.tuple [cD c, x])) = l.map fun c => PyData.tuple [cD c, x] := fmap_some _ _
  rw [e] at h2
  exact ev_dc hi h2 (dputsT_cells x l hl)
theorem ev_dlcCells {v : X} {x : D} {it : It} {i : Nat} {l : List Cell} (hi : evi cf it env s = some (l.map cD, s)) (hl : l.length ≤ LIM) (hlen : i < env.length) (hv : ∀ c s, ev cf v ((wipe (flat env) [i]).set i (some (.dat (cD c) 0))) s = some (.dat x 0, s)) : ev cf (.dlc false (.v i) v (.nm i) it .nil [i]) env s = some (.dat (.dict (kvC (fun _ => x) (insAll [] l))) 1, s) := by
  have gl : ∀ c, getv ((wipe (flat env) [i]).set i (some (.dat (cD c) 0))) i = some (.dat (cD c) 0) := fun c => by
    unfold getv wipe wipe flat
    rw [List.getElem?_set_self (by simpa using hlen)]
    rfl
  have h2 : lcRun (dcStep cf false (.v i) v (.nm i) .nil [i] env) (l.map cD) s = some ((l.filterMap fun c => some (PyData.tuple [cD c, x])), s) :=
    lcRun_map cD _ fun c _ => by
      apply dcStep_t
      · rfl
      · exact tests_nil
      · exact ev_v (gl c)
      · exact hv c s
      · rfl
  have e : (l.filterMap fun c => some (PyData.tuple [cD c, x])) = l.map fun c => PyData.tuple [cD c, x] := fmap_some _ _
  rw [e] at h2
  exact ev_dlc hi h2 (dputsT_cells x l hl)
theorem ev_dlcCellsF {v : X} {f : Cell → D} {it : It} {i : Nat} {l : List Cell} (hi : evi cf it env s = some (l.map cD, s)) (hl : l.length ≤ LIM) (hlen : i < env.length) (hv : ∀ c ∈ l, ∀ s, ∃ o, ev cf v ((wipe (flat env) [i]).set i (some (.dat (cD c) 0))) s = some (.dat (f c) o, s)) : ev cf (.dlc false (.v i) v (.nm i) it .nil [i]) env s = some (.dat (.dict (kvC f (insAll [] l))) 1, s) := by
  have gl : ∀ c, getv ((wipe (flat env) [i]).set i (some (.dat (cD c) 0))) i = some (.dat (cD c) 0) := fun c => by
    unfold getv wipe wipe flat
    rw [List.getElem?_set_self (by simpa using hlen)]
    rfl
  have h2 : lcRun (dcStep cf false (.v i) v (.nm i) .nil [i] env) (l.map cD) s = some ((l.filterMap fun c => some (PyData.tuple [cD c, f c])), s) :=
    lcRun_map cD _ fun c hc => by
      obtain ⟨o, ho⟩ := hv c hc s
      apply dcStep_t
      · rfl
      · exact tests_nil
      · exact ev_v (gl c)
      · exact ho
      · rfl
  rw [fmap_some] at h2
  exact ev_dlc hi h2 (dputsT_cellsF f l hl)
/-- [c for c in l if p c] -/
theorem ev_lcFilter {p : X} {it : It} {i : Nat} {l : List Cell} {q : Cell → Bool} (hi : evi cf it env s = some (l.map cD, s)) (hlen : i < env.length) (hp : ∀ c ∈ l, ∀ s, ∃ o, ev cf p ((wipe (flat env) [i]).set i (some (.dat (cD c) 0))) s = some (.dat (.bool (q c)) o, s)) : ev cf (.lc (.v i) (.nm i) it (.cons false p .nil) [i]) env s = some (.dat (.list ((l.filter q).map cD)) 1, s) := by
  have gl : ∀ c, getv ((wipe (flat env) [i]).set i (some (.dat (cD c) 0))) i = some (.dat (cD c) 0) := fun c => by
    unfold getv wipe wipe flat
    rw [List.getElem?_set_self (by simpa using hlen)]
    rfl
  have h2 : lcRun (lcStep cf (.v i) (.nm i) (.cons false p .nil) [i] env) (l.map cD) s = some ((l.filterMap fun c => if q c then some (cD c) else none), s) :=
    lcRun_map cD _ fun c hc => by
      obtain ⟨o, ho⟩ := hp c hc s
      by_cases h : q c
      · rw [if_pos h]
        rw [h] at ho
        exact lcStep_t rfl (tests_one ho rfl) (ev_v (gl c))
      · rw [if_neg h]
        have h' : q c = false := by simpa using h
        rw [h'] at ho
        exact lcStep_f rfl (tests_one ho rfl)
  have e : (l.filterMap fun c => if q c then some (cD c) else none) = (l.filter q).map cD := by
    clear h2 hp hi
    induction l with
    | nil => rfl
    | cons c l ih =>
      rw [List.filterMap_cons, List.filter_cons]
      by_cases h : q c
      · simp only [h, if_true, List.map_cons]; rw [ih]
      · simp only [h, if_false]; exact ih
  rw [e] at h2
  exact ev_lc hi h2
/-- [g c for c in l] -/
theorem ev_lcMap {α : Type} (emb : α → D) {e : X} {t : T} {it : It} {own : List Nat} {l : List α} (g : α → D) (envf : α → Env) (hi : evi cf it env s = some (l.map emb, s)) (hb : ∀ c ∈ l, bindT t (emb c) (wipe (flat env) own) = some (envf c)) (hg : ∀ c ∈ l, ∀ s, ∃ o, ev cf e (envf c) s = some (.dat (g c) o, s)) : ev cf (.lc e t it .nil own) env s = some (.dat (.list (l.map g)) 1, s) := by
  have h2 : lcRun (lcStep cf e t .nil own env) (l.map emb) s = some ((l.filterMap fun c => some (g c)), s) :=
    lcRun_map emb _ fun c hc => by
      obtain ⟨o, ho⟩ := hg c hc s
      exact lcStep_t (hb c hc) tests_nil ho
  have e : (l.filterMap fun c => some (g c)) = l.map g := fmap_some _ _
  rw [e] at h2
  exact ev_lc hi h2
theorem lcRun_t {step : D → Src → Option (Option D × Src)} {x : D} {xs rs : List D} (h : step x s = some (some r, s1)) (h2 : lcRun step xs s1 = some (rs, s2)) : lcRun step (x :: xs) s = some (r :: rs, s2) := by rw [lcRun, h]; simp only [h2]
theorem lcRun_f {step : D → Src → Option (Option D × Src)} {x : D} {xs rs : List D} (h : step x s = some (none, s1)) (h2 : lcRun step xs s1 = some (rs, s2)) : lcRun step (x :: xs) s = some (rs, s2) := by rw [lcRun, h]; simp only [h2]
theorem lcRun_nil' {step : D → Src → Option (Option D × Src)} : lcRun step [] s = some ([], s) := rfl
/-- {c: v for part in it for c in part} -/
theorem ev_dc2Cells {α : Type} (emb : α → D) {v : X} {x : D} {it it1 : It} {i j : Nat} {own : List Nat} {l : List α} (g : α → List Cell) (envf : α → Env) (hi : evi cf it env s = some (l.map emb, s)) (hb : ∀ a ∈ l, bindT (.nm j) (emb a) (wipe (flat env) own) = some (envf a))
    (hi1 : ∀ a ∈ l, evi cf it1 (envf a) s = some ((g a).map cD, s)) (hlen : ∀ a ∈ l, i < (envf a).length) (hv : ∀ a ∈ l, ∀ c, ev cf v ((wipe (flat (envf a)) [i]).set i (some (.dat (cD c) 0))) s = some (.dat x 0, s)) (him : imm x = true) (hl : (l.flatMap g).length ≤ LIM) :
    ev cf (.dc2 (.v i) v (.nm j) it (.nm i) it1 own [i]) env s = some (.dat (.dict (kvC (fun _ => x) (insAll [] (l.flatMap g)))) 1, s) := by
  have h2 : lc2Run (dc2S cf (.v i) v (.nm j) (.nm i) it1 own [i] env) (l.map emb) s = some (l.flatMap (fun a => (g a).map fun c => PyData.tuple [cD c, x]), s) :=
    lc2Run_map emb _ fun a ha => by
      apply dc2S_t (hb a ha) (hi1 a ha)
      have h3 : lcRun (dc3 cf (.v i) v (.nm i) [i] (envf a)) ((g a).map cD) s = some (((g a).filterMap fun c => some (PyData.tuple [cD c, x])), s) :=
        lcRun_map cD _ fun c _ => by
          apply dc3_t
          · rfl
          · apply ev_v (o := 0)
            unfold getv wipe wipe flat
            rw [List.getElem?_set_self (by simpa using hlen a ha)]
            rfl
          · exact hv a ha c
          · rw [imm_cD, him]; rfl
      rw [fmap_some] at h3
      exact h3
  have e : (l.flatMap (fun a => (g a).map fun c => PyData.tuple [cD c, x])) = (l.flatMap g).map fun c => PyData.tuple [cD c, x] := by rw [List.map_flatMap]
  rw [e] at h2
  exact ev_dc2 hi h2 (dputsT_cells x _ hl)
theorem cmp_lt_int (i j : Int) : cmpD .Lt (.int i) (.int j) = some (decide (i < j)) := by
  show (if ordOk (.int i) (.int j) then some (PySem.W.dataLt (.int i) (.int j)) else none) = _
  rw [show ordOk (.int i) (.int j) = true from rfl, if_pos rfl, PySem.W.dataLt_int]
theorem cmp_gt_int (i j : Int) : cmpD .Gt (.int i) (.int j) = some (decide (j < i)) := by
  show (if ordOk (.int i) (.int j) then some (PySem.W.dataLt (.int j) (.int i)) else none) = _
  rw [show ordOk (.int i) (.int j) = true from rfl, if_pos rfl, PySem.W.dataLt_int]
theorem cmp_le_int (i j : Int) : cmpD .LtE (.int i) (.int j) = some (!decide (j < i)) := by
  show (if ordOk (.int i) (.int j) then some (!PySem.W.dataLt (.int j) (.int i)) else none) = _
  rw [show ordOk (.int i) (.int j) = true from rfl, if_pos rfl, PySem.W.dataLt_int]
theorem cmp_ge_int (i j : Int) : cmpD .GtE (.int i) (.int j) = some (!decide (i < j)) := by
  show (if ordOk (.int i) (.int j) then some (!PySem.W.dataLt (.int i) (.int j)) else none) = _
  rw [show ordOk (.int i) (.int j) = true from rfl, if_pos rfl, PySem.W.dataLt_int]
theorem cmp_eq_int (i j : Int) : cmpD .Eq (.int i) (.int j) = some (decide (i = j)) := by
  show (if eqOk (.int i) (.int j) then some (PyData.eqv (.int i) (.int j)) else none) = _
  rw [show eqOk (.int i) (.int j) = true from rfl, if_pos rfl, PyData.eqv]
  rfl
theorem cmp_ne_int (i j : Int) : cmpD .NotEq (.int i) (.int j) = some (!decide (i = j)) := by
  show (if eqOk (.int i) (.int j) then some (!PyData.eqv (.int i) (.int j)) else none) = _
  rw [show eqOk (.int i) (.int j) = true from rfl, if_pos rfl, PyData.eqv]
  rfl
theorem forL_nx {body : D → Env → Src → RS} {x : D} {xs : List D} {res : RS} (h : body x env s = some (.nx env1, s1)) (h2 : forL body xs env1 s1 = res) : forL body (x :: xs) env s = res := by rw [forL, h]; exact h2
theorem forL_nil' {body : D → Env → Src → RS} : forL body [] env s = some (.nx env, s) := rfl
theorem forL_rt {body : D → Env → Src → RS} {x : D} {xs : List D} {r : Slot} (h : body x env s = some (.rt r, s1)) : forL body (x :: xs) env s = some (.rt r, s1) := by rw [forL, h]
theorem run_def {Pt : Nat → Option Def} {n f : Nat} {df : Def} {vs : List Slot} {x : Slot} (hf : 2 ≤ f) (hp : Pt f = some df) (hl : vs.length = df.np) (h : execs (callN Pt n) df.body (enter df vs) s = some (.rt x, s1)) : callN Pt (n + 1) f vs s = some (x, s1) := by
  rw [callN.eq_def]
  simp only [if_neg (show ¬ f = 0 by omega), if_neg (show ¬ f = 1 by omega), hp]
  show runDef (callN Pt n) df vs s = _
  unfold runDef
  rw [if_pos hl, h]
end
end N
/-! S3. Fields. -/
namespace N
open PySem
local macro_rules | `(tactic| bv_omega) => `(tactic| repeat' (first
  | (with_reducible show ev _ _ _ _ = _); first
      | with_reducible exact ev_k | with_reducible apply ev_cmp | with_reducible apply ev_bin | with_reducible apply ev_tup | with_reducible apply ev_lst | with_reducible apply ev_dic | with_reducible apply ev_sub | with_reducible apply ev_andb | with_reducible apply ev_orb
      | with_reducible apply ev_nt | with_reducible apply ev_neg | with_reducible apply ev_sl | with_reducible apply ev_rev | with_reducible apply ev_bi | with_reducible apply ev_me
      | exact ev_v rfl | exact ev_src rfl | assumption
  | (with_reducible show evs _ _ _ _ = _); first | with_reducible exact evs_nil | with_reducible apply evs_cons
  | (with_reducible show evc _ _ _ _ = _); first | with_reducible exact evc_nil | with_reducible apply evc_cons
  | (with_reducible show evo _ _ _ _ = _); first | with_reducible exact evo_nil | with_reducible apply evo_one
  | (with_reducible show evp _ _ _ _ = _); first | with_reducible exact evp_nil | with_reducible apply evp_cons
  | (with_reducible show evr _ _ _ _ = _); first | with_reducible exact evr_nil' | with_reducible apply evr_cons'
  | (with_reducible show tests _ _ _ _ = _); first | with_reducible exact tests_nil | with_reducible apply tests_one
  | (with_reducible show evi _ _ _ _ = _); first | with_reducible apply evi_e
  | (with_reducible show cmpD _ _ _ = _); first | exact in_dict _ _ _ | exact nin_dict _ _ _ | exact in_lst _ _ | exact in_tup _ _ | exact nin_lst _ _ | exact nin_tup _ _
      | exact cmp_eq_cD _ _ | exact cmp_ne_cD _ _ | exact cmp_lt_int _ _ | exact cmp_gt_int _ _ | exact cmp_le_int _ _ | exact cmp_ge_int _ _ | exact cmp_eq_int _ _ | exact cmp_ne_int _ _ | exact cmp_eq_tup _ _ | exact cmp_ne_tup _ _ | exact cmp_eq_lst _ _ | exact cmp_ne_lst _ _ | exact cmp_eq_tup0 _ | exact cmp_ne_tup0 _ | exact cmp_eq_lst0 _ | exact cmp_ne_lst0 _ | rfl
  | (with_reducible show biD _ _ = _); first | exact bi_len_list _ | exact bi_len_tup _ | exact bi_len_dict _ _ | exact bi_sorted_list _ | exact bi_sorted_tup _ | exact bi_sorted_dict _ _ | exact bi_list_dict _ _ | rfl
  | (with_reducible show itemsOf _ = _); first | exact items_dict _ _ | rfl
  | (with_reducible show kept _ _ _ = _); first | exact kept_tup | rfl
  | (with_reducible show stores _ _ _ _ _ = _); first | with_reducible exact sts_nil | with_reducible apply sts_nm | with_reducible apply sts_sb
  | (with_reducible show exec _ _ _ _ = _); first | with_reducible apply x_asg | with_reducible apply x_asgT | with_reducible apply x_asgB | with_reducible apply x_par | with_reducible apply x_pop | with_reducible apply x_append | with_reducible apply x_extend | with_reducible apply x_popKey | with_reducible exact x_retn
  | with_reducible exact xs_nil | rfl | (intro _) | decide | (simp only [List.length_cons, List.length_nil]; decide)))

def tt : Cell → D := fun _ => .bool true
def z0 : Cell → D := fun _ => .int 0
def addC (a m : Cell) : Cell := (a.1 + m.1, a.2 + m.2)
/-- reached from a by the moves mv within I -/
inductive Rch (I mv : List Cell) (a : Cell) : Cell → Prop
  | refl : Rch I mv a a
  | step {b m : Cell} : Rch I mv a b → m ∈ mv → addC b m ∈ I → Rch I mv a (addC b m)
theorem Rch.mem {I mv : List Cell} {a x : Cell} (h : Rch I mv a x) : x = a ∨ x ∈ I := by
  cases h with
  | refl => exact .inl rfl
  | step _ _ h => exact .inr h
/-- one look around -/
def lookF (I : List Cell) (b : Cell) (p : List Cell × List Cell) (m : Cell) : List Cell × List Cell := if addC b m ∈ I ∧ ¬ addC b m ∈ p.1 then (p.1 ++ [addC b m], p.2 ++ [addC b m]) else p
theorem nodup_sub_len : ∀ {l m : List Cell}, l.Nodup → (∀ x ∈ l, x ∈ m) → l.length ≤ m.length
  | [], _, _, _ => Nat.zero_le _
  | a :: l, m, h, hs => by
    have hm := hs a (by simp)
    have h' := List.nodup_cons.mp h
    have := nodup_sub_len (l := l) (m := m.erase a) h'.2 fun x hx => by
      rw [List.mem_erase_of_ne (fun e => h'.1 (by rw [← e]; exact hx))]
      exact hs x (List.mem_cons_of_mem _ hx)
    rw [List.length_erase_of_mem hm] at this
    have : 0 < m.length := List.length_pos_of_mem hm
    rw [List.length_cons]
    omega
structure FldI (I mv : List Cell) (a : Cell) (F R : List Cell) : Prop where
  nd : F.Nodup
  st : a ∈ F
  sub : ∀ x ∈ R, x ∈ F
  rch : ∀ x ∈ F, Rch I mv a x
  cl : ∀ x ∈ F, ¬ x ∈ R → ∀ m ∈ mv, addC x m ∈ I → addC x m ∈ F
theorem FldI.len {I mv : List Cell} {a : Cell} {F R : List Cell} (h : FldI I mv a F R) : F.length ≤ I.length + 1 := by
  have := nodup_sub_len (m := a :: I) h.nd fun x hx => by
    rcases (h.rch x hx).mem with rfl | h
    · simp
    · simp [h]
  simpa using this
structure LookI (I : List Cell) (b : Cell) (F R : List Cell) (done : List Cell) (p : List Cell × List Cell) : Prop where
  ex : ∃ N, p = (F ++ N, R ++ N) ∧ (F ++ N).Nodup ∧ ∀ x ∈ N, ∃ m ∈ done, x = addC b m ∧ addC b m ∈ I
  cl : ∀ m ∈ done, addC b m ∈ I → addC b m ∈ p.1
theorem look_step {I : List Cell} {b m : Cell} {F R done : List Cell} {p : List Cell × List Cell} (h : LookI I b F R done p) : LookI I b F R (done ++ [m]) (lookF I b p m) := by
  obtain ⟨⟨N, rfl, nd, hN⟩, cl⟩ := h
  unfold lookF
  split
  · rename_i hc
    refine ⟨⟨N ++ [addC b m], by simp, ?_, fun x hx => ?_⟩, fun m' hm' hI => ?_⟩
    · rw [← List.append_assoc, List.nodup_append]
      refine ⟨nd, by simp, fun x hx y hy => ?_⟩
      rw [List.mem_singleton] at hy
      subst hy
      rintro rfl
      exact hc.2 hx
    · rcases List.mem_append.mp hx with hx | hx
      · obtain ⟨m', h1, h2⟩ := hN x hx
        exact ⟨m', by simp [h1], h2⟩
      · rw [List.mem_singleton] at hx
        exact ⟨m, by simp, hx, hc.1⟩
    · rcases List.mem_append.mp hm' with hm' | hm'
      · exact List.mem_append_left _ (cl m' hm' hI)
      · rw [List.mem_singleton] at hm'
        subst hm'
        simp
  · rename_i hc
    refine ⟨⟨N, rfl, nd, fun x hx => ?_⟩, fun m' hm' hI => ?_⟩
    · obtain ⟨m', h1, h2⟩ := hN x hx
      exact ⟨m', by simp [h1], h2⟩
    · rcases List.mem_append.mp hm' with hm' | hm'
      · exact cl m' hm' hI
      · rw [List.mem_singleton] at hm'
        subst hm'
        by_cases h : addC b m' ∈ F ++ N
        · exact h
        · exact absurd ⟨hI, h⟩ hc
theorem look_all {I : List Cell} {b : Cell} {F R : List Cell} (nd : F.Nodup) : ∀ (mv : List Cell), LookI I b F R mv (mv.foldl (lookF I b) (F, R)) := by
  have key : ∀ (mv done : List Cell) (p : List Cell × List Cell), LookI I b F R done p → LookI I b F R (done ++ mv) (mv.foldl (lookF I b) p) := by
    intro mv
    induction mv with
    | nil => intro done p h; simpa using h
    | cons m mv ih =>
      intro done p h
      have := ih (done ++ [m]) _ (look_step h)
      simpa using this
  intro mv
  exact key mv [] (F, R) ⟨⟨[], by simp, by simpa using nd, fun x hx => by simp at hx⟩, fun m hm => by simp at hm⟩
theorem fld_turn {I mv : List Cell} {a b : Cell} {F R : List Cell} (h : FldI I mv a F (R ++ [b])) : FldI I mv a (mv.foldl (lookF I b) (F, R)).1 (mv.foldl (lookF I b) (F, R)).2 ∧ 2 * (I.length + 1 - (mv.foldl (lookF I b) (F, R)).1.length) + (mv.foldl (lookF I b) (F, R)).2.length < 2 * (I.length + 1 - F.length) + (R ++ [b]).length := by
  obtain ⟨⟨N, e, nd, hN⟩, cl⟩ := look_all (I := I) (b := b) (F := F) (R := R) h.nd mv
  rw [e] at cl ⊢
  have hb : b ∈ F := h.sub b (by simp)
  have hI : FldI I mv a (F ++ N) (R ++ N) := by
    refine ⟨nd, List.mem_append_left _ h.st, fun x hx => ?_, fun x hx => ?_, fun x hx hn m hm hi => ?_⟩
    · rcases List.mem_append.mp hx with hx | hx
      · exact List.mem_append_left _ (h.sub x (by simp [hx]))
      · exact List.mem_append_right _ hx
    · rcases List.mem_append.mp hx with hx | hx
      · exact h.rch x hx
      · obtain ⟨m, hm, rfl, hi⟩ := hN x hx
        exact .step (h.rch b hb) hm hi
    · rcases List.mem_append.mp hx with hx | hx
      · by_cases hxb : x = b
        · subst hxb
          exact cl m hm hi
        · exact List.mem_append_left _ (h.cl x hx (by
            intro z
            rcases List.mem_append.mp z with z | z
            · exact hn (List.mem_append_left _ z)
            · rw [List.mem_singleton] at z; exact hxb z) m hm hi)
      · exact absurd (List.mem_append_right _ hx) hn
  refine ⟨hI, ?_⟩
  have h1 := hI.len
  have h2 := h.len
  simp only [List.length_append, List.length_singleton] at *
  omega
theorem fld_done {I mv : List Cell} {a : Cell} {F : List Cell} (h : FldI I mv a F []) (x : Cell) : x ∈ F ↔ Rch I mv a x := by
  refine ⟨h.rch x, fun r => ?_⟩
  induction r with
  | refl => exact h.st
  | step _ hm hi ih => exact h.cl _ ih (by simp) _ hm hi
theorem fld_start {I mv : List Cell} {a : Cell} : FldI I mv a [a] [a] := ⟨by simp, by simp, fun x hx => hx, fun x hx => by rw [List.mem_singleton] at hx; subst hx; exact .refl, fun x hx hn => absurd hx hn⟩

/-! ### corner_field -/
theorem moves_spec (k : Nat) (s : Src) : callN Pt (k + 1) 2 [] s = some (.dat (.dict [(.str "r", .tuple [.int 1, .int 0]), (.str "l", .tuple [.int (-1), .int 0]), (.str "u", .tuple [.int 0, .int 1]), (.str "d", .tuple [.int 0, .int (-1)])]) 1, s) := rfl
def E1 (inner : List Cell) (stall : Cell) (signs : Str) (x y : Option Slot) (p : List Cell × List Cell) : Env := [some (.dat (.dict (kvC tt inner)) 0), some (.dat (cD stall) 0), some (.dat (.str signs) 0), some (.dat (.dict (kvC tt p.1)) 1), some (.dat (.list (p.2.map cD)) 1), x, y, none, none, none, none]
/-- what holds in the inner turns -/
structure FldB (I : List Cell) (a : Cell) (p : List Cell × List Cell) : Prop where
  nd : p.1.Nodup
  sub : ∀ x ∈ p.1, x = a ∨ x ∈ I
  le : p.2.length + 2 * (I.length + 1 - p.1.length) ≤ 2 * I.length + 2
theorem FldB.len {I : List Cell} {a : Cell} {p : List Cell × List Cell} (h : FldB I a p) : p.1.length ≤ I.length + 1 := by
  have := nodup_sub_len (m := a :: I) h.nd fun x hx => by rcases h.sub x hx with rfl | h <;> simp [*]
  simpa using this
theorem FldB.look {I : List Cell} {a b m : Cell} {p : List Cell × List Cell} (h : FldB I a p) : FldB I a (lookF I b p m) := by
  unfold lookF
  split
  · rename_i hc
    have nd : (p.1 ++ [addC b m]).Nodup := by
      rw [List.nodup_append]
      refine ⟨h.nd, by simp, fun x hx y hy => ?_⟩
      rw [List.mem_singleton] at hy
      subst hy
      rintro rfl
      exact hc.2 hx
    have sub : ∀ x ∈ p.1 ++ [addC b m], x = a ∨ x ∈ I := fun x hx => by
      rcases List.mem_append.mp hx with hx | hx
      · exact h.sub x hx
      · rw [List.mem_singleton] at hx
        subst hx
        exact .inr hc.1
    refine ⟨nd, sub, ?_⟩
    have h1 := h.le
    have h2 := nodup_sub_len (m := a :: I) nd fun x hx => by rcases sub x hx with rfl | h <;> simp [*]
    simp only [List.length_append, List.length_cons, List.length_nil] at *
    omega
  · exact h
theorem cf_turn (k : Nat) (inner : List Cell) (stall : Cell) (signs : Str) (b : Cell) (m : Cell) (p : List Cell × List Cell) (s : Src) (hF : p.1.length ≤ 3000) (hR : p.2.length ≤ 3000) :
   foB (callN Pt k) (.tp (.cons (.nm 7) (.cons (.nm 8) .nil))) b_corner_field_l2 [7, 8, 10] (cD m) (E1 inner stall signs (some (.dat (.int b.1) 0)) (some (.dat (.int b.2) 0)) p) s = some (.nx (E1 inner stall signs (some (.dat (.int b.1) 0)) (some (.dat (.int b.2) 0)) (lookF inner b p m)), s) := by
  have lim : (3000 : Nat) < LIM := by decide
  have test : ev (callN Pt k) (.and (.cmp .In (.v 10) (.v 0)) (.cmp .NotIn (.v 10) (.v 3))) ((E1 inner stall signs (some (.dat (.int b.1) 0)) (some (.dat (.int b.2) 0)) p).set 7 (some (.dat (.int m.1) 0)) |>.set 8 (some (.dat (.int m.2) 0)) |>.set 10 (some (.dat (cD (addC b m)) 0))) s = some (.dat (.bool (decide (addC b m ∈ inner) && !decide (addC b m ∈ p.1))) 0, s) := by
    bv_omega
  unfold lookF
  split
  · rename_i h
    have h2 : ¬ addC b m ∈ p.1 := h.2
    simp only [h.1, h2, decide_true, decide_false, Bool.not_false, Bool.and_true] at test
    apply Eq.trans
    · apply foB_of
      · rfl
      · apply xs_cons
        · bv_omega
        · apply xs_cons
          · apply x_ite_t
            · exact test
            · rfl
            · apply xs_cons
              · apply x_asgB
                · exact ev_k
                · exact ev_v rfl
                · rfl
                · exact putD_cells (x := .bool true) (l := p.1) (c := addC b m) rfl (by omega)
              · apply xs_cons
                · apply x_appCells (l := p.2) (c := addC b m)
                  · exact ev_v rfl
                  · rfl
                  · omega
                · exact xs_nil
          · exact xs_nil
    · rw [show insC p.1 (addC b m) = p.1 ++ [addC b m] from if_neg h2]
      rfl
  · rename_i h
    have e0 : (decide (addC b m ∈ inner) && !decide (addC b m ∈ p.1)) = false := by
      rw [Bool.and_eq_false_iff]
      by_cases h1 : addC b m ∈ inner
      · right
        have : addC b m ∈ p.1 := by
          by_cases h2 : addC b m ∈ p.1
          · exact h2
          · exact absurd ⟨h1, h2⟩ h
        simpa using this
      · left; simpa using h1
    rw [e0] at test
    apply Eq.trans
    · apply foB_of
      · rfl
      · apply xs_cons
        · bv_omega
        · apply xs_cons
          · apply x_ite_f
            · exact test
            · rfl
            · exact xs_nil
          · exact xs_nil
    · rfl
/-- the two moves of a corner -/
structure IsMv (signs : Str) (mv : List Cell) : Prop where
  ok : ∀ (k : Nat) (env : Env) (s : Src), getv env 2 = some (.dat (.str signs) 0) → 11 ≤ env.length → evi (callN Pt (k + 1)) (.e (.lc (.sub (.call 2 .nil) (.v 9)) (.nm 9) (.e (.v 2)) .nil [9])) env s = some (mv.map cD, s)
theorem isMv {signs : Str} {mv : List Cell} (h : ∃ c1 c2 m1 m2, itemsOf (.str signs) = some [.str c1, .str c2] ∧ mv = [m1, m2] ∧ itemD (.dict [(.str "r", .tuple [.int 1, .int 0]), (.str "l", .tuple [.int (-1), .int 0]), (.str "u", .tuple [.int 0, .int 1]), (.str "d", .tuple [.int 0, .int (-1)])]) (.str c1) = some (cD m1) ∧ itemD (.dict [(.str "r", .tuple [.int 1, .int 0]), (.str "l", .tuple [.int (-1), .int 0]), (.str "u", .tuple [.int 0, .int 1]), (.str "d", .tuple [.int 0, .int (-1)])]) (.str c2) = some (cD m2)) : IsMv signs mv := by
  obtain ⟨c1, c2, m1, m2, h1, rfl, h3, h4⟩ := h
  refine ⟨fun k env s hg hl => ?_⟩
  have gl : ∀ (e : Env) (d : D), 11 ≤ e.length → getv (e.set 9 (some (.dat d 0))) 9 = some (.dat d 0) := fun e d hl => by
    unfold getv
    rw [List.getElem?_set_self (by omega)]
    rfl
  have wl : (wipe (flat env) [9]).length = env.length := by
    unfold wipe wipe flat
    simp
  apply evi_e
  · apply ev_lc
    · apply evi_e
      · exact ev_v hg
      · exact h1
    · have st : ∀ c m, itemD (.dict [(.str "r", .tuple [.int 1, .int 0]), (.str "l", .tuple [.int (-1), .int 0]), (.str "u", .tuple [.int 0, .int 1]), (.str "d", .tuple [.int 0, .int (-1)])]) (.str c) = some (cD m) → lcStep (callN Pt (k + 1)) (.sub (.call 2 .nil) (.v 9)) (.nm 9) .nil [9] env (.str c) s = some (some (cD m), s) := fun c m hm => by
        apply lcStep_t
        · rfl
        · exact tests_nil
        · apply ev_sub
          · exact ev_call evc_nil (moves_spec _ _)
          · exact ev_v (gl _ _ (by rw [wl]; exact hl))
          · exact hm
      rw [lcRun, st c1 m1 h3]
      simp only [lcRun, st c2 m2 h4]
      rfl
  · rfl
theorem mv_ru : IsMv "ru" [(1, 0), (0, 1)] := isMv ⟨"r", "u", _, _, rfl, rfl, rfl, rfl⟩
theorem mv_lu : IsMv "lu" [(-1, 0), (0, 1)] := isMv ⟨"l", "u", _, _, rfl, rfl, rfl, rfl⟩
theorem mv_ld : IsMv "ld" [(-1, 0), (0, -1)] := isMv ⟨"l", "d", _, _, rfl, rfl, rfl, rfl⟩
theorem mv_rd : IsMv "rd" [(1, 0), (0, -1)] := isMv ⟨"r", "d", _, _, rfl, rfl, rfl, rfl⟩
theorem cf_spec (k : Nat) (s : Src) {inner : List Cell} {stall : Cell} {signs : Str} {mv : List Cell} (hm : IsMv signs mv) (hI : inner.length ≤ 1000) :
    ∃ L, callN Pt (k + 2) 3 [.dat (.dict (kvC tt inner)) 0, .dat (cD stall) 0, .dat (.str signs) 0] s = some (.dat (.tuple (L.map cD)) 0, s) ∧ Asc L ∧ ∀ x, x ∈ L ↔ Rch inner mv stall x := by
  have loop : ∃ env1 s1, whL (whT (callN Pt (k + 1)) (.v 4)) (whB (callN Pt (k + 1)) b_corner_field_l1 [5, 6, 7, 8, 10]) (E1 inner stall signs none none ([stall], [stall])) s = some (.nx env1, s1) ∧ (s1 = s ∧ ∃ F, env1 = E1 inner stall signs none none (F, []) ∧ FldI inner mv stall F []) := by
    refine whL_inv (Q := fun env1 s1 => s1 = s ∧ ∃ F, env1 = E1 inner stall signs none none (F, []) ∧ FldI inner mv stall F []) (fun n env s' => s' = s ∧ n ≤ 2 * inner.length + 1 ∧ ∃ F R, env = E1 inner stall signs none none (F, R) ∧ FldI inner mv stall F R ∧ n = 2 * (inner.length + 1 - F.length) + R.length) ?_ _ _ _ ⟨rfl, ?_, _, _, rfl, fld_start, rfl⟩
    · rintro n env s' ⟨rfl, hle, F, R, rfl, h, rfl⟩
      rcases List.eq_nil_or_concat R with rfl | ⟨R', b, hR⟩
      · exact .inl ⟨s', whT_of (ev_v rfl) rfl, rfl, F, rfl, h⟩
      · right
        rw [List.concat_eq_append] at hR
        subst hR
        obtain ⟨h1, h2⟩ := fld_turn h
        have hlF := h.len
        have J0 : FldB inner stall (F, R') := ⟨h.nd, fun x hx => (h.rch x hx).mem, by simp only [List.length_append, List.length_singleton] at hle ⊢; omega⟩
        refine ⟨s', E1 inner stall signs none none (mv.foldl (lookF inner b) (F, R')), s', _, whT_of (ev_v rfl) ?_, ?_, h2, rfl, by omega, _, _, rfl, h1, rfl⟩
        · simp [truth]
        · apply Eq.trans
          · apply whB_of
            · apply xs_cons
              · apply x_popCells (l := R') (c := b)
                · rfl
                · rfl
              · apply xs_cons
                · apply x_for
                  · exact hm.ok _ _ _ rfl (by show 11 ≤ 11; decide)
                  · rfl
                  · have key := forL_foldI (body := foB (callN Pt (k + 1)) (.tp (.cons (.nm 7) (.cons (.nm 8) .nil))) b_corner_field_l2 [7, 8, 10]) cD (E1 inner stall signs (some (.dat (.int b.1) 0)) (some (.dat (.int b.2) 0))) (lookF inner b) (FldB inner stall) (l := mv) (b := (F, R')) (s := s') J0 fun m _ p s J => ⟨cf_turn _ _ _ _ _ _ _ _ (by have := J.len; omega) (by have := J.le; omega), J.look⟩
                    exact key.1
                · exact xs_nil
          · rfl
    · simp
  obtain ⟨env1, s1, hw, rfl, F, rfl, h⟩ := loop
  refine ⟨sortC F, ?_, sortC_asc h.nd, fun x => by rw [mem_sortC]; exact fld_done h x⟩
  apply run_def (by decide) rfl rfl
  apply xs_cons
  · apply x_par
    · apply evr_cons'
      · apply ev_dic
        · bv_omega
        · rfl
        · exact (by decide : 1 ≤ 15)
      · bv_omega
    · rfl
    · apply sts_nm
      · rfl
      · apply sts_nm
        · rfl
        · exact sts_nil
  · apply xs_cons
    · apply x_wh
      exact hw
    · apply xs_stop_rt
      apply x_ret rfl
      apply ev_bi
      · apply evs_cons
        · apply ev_bi
          · apply evs_cons
            · exact ev_v rfl
            · exact evs_nil
          · exact bi_sorted_dict _ _
        · exact evs_nil
      · rfl
end N
/-! S4. Fields: the program's defs. -/
namespace N
open PySem
local macro_rules | `(tactic| bv_omega) => `(tactic| repeat' (first
  | (with_reducible show ev _ _ _ _ = _); first
      | with_reducible exact ev_k | with_reducible apply ev_cmp | with_reducible apply ev_bin | with_reducible apply ev_tup | with_reducible apply ev_lst | with_reducible apply ev_dic | with_reducible apply ev_sub | with_reducible apply ev_andb | with_reducible apply ev_orb
      | with_reducible apply ev_nt | with_reducible apply ev_neg | with_reducible apply ev_sl | with_reducible apply ev_rev | with_reducible apply ev_bi | with_reducible apply ev_me
      | exact ev_v rfl | exact ev_src rfl | assumption
  | (with_reducible show evs _ _ _ _ = _); first | with_reducible exact evs_nil | with_reducible apply evs_cons
  | (with_reducible show evc _ _ _ _ = _); first | with_reducible exact evc_nil | with_reducible apply evc_cons
  | (with_reducible show evo _ _ _ _ = _); first | with_reducible exact evo_nil | with_reducible apply evo_one
  | (with_reducible show evp _ _ _ _ = _); first | with_reducible exact evp_nil | with_reducible apply evp_cons
  | (with_reducible show evr _ _ _ _ = _); first | with_reducible exact evr_nil' | with_reducible apply evr_cons'
  | (with_reducible show tests _ _ _ _ = _); first | with_reducible exact tests_nil | with_reducible apply tests_one
  | (with_reducible show evi _ _ _ _ = _); first | with_reducible apply evi_e
  | (with_reducible show cmpD _ _ _ = _); first | exact in_dict _ _ _ | exact nin_dict _ _ _ | exact in_lst _ _ | exact in_tup _ _ | exact nin_lst _ _ | exact nin_tup _ _
      | exact cmp_eq_cD _ _ | exact cmp_ne_cD _ _ | exact cmp_lt_int _ _ | exact cmp_gt_int _ _ | exact cmp_le_int _ _ | exact cmp_ge_int _ _ | exact cmp_eq_int _ _ | exact cmp_ne_int _ _ | exact cmp_eq_tup _ _ | exact cmp_ne_tup _ _ | exact cmp_eq_lst _ _ | exact cmp_ne_lst _ _ | exact cmp_eq_tup0 _ | exact cmp_ne_tup0 _ | exact cmp_eq_lst0 _ | exact cmp_ne_lst0 _ | rfl
  | (with_reducible show biD _ _ = _); first | exact bi_len_list _ | exact bi_len_tup _ | exact bi_len_dict _ _ | exact bi_sorted_list _ | exact bi_sorted_tup _ | exact bi_sorted_dict _ _ | exact bi_list_dict _ _ | rfl
  | (with_reducible show itemsOf _ = _); first | exact items_dict _ _ | rfl
  | (with_reducible show kept _ _ _ = _); first | exact kept_tup | rfl
  | (with_reducible show stores _ _ _ _ _ = _); first | with_reducible exact sts_nil | with_reducible apply sts_nm | with_reducible apply sts_sb
  | (with_reducible show exec _ _ _ _ = _); first | with_reducible apply x_asg | with_reducible apply x_asgT | with_reducible apply x_asgB | with_reducible apply x_par | with_reducible apply x_pop | with_reducible apply x_append | with_reducible apply x_extend | with_reducible apply x_popKey | with_reducible exact x_retn
  | with_reducible exact xs_nil | rfl | (intro _) | decide | (simp only [List.length_cons, List.length_nil]; decide)))

/-- a serves x -/
def Fld (I : List Cell) (a x : Cell) : Prop := Rch I [(1, 0), (0, 1)] a x ∨ Rch I [(-1, 0), (0, 1)] a x ∨ Rch I [(-1, 0), (0, -1)] a x ∨ Rch I [(1, 0), (0, -1)] a x
open Classical in
noncomputable def fld (I : List Cell) (a : Cell) : List Cell := I.filter fun x => decide (Fld I a x)
open Classical in
theorem mem_fld {I : List Cell} {a x : Cell} : x ∈ fld I a ↔ x ∈ I ∧ Fld I a x := by
  unfold fld
  rw [List.mem_filter, decide_eq_true_iff]
theorem fld_asc {I : List Cell} {a : Cell} (h : Asc I) : Asc (fld I a) := by
  unfold fld
  exact Asc.filter _ h
theorem Fld.mem {I : List Cell} {a x : Cell} (h : Fld I a x) : x = a ∨ x ∈ I := by
  rcases h with h | h | h | h <;> exact h.mem
theorem fld_self {I : List Cell} {a : Cell} (h : a ∈ I) : a ∈ fld I a := mem_fld.mpr ⟨h, .inl .refl⟩
theorem fld_len {I : List Cell} {a : Cell} : (fld I a).length ≤ I.length := List.length_filter_le _ _
structure IsRoom (I : List Cell) : Prop where
  asc : Asc I
  le : I.length ≤ 200
theorem cfs_spec (k : Nat) (s : Src) {I : List Cell} {a : Cell} (h : IsRoom I) :
    ∃ L1 L2 L3 L4, callN Pt (k + 3) 4 [.dat (tupC I) 0, .dat (cD a) 0] s = some (.dat (.tuple ([L1, L2, L3, L4].map tupC)) 0, s) ∧ (∀ L ∈ [L1, L2, L3, L4], Asc L) ∧ (∀ x, (x ∈ L1 ∨ x ∈ L2 ∨ x ∈ L3 ∨ x ∈ L4) ↔ Fld I a x) := by
  have hI : I.length ≤ 1000 := Nat.le_trans h.le (by decide)
  obtain ⟨L1, e1, a1, m1⟩ := cf_spec k s (inner := I) (stall := a) mv_ru hI
  obtain ⟨L2, e2, a2, m2⟩ := cf_spec k s (inner := I) (stall := a) mv_lu hI
  obtain ⟨L3, e3, a3, m3⟩ := cf_spec k s (inner := I) (stall := a) mv_ld hI
  obtain ⟨L4, e4, a4, m4⟩ := cf_spec k s (inner := I) (stall := a) mv_rd hI
  refine ⟨L1, L2, L3, L4, ?_, ?_, fun x => by unfold Fld; rw [m1, m2, m3, m4]⟩
  · apply run_def (by decide) rfl rfl
    apply xs_cons
    · apply x_asg
      · apply ev_dcCells (x := .bool true) (l := I)
        · apply evi_e
          · exact ev_v rfl
          · rfl
        · exact Nat.le_trans h.le (by decide)
        · exact (by decide : 3 < 5)
        · intro c s; exact ev_k
      · rfl
    · apply xs_stop_rt
      apply x_ret rfl
      apply ev_bi
      · apply evs_cons
        · apply ev_lc
          · apply evi_e
            · apply ev_tup
              · bv_omega
              · decide
            · rfl
          · rw [insAll_self h.asc.nodup]
            have st : ∀ (sg : Str) (L : List Cell), callN Pt (k + 2) 3 [.dat (.dict (kvC tt I)) 0, .dat (cD a) 0, .dat (.str sg) 0] s = some (.dat (.tuple (L.map cD)) 0, s) → lcStep (callN Pt (k + 2)) (.call 3 (.cons false (.v 2) (.cons false (.v 1) (.cons false (.v 4) .nil)))) (.nm 4) .nil [4] ((enter d_corner_fields [.dat (tupC I) 0, .dat (cD a) 0]).set 2 (some (.dat (.dict (kvC (fun _ => .bool true) I)) 1))) (.str sg) s = some (some (tupC L), s) := fun sg L e => by
              apply lcStep_t
              · rfl
              · exact tests_nil
              · apply ev_call
                · apply evc_cons
                  · exact ev_v rfl
                  · apply evc_cons
                    · exact ev_v rfl
                    · apply evc_cons
                      · exact ev_v rfl
                      · exact evc_nil
                · exact e
            exact lcRun_t (st _ _ e1) (lcRun_t (st _ _ e2) (lcRun_t (st _ _ e3) (lcRun_t (st _ _ e4) lcRun_nil')))
        · exact evs_nil
      · rfl
  · intro L hL
    simp only [List.mem_cons, List.not_mem_nil, or_false] at hL
    rcases hL with rfl | rfl | rfl | rfl <;> assumption
theorem field_spec (k : Nat) (s : Src) {I : List Cell} {a : Cell} (h : IsRoom I) (ha : a ∈ I) : callN Pt (k + 4) 5 [.dat (tupC I) 0, .dat (cD a) 0] s = some (.dat (tupC (fld I a)) 0, s) := by
  obtain ⟨L1, L2, L3, L4, e, hA, hm⟩ := cfs_spec k s (a := a) h
  have hmem : ∀ x, x ∈ [L1, L2, L3, L4].flatMap id ↔ x ∈ fld I a := fun x => by
    rw [mem_fld, ← hm x]
    simp only [List.mem_flatMap, List.mem_cons, List.not_mem_nil, or_false, id]
    constructor
    · rintro ⟨L, rfl | rfl | rfl | rfl, hx⟩
      all_goals (refine ⟨?_, by simp [hx]⟩; rcases ((hm x).mp (by simp [hx])).mem with rfl | z; exact ha; exact z)
    · rintro ⟨_, hx | hx | hx | hx⟩
      · exact ⟨L1, by simp, hx⟩
      · exact ⟨L2, by simp, hx⟩
      · exact ⟨L3, by simp, hx⟩
      · exact ⟨L4, by simp, hx⟩
  have hl : ∀ L ∈ [L1, L2, L3, L4], L.length ≤ 200 := fun L hL => by
    refine Nat.le_trans (nodup_sub_len (m := I) (hA L hL).nodup fun x hx => ?_) h.le
    exact (mem_fld.mp ((hmem x).mp (List.mem_flatMap.mpr ⟨L, hL, hx⟩))).1
  have hflat : ([L1, L2, L3, L4].flatMap id).length ≤ LIM := by
    have h1 := hl L1 (by simp)
    have h2 := hl L2 (by simp)
    have h3 := hl L3 (by simp)
    have h4 := hl L4 (by simp)
    have : (800 : Nat) ≤ LIM := by decide
    simp only [List.flatMap_cons, List.flatMap_nil, List.length_append, id, List.length_nil]
    omega
  have es : sortC (insAll [] ([L1, L2, L3, L4].flatMap id)) = fld I a := sortC_eq (nodup_insAll List.nodup_nil) (fld_asc h.asc) fun x => by
    rw [mem_insAll]
    simp only [List.not_mem_nil, false_or]
    exact hmem x
  apply run_def (by decide) rfl rfl
  apply xs_stop_rt
  apply x_ret rfl
  apply ev_bi
  · apply evs_cons
    · apply ev_bi
      · apply evs_cons
        · apply ev_dc2Cells tupC (x := .bool true) (l := [L1, L2, L3, L4]) id (fun L => [some (.dat (tupC I) 0), some (.dat (cD a) 0), some (.dat (tupC L) 0), none])
          · apply evi_e
            · apply ev_call
              · apply evc_cons
                · exact ev_v rfl
                · apply evc_cons
                  · exact ev_v rfl
                  · exact evc_nil
              · exact e
            · rfl
          · intro L _; rfl
          · intro L _
            apply evi_e
            · exact ev_v rfl
            · rfl
          · intro L _; exact (by decide : 3 < 4)
          · intro L _ c; exact ev_k
          · rfl
          · exact hflat
        · exact evs_nil
      · exact bi_sorted_dict _ _
    · exact evs_nil
  · rw [es]; rfl
end N
/-! S5. What is lit, what is gained. -/
namespace N
open PySem
local macro_rules | `(tactic| bv_omega) => `(tactic| repeat' (first
  | (with_reducible show ev _ _ _ _ = _); first
      | with_reducible exact ev_k | with_reducible apply ev_cmp | with_reducible apply ev_bin | with_reducible apply ev_tup | with_reducible apply ev_lst | with_reducible apply ev_dic | with_reducible apply ev_sub | with_reducible apply ev_andb | with_reducible apply ev_orb
      | with_reducible apply ev_nt | with_reducible apply ev_neg | with_reducible apply ev_sl | with_reducible apply ev_rev | with_reducible apply ev_bi | with_reducible apply ev_me
      | exact ev_v rfl | exact ev_src rfl | assumption
  | (with_reducible show evs _ _ _ _ = _); first | with_reducible exact evs_nil | with_reducible apply evs_cons
  | (with_reducible show evc _ _ _ _ = _); first | with_reducible exact evc_nil | with_reducible apply evc_cons
  | (with_reducible show evo _ _ _ _ = _); first | with_reducible exact evo_nil | with_reducible apply evo_one
  | (with_reducible show evp _ _ _ _ = _); first | with_reducible exact evp_nil | with_reducible apply evp_cons
  | (with_reducible show evr _ _ _ _ = _); first | with_reducible exact evr_nil' | with_reducible apply evr_cons'
  | (with_reducible show tests _ _ _ _ = _); first | with_reducible exact tests_nil | with_reducible apply tests_one
  | (with_reducible show evi _ _ _ _ = _); first | with_reducible apply evi_e
  | (with_reducible show cmpD _ _ _ = _); first | exact in_dict _ _ _ | exact nin_dict _ _ _ | exact in_lst _ _ | exact in_tup _ _ | exact nin_lst _ _ | exact nin_tup _ _
      | exact cmp_eq_cD _ _ | exact cmp_ne_cD _ _ | exact cmp_lt_int _ _ | exact cmp_gt_int _ _ | exact cmp_le_int _ _ | exact cmp_ge_int _ _ | exact cmp_eq_int _ _ | exact cmp_ne_int _ _ | exact cmp_eq_tup _ _ | exact cmp_ne_tup _ _ | exact cmp_eq_lst _ _ | exact cmp_ne_lst _ _ | exact cmp_eq_tup0 _ | exact cmp_ne_tup0 _ | exact cmp_eq_lst0 _ | exact cmp_ne_lst0 _ | rfl
  | (with_reducible show biD _ _ = _); first | exact bi_len_list _ | exact bi_len_tup _ | exact bi_len_dict _ _ | exact bi_sorted_list _ | exact bi_sorted_tup _ | exact bi_sorted_dict _ _ | exact bi_list_dict _ _ | rfl
  | (with_reducible show itemsOf _ = _); first | exact items_dict _ _ | rfl
  | (with_reducible show kept _ _ _ = _); first | exact kept_tup | rfl
  | (with_reducible show stores _ _ _ _ _ = _); first | with_reducible exact sts_nil | with_reducible apply sts_nm | with_reducible apply sts_sb
  | (with_reducible show exec _ _ _ _ = _); first | with_reducible apply x_asg | with_reducible apply x_asgT | with_reducible apply x_asgB | with_reducible apply x_par | with_reducible apply x_pop | with_reducible apply x_append | with_reducible apply x_extend | with_reducible apply x_popKey | with_reducible exact x_retn
  | with_reducible exact xs_nil | rfl | (intro _) | decide | (simp only [List.length_cons, List.length_nil]; decide)))

open Classical in
noncomputable def litC (I sts : List Cell) : List Cell := I.filter fun x => decide (∃ a ∈ sts, x ∈ fld I a)
open Classical in
theorem mem_litC {I sts : List Cell} {x : Cell} : x ∈ litC I sts ↔ ∃ a ∈ sts, x ∈ fld I a := by
  unfold litC
  rw [List.mem_filter, decide_eq_true_iff]
  exact ⟨fun h => h.2, fun h => ⟨by obtain ⟨a, _, h⟩ := h; exact (mem_fld.mp h).1, h⟩⟩
theorem litC_asc {I sts : List Cell} (h : Asc I) : Asc (litC I sts) := by unfold litC; exact Asc.filter _ h
theorem litC_len {I sts : List Cell} : (litC I sts).length ≤ I.length := List.length_filter_le _ _
theorem flat_fld_len {I : List Cell} (h : IsRoom I) : ∀ sts : List Cell, (sts.flatMap (fld I)).length ≤ 200 * sts.length
  | [] => by simp
  | a :: sts => by
    have h1 := flat_fld_len h sts
    have h2 := fld_len (I := I) (a := a)
    have h3 := h.le
    rw [List.flatMap_cons, List.length_append, List.length_cons]
    omega
theorem sort_lit {I sts : List Cell} (h : IsRoom I) : sortC (insAll [] (sts.flatMap (fld I))) = litC I sts := sortC_eq (nodup_insAll List.nodup_nil) (litC_asc h.asc) fun x => by
  rw [mem_insAll, mem_litC, List.mem_flatMap]
  simp
theorem lit_spec (k : Nat) (s : Src) {I sts : List Cell} {d : D} (h : IsRoom I) (hi : itemsOf d = some (sts.map cD)) (hs : ∀ a ∈ sts, a ∈ I) (hl : sts.length ≤ 1000) : callN Pt (k + 5) 180 [.dat (tupC I) 0, .dat d 0] s = some (.dat (tupC (litC I sts)) 0, s) := by
  apply run_def (by decide) rfl rfl
  apply xs_stop_rt
  apply x_ret rfl
  apply ev_bi
  · apply evs_cons
    · apply ev_bi
      · apply evs_cons
        · apply ev_dc2Cells cD (x := .bool true) (l := sts) (fld I) (fun c => [some (.dat (tupC I) 0), some (.dat d 0), some (.dat (cD c) 0), none])
          · apply evi_e
            · exact ev_v rfl
            · exact hi
          · intro c _; rfl
          · intro c hc
            apply evi_e
            · apply ev_call
              · apply evc_cons
                · exact ev_v rfl
                · apply evc_cons
                  · exact ev_v rfl
                  · exact evc_nil
              · exact field_spec k s h (hs c hc)
            · rfl
          · intro L _; exact (by decide : 3 < 4)
          · intro L _ c; exact ev_k
          · rfl
          · have := flat_fld_len h sts
            have : (200000 : Nat) ≤ LIM := by decide
            omega
        · exact evs_nil
      · exact bi_sorted_dict _ _
    · exact evs_nil
  · rw [sort_lit h]; rfl
def outC (l m : List Cell) : List Cell := l.filter fun x => !decide (x ∈ m)
theorem mem_outC {l m : List Cell} {x : Cell} : x ∈ outC l m ↔ x ∈ l ∧ ¬ x ∈ m := by unfold outC; simp
theorem dark_spec (k : Nat) (s : Src) {I sts lot : List Cell} {d : D} (h : IsRoom I) (hi : itemsOf d = some (sts.map cD)) (hs : ∀ a ∈ sts, a ∈ I) (hl : sts.length ≤ 1000) : callN Pt (k + 6) 181 [.dat (tupC I) 0, .dat (tupC lot) 0, .dat d 0] s = some (.dat (tupC (outC lot (litC I sts))) 0, s) := by
  apply run_def (by decide) rfl rfl
  apply xs_cons
  · apply x_asg
    · apply ev_dcCells (x := .bool true) (l := litC I sts)
      · apply evi_e
        · apply ev_call
          · apply evc_cons
            · exact ev_v rfl
            · apply evc_cons
              · exact ev_v rfl
              · exact evc_nil
          · exact lit_spec k s h hi hs hl
        · rfl
      · exact Nat.le_trans litC_len (Nat.le_trans h.le (by decide))
      · exact (by decide : 4 < 5)
      · intro c s; exact ev_k
    · rfl
  · rw [insAll_self (litC_asc h.asc).nodup]
    apply xs_stop_rt
    apply x_ret rfl
    apply ev_bi
    · apply evs_cons
      · apply ev_lcFilter (l := lot) (q := fun x => !decide (x ∈ litC I sts))
        · apply evi_e
          · exact ev_v rfl
          · rfl
        · exact (by decide : 4 < 5)
        · intro c _ s
          refine ⟨0, ?_⟩
          apply ev_cmp
          · exact ev_v rfl
          · exact ev_v rfl
          · exact nin_dict _ _ _
      · exact evs_nil
    · rfl
theorem serve_spec (k : Nat) (s : Src) {I sts lot : List Cell} {d : D} (h : IsRoom I) (hi : itemsOf d = some (sts.map cD)) (hs : ∀ a ∈ sts, a ∈ I) (hl : sts.length ≤ 1000) : callN Pt (k + 7) 199 [.dat (tupC I) 0, .dat (tupC lot) 0, .dat d 0] s = some (.dat (.bool (decide (outC lot (litC I sts) = []))) 0, s) := by
  apply run_def (by decide) rfl rfl
  apply xs_stop_rt
  apply x_ret rfl
  apply ev_cmp
  · apply ev_call
    · apply evc_cons
      · exact ev_v rfl
      · apply evc_cons
        · exact ev_v rfl
        · apply evc_cons
          · exact ev_v rfl
          · exact evc_nil
    · exact dark_spec k s h hi hs hl
  · apply ev_tup
    · exact evs_nil
    · decide
  · exact cmp_eq_tup0 _
theorem walk_spec (k : Nat) (s : Src) {I cells : List Cell} {d : D} (h : IsRoom I) (hi : itemsOf d = some (cells.map cD)) (hs : ∀ a ∈ cells, a ∈ I) : callN Pt (k + 5) 186 [.dat (tupC I) 0, .dat d 0] s = some (.dat (.list (cells.map fun c => .int (fld I c).length)) 1, s) := by
  apply run_def (by decide) rfl rfl
  apply xs_stop_rt
  apply x_ret rfl
  apply ev_lcMap cD (l := cells) (fun c => .int (fld I c).length) (fun c => [some (.dat (tupC I) 0), some (.dat d 0), some (.dat (cD c) 0)])
  · apply evi_e
    · exact ev_v rfl
    · exact hi
  · intro c _; rfl
  · intro c hc s
    refine ⟨0, ?_⟩
    apply ev_bi
    · apply evs_cons
      · apply ev_call
        · apply evc_cons
          · exact ev_v rfl
          · apply evc_cons
            · exact ev_v rfl
            · exact evc_nil
        · exact field_spec k s h (hs c hc)
      · exact evs_nil
    · exact bi_len_tup _
theorem gained_spec (k : Nat) (s : Src) {I : List Cell} {a b : Cell} (h : IsRoom I) (ha : a ∈ I) (hb : b ∈ I) : callN Pt (k + 5) 185 [.dat (tupC I) 0, .dat (cD a) 0, .dat (cD b) 0] s = some (.dat (.tuple [tupC (outC (fld I a) (fld I b)), tupC (outC (fld I b) (fld I a))]) 0, s) := by
  apply run_def (by decide) rfl rfl
  apply xs_cons
  · apply x_asgT
    · apply ev_tup
      · apply evs_cons
        · apply ev_call
          · apply evc_cons
            · exact ev_v rfl
            · apply evc_cons
              · exact ev_v rfl
              · exact evc_nil
          · exact field_spec k s h ha
        · apply evs_cons
          · apply ev_call
            · apply evc_cons
              · exact ev_v rfl
              · apply evc_cons
                · exact ev_v rfl
                · exact evc_nil
            · exact field_spec k s h hb
          · exact evs_nil
      · exact (by decide : 2 ≤ LIM)
    · rfl
    · rfl
  · apply xs_cons
    · apply x_asg
      · apply ev_bi
        · apply evs_cons
          · apply ev_lcFilter (l := fld I a) (q := fun x => !decide (x ∈ fld I b))
            · apply evi_e
              · exact ev_v rfl
              · rfl
            · exact (by decide : 6 < 7)
            · intro c _ s
              refine ⟨0, ?_⟩
              apply ev_cmp
              · exact ev_v rfl
              · exact ev_v rfl
              · exact nin_tup _ _
          · exact evs_nil
        · rfl
      · rfl
    · apply xs_stop_rt
      apply x_ret rfl
      apply Eq.trans
      · apply ev_tup
        · apply evs_cons
          · exact ev_v rfl
          · apply evs_cons
            · apply ev_bi
              · apply evs_cons
                · apply ev_lcFilter (l := fld I b) (q := fun x => !decide (x ∈ fld I a))
                  · apply evi_e
                    · exact ev_v rfl
                    · rfl
                  · exact (by decide : 6 < 7)
                  · intro c _ s
                    refine ⟨0, ?_⟩
                    apply ev_cmp
                    · exact ev_v rfl
                    · exact ev_v rfl
                    · exact nin_tup _ _
                · exact evs_nil
              · rfl
            · exact evs_nil
        · exact (by decide : 2 ≤ LIM)
      · rfl
theorem all_fields_spec (k : Nat) (s : Src) {I : List Cell} (h : IsRoom I) : callN Pt (k + 5) 176 [.dat (tupC I) 0] s = some (.dat (.tuple (I.map fun c => .tuple [cD c, tupC (fld I c)])) 0, s) := by
  apply run_def (by decide) rfl rfl
  apply xs_stop_rt
  apply x_ret rfl
  apply ev_bi
  · apply evs_cons
    · apply ev_lcMap cD (l := I) (fun c => .tuple [cD c, tupC (fld I c)]) (fun c => [some (.dat (tupC I) 0), some (.dat (cD c) 0)])
      · apply evi_e
        · exact ev_v rfl
        · rfl
      · intro c _; rfl
      · intro c hc s
        refine ⟨0, ?_⟩
        apply ev_tup
        · apply evs_cons
          · exact ev_v rfl
          · apply evs_cons
            · apply ev_call
              · apply evc_cons
                · exact ev_v rfl
                · apply evc_cons
                  · exact ev_v rfl
                  · exact evc_nil
              · exact field_spec k s h hc
            · exact evs_nil
        · exact (by decide : 2 ≤ LIM)
    · exact evs_nil
  · rfl
end N
/-! S6. The stall that serves the most; what each alone serves. -/
namespace N
open PySem
local macro_rules | `(tactic| bv_omega) => `(tactic| repeat' (first
  | (with_reducible show ev _ _ _ _ = _); first
      | with_reducible exact ev_k | with_reducible apply ev_cmp | with_reducible apply ev_bin | with_reducible apply ev_tup | with_reducible apply ev_lst | with_reducible apply ev_dic | with_reducible apply ev_sub | with_reducible apply ev_andb | with_reducible apply ev_orb
      | with_reducible apply ev_nt | with_reducible apply ev_neg | with_reducible apply ev_sl | with_reducible apply ev_rev | with_reducible apply ev_bi | with_reducible apply ev_me
      | exact ev_v rfl | exact ev_src rfl | assumption
  | (with_reducible show evs _ _ _ _ = _); first | with_reducible exact evs_nil | with_reducible apply evs_cons
  | (with_reducible show evc _ _ _ _ = _); first | with_reducible exact evc_nil | with_reducible apply evc_cons
  | (with_reducible show evo _ _ _ _ = _); first | with_reducible exact evo_nil | with_reducible apply evo_one
  | (with_reducible show evp _ _ _ _ = _); first | with_reducible exact evp_nil | with_reducible apply evp_cons
  | (with_reducible show evr _ _ _ _ = _); first | with_reducible exact evr_nil' | with_reducible apply evr_cons'
  | (with_reducible show tests _ _ _ _ = _); first | with_reducible exact tests_nil | with_reducible apply tests_one
  | (with_reducible show evi _ _ _ _ = _); first | with_reducible apply evi_e
  | (with_reducible show cmpD _ _ _ = _); first | exact in_dict _ _ _ | exact nin_dict _ _ _ | exact in_lst _ _ | exact in_tup _ _ | exact nin_lst _ _ | exact nin_tup _ _
      | exact cmp_eq_cD _ _ | exact cmp_ne_cD _ _ | exact cmp_lt_int _ _ | exact cmp_gt_int _ _ | exact cmp_le_int _ _ | exact cmp_ge_int _ _ | exact cmp_eq_int _ _ | exact cmp_ne_int _ _ | exact cmp_eq_tup _ _ | exact cmp_ne_tup _ _ | exact cmp_eq_lst _ _ | exact cmp_ne_lst _ _ | exact cmp_eq_tup0 _ | exact cmp_ne_tup0 _ | exact cmp_eq_lst0 _ | exact cmp_ne_lst0 _ | rfl
  | (with_reducible show biD _ _ = _); first | exact bi_len_list _ | exact bi_len_tup _ | exact bi_len_dict _ _ | exact bi_sorted_list _ | exact bi_sorted_tup _ | exact bi_sorted_dict _ _ | exact bi_list_dict _ _ | rfl
  | (with_reducible show itemsOf _ = _); first | exact items_dict _ _ | rfl
  | (with_reducible show kept _ _ _ = _); first | exact kept_tup | rfl
  | (with_reducible show stores _ _ _ _ _ = _); first | with_reducible exact sts_nil | with_reducible apply sts_nm | with_reducible apply sts_sb
  | (with_reducible show exec _ _ _ _ = _); first | with_reducible apply x_asg | with_reducible apply x_asgT | with_reducible apply x_asgB | with_reducible apply x_par | with_reducible apply x_pop | with_reducible apply x_append | with_reducible apply x_extend | with_reducible apply x_popKey | with_reducible exact x_retn
  | with_reducible exact xs_nil | rfl | (intro _) | decide | (simp only [List.length_cons, List.length_nil]; decide)))

/-! ### seen_by_most -/
open Classical in
noncomputable def cntF (I lot : List Cell) (c : Cell) : Int := ((lot.filter fun x => decide (x ∈ fld I c)).length : Nat)
noncomputable def bestF (I lot : List Cell) (p : Option Cell × Int) (c : Cell) : Option Cell × Int := if p.2 < cntF I lot c then (some c, cntF I lot c) else p
def oD : Option Cell → D
  | none => .none
  | some c => cD c
def E6 (I lot : List Cell) (p : Option Cell × Int) : Env := [some (.dat (tupC I) 0), some (.dat (tupC lot) 0), some (.dat (oD p.1) 0), some (.dat (.int p.2) 0), none, none, none, none]
theorem sbm_turn (cf : CF) (I lot : List Cell) (p : Option Cell × Int) (c : Cell) (s : Src) : foB cf (.tp (.cons (.nm 4) (.cons (.nm 5) .nil))) b_seen_by_most_l1 [4, 5, 6] (.tuple [cD c, tupC (fld I c)]) (E6 I lot p) s = some (.nx (E6 I lot (bestF I lot p c)), s) := by
  have many : exec cf (.asg (.nm 6) (.bi .len (.cons false (.lc (.v 7) (.nm 7) (.e (.v 1)) (.cons false (.cmp .In (.v 7) (.v 5)) .nil) [7]) .nil))) (((E6 I lot p).set 4 (some (.dat (cD c) 0))).set 5 (some (.dat (tupC (fld I c)) 0))) s = some (.nx ((((E6 I lot p).set 4 (some (.dat (cD c) 0))).set 5 (some (.dat (tupC (fld I c)) 0))).set 6 (some (.dat (.int (cntF I lot c)) 0))), s) := by
    apply x_asg
    · apply ev_bi
      · apply evs_cons
        · apply ev_lcFilter (l := lot) (q := fun x => decide (x ∈ fld I c))
          · apply evi_e
            · exact ev_v rfl
            · rfl
          · exact (by decide : 7 < 8)
          · intro x _ s
            refine ⟨0, ?_⟩
            apply ev_cmp
            · exact ev_v rfl
            · exact ev_v rfl
            · exact in_tup _ _
        · exact evs_nil
      · refine (bi_len_list _).trans ?_
        unfold cntF
        congr 4
    · rfl
  unfold bestF
  split
  · rename_i h
    apply Eq.trans
    · apply foB_of
      · rfl
      · apply xs_cons
        · exact many
        · apply xs_cons
          · apply x_ite_t
            · apply ev_cmp
              · exact ev_v rfl
              · exact ev_v rfl
              · exact cmp_gt_int _ _
            · show some (decide (p.2 < cntF I lot c)) = _
              rw [decide_eq_true h]
            · apply xs_cons
              · apply x_par
                · apply evr_cons'
                  · exact ev_v rfl
                  · apply evr_cons'
                    · exact ev_v rfl
                    · exact evr_nil'
                · rfl
                · apply sts_nm
                  · rfl
                  · apply sts_nm
                    · rfl
                    · exact sts_nil
              · exact xs_nil
          · exact xs_nil
    · rfl
  · rename_i h
    apply Eq.trans
    · apply foB_of
      · rfl
      · apply xs_cons
        · exact many
        · apply xs_cons
          · apply x_ite_f
            · apply ev_cmp
              · exact ev_v rfl
              · exact ev_v rfl
              · exact cmp_gt_int _ _
            · show some (decide (p.2 < cntF I lot c)) = _
              rw [decide_eq_false h]
            · exact xs_nil
          · exact xs_nil
    · rfl
theorem sbm_spec (k : Nat) (s : Src) {I lot : List Cell} (h : IsRoom I) : callN Pt (k + 6) 200 [.dat (tupC I) 0, .dat (tupC lot) 0] s = some (.dat (.tuple [oD (I.foldl (bestF I lot) (none, -1)).1, .int (I.foldl (bestF I lot) (none, -1)).2]) 0, s) := by
  apply run_def (by decide) rfl rfl
  apply xs_cons
  · apply x_asgT
    · apply ev_tup
      · bv_omega
      · exact (by decide : 2 ≤ LIM)
    · rfl
    · rfl
  · apply xs_cons
    · apply x_for
      · apply evi_e
        · apply ev_call
          · apply evc_cons
            · exact ev_v rfl
            · exact evc_nil
          · exact all_fields_spec k s h
        · rfl
      · rfl
      · exact forL_fold (fun c => .tuple [cD c, tupC (fld I c)]) (E6 I lot) (bestF I lot) (l := I) (b := (none, -1)) fun c _ p s => sbm_turn _ I lot p c s
    · apply xs_stop_rt
      apply x_ret rfl
      apply Eq.trans
      · apply ev_tup
        · apply evs_cons
          · exact ev_v rfl
          · apply evs_cons
            · exact ev_v rfl
            · exact evs_nil
        · exact (by decide : 2 ≤ LIM)
      · rfl
/-! ### alone_served -/
theorem enum_map {α : Type} (f : α → D) : ∀ (l : List α) (n : Nat), enumD n (l.map f) = (l.zipIdx n).map fun p => .tuple [.int p.2, f p.1]
  | [], _ => rfl
  | a :: l, n => by
    rw [List.map_cons, enumD, List.zipIdx_cons, List.map_cons]
    congr 1
    have := enum_map f l (n + 1)
    rw [← this]
    rfl
theorem sl_to {α : Type} (f : α → D) (l : List α) (i : Nat) : sliceD (.list (l.map f)) none (some (i : Int)) = some (.list ((l.take i).map f), 1) := by
  show some (PyData.list (cutD (l.map f) none (some (i : Int))), 1) = _
  unfold cutD
  rw [HT.sIx_nat, HT.sIx_none, List.drop_zero, Nat.sub_zero, List.length_map]
  congr 2
  rw [← List.map_take]
  congr 2
  rcases Nat.le_total i l.length with h | h
  · rw [Nat.min_eq_left h]
  · rw [Nat.min_eq_right h, List.take_of_length_le h, List.take_length]
theorem sl_from {α : Type} (f : α → D) (l : List α) (i : Nat) : sliceD (.list (l.map f)) (some (i : Int)) none = some (.list ((l.drop i).map f), 1) := by
  show some (PyData.list (cutD (l.map f) (some (i : Int)) none), 1) = _
  unfold cutD
  rw [HT.sIx_nat, HT.sIx_none, List.length_map]
  congr 2
  rcases Nat.le_total i l.length with h | h
  · rw [Nat.min_eq_left h, ← List.map_drop, List.take_of_length_le (by rw [List.length_map, List.length_drop]; exact Nat.le_refl _)]
  · rw [Nat.min_eq_right h, ← List.map_drop, List.drop_length, List.drop_of_length_le h]
    simp
theorem add_lists (a b : List D) (h : a.length + b.length ≤ LIM) : binD .Add (.list a) (.list b) = some (.list (a ++ b), 1) := if_pos h
/-- the cells of all lots but number i -/
def restC (lots : List (List Cell)) (i : Nat) : List Cell := (lots.take i ++ lots.drop (i + 1)).flatMap id
def aloneF (lots : List (List Cell)) (b : List (List Cell)) (p : List Cell × Nat) : List (List Cell) := b ++ [outC p.1 (insAll [] (restC lots p.2))]
def E6b (I : List Cell) (st : D) (lots : List (List Cell)) (b : List (List Cell)) : Env := [some (.dat (tupC I) 0), some (.dat st 0), some (.dat (.list (lots.map tupC)) 0), some (.dat (.list (b.map tupC)) 1), none, none, none, none, none, none]
theorem alone_turn (cf : CF) (I : List Cell) (st : D) (lots b : List (List Cell)) (p : List Cell × Nat) (s : Src) (hl : lots.length ≤ 1000) (hb : b.length ≤ 1000) (hf : (restC lots p.2).length ≤ LIM) : foB cf (.tp (.cons (.nm 5) (.cons (.nm 6) .nil))) b_alone_served_l1 [5, 6, 7] (.tuple [.int p.2, tupC p.1]) (E6b I st lots b) s = some (.nx (E6b I st lots (aloneF lots b p)), s) := by
  have lim : (2000 : Nat) < LIM := by decide
  apply Eq.trans
  · apply foB_of
    · rfl
    · apply xs_cons
      · apply x_asg
        · apply ev_dc2Cells tupC (x := .bool true) (l := lots.take p.2 ++ lots.drop (p.2 + 1)) id (fun L => [some (.dat (tupC I) 0), some (.dat st 0), some (.dat (.list (lots.map tupC)) 0), some (.dat (.list (b.map tupC)) 0), none, some (.dat (.int p.2) 0), some (.dat (tupC p.1) 0), none, some (.dat (tupC L) 0), none])
          · apply evi_e
            · apply ev_bin
              · apply ev_sl
                · exact ev_v rfl
                · exact evo_nil
                · apply evo_one
                  exact ev_v rfl
                · exact sl_to tupC lots p.2
              · apply ev_sl
                · exact ev_v rfl
                · apply evo_one
                  apply ev_bin
                  · exact ev_v rfl
                  · exact ev_k
                  · rfl
                · exact evo_nil
                · exact sl_from tupC lots (p.2 + 1)
              · exact add_lists _ _ (by simp only [List.length_map, List.length_take, List.length_drop]; omega)
            · rw [List.map_append]; rfl
          · intro L _; rfl
          · intro L _
            apply evi_e
            · exact ev_v rfl
            · rfl
          · intro L _; exact (by decide : 9 < 10)
          · intro L _ c; exact ev_k
          · rfl
          · exact hf
        · rfl
      · apply xs_cons
        · apply x_append
          · apply ev_bi
            · apply evs_cons
              · apply ev_lcFilter (l := p.1) (q := fun x => !decide (x ∈ insAll [] (restC lots p.2)))
                · apply evi_e
                  · exact ev_v rfl
                  · rfl
                · exact (by decide : 9 < 10)
                · intro c _ s
                  refine ⟨0, ?_⟩
                  apply ev_cmp
                  · exact ev_v rfl
                  · exact ev_v rfl
                  · exact nin_dict _ _ _
              · exact evs_nil
            · rfl
          · rfl
          · rfl
          · rw [List.length_map]; omega
        · exact xs_nil
  · unfold E6b aloneF
    rw [List.map_append]
    rfl
theorem alone_fold (lots : List (List Cell)) : ∀ (ps : List (List Cell × Nat)) (b : List (List Cell)), ps.foldl (aloneF lots) b = b ++ ps.map fun p => outC p.1 (insAll [] (restC lots p.2))
  | [], b => by simp
  | p :: ps, b => by rw [List.foldl_cons, alone_fold lots ps]; simp [aloneF]
theorem alone_spec (k : Nat) (s : Src) {I sts : List Cell} {d : D} (h : IsRoom I) (hi : itemsOf d = some (sts.map cD)) (hs : ∀ a ∈ sts, a ∈ I) (hl : sts.length ≤ 500) :
    callN Pt (k + 5) 201 [.dat (tupC I) 0, .dat d 0] s = some (.dat (.list (((sts.map (fld I)).zipIdx.map fun p => outC p.1 (insAll [] (restC (sts.map (fld I)) p.2))).map tupC)) 1, s) := by
  apply run_def (by decide) rfl rfl
  apply xs_cons
  · apply x_par
    · apply evr_cons'
      · apply ev_lcMap cD (l := sts) (fun c => tupC (fld I c)) (fun c => [some (.dat (tupC I) 0), some (.dat d 0), none, none, some (.dat (cD c) 0), none, none, none, none, none])
        · apply evi_e
          · exact ev_v rfl
          · exact hi
        · intro c _; rfl
        · intro c hc s
          refine ⟨0, ?_⟩
          apply ev_call
          · apply evc_cons
            · exact ev_v rfl
            · apply evc_cons
              · exact ev_v rfl
              · exact evc_nil
          · exact field_spec k s h (hs c hc)
      · apply evr_cons'
        · apply ev_lst
          · exact evs_nil
          · decide
        · exact evr_nil'
    · rfl
    · apply sts_nm
      · rfl
      · apply sts_nm
        · rfl
        · exact sts_nil
  · have e0 : (sts.map fun c => tupC (fld I c)) = (sts.map (fld I)).map tupC := by rw [List.map_map]; rfl
    rw [e0]
    apply xs_cons
    · apply x_for
      · apply evi_en
        · exact ev_v rfl
        · rfl
        · rfl
      · rfl
      · have e1 := enum_map tupC (sts.map (fld I)) 0
        rw [show enumD 0 ((sts.map (fld I)).map tupC) = _ from e1]
        have key := forL_foldP (body := foB (callN Pt (k + 4)) (.tp (.cons (.nm 5) (.cons (.nm 6) .nil))) b_alone_served_l1 [5, 6, 7]) (fun p : List Cell × Nat => PyData.tuple [.int p.2, tupC p.1]) (E6b I d (sts.map (fld I))) (aloneF (sts.map (fld I))) (fun done b => b.length = done.length) (sts.map (fld I)).zipIdx [] (b := []) (s := s) rfl fun dn p r e b s hb => by
          have hdn : dn.length ≤ 500 := by
            have := congrArg List.length e
            simp only [List.nil_append, List.length_append, List.length_cons, List.length_zipIdx, List.length_map] at this
            omega
          refine ⟨alone_turn _ _ _ _ _ _ _ (by rw [List.length_map]; omega) (by omega) ?_, by unfold aloneF; simp [hb]⟩
          unfold restC
          rw [← List.map_take, ← List.map_drop, ← List.map_append, List.flatMap_map]
          have h1 := flat_fld_len h (sts.take p.2 ++ sts.drop (p.2 + 1))
          have h2 : (sts.take p.2 ++ sts.drop (p.2 + 1)).length ≤ 1000 := by
            simp only [List.length_append, List.length_take, List.length_drop]; omega
          have h3 : (200000 : Nat) ≤ LIM := by decide
          have h4 : (List.flatMap (fld I) (sts.take p.2 ++ sts.drop (p.2 + 1))).length ≤ LIM := by omega
          exact h4
        exact key.1
    · apply xs_stop_rt
      rw [alone_fold]
      exact x_retv rfl
end N
/-! S7. The laws' own fields. -/
namespace N
open PySem
local macro_rules | `(tactic| bv_omega) => `(tactic| repeat' (first
  | (with_reducible show ev _ _ _ _ = _); first
      | with_reducible exact ev_k | with_reducible apply ev_cmp | with_reducible apply ev_bin | with_reducible apply ev_tup | with_reducible apply ev_lst | with_reducible apply ev_dic | with_reducible apply ev_sub | with_reducible apply ev_andb | with_reducible apply ev_orb
      | with_reducible apply ev_nt | with_reducible apply ev_neg | with_reducible apply ev_sl | with_reducible apply ev_rev | with_reducible apply ev_bi | with_reducible apply ev_me
      | exact ev_v rfl | exact ev_src rfl | assumption
  | (with_reducible show evs _ _ _ _ = _); first | with_reducible exact evs_nil | with_reducible apply evs_cons
  | (with_reducible show evc _ _ _ _ = _); first | with_reducible exact evc_nil | with_reducible apply evc_cons
  | (with_reducible show evo _ _ _ _ = _); first | with_reducible exact evo_nil | with_reducible apply evo_one
  | (with_reducible show evp _ _ _ _ = _); first | with_reducible exact evp_nil | with_reducible apply evp_cons
  | (with_reducible show evr _ _ _ _ = _); first | with_reducible exact evr_nil' | with_reducible apply evr_cons'
  | (with_reducible show tests _ _ _ _ = _); first | with_reducible exact tests_nil | with_reducible apply tests_one
  | (with_reducible show evi _ _ _ _ = _); first | with_reducible apply evi_e
  | (with_reducible show cmpD _ _ _ = _); first | exact in_dict _ _ _ | exact nin_dict _ _ _ | exact in_lst _ _ | exact in_tup _ _ | exact nin_lst _ _ | exact nin_tup _ _
      | exact cmp_eq_cD _ _ | exact cmp_ne_cD _ _ | exact cmp_lt_int _ _ | exact cmp_gt_int _ _ | exact cmp_le_int _ _ | exact cmp_ge_int _ _ | exact cmp_eq_int _ _ | exact cmp_ne_int _ _ | exact cmp_eq_tup _ _ | exact cmp_ne_tup _ _ | exact cmp_eq_lst _ _ | exact cmp_ne_lst _ _ | exact cmp_eq_tup0 _ | exact cmp_ne_tup0 _ | exact cmp_eq_lst0 _ | exact cmp_ne_lst0 _ | rfl
  | (with_reducible show biD _ _ = _); first | exact bi_len_list _ | exact bi_len_tup _ | exact bi_len_dict _ _ | exact bi_sorted_list _ | exact bi_sorted_tup _ | exact bi_sorted_dict _ _ | exact bi_list_dict _ _ | rfl
  | (with_reducible show itemsOf _ = _); first | exact items_dict _ _ | rfl
  | (with_reducible show kept _ _ _ = _); first | exact kept_tup | rfl
  | (with_reducible show stores _ _ _ _ _ = _); first | with_reducible exact sts_nil | with_reducible apply sts_nm | with_reducible apply sts_sb
  | (with_reducible show exec _ _ _ _ = _); first | with_reducible apply x_asg | with_reducible apply x_asgT | with_reducible apply x_asgB | with_reducible apply x_par | with_reducible apply x_pop | with_reducible apply x_append | with_reducible apply x_extend | with_reducible apply x_popKey | with_reducible exact x_retn
  | with_reducible exact xs_nil | rfl | (intro _) | decide | (simp only [List.length_cons, List.length_nil]; decide)))

def E7 (I : List Cell) (a : Cell) (dx dy : Int) (x y : Option Slot) (q : List Cell × (List Cell × List Cell)) : Env := [some (.dat (tupC I) 0), some (.dat (cD a) 0), some (.dat (.dict (kvC z0 I)) 1), some (.dat (.dict (kvC z0 q.1)) 1), none, some (.dat (.int dx) 0), some (.dat (.int dy) 0), some (.dat (.dict (kvC z0 q.2.1)) 1), some (.dat (.list (q.2.2.map cD)) 1), x, y, none]
def lookG (I : List Cell) (b : Cell) (q : List Cell × (List Cell × List Cell)) (m : Cell) : List Cell × (List Cell × List Cell) := (if addC b m ∈ I ∧ ¬ addC b m ∈ q.2.1 then insC q.1 (addC b m) else q.1, lookF I b q.2 m)
theorem foldG (I : List Cell) (b : Cell) : ∀ (mv : List Cell) (q : List Cell × (List Cell × List Cell)), (mv.foldl (lookG I b) q).2 = mv.foldl (lookF I b) q.2
  | [], _ => rfl
  | m :: mv, q => foldG I b mv (lookG I b q m)
structure GI (G0 : List Cell) (q : List Cell × (List Cell × List Cell)) : Prop where
  nd : q.1.Nodup
  mem : ∀ x, x ∈ q.1 ↔ x ∈ G0 ∨ x ∈ q.2.1
theorem GI.look {I G0 : List Cell} {b m : Cell} {q : List Cell × (List Cell × List Cell)} (h : GI G0 q) : GI G0 (lookG I b q m) := by
  unfold lookG lookF
  by_cases hc : addC b m ∈ I ∧ ¬ addC b m ∈ q.2.1
  · simp only [if_pos hc]
    refine ⟨nodup_insC h.nd, fun x => ?_⟩
    rw [mem_insC, h.mem x, List.mem_append, List.mem_singleton, or_assoc]
  · simp only [if_neg hc]
    exact h
theorem GI.all {I G0 : List Cell} {b : Cell} : ∀ (mv : List Cell) {q : List Cell × (List Cell × List Cell)}, GI G0 q → GI G0 (mv.foldl (lookG I b) q)
  | [], _, h => h
  | m :: mv, _, h => GI.all mv (h.look)
theorem lf_turn (cf : CF) (I : List Cell) (a b m : Cell) (dx dy : Int) (q : List Cell × (List Cell × List Cell)) (s : Src) (hG : q.1.length ≤ 3000) (hF : q.2.1.length ≤ 3000) (hR : q.2.2.length ≤ 3000) :
    foB cf (.nm 11) b_law_field_l4 [11] (cD (addC b m)) (E7 I a dx dy (some (.dat (.int b.1) 0)) (some (.dat (.int b.2) 0)) q) s = some (.nx (E7 I a dx dy (some (.dat (.int b.1) 0)) (some (.dat (.int b.2) 0)) (lookG I b q m)), s) := by
  have lim : (3000 : Nat) < LIM := by decide
  have test : ev cf (.and (.cmp .In (.v 11) (.v 2)) (.cmp .NotIn (.v 11) (.v 7))) ((E7 I a dx dy (some (.dat (.int b.1) 0)) (some (.dat (.int b.2) 0)) q).set 11 (some (.dat (cD (addC b m)) 0))) s = some (.dat (.bool (decide (addC b m ∈ I) && !decide (addC b m ∈ q.2.1))) 0, s) := by
    apply ev_andb
    · apply ev_cmp
      · exact ev_v rfl
      · exact ev_v rfl
      · exact in_dict _ _ _
    · intro _
      apply ev_cmp
      · exact ev_v rfl
      · exact ev_v rfl
      · exact nin_dict _ _ _
  unfold lookG lookF
  by_cases h : addC b m ∈ I ∧ ¬ addC b m ∈ q.2.1
  · simp only [if_pos h]
    have h2 : ¬ addC b m ∈ q.2.1 := h.2
    simp only [h.1, h2, decide_true, decide_false, Bool.not_false, Bool.and_true] at test
    apply Eq.trans
    · apply foB_of
      · rfl
      · apply xs_cons
        · apply x_ite_t
          · exact test
          · rfl
          · apply xs_cons
            · apply x_par
              · apply evr_cons'
                · exact ev_k
                · apply evr_cons'
                  · exact ev_k
                  · exact evr_nil'
              · rfl
              · apply sts_sb
                · exact ev_v rfl
                · exact putD_cells (x := .int 0) (l := q.2.1) (c := addC b m) rfl (by omega)
                · apply sts_sb
                  · exact ev_v rfl
                  · exact putD_cells (x := .int 0) (l := q.1) (c := addC b m) rfl (by omega)
                  · exact sts_nil
            · apply xs_cons
              · apply x_appCells (l := q.2.2) (c := addC b m)
                · exact ev_v rfl
                · rfl
                · omega
              · exact xs_nil
        · exact xs_nil
    · rw [show insC q.2.1 (addC b m) = q.2.1 ++ [addC b m] from if_neg h2]
      rfl
  · simp only [if_neg h]
    have e0 : (decide (addC b m ∈ I) && !decide (addC b m ∈ q.2.1)) = false := by
      rw [Bool.and_eq_false_iff]
      by_cases h1 : addC b m ∈ I
      · right
        have : addC b m ∈ q.2.1 := by
          by_cases h2 : addC b m ∈ q.2.1
          · exact h2
          · exact absurd ⟨h1, h2⟩ h
        simpa using this
      · left; simpa using h1
    rw [e0] at test
    apply Eq.trans
    · apply foB_of
      · rfl
      · apply xs_cons
        · apply x_ite_f
          · exact test
          · rfl
          · exact xs_nil
        · exact xs_nil
    · rfl
def mvOf (dx dy : Int) : List Cell := [(dx, 0), (0, dy)]
theorem lf_loop (cf : CF) (I : List Cell) (a : Cell) (dx dy : Int) (G0 : List Cell) (s : Src) (hI : I.length ≤ 1000) (h0 : GI G0 (G0, ([a], [a]))) (hsub : ∀ x ∈ G0, x = a ∨ x ∈ I) :
    ∃ env1 s1, whL (whT cf (.cmp .NotEq (.v 8) (.lst .nil))) (whB cf b_law_field_l3 [9, 10, 11]) (E7 I a dx dy none none (G0, ([a], [a]))) s = some (.nx env1, s1) ∧ (s1 = s ∧ ∃ G F, env1 = E7 I a dx dy none none (G, (F, [])) ∧ FldI I (mvOf dx dy) a F [] ∧ GI G0 (G, (F, []))) := by
  refine whL_inv (Q := fun env1 s1 => s1 = s ∧ ∃ G F, env1 = E7 I a dx dy none none (G, (F, [])) ∧ FldI I (mvOf dx dy) a F [] ∧ GI G0 (G, (F, []))) (fun n env s' => s' = s ∧ n ≤ 2 * I.length + 1 ∧ ∃ G F R, env = E7 I a dx dy none none (G, (F, R)) ∧ FldI I (mvOf dx dy) a F R ∧ GI G0 (G, (F, R)) ∧ n = 2 * (I.length + 1 - F.length) + R.length) ?_ _ _ _ ⟨rfl, ?_, _, _, _, rfl, fld_start, h0, rfl⟩
  · rintro n env s' ⟨rfl, hle, G, F, R, rfl, h, hG, rfl⟩
    have glen : ∀ q : List Cell × (List Cell × List Cell), GI G0 q → (∀ x ∈ q.2.1, x = a ∨ x ∈ I) → q.1.length ≤ 1001 := fun q hq hs => by
      have := nodup_sub_len (m := a :: I) hq.nd fun x hx => by
        rcases (hq.mem x).mp hx with h | h
        · rcases hsub x h with rfl | h <;> simp [*]
        · rcases hs x h with rfl | h <;> simp [*]
      simp only [List.length_cons] at this
      omega
    rcases List.eq_nil_or_concat R with rfl | ⟨R', b, hR⟩
    · refine .inl ⟨s', whT_of (d := .bool false) (o := 0) ?_ rfl, rfl, G, F, rfl, h, hG⟩
      apply ev_cmp
      · exact ev_v rfl
      · apply ev_lst
        · exact evs_nil
        · decide
      · exact cmp_ne_lst0 []
    · right
      rw [List.concat_eq_append] at hR
      subst hR
      obtain ⟨h1, h2⟩ := fld_turn h
      have hlF := h.len
      have J0 : FldB I a (F, R') := ⟨h.nd, fun x hx => (h.rch x hx).mem, by simp only [List.length_append, List.length_singleton] at hle ⊢; omega⟩
      have e2 := foldG I b (mvOf dx dy) (G, (F, R'))
      refine ⟨s', E7 I a dx dy none none ((mvOf dx dy).foldl (lookG I b) (G, (F, R'))), s', _, whT_of (d := .bool true) (o := 0) ?_ rfl, ?_, h2, rfl, by omega, ((mvOf dx dy).foldl (lookG I b) (G, (F, R'))).1, _, _, ?_, h1, ?_, rfl⟩
      · apply ev_cmp
        · exact ev_v rfl
        · apply ev_lst
          · exact evs_nil
          · decide
        · refine (cmp_ne_lst0 _).trans ?_
          simp
      · apply Eq.trans
        · apply whB_of
          · apply xs_cons
            · apply x_popCells (l := R') (c := b)
              · rfl
              · rfl
            · apply xs_cons
              · apply x_for
                · apply evi_e
                  · apply ev_tup
                    · apply evs_cons
                      · apply ev_tup
                        · apply evs_cons
                          · apply ev_bin
                            · exact ev_v rfl
                            · exact ev_v rfl
                            · rfl
                          · apply evs_cons
                            · exact ev_v rfl
                            · exact evs_nil
                        · exact (by decide : 2 ≤ LIM)
                      · apply evs_cons
                        · apply ev_tup
                          · apply evs_cons
                            · exact ev_v rfl
                            · apply evs_cons
                              · apply ev_bin
                                · exact ev_v rfl
                                · exact ev_v rfl
                                · rfl
                              · exact evs_nil
                          · exact (by decide : 2 ≤ LIM)
                        · exact evs_nil
                    · exact (by decide : 2 ≤ LIM)
                  · rfl
                · rfl
                · have key := forL_foldI (body := foB cf (.nm 11) b_law_field_l4 [11]) (fun m => cD (addC b m)) (E7 I a dx dy (some (.dat (.int b.1) 0)) (some (.dat (.int b.2) 0))) (lookG I b) (fun q => FldB I a q.2 ∧ GI G0 q) (l := mvOf dx dy) (b := (G, (F, R'))) (s := s') ⟨J0, ⟨hG.nd, hG.mem⟩⟩ fun m _ q s J => ⟨lf_turn _ _ _ _ _ _ _ _ _ (by have := glen q J.2 J.1.sub; omega) (by have := J.1.len; omega) (by have := J.1.le; omega), J.1.look, J.2.look⟩
                  have e3 : (mvOf dx dy).map (fun m => cD (addC b m)) = [.tuple [.int (b.1 + dx), .int b.2], .tuple [.int b.1, .int (b.2 + dy)]] := by simp [mvOf, addC, cD]
                  rw [e3] at key
                  exact key.1
              · exact xs_nil
        · rfl
      · rw [← e2]
      · have g1 : GI G0 (G, (F, R')) := ⟨hG.nd, hG.mem⟩
        have g2 := GI.all (I := I) (b := b) (mvOf dx dy) g1
        have e5 : ((List.foldl (lookG I b) (G, F, R') (mvOf dx dy)).fst, List.foldl (lookF I b) (F, R') (mvOf dx dy)) = List.foldl (lookG I b) (G, F, R') (mvOf dx dy) := Prod.ext rfl e2.symm
        rw [show ((List.foldl (lookG I b) (G, F, R') (mvOf dx dy)).fst, (List.foldl (lookF I b) (F, R') (mvOf dx dy)).fst, (List.foldl (lookF I b) (F, R') (mvOf dx dy)).snd) = List.foldl (lookG I b) (G, F, R') (mvOf dx dy) from e5]
        exact g2
  · simp
def E8 (I : List Cell) (a : Cell) (dx : Option Slot) (G : List Cell) : Env := [some (.dat (tupC I) 0), some (.dat (cD a) 0), some (.dat (.dict (kvC z0 I)) 1), some (.dat (.dict (kvC z0 G)) 1), none, dx, none, none, none, none, none, none]
structure GQ (I : List Cell) (a : Cell) (G : List Cell) : Prop where
  nd : G.Nodup
  self : a ∈ G
  sub : ∀ x ∈ G, x = a ∨ x ∈ I
theorem lf_dy (cf : CF) (I : List Cell) (a : Cell) (dx dy : Int) (G : List Cell) (s : Src) (hI : I.length ≤ 1000) (h : GQ I a G) :
    ∃ G', foB cf (.nm 6) b_law_field_l2 [6, 7, 8, 9, 10, 11] (.int dy) (E8 I a (some (.dat (.int dx) 0)) G) s = some (.nx (E8 I a (some (.dat (.int dx) 0)) G'), s) ∧ GQ I a G' ∧ ∀ x, x ∈ G' ↔ x ∈ G ∨ Rch I (mvOf dx dy) a x := by
  obtain ⟨env1, s1, hw, rfl, G', F, rfl, hF, hG⟩ := lf_loop cf I a dx dy G s hI ⟨h.nd, fun x => ⟨.inl, fun z => z.elim id fun z => by rw [List.mem_singleton] at z; subst z; exact h.self⟩⟩ h.sub
  have hm : ∀ x, x ∈ G' ↔ x ∈ G ∨ Rch I (mvOf dx dy) a x := fun x => by rw [hG.mem x, fld_done hF x]
  refine ⟨G', ?_, ⟨hG.nd, (hm a).mpr (.inl h.self), fun x hx => ?_⟩, hm⟩
  · apply Eq.trans
    · apply foB_of
      · rfl
      · apply xs_cons
        · apply x_par
          · apply evr_cons'
            · apply ev_dic
              · apply evp_cons
                · exact ev_v rfl
                · exact ev_k
                · exact evp_nil
              · rfl
              · exact (by decide : 1 ≤ 15)
            · apply evr_cons'
              · apply ev_lst
                · apply evs_cons
                  · exact ev_v rfl
                  · exact evs_nil
                · exact (by decide : 1 ≤ LIM)
              · exact evr_nil'
          · rfl
          · apply sts_nm
            · rfl
            · apply sts_nm
              · rfl
              · exact sts_nil
        · apply xs_cons
          · apply x_wh
            exact hw
          · exact xs_nil
    · rfl
  · rcases (hm x).mp hx with h1 | h1
    · exact h.sub x h1
    · exact h1.mem
theorem lf_dx (cf : CF) (I : List Cell) (a : Cell) (dx : Int) (G : List Cell) (s : Src) (hI : I.length ≤ 1000) (h : GQ I a G) :
    ∃ G', foB cf (.nm 5) b_law_field_l1 [5, 6, 7, 8, 9, 10, 11] (.int dx) (E8 I a none G) s = some (.nx (E8 I a none G'), s) ∧ GQ I a G' ∧ ∀ x, x ∈ G' ↔ x ∈ G ∨ Rch I (mvOf dx 1) a x ∨ Rch I (mvOf dx (-1)) a x := by
  obtain ⟨G1, e1, q1, m1⟩ := lf_dy cf I a dx 1 G s hI h
  obtain ⟨G2, e2, q2, m2⟩ := lf_dy cf I a dx (-1) G1 s hI q1
  refine ⟨G2, ?_, q2, fun x => by rw [m2, m1, or_assoc]⟩
  apply Eq.trans
  · apply foB_of
    · rfl
    · apply xs_cons
      · apply x_for
        · apply evi_e
          · apply ev_tup
            · apply evs_cons
              · exact ev_k
              · apply evs_cons
                · apply ev_bin
                  · exact ev_k
                  · exact ev_k
                  · rfl
                · exact evs_nil
            · exact (by decide : 2 ≤ LIM)
          · rfl
        · rfl
        · exact forL_nx e1 (forL_nx e2 forL_nil')
      · exact xs_nil
  · rfl
theorem lfield_spec (k : Nat) (s : Src) {I : List Cell} {a : Cell} (h : IsRoom I) (ha : a ∈ I) : callN Pt (k + 1) 156 [.dat (tupC I) 0, .dat (cD a) 0] s = some (.dat (tupC (fld I a)) 0, s) := by
  have hI : I.length ≤ 1000 := Nat.le_trans h.le (by decide)
  have q0 : GQ I a [a] := ⟨by simp, by simp, fun x hx => by rw [List.mem_singleton] at hx; exact .inl hx⟩
  obtain ⟨G1, e1, q1, m1⟩ := lf_dx (callN Pt k) I a 1 [a] s hI q0
  obtain ⟨G2, e2, q2, m2⟩ := lf_dx (callN Pt k) I a (-1) G1 s hI q1
  have es : sortC G2 = fld I a := sortC_eq q2.nd (fld_asc h.asc) fun x => by
    rw [m2, m1, mem_fld]
    unfold Fld
    constructor
    · intro hx
      refine ⟨?_, ?_⟩
      · rcases q2.sub x ((m2 x).mpr (by rw [m1]; exact hx)) with rfl | z
        · exact ha
        · exact z
      · rcases hx with (hx | hx | hx) | hx | hx
        · rw [List.mem_singleton] at hx; subst hx; exact .inl .refl
        · exact .inl hx
        · exact .inr (.inr (.inr hx))
        · exact .inr (.inl hx)
        · exact .inr (.inr (.inl hx))
    · rintro ⟨_, hx | hx | hx | hx⟩
      · exact .inl (.inr (.inl hx))
      · exact .inr (.inl hx)
      · exact .inr (.inr hx)
      · exact .inl (.inr (.inr hx))
  apply run_def (by decide) rfl rfl
  apply xs_cons
  · apply x_par
    · apply evr_cons'
      · apply ev_dlcCells (x := .int 0) (l := I)
        · apply evi_e
          · exact ev_v rfl
          · rfl
        · exact Nat.le_trans h.le (by decide)
        · exact (by decide : 4 < 12)
        · intro c s; exact ev_k
      · apply evr_cons'
        · apply ev_dic
          · apply evp_cons
            · exact ev_v rfl
            · exact ev_k
            · exact evp_nil
          · rfl
          · exact (by decide : 1 ≤ 15)
        · exact evr_nil'
    · rfl
    · apply sts_nm
      · rfl
      · apply sts_nm
        · rfl
        · exact sts_nil
  · rw [insAll_self h.asc.nodup]
    apply xs_cons
    · apply x_for
      · apply evi_e
        · apply ev_tup
          · apply evs_cons
            · exact ev_k
            · apply evs_cons
              · apply ev_bin
                · exact ev_k
                · exact ev_k
                · rfl
              · exact evs_nil
          · exact (by decide : 2 ≤ LIM)
        · rfl
      · rfl
      · exact forL_nx e1 (forL_nx e2 forL_nil')
    · apply xs_stop_rt
      apply x_ret rfl
      apply ev_bi
      · apply evs_cons
        · apply ev_bi
          · apply evs_cons
            · apply ev_bi
              · apply evs_cons
                · exact ev_v rfl
                · exact evs_nil
              · exact bi_list_dict _ _
            · exact evs_nil
          · exact bi_sorted_list _
        · exact evs_nil
      · rw [es]; rfl
theorem lfields_spec (k : Nat) (s : Src) {I : List Cell} (h : IsRoom I) : callN Pt (k + 2) 187 [.dat (tupC I) 0] s = some (.dat (.dict (kvC (fun c => tupC (fld I c)) I)) 1, s) := by
  apply run_def (by decide) rfl rfl
  apply xs_stop_rt
  apply x_ret rfl
  refine Eq.trans (ev_dlcCellsF (f := fun c => tupC (fld I c)) (l := I) ?_ ?_ ?_ ?_) ?_
  · apply evi_e
    · exact ev_v rfl
    · rfl
  · exact Nat.le_trans h.le (by decide)
  · exact (by decide : 1 < 2)
  · intro c hc s
    refine ⟨0, ?_⟩
    apply ev_call
    · apply evc_cons
      · exact ev_v rfl
      · apply evc_cons
        · exact ev_v rfl
        · exact evc_nil
    · exact lfield_spec k s h hc
  · rw [insAll_self h.asc.nodup]
end N
/-! S8. Parts by steps, rooms: an answer is there. -/
namespace N
open PySem
local macro_rules | `(tactic| bv_omega) => `(tactic| repeat' (first
  | (with_reducible show ev _ _ _ _ = _); first
      | with_reducible exact ev_k | with_reducible apply ev_cmp | with_reducible apply ev_bin | with_reducible apply ev_tup | with_reducible apply ev_lst | with_reducible apply ev_dic | with_reducible apply ev_sub | with_reducible apply ev_andb | with_reducible apply ev_orb
      | with_reducible apply ev_nt | with_reducible apply ev_neg | with_reducible apply ev_sl | with_reducible apply ev_rev | with_reducible apply ev_bi | with_reducible apply ev_me
      | exact ev_v rfl | exact ev_src rfl | assumption
  | (with_reducible show evs _ _ _ _ = _); first | with_reducible exact evs_nil | with_reducible apply evs_cons
  | (with_reducible show evc _ _ _ _ = _); first | with_reducible exact evc_nil | with_reducible apply evc_cons
  | (with_reducible show evo _ _ _ _ = _); first | with_reducible exact evo_nil | with_reducible apply evo_one
  | (with_reducible show evp _ _ _ _ = _); first | with_reducible exact evp_nil | with_reducible apply evp_cons
  | (with_reducible show evr _ _ _ _ = _); first | with_reducible exact evr_nil' | with_reducible apply evr_cons'
  | (with_reducible show tests _ _ _ _ = _); first | with_reducible exact tests_nil | with_reducible apply tests_one
  | (with_reducible show evi _ _ _ _ = _); first | with_reducible apply evi_e
  | (with_reducible show cmpD _ _ _ = _); first | exact in_dict _ _ _ | exact nin_dict _ _ _ | exact in_lst _ _ | exact in_tup _ _ | exact nin_lst _ _ | exact nin_tup _ _
      | exact cmp_eq_cD _ _ | exact cmp_ne_cD _ _ | exact cmp_lt_int _ _ | exact cmp_gt_int _ _ | exact cmp_le_int _ _ | exact cmp_ge_int _ _ | exact cmp_eq_int _ _ | exact cmp_ne_int _ _ | exact cmp_eq_tup _ _ | exact cmp_ne_tup _ _ | exact cmp_eq_lst _ _ | exact cmp_ne_lst _ _ | exact cmp_eq_tup0 _ | exact cmp_ne_tup0 _ | exact cmp_eq_lst0 _ | exact cmp_ne_lst0 _ | rfl
  | (with_reducible show biD _ _ = _); first | exact bi_len_list _ | exact bi_len_tup _ | exact bi_len_dict _ _ | exact bi_sorted_list _ | exact bi_sorted_tup _ | exact bi_sorted_dict _ _ | exact bi_list_dict _ _ | rfl
  | (with_reducible show itemsOf _ = _); first | exact items_dict _ _ | rfl
  | (with_reducible show kept _ _ _ = _); first | exact kept_tup | rfl
  | (with_reducible show stores _ _ _ _ _ = _); first | with_reducible exact sts_nil | with_reducible apply sts_nm | with_reducible apply sts_sb
  | (with_reducible show exec _ _ _ _ = _); first | with_reducible apply x_asg | with_reducible apply x_asgT | with_reducible apply x_asgB | with_reducible apply x_par | with_reducible apply x_pop | with_reducible apply x_append | with_reducible apply x_extend | with_reducible apply x_popKey | with_reducible exact x_retn
  | with_reducible exact xs_nil | rfl | (intro _) | decide | (simp only [List.length_cons, List.length_nil]; decide)))

theorem forL_inv {α : Type} (emb : α → D) (I : List α → Env → Src → Prop) {body : D → Env → Src → RS} : ∀ (l done : List α) {env : Env} {s : Src}, I done env s → (∀ d a r, done ++ l = d ++ a :: r → ∀ env s, I d env s → ∃ env1 s1, body (emb a) env s = some (.nx env1, s1) ∧ I (d ++ [a]) env1 s1) → ∃ env1 s1, forL body (l.map emb) env s = some (.nx env1, s1) ∧ I (done ++ l) env1 s1
  | [], done, env, s, hb, h => ⟨env, s, rfl, by simpa using hb⟩
  | a :: l, done, env, s, hb, h => by
    obtain ⟨env1, s1, h1, h2⟩ := h done a l rfl env s hb
    rw [List.map_cons, forL, h1]
    have := forL_inv emb I l (done ++ [a]) h2 fun d a' r e => h d a' r (by rw [← e]; simp)
    simpa using this
theorem rangeD_eq : ∀ (n : Nat) (a : Int), rangeD a n = (List.range n).map fun i : Nat => .int (a + i)
  | 0, _ => rfl
  | n + 1, a => by
    rw [rangeD, rangeD_eq n (a + 1), List.range_succ_eq_map, List.map_cons, List.map_map]
    congr 1
    · simp
    · refine List.map_congr_left fun i _ => ?_
      show PyData.int (a + 1 + (i : Int)) = PyData.int (a + ((i + 1 : Nat) : Int))
      congr 1
      omega
def sidesC (c : Cell) : List Cell := [(c.1 + 1, c.2), (c.1, c.2 + 1), (c.1 - 1, c.2), (c.1, c.2 - 1)]
def nearC (c : Cell) : List Cell := [(c.1 + 1, c.2), (c.1 + 1, c.2 + 1), (c.1, c.2 + 1), (c.1 - 1, c.2 + 1), (c.1 - 1, c.2), (c.1 - 1, c.2 - 1), (c.1, c.2 - 1), (c.1 + 1, c.2 - 1)]
theorem sides_spec (k : Nat) (s : Src) (c : Cell) : callN Pt (k + 1) 52 [.dat (cD c) 0] s = some (.dat (lstC (sidesC c)) 1, s) := rfl
theorem near_spec (k : Nat) (s : Src) (c : Cell) : callN Pt (k + 1) 53 [.dat (cD c) 0] s = some (.dat (lstC (nearC c)) 1, s) := by
  apply run_def (by decide) rfl rfl
  apply xs_cons
  · apply x_asgT
    · exact ev_v rfl
    · rfl
    · rfl
  · apply xs_cons
    · apply x_asg
      · apply ev_lst
        · bv_omega
        · exact (by decide : 4 ≤ LIM)
      · rfl
    · apply xs_stop_rt
      apply x_ret rfl
      apply Eq.trans
      · apply ev_bin
        · exact ev_v rfl
        · apply ev_lst
          · bv_omega
          · exact (by decide : 4 ≤ LIM)
        · exact add_lists _ _ (by exact (by decide : 4 + 4 ≤ LIM))
      · rfl
def outOne (L : List Cell) (a : Cell) : List Cell := L.filter fun c => !decide (c = a)
theorem outOne_nodup {L : List Cell} {a : Cell} (h : L.Nodup) : (outOne L a).Nodup := h.sublist List.filter_sublist
theorem outOne_not {L : List Cell} {a : Cell} (h : ¬ a ∈ L) : outOne L a = L := by
  unfold outOne
  rw [List.filter_eq_self]
  intro c hc
  have : c ≠ a := fun e => h (e ▸ hc)
  simp [this]
theorem outOne_len : ∀ {L : List Cell} {a : Cell}, L.Nodup → a ∈ L → (outOne L a).length + 1 = L.length
  | c :: L, a, h, hm => by
    have h' := List.nodup_cons.mp h
    unfold outOne
    rw [List.filter_cons]
    by_cases e : c = a
    · subst e
      simp only [decide_true, Bool.not_true, Bool.false_eq_true, if_false, List.length_cons]
      have := outOne_not h'.1
      unfold outOne at this
      rw [this]
    · rcases List.mem_cons.mp hm with e2 | hm
      · exact absurd e2.symm e
      · have := outOne_len h'.2 hm
        unfold outOne at this
        simp only [e, decide_false, Bool.not_false, if_true, List.length_cons]
        omega
def moveF (p : List Cell × List Cell) (m : Cell) : List Cell × List Cell := if m ∈ p.1 then (outOne p.1 m, p.2 ++ [m]) else p
structure MvJ (B : Nat) (p : List Cell × List Cell) : Prop where
  nd : p.1.Nodup
  le : p.1.length + p.2.length ≤ B
theorem MvJ.move {B : Nat} {p : List Cell × List Cell} {m : Cell} (h : MvJ B p) : MvJ B (moveF p m) ∧ 2 * (moveF p m).1.length + (moveF p m).2.length ≤ 2 * p.1.length + p.2.length := by
  unfold moveF
  split
  · rename_i hm
    have h1 := outOne_len h.nd hm
    have h2 := h.le
    refine ⟨⟨outOne_nodup h.nd, ?_⟩, ?_⟩
    · simp only [List.length_append, List.length_cons, List.length_nil]; omega
    · simp only [List.length_append, List.length_cons, List.length_nil]; omega
  · exact ⟨h, Nat.le_refl _⟩
theorem MvJ.all {B : Nat} : ∀ (ms : List Cell) {p : List Cell × List Cell}, MvJ B p → MvJ B (ms.foldl moveF p) ∧ 2 * (ms.foldl moveF p).1.length + (ms.foldl moveF p).2.length ≤ 2 * p.1.length + p.2.length
  | [], p, h => ⟨h, Nat.le_refl _⟩
  | m :: ms, p, h => by
    obtain ⟨h1, h2⟩ := h.move (m := m)
    obtain ⟨h3, h4⟩ := MvJ.all ms h1
    exact ⟨h3, Nat.le_trans h4 h2⟩
def E9 (d : D) (nb : Bool) (Fd : List (List Cell)) (c : Option Slot) (S : List Cell) (here : Option Slot) (p : List Cell × List Cell) : Env := [some (.dat d 0), some (.dat (.bool nb) 0), some (.dat (.dict (kvC z0 p.1)) 1), some (.dat (.list (Fd.map tupC)) 1), c, some (.dat (.list (S.map cD)) 1), some (.dat (.list (p.2.map cD)) 1), here, none]
theorem pb_turn (cf : CF) (d : D) (nb : Bool) (Fd : List (List Cell)) (c here : Option Slot) (S : List Cell) (p : List Cell × List Cell) (m : Cell) (s : Src) (hR : p.2.length < LIM) : foB cf (.nm 8) b_law_parts_by_l3 [8] (cD m) (E9 d nb Fd c S here p) s = some (.nx (E9 d nb Fd c S here (moveF p m)), s) := by
  have test : ev cf (.cmp .In (.v 8) (.v 2)) ((E9 d nb Fd c S here p).set 8 (some (.dat (cD m) 0))) s = some (.dat (.bool (decide (m ∈ p.1))) 0, s) := by
    apply ev_cmp
    · exact ev_v rfl
    · exact ev_v rfl
    · exact in_dict _ _ _
  unfold moveF
  by_cases h : m ∈ p.1
  · rw [if_pos h]
    rw [decide_eq_true h] at test
    apply Eq.trans
    · apply foB_of
      · rfl
      · apply xs_cons
        · apply x_ite_t
          · exact test
          · rfl
          · apply xs_cons
            · apply x_popKey (kvs := kvC z0 p.1)
              · exact ev_v rfl
              · rfl
              · rfl
              · rw [goes_kvC, dhas_kvC, decide_eq_true h]; rfl
            · rw [dout_kvC]
              apply xs_cons
              · apply x_appCells (l := p.2) (c := m)
                · exact ev_v rfl
                · rfl
                · exact hR
              · exact xs_nil
        · exact xs_nil
    · rfl
  · rw [if_neg h]
    rw [decide_eq_false h] at test
    apply Eq.trans
    · apply foB_of
      · rfl
      · apply xs_cons
        · apply x_ite_f
          · exact test
          · rfl
          · exact xs_nil
        · exact xs_nil
    · rfl
theorem pb_loop (k : Nat) (d : D) (nb : Bool) (Fd : List (List Cell)) (c : Option Slot) (B : Nat) (hB : B < LIM) (s : Src) (S R L : List Cell) (hJ : L.Nodup ∧ L.length + R.length + S.length ≤ B) :
    ∃ env1 s1, whL (whT (callN Pt (k + 1)) (.cmp .NotEq (.v 6) (.lst .nil))) (whB (callN Pt (k + 1)) b_law_parts_by_l2 [7, 8]) (E9 d nb Fd c S none (L, R)) s = some (.nx env1, s1) ∧ (s1 = s ∧ ∃ S' L', env1 = E9 d nb Fd c S' none (L', []) ∧ L'.Nodup ∧ L'.length ≤ L.length) := by
  refine whL_inv (Q := fun env1 s1 => s1 = s ∧ ∃ S' L', env1 = E9 d nb Fd c S' none (L', []) ∧ L'.Nodup ∧ L'.length ≤ L.length) (fun n env s' => s' = s ∧ ∃ S' L' R', env = E9 d nb Fd c S' none (L', R') ∧ L'.Nodup ∧ L'.length ≤ L.length ∧ L'.length + R'.length + S'.length ≤ B ∧ n = 2 * L'.length + R'.length) ?_ _ _ _ ⟨rfl, _, _, _, rfl, hJ.1, Nat.le_refl _, hJ.2, rfl⟩
  rintro n env s' ⟨rfl, S', L', R', rfl, nd, hL, hle, rfl⟩
  rcases List.eq_nil_or_concat R' with rfl | ⟨R1, b, hR⟩
  · refine .inl ⟨s', whT_of (d := .bool false) (o := 0) ?_ rfl, rfl, S', L', rfl, nd, hL⟩
    apply ev_cmp
    · exact ev_v rfl
    · apply ev_lst
      · exact evs_nil
      · decide
    · exact cmp_ne_lst0 []
  · right
    rw [List.concat_eq_append] at hR
    subst hR
    simp only [List.length_append, List.length_cons, List.length_nil] at hle
    have hms : ∃ ms : List Cell, evi (callN Pt (k + 1)) (.e (.ite (.v 1) (.call 53 (.cons false (.v 7) .nil)) (.call 52 (.cons false (.v 7) .nil)))) (E9 d nb Fd c (S' ++ [b]) (some (.dat (cD b) 0)) (L', R1)) s' = some (ms.map cD, s') := by
      cases nb with
      | true =>
        refine ⟨nearC b, ?_⟩
        apply evi_e
        · apply ev_ite_t
          · exact ev_v rfl
          · rfl
          · apply ev_call
            · apply evc_cons
              · exact ev_v rfl
              · exact evc_nil
            · exact near_spec _ _ _
        · rfl
      | false =>
        refine ⟨sidesC b, ?_⟩
        apply evi_e
        · apply ev_ite_f
          · exact ev_v rfl
          · rfl
          · apply ev_call
            · apply evc_cons
              · exact ev_v rfl
              · exact evc_nil
            · exact sides_spec _ _ _
        · rfl
    obtain ⟨ms, hms⟩ := hms
    have J0 : MvJ (B - (S' ++ [b]).length) (L', R1) := ⟨nd, by simp only [List.length_append, List.length_cons, List.length_nil]; omega⟩
    obtain ⟨J1, hm⟩ := MvJ.all ms J0
    have hS : (S' ++ [b]).length = S'.length + 1 := by simp
    have hL1 : (ms.foldl moveF (L', R1)).1.length ≤ L'.length := by
      clear hm J1 hms
      have key : ∀ (ms : List Cell) (p : List Cell × List Cell), (ms.foldl moveF p).1.length ≤ p.1.length := by
        intro ms
        induction ms with
        | nil => intro p; exact Nat.le_refl _
        | cons m ms ih =>
          intro p
          refine Nat.le_trans (ih (moveF p m)) ?_
          unfold moveF
          split
          · exact List.length_filter_le _ _
          · exact Nat.le_refl _
      exact key ms (L', R1)
    refine ⟨s', E9 d nb Fd c (S' ++ [b]) none (ms.foldl moveF (L', R1)), s', 2 * (ms.foldl moveF (L', R1)).1.length + (ms.foldl moveF (L', R1)).2.length, whT_of (d := .bool true) (o := 0) ?_ rfl, ?_, ?_, rfl, S' ++ [b], (ms.foldl moveF (L', R1)).1, (ms.foldl moveF (L', R1)).2, rfl, J1.nd, Nat.le_trans hL1 hL, ?_, rfl⟩
    · apply ev_cmp
      · exact ev_v rfl
      · apply ev_lst
        · exact evs_nil
        · decide
      · refine (cmp_ne_lst0 _).trans ?_
        simp
    · apply Eq.trans
      · apply whB_of
        · apply xs_cons
          · apply x_popCells (l := R1) (c := b)
            · rfl
            · rfl
          · apply xs_cons
            · apply x_appCells (l := S') (c := b)
              · exact ev_v rfl
              · rfl
              · omega
            · apply xs_cons
              · apply x_for
                · exact hms
                · rfl
                · have key := forL_foldI (body := foB (callN Pt (k + 1)) (.nm 8) b_law_parts_by_l3 [8]) cD (E9 d nb Fd c (S' ++ [b]) (some (.dat (cD b) 0))) moveF (MvJ (B - (S' ++ [b]).length)) (l := ms) (b := (L', R1)) (s := s') J0 fun m _ p s J => ⟨pb_turn _ _ _ _ _ _ _ _ _ _ (by have := J.le; omega), J.move.1⟩
                  exact key.1
              · exact xs_nil
      · rfl
    · simp only [List.length_append, List.length_cons, List.length_nil]
      have hm' : 2 * (ms.foldl moveF (L', R1)).1.length + (ms.foldl moveF (L', R1)).2.length ≤ 2 * L'.length + R1.length := hm
      omega
    · have := J1.le
      omega
end N
/-! S9. Parts by steps, rooms: the answers. -/
namespace N
open PySem
local macro_rules | `(tactic| bv_omega) => `(tactic| repeat' (first
  | (with_reducible show ev _ _ _ _ = _); first
      | with_reducible exact ev_k | with_reducible apply ev_cmp | with_reducible apply ev_bin | with_reducible apply ev_tup | with_reducible apply ev_lst | with_reducible apply ev_dic | with_reducible apply ev_sub | with_reducible apply ev_andb | with_reducible apply ev_orb
      | with_reducible apply ev_nt | with_reducible apply ev_neg | with_reducible apply ev_sl | with_reducible apply ev_rev | with_reducible apply ev_bi | with_reducible apply ev_me
      | exact ev_v rfl | exact ev_src rfl | assumption
  | (with_reducible show evs _ _ _ _ = _); first | with_reducible exact evs_nil | with_reducible apply evs_cons
  | (with_reducible show evc _ _ _ _ = _); first | with_reducible exact evc_nil | with_reducible apply evc_cons
  | (with_reducible show evo _ _ _ _ = _); first | with_reducible exact evo_nil | with_reducible apply evo_one
  | (with_reducible show evp _ _ _ _ = _); first | with_reducible exact evp_nil | with_reducible apply evp_cons
  | (with_reducible show evr _ _ _ _ = _); first | with_reducible exact evr_nil' | with_reducible apply evr_cons'
  | (with_reducible show tests _ _ _ _ = _); first | with_reducible exact tests_nil | with_reducible apply tests_one
  | (with_reducible show evi _ _ _ _ = _); first | with_reducible apply evi_e
  | (with_reducible show cmpD _ _ _ = _); first | exact in_dict _ _ _ | exact nin_dict _ _ _ | exact in_lst _ _ | exact in_tup _ _ | exact nin_lst _ _ | exact nin_tup _ _
      | exact cmp_eq_cD _ _ | exact cmp_ne_cD _ _ | exact cmp_lt_int _ _ | exact cmp_gt_int _ _ | exact cmp_le_int _ _ | exact cmp_ge_int _ _ | exact cmp_eq_int _ _ | exact cmp_ne_int _ _ | exact cmp_eq_tup _ _ | exact cmp_ne_tup _ _ | exact cmp_eq_lst _ _ | exact cmp_ne_lst _ _ | exact cmp_eq_tup0 _ | exact cmp_ne_tup0 _ | exact cmp_eq_lst0 _ | exact cmp_ne_lst0 _ | rfl
  | (with_reducible show biD _ _ = _); first | exact bi_len_list _ | exact bi_len_tup _ | exact bi_len_dict _ _ | exact bi_sorted_list _ | exact bi_sorted_tup _ | exact bi_sorted_dict _ _ | exact bi_list_dict _ _ | rfl
  | (with_reducible show itemsOf _ = _); first | exact items_dict _ _ | rfl
  | (with_reducible show kept _ _ _ = _); first | exact kept_tup | rfl
  | (with_reducible show stores _ _ _ _ _ = _); first | with_reducible exact sts_nil | with_reducible apply sts_nm | with_reducible apply sts_sb
  | (with_reducible show exec _ _ _ _ = _); first | with_reducible apply x_asg | with_reducible apply x_asgT | with_reducible apply x_asgB | with_reducible apply x_par | with_reducible apply x_pop | with_reducible apply x_append | with_reducible apply x_extend | with_reducible apply x_popKey | with_reducible exact x_retn
  | with_reducible exact xs_nil | rfl | (intro _) | decide | (simp only [List.length_cons, List.length_nil]; decide)))

def E10 (d : D) (nb : Bool) (L : List Cell) (Fd : List (List Cell)) : Env := [some (.dat d 0), some (.dat (.bool nb) 0), some (.dat (.dict (kvC z0 L)) 1), some (.dat (.list (Fd.map tupC)) 1), none, none, none, none, none]
theorem pb_cell (k : Nat) (d : D) (nb : Bool) (L : List Cell) (Fd : List (List Cell)) (a : Cell) (s : Src) (hL : L.Nodup) (hl : L.length ≤ 100000) (hF : Fd.length ≤ 100000) :
    ∃ L' Fd', foB (callN Pt (k + 1)) (.nm 4) b_law_parts_by_l1 [4, 5, 6, 7, 8] (cD a) (E10 d nb L Fd) s = some (.nx (E10 d nb L' Fd'), s) ∧ L'.Nodup ∧ L'.length ≤ L.length ∧ Fd'.length ≤ Fd.length + 1 := by
  have lim : (200000 : Nat) < LIM := by decide
  have test : ev (callN Pt (k + 1)) (.cmp .In (.v 4) (.v 2)) ((E10 d nb L Fd).set 4 (some (.dat (cD a) 0))) s = some (.dat (.bool (decide (a ∈ L))) 0, s) := by
    apply ev_cmp
    · exact ev_v rfl
    · exact ev_v rfl
    · exact in_dict _ _ _
  by_cases h : a ∈ L
  · rw [decide_eq_true h] at test
    have hn := outOne_nodup (a := a) hL
    have ho := outOne_len hL h
    obtain ⟨env1, s1, hw, rfl, S', L', rfl, nd, hle⟩ := pb_loop k d nb Fd (some (.dat (cD a) 0)) 100000 (by omega) s [] [a] (outOne L a) ⟨hn, by simp only [List.length_cons, List.length_nil]; omega⟩
    refine ⟨L', Fd ++ [sortC S'], ?_, nd, by omega, by simp⟩
    apply Eq.trans
    · apply foB_of
      · rfl
      · apply xs_cons
        · apply x_ite_t
          · exact test
          · rfl
          · apply xs_cons
            · apply x_par
              · apply evr_cons'
                · apply ev_lst
                  · exact evs_nil
                  · decide
                · apply evr_cons'
                  · apply ev_lst
                    · bv_omega
                    · exact (by decide : 1 ≤ LIM)
                  · exact evr_nil'
              · rfl
              · apply sts_nm
                · rfl
                · apply sts_nm
                  · rfl
                  · exact sts_nil
            · apply xs_cons
              · apply x_popKey (kvs := kvC z0 L)
                · exact ev_v rfl
                · rfl
                · rfl
                · rw [goes_kvC, dhas_kvC, decide_eq_true h]; rfl
              · rw [dout_kvC]
                apply xs_cons
                · apply x_wh
                  exact hw
                · apply xs_cons
                  · apply x_append (d := tupC (sortC S'))
                    · apply ev_bi
                      · apply evs_cons
                        · apply ev_bi
                          · apply evs_cons
                            · exact ev_v rfl
                            · exact evs_nil
                          · exact bi_sorted_list _
                        · exact evs_nil
                      · rfl
                    · exact kept_tup
                    · rfl
                    · rw [List.length_map]; omega
                  · exact xs_nil
        · exact xs_nil
    · unfold E10 E9
      rw [List.map_append]
      rfl
  · rw [decide_eq_false h] at test
    refine ⟨L, Fd, ?_, hL, Nat.le_refl _, by omega⟩
    apply Eq.trans
    · apply foB_of
      · rfl
      · apply xs_cons
        · apply x_ite_f
          · exact test
          · rfl
          · exact xs_nil
        · exact xs_nil
    · rfl
theorem parts_spec (k : Nat) (s : Src) {l : List Cell} (nb : Bool) (hl : l.length ≤ 100000) : ∃ ps : List (List Cell), ps.length ≤ l.length ∧ callN Pt (k + 2) 54 [.dat (lstC l) 0, .dat (.bool nb) 0] s = some (.dat (.list (ps.map tupC)) 1, s) := by
  have lim : (200000 : Nat) < LIM := by decide
  have h0 : (insAll [] l).length ≤ 100000 := by
    have := len_insAll (l := []) (m := l)
    simp only [List.length_nil] at this
    omega
  obtain ⟨env1, s1, hw, rfl, L, Fd, rfl, _, _, hF⟩ := forL_inv (body := foB (callN Pt (k + 1)) (.nm 4) b_law_parts_by_l1 [4, 5, 6, 7, 8]) cD (fun done env s' => s' = s ∧ ∃ L Fd, env = E10 (lstC l) nb L Fd ∧ L.Nodup ∧ L.length ≤ 100000 ∧ Fd.length ≤ done.length) (sortC l) [] (env := E10 (lstC l) nb (insAll [] l) []) (s := s) ⟨rfl, _, _, rfl, nodup_insAll List.nodup_nil, h0, Nat.le_refl _⟩ (by
    rintro dn a r e env s' ⟨rfl, L, Fd, rfl, hL, hle, hF⟩
    have hd : dn.length ≤ 100000 := by
      have := congrArg List.length e
      simp only [List.nil_append, List.length_append, List.length_cons, len_sortC] at this
      omega
    obtain ⟨L', Fd', h1, h2, h3, h4⟩ := pb_cell k (lstC l) nb L Fd a s' hL hle (by omega)
    exact ⟨_, _, h1, rfl, L', Fd', rfl, h2, by omega, by simp only [List.length_append, List.length_cons, List.length_nil]; omega⟩)
  refine ⟨Fd, ?_, ?_⟩
  · rw [List.nil_append, len_sortC] at hF
    exact hF
  · apply run_def (by decide) rfl rfl
    apply xs_cons
    · apply x_par
      · apply evr_cons'
        · apply ev_dlcCells (x := .int 0) (l := l)
          · apply evi_e
            · exact ev_v rfl
            · rfl
          · omega
          · exact (by decide : 4 < 9)
          · intro c s; exact ev_k
        · apply evr_cons'
          · apply ev_lst
            · exact evs_nil
            · decide
          · exact evr_nil'
      · rfl
      · apply sts_nm
        · rfl
        · apply sts_nm
          · rfl
          · exact sts_nil
    · apply xs_cons
      · apply x_for
        · apply evi_e
          · apply ev_bi
            · apply evs_cons
              · exact ev_v rfl
              · exact evs_nil
            · exact bi_sorted_list _
          · rfl
        · rfl
        · exact hw
      · apply xs_stop_rt
        exact x_retv rfl
end N
/-! S10. is_room. -/
namespace N
open PySem
local macro_rules | `(tactic| bv_omega) => `(tactic| repeat' (first
  | (with_reducible show ev _ _ _ _ = _); first
      | with_reducible exact ev_k | with_reducible apply ev_cmp | with_reducible apply ev_bin | with_reducible apply ev_tup | with_reducible apply ev_lst | with_reducible apply ev_dic | with_reducible apply ev_sub | with_reducible apply ev_andb | with_reducible apply ev_orb
      | with_reducible apply ev_nt | with_reducible apply ev_neg | with_reducible apply ev_sl | with_reducible apply ev_rev | with_reducible apply ev_bi | with_reducible apply ev_me
      | exact ev_v rfl | exact ev_src rfl | assumption
  | (with_reducible show evs _ _ _ _ = _); first | with_reducible exact evs_nil | with_reducible apply evs_cons
  | (with_reducible show evc _ _ _ _ = _); first | with_reducible exact evc_nil | with_reducible apply evc_cons
  | (with_reducible show evo _ _ _ _ = _); first | with_reducible exact evo_nil | with_reducible apply evo_one
  | (with_reducible show evp _ _ _ _ = _); first | with_reducible exact evp_nil | with_reducible apply evp_cons
  | (with_reducible show evr _ _ _ _ = _); first | with_reducible exact evr_nil' | with_reducible apply evr_cons'
  | (with_reducible show tests _ _ _ _ = _); first | with_reducible exact tests_nil | with_reducible apply tests_one
  | (with_reducible show evi _ _ _ _ = _); first | with_reducible apply evi_e
  | (with_reducible show cmpD _ _ _ = _); first | exact in_dict _ _ _ | exact nin_dict _ _ _ | exact in_lst _ _ | exact in_tup _ _ | exact nin_lst _ _ | exact nin_tup _ _
      | exact cmp_eq_cD _ _ | exact cmp_ne_cD _ _ | exact cmp_lt_int _ _ | exact cmp_gt_int _ _ | exact cmp_le_int _ _ | exact cmp_ge_int _ _ | exact cmp_eq_int _ _ | exact cmp_ne_int _ _ | exact cmp_eq_tup _ _ | exact cmp_ne_tup _ _ | exact cmp_eq_lst _ _ | exact cmp_ne_lst _ _ | exact cmp_eq_tup0 _ | exact cmp_ne_tup0 _ | exact cmp_eq_lst0 _ | exact cmp_ne_lst0 _ | rfl
  | (with_reducible show biD _ _ = _); first | exact bi_len_list _ | exact bi_len_tup _ | exact bi_len_dict _ _ | exact bi_sorted_list _ | exact bi_sorted_tup _ | exact bi_sorted_dict _ _ | exact bi_list_dict _ _ | rfl
  | (with_reducible show itemsOf _ = _); first | exact items_dict _ _ | rfl
  | (with_reducible show kept _ _ _ = _); first | exact kept_tup | rfl
  | (with_reducible show stores _ _ _ _ _ = _); first | with_reducible exact sts_nil | with_reducible apply sts_nm | with_reducible apply sts_sb
  | (with_reducible show exec _ _ _ _ = _); first | with_reducible apply x_asg | with_reducible apply x_asgT | with_reducible apply x_asgB | with_reducible apply x_par | with_reducible apply x_pop | with_reducible apply x_append | with_reducible apply x_extend | with_reducible apply x_popKey | with_reducible exact x_retn
  | with_reducible exact xs_nil | rfl | (intro _) | decide | (simp only [List.length_cons, List.length_nil]; decide)))

theorem foldl_max : ∀ (ns : List Int) (n : Int), ns.foldl max n ∈ n :: ns ∧ ∀ x ∈ n :: ns, x ≤ ns.foldl max n
  | [], n => ⟨by simp, fun x hx => by rw [List.mem_singleton] at hx; subst hx; exact Int.le_refl _⟩
  | a :: ns, n => by
    obtain ⟨h1, h2⟩ := foldl_max ns (max n a)
    have e : max n a = n ∨ max n a = a := by omega
    constructor
    · show ns.foldl max (max n a) ∈ _
      rcases List.mem_cons.mp h1 with h | h
      · rw [h]
        rcases e with e | e <;> rw [e] <;> simp
      · simp [h]
    · intro x hx
      show x ≤ ns.foldl max (max n a)
      have h3 := h2 (max n a) (by simp)
      rcases List.mem_cons.mp hx with h | h
      · omega
      · rcases List.mem_cons.mp h with h | h
        · omega
        · exact h2 x (by simp [h])
theorem foldl_min : ∀ (ns : List Int) (n : Int), ns.foldl min n ∈ n :: ns ∧ ∀ x ∈ n :: ns, ns.foldl min n ≤ x
  | [], n => ⟨by simp, fun x hx => by rw [List.mem_singleton] at hx; subst hx; exact Int.le_refl _⟩
  | a :: ns, n => by
    obtain ⟨h1, h2⟩ := foldl_min ns (min n a)
    have e : min n a = n ∨ min n a = a := by omega
    constructor
    · show ns.foldl min (min n a) ∈ _
      rcases List.mem_cons.mp h1 with h | h
      · rw [h]
        rcases e with e | e <;> rw [e] <;> simp
      · simp [h]
    · intro x hx
      show ns.foldl min (min n a) ≤ x
      have h3 := h2 (min n a) (by simp)
      rcases List.mem_cons.mp hx with h | h
      · omega
      · rcases List.mem_cons.mp h with h | h
        · omega
        · exact h2 x (by simp [h])
theorem depthAll_ints : ∀ ns : List Int, PyData.depthAll (ns.map .int) = 0
  | [] => rfl
  | a :: l => by rw [List.map_cons, PyData.depthAll, depthAll_ints l]; rfl
theorem best_ok (f : D → List D → D) (n : Int) (ns : List Int) : bestD f ((n :: ns).map .int) = some (f (.int n) (ns.map .int)) := by
  unfold bestD
  rw [List.map_cons]
  have h1 : allAlike (.int n :: ns.map .int) = true := by
    unfold allAlike
    rw [List.all_eq_true]
    intro x hx
    rw [List.all_eq_true]
    intro y hy
    rw [← List.map_cons] at hx hy
    obtain ⟨a, _, rfl⟩ := List.mem_map.mp hx
    obtain ⟨b, _, rfl⟩ := List.mem_map.mp hy
    rfl
  have h3 : PyData.depthAll (.int n :: ns.map .int) ≤ 60 := by
    rw [← List.map_cons, depthAll_ints]
    omega
  refine if_pos ?_
  rw [Bool.and_eq_true, Bool.and_eq_true]
  refine ⟨⟨h1, ?_⟩, decide_eq_true h3⟩
  rw [List.all_eq_true]
  intro x hx
  rw [← List.map_cons] at hx
  obtain ⟨a, _, rfl⟩ := List.mem_map.mp hx
  rfl
theorem bi_min (n : Int) (ns : List Int) : biD .min [.list ((n :: ns).map .int)] = some (.int (ns.foldl min n), 0) := by
  show (bestD PySem.W.minD ((n :: ns).map .int)).map _ = _
  rw [best_ok, PySem.W.minD_ints]
  rfl
theorem bi_max (n : Int) (ns : List Int) : biD .max [.list ((n :: ns).map .int)] = some (.int (ns.foldl max n), 0) := by
  show (bestD PySem.W.maxD ((n :: ns).map .int)).map _ = _
  rw [best_ok, PySem.W.maxD_ints]
  rfl
theorem mm_in {ns : List Int} (h : ns ≠ []) : ∃ a b, biD .min [.list (ns.map .int)] = some (.int a, 0) ∧ biD .max [.list (ns.map .int)] = some (.int b, 0) ∧ a ∈ ns ∧ b ∈ ns := by
  cases ns with
  | nil => exact absurd rfl h
  | cons n ns => exact ⟨_, _, bi_min n ns, bi_max n ns, (foldl_min ns n).1, (foldl_max ns n).1⟩
def E11 (l : List Cell) (F : List Cell) : Env := [some (.dat (lstC l) 0), some (.dat (.list ((l.map (·.1)).map .int)) 1), some (.dat (.list ((l.map (·.2)).map .int)) 1), none, none, some (.dat (.list (F.map cD)) 1), none, none]
theorem ev_minmax (cf : CF) (i : Nat) (ns : List Int) {env : Env} {s : Src} (hg : getv env i = some (.dat (.list (ns.map .int)) 1)) (h : ns ≠ []) (hb : ∀ n ∈ ns, -100 ≤ n ∧ n ≤ 100) : ∃ a n : Nat, ∃ lo : Int, n ≤ 203 ∧ evi cf (.r2 (.bin .Sub (.bi .min (.cons false (.v i) .nil)) (.k (.int 1))) (.bin .Add (.bi .max (.cons false (.v i) .nil)) (.k (.int 2)))) env s = some ((List.range n).map fun j : Nat => .int (lo + j), s) := by
  obtain ⟨a, b, h1, h2, h3, h4⟩ := mm_in h
  have ha := hb a h3
  have hb := hb b h4
  refine ⟨0, (b + 2 - (a - 1)).toNat, a - 1, by omega, ?_⟩
  rw [← rangeD_eq]
  apply evi_r2
  · apply ev_bin
    · apply ev_bi
      · apply evs_cons
        · exact ev_v hg
        · exact evs_nil
      · exact h1
    · exact ev_k
    · rfl
  · apply ev_bin
    · apply ev_bi
      · apply evs_cons
        · exact ev_v hg
        · exact evs_nil
      · exact h2
    · exact ev_k
    · rfl
  · omega
theorem ir_turn (cf : CF) (l F : List Cell) (x : Int) (s : Src) (hne : l ≠ []) (hb : ∀ c ∈ l, (-100 ≤ c.1 ∧ c.1 ≤ 100) ∧ (-100 ≤ c.2 ∧ c.2 ≤ 100)) (hF : F.length ≤ 100000) :
    ∃ F', foB cf (.nm 3) b_law_is_room_l1 [3] (.int x) (E11 l F) s = some (.nx (E11 l F'), s) ∧ F'.length ≤ F.length + 203 := by
  have lim : (200000 : Nat) < LIM := by decide
  obtain ⟨_, n, lo, hn, he⟩ := ev_minmax cf 2 (l.map (·.2)) (env := (E11 l F).set 3 (some (.dat (.int x) 0))) (s := s) rfl (by simpa using hne) (fun n hn => by
    obtain ⟨c, hc, rfl⟩ := List.mem_map.mp hn
    exact (hb c hc).2)
  refine ⟨F ++ (List.range n).map (fun j : Nat => (x, lo + j)), ?_, by simp; omega⟩
  apply Eq.trans
  · apply foB_of
    · rfl
    · apply xs_cons
      · apply x_asgL
        · apply ev_bin
          · exact ev_v rfl
          · apply ev_lcMap (fun j : Nat => .int (lo + j)) (l := List.range n) (fun j : Nat => cD (x, lo + j)) (fun j : Nat => (wipe (flat ((E11 l F).set 3 (some (.dat (.int x) 0)))) [4]).set 4 (some (.dat (.int (lo + j)) 0)))
            · exact he
            · intro j _; rfl
            · intro j _ s
              refine ⟨0, ?_⟩
              apply ev_tup
              · bv_omega
              · exact (by decide : 2 ≤ LIM)
          · exact add_lists _ _ (by simp; omega)
        · exact immAll_append (imm_cells F) (immAll_map _ (fun _ => rfl) _)
      · exact xs_nil
  · have e : ((List.range n).map fun j : Nat => (x, lo + (j : Int))).map cD = (List.range n).map fun j : Nat => cD (x, lo + j) := by rw [List.map_map]; rfl
    unfold E11
    rw [List.map_append, e]
    rfl
theorem is_room_spec (k : Nat) (s : Src) {l : List Cell} (hl : l.length ≤ 1000) (hb : ∀ c ∈ l, (-100 ≤ c.1 ∧ c.1 ≤ 100) ∧ (-100 ≤ c.2 ∧ c.2 ≤ 100)) : ∃ b : Bool, callN Pt (k + 3) 55 [.dat (lstC l) 0] s = some (.dat (.bool b) 0, s) ∧ (b = true → l ≠ []) := by
  have lim : (200000 : Nat) < LIM := by decide
  obtain ⟨ps, hps, hcall⟩ := parts_spec k s (l := l) false (by omega)
  have test : ev (callN Pt (k + 2)) (.cmp .NotEq (.bi .len (.cons false (.call 54 (.cons false (.v 0) (.cons false (.k (.bool false)) .nil))) .nil)) (.k (.int 1))) (enter d_law_is_room [.dat (lstC l) 0]) s = some (.dat (.bool (!decide ((ps.length : Int) = 1))) 0, s) := by
    apply ev_cmp
    · apply ev_bi
      · apply evs_cons
        · apply ev_call
          · apply evc_cons
            · exact ev_v rfl
            · apply evc_cons
              · exact ev_k
              · exact evc_nil
          · exact hcall
        · exact evs_nil
      · rfl
    · exact ev_k
    · rw [List.length_map]; exact cmp_ne_int _ _
  by_cases h1 : (ps.length : Int) = 1
  · rw [decide_eq_true h1] at test
    have hne : l ≠ [] := by
      rintro rfl
      simp only [List.length_nil] at hps
      omega
    obtain ⟨_, n, lo, hn, he⟩ := ev_minmax (callN Pt (k + 2)) 1 (l.map (·.1)) (env := E11 l []) (s := s) rfl (by simpa using hne) (fun n hn => by
      obtain ⟨c, hc, rfl⟩ := List.mem_map.mp hn
      exact (hb c hc).1)
    obtain ⟨env1, s1, hw, rfl, F, rfl, hF⟩ := forL_inv (body := foB (callN Pt (k + 2)) (.nm 3) b_law_is_room_l1 [3]) (fun j : Nat => PyData.int (lo + j)) (fun done env s' => s' = s ∧ ∃ F, env = E11 l F ∧ F.length ≤ 203 * done.length) (List.range n) [] (env := E11 l []) (s := s) ⟨rfl, _, rfl, Nat.zero_le _⟩ (by
      rintro dn j r e env s' ⟨rfl, F, rfl, hF⟩
      have hd : dn.length ≤ 203 := by
        have := congrArg List.length e
        simp only [List.nil_append, List.length_append, List.length_cons, List.length_range] at this
        omega
      obtain ⟨F', h1, h2⟩ := ir_turn (callN Pt (k + 2)) l F (lo + j) s' hne hb (by omega)
      exact ⟨_, _, h1, rfl, F', rfl, by simp only [List.length_append, List.length_cons, List.length_nil]; omega⟩)
    simp only [List.nil_append, List.length_range] at hF
    have hout : (F.filter fun c => !decide (c ∈ insAll [] l)).length ≤ 100000 := by
      refine Nat.le_trans (List.length_filter_le _ _) ?_
      have : 203 * n ≤ 203 * 203 := Nat.mul_le_mul_left _ hn
      omega
    obtain ⟨qs, _, hcall2⟩ := parts_spec k s1 (l := F.filter fun c => !decide (c ∈ insAll [] l)) true hout
    refine ⟨decide ((qs.length : Int) = 1), ?_, fun _ => hne⟩
    apply run_def (by decide) rfl rfl
    apply xs_cons
    · apply x_ite_f
      · exact test
      · rfl
      · exact xs_nil
    · apply xs_cons
      · apply x_par
        · apply evr_cons'
          · apply ev_lcMap cD (l := l) (fun c => .int c.1) (fun c => [some (.dat (lstC l) 0), none, none, some (.dat (.int c.1) 0), some (.dat (.int c.2) 0), none, none, none])
            · apply evi_e
              · exact ev_v rfl
              · rfl
            · intro c _; rfl
            · intro c _ s
              exact ⟨0, ev_v rfl⟩
          · apply evr_cons'
            · apply ev_lcMap cD (l := l) (fun c => .int c.2) (fun c => [some (.dat (lstC l) 0), none, none, some (.dat (.int c.1) 0), some (.dat (.int c.2) 0), none, none, none])
              · apply evi_e
                · exact ev_v rfl
                · rfl
              · intro c _; rfl
              · intro c _ s
                exact ⟨0, ev_v rfl⟩
            · exact evr_nil'
        · rfl
        · apply sts_nm
          · rfl
          · apply sts_nm
            · rfl
            · exact sts_nil
      · rw [show (l.map fun c => PyData.int c.1) = (l.map (·.1)).map .int from by rw [List.map_map]; rfl, show (l.map fun c => PyData.int c.2) = (l.map (·.2)).map .int from by rw [List.map_map]; rfl]
        apply xs_cons
        · apply x_asg
          · apply ev_lst
            · exact evs_nil
            · decide
          · rfl
        · apply xs_cons
          · apply x_for
            · exact he
            · rfl
            · exact hw
          · apply xs_cons
            · apply x_asg
              · apply ev_dlcCells (x := .int 0) (l := l)
                · apply evi_e
                  · exact ev_v rfl
                  · rfl
                · omega
                · exact (by decide : 7 < 8)
                · intro c s; exact ev_k
              · rfl
            · apply xs_stop_rt
              apply x_ret rfl
              apply ev_cmp
              · apply ev_bi
                · apply evs_cons
                  · apply ev_call
                    · apply evc_cons
                      · apply ev_lcFilter (l := F) (q := fun c => !decide (c ∈ insAll [] l))
                        · apply evi_e
                          · exact ev_v rfl
                          · rfl
                        · exact (by decide : 7 < 8)
                        · intro c _ s
                          refine ⟨0, ?_⟩
                          apply ev_cmp
                          · exact ev_v rfl
                          · exact ev_v rfl
                          · exact nin_dict _ _ _
                      · apply evc_cons
                        · exact ev_k
                        · exact evc_nil
                    · exact hcall2
                  · exact evs_nil
                · rfl
              · exact ev_k
              · rw [List.length_map]; exact cmp_eq_int _ _
  · rw [decide_eq_false h1] at test
    refine ⟨false, ?_, fun h => absurd h (by decide)⟩
    apply run_def (by decide) rfl rfl
    apply xs_stop_rt
    apply x_ite_t
    · exact test
    · rfl
    · apply xs_stop_rt
      apply x_ret rfl
      exact ev_k
end N
/-! S11. Draws; the snake. -/
namespace N
open PySem
local macro_rules | `(tactic| bv_omega) => `(tactic| repeat' (first
  | (with_reducible show ev _ _ _ _ = _); first
      | with_reducible exact ev_k | with_reducible apply ev_cmp | with_reducible apply ev_bin | with_reducible apply ev_tup | with_reducible apply ev_lst | with_reducible apply ev_dic | with_reducible apply ev_sub | with_reducible apply ev_andb | with_reducible apply ev_orb
      | with_reducible apply ev_nt | with_reducible apply ev_neg | with_reducible apply ev_sl | with_reducible apply ev_rev | with_reducible apply ev_bi | with_reducible apply ev_me
      | exact ev_v rfl | exact ev_src rfl | assumption
  | (with_reducible show evs _ _ _ _ = _); first | with_reducible exact evs_nil | with_reducible apply evs_cons
  | (with_reducible show evc _ _ _ _ = _); first | with_reducible exact evc_nil | with_reducible apply evc_cons
  | (with_reducible show evo _ _ _ _ = _); first | with_reducible exact evo_nil | with_reducible apply evo_one
  | (with_reducible show evp _ _ _ _ = _); first | with_reducible exact evp_nil | with_reducible apply evp_cons
  | (with_reducible show evr _ _ _ _ = _); first | with_reducible exact evr_nil' | with_reducible apply evr_cons'
  | (with_reducible show tests _ _ _ _ = _); first | with_reducible exact tests_nil | with_reducible apply tests_one
  | (with_reducible show evi _ _ _ _ = _); first | with_reducible apply evi_e
  | (with_reducible show cmpD _ _ _ = _); first | exact in_dict _ _ _ | exact nin_dict _ _ _ | exact in_lst _ _ | exact in_tup _ _ | exact nin_lst _ _ | exact nin_tup _ _
      | exact cmp_eq_cD _ _ | exact cmp_ne_cD _ _ | exact cmp_lt_int _ _ | exact cmp_gt_int _ _ | exact cmp_le_int _ _ | exact cmp_ge_int _ _ | exact cmp_eq_int _ _ | exact cmp_ne_int _ _ | exact cmp_eq_tup _ _ | exact cmp_ne_tup _ _ | exact cmp_eq_lst _ _ | exact cmp_ne_lst _ _ | exact cmp_eq_tup0 _ | exact cmp_ne_tup0 _ | exact cmp_eq_lst0 _ | exact cmp_ne_lst0 _ | rfl
  | (with_reducible show biD _ _ = _); first | exact bi_len_list _ | exact bi_len_tup _ | exact bi_len_dict _ _ | exact bi_sorted_list _ | exact bi_sorted_tup _ | exact bi_sorted_dict _ _ | exact bi_list_dict _ _ | rfl
  | (with_reducible show itemsOf _ = _); first | exact items_dict _ _ | rfl
  | (with_reducible show kept _ _ _ = _); first | exact kept_tup | rfl
  | (with_reducible show stores _ _ _ _ _ = _); first | with_reducible exact sts_nil | with_reducible apply sts_nm | with_reducible apply sts_sb
  | (with_reducible show exec _ _ _ _ = _); first | with_reducible apply x_asg | with_reducible apply x_asgT | with_reducible apply x_asgB | with_reducible apply x_par | with_reducible apply x_pop | with_reducible apply x_append | with_reducible apply x_extend | with_reducible apply x_popKey | with_reducible exact x_retn
  | with_reducible exact xs_nil | rfl | (intro _) | decide | (simp only [List.length_cons, List.length_nil]; decide)))

theorem refill_turn : True := trivial
theorem pick_val (s : Src) (m : Int) : 0 ≤ (pick s m).1 ∧ (pick s m).1 < max 1 m ∧ (pick s m).2.turn ≤ s.turn + 1 ∧ s.turn ≤ (pick s m).2.turn := by
  unfold pick
  split
  · refine ⟨Int.le_refl _, ?_, ?_, Int.le_refl _⟩
    · show (0 : Int) < max 1 m
      omega
    · show s.turn ≤ s.turn + 1
      omega
  · rename_i hm
    have hm' : m ≠ 0 := by omega
    simp only []
    split
    · refine ⟨Int.emod_nonneg _ hm', ?_, ?_, Int.le_refl _⟩
      · have := Int.emod_lt_of_pos (refill s.left s.cells).1 (show 0 < m by omega)
        show _ % m < max 1 m
        omega
      · show s.turn ≤ s.turn + 1
        omega
    · refine ⟨Int.emod_nonneg _ hm', ?_, Int.le_refl _, ?_⟩
      · have := Int.emod_lt_of_pos (mixIt s.mixed (s.turn + 1) / 16) (show 0 < m by omega)
        show _ % m < max 1 m
        omega
      · show s.turn ≤ s.turn + 1
        omega
theorem pick_spec (k : Nat) (s : Src) {m : Int} (hm : m ≤ 1000000) (ht : s.turn ≤ 1000000) : ∃ r s', callN Pt (k + 1) 0 [.src, .dat (.int m) 0] s = some (.dat (.int r) 0, s') ∧ 0 ≤ r ∧ r < max 1 m ∧ s'.turn ≤ s.turn + 1 := by
  refine ⟨(pick s m).1, (pick s m).2, ?_, (pick_val s m).1, (pick_val s m).2.1, (pick_val s m).2.2.1⟩
  rw [callN.eq_def]
  simp only [if_pos]
  exact if_pos ⟨hm, by omega⟩
theorem ev_pick {k i : Nat} {e : X} {env : Env} {s s1 : Src} {m : Int} {o : Nat} (hg : getv env i = some .src) (he : ev (callN Pt (k + 1)) e env s = some (.dat (.int m) o, s1)) (hm : m ≤ 1000000) (ht : s1.turn ≤ 1000000) : ∃ r s', ev (callN Pt (k + 1)) (.call 0 (.cons false (.v i) (.cons false e .nil))) env s = some (.dat (.int r) 0, s') ∧ 0 ≤ r ∧ r < max 1 m ∧ s'.turn ≤ s1.turn + 1 := by
  obtain ⟨r, s', h, h1⟩ := pick_spec k s1 hm ht
  refine ⟨r, s', ?_, h1⟩
  apply ev_call
  · apply evc_src
    · exact ev_src hg
    · apply evc_cons
      · exact he
      · exact evc_nil
  · exact h
/-! ### items -/
theorem ixN_in {n : Nat} {i : Int} (h0 : 0 ≤ i) (h1 : i < n) : L2.ixN n i = some i.toNat := by
  unfold L2.ixN
  rw [if_pos h0, if_pos h1]
theorem atI_map {α β : Type} (f : α → β) (l : List α) (i : Int) : L2.atI (l.map f) i = (L2.atI l i).map f := by
  unfold L2.atI
  rw [List.length_map]
  cases L2.ixN l.length i with
  | none => rfl
  | some j => show (l.map f)[j]? = (l[j]?).map f; rw [List.getElem?_map]
theorem atI_in {α : Type} {l : List α} {i : Int} (h0 : 0 ≤ i) (h1 : i < l.length) : ∃ c ∈ l, L2.atI l i = some c ∧ l[i.toNat]? = some c := by
  unfold L2.atI
  rw [ixN_in h0 h1]
  have h : i.toNat < l.length := by omega
  exact ⟨l[i.toNat], List.getElem_mem h, List.getElem?_eq_getElem h, List.getElem?_eq_getElem h⟩
theorem atI_last {α : Type} (l : List α) (z : α) : L2.atI (l ++ [z]) (-1) = some z := by
  unfold L2.atI L2.ixN
  rw [if_neg (by decide), if_pos (by simp only [List.length_append, List.length_cons, List.length_nil]; omega)]
  show (l ++ [z])[_]? = _
  rw [show (-1 + ((l ++ [z]).length : Int)).toNat = l.length from by simp only [List.length_append, List.length_cons, List.length_nil]; omega]
  simp
theorem item_lst {l : List Cell} {i : Int} (h0 : 0 ≤ i) (h1 : i < l.length) : ∃ c ∈ l, itemD (.list (l.map cD)) (.int i) = some (cD c) := by
  obtain ⟨c, hc, h, _⟩ := atI_in h0 h1
  exact ⟨c, hc, by show L2.atI (l.map cD) i = _; rw [atI_map, h]; rfl⟩
theorem item_tup {l : List Cell} {i : Int} (h0 : 0 ≤ i) (h1 : i < l.length) : ∃ c ∈ l, itemD (.tuple (l.map cD)) (.int i) = some (cD c) := item_lst h0 h1
theorem item_last (l : List Cell) (z : Cell) : itemD (.list ((l ++ [z]).map cD)) (.int (-1)) = some (cD z) := by
  show L2.atI ((l ++ [z]).map cD) (-1) = _
  rw [atI_map, atI_last]
  rfl
theorem erase_sub {α : Type} {l : List α} {j : Nat} {x : α} (h : x ∈ l.eraseIdx j) : x ∈ l := (List.eraseIdx_sublist l j).subset h
theorem erase_map {α β : Type} (f : α → β) : ∀ (l : List α) (j : Nat), (l.map f).eraseIdx j = (l.eraseIdx j).map f
  | [], _ => rfl
  | _ :: _, 0 => rfl
  | a :: l, j + 1 => by
    rw [List.map_cons, List.eraseIdx_cons_succ, List.eraseIdx_cons_succ, List.map_cons, erase_map f l j]
theorem mul_list {xs : List D} {j : Int} (h : xs.length * j.toNat ≤ LIM ∧ -(2 ^ 63) ≤ j ∧ j < 2 ^ 63) : binD .Mult (.list xs) (.int j) = some (.list (List.replicate j.toNat xs).flatten, 1) := if_pos h
theorem any_run (k : Nat) : ∀ (n : Nat) (l : List Cell) (s : Src), l.length = n → n ≤ 1000 → s.turn + n ≤ 1000000 → ∃ (r : List Cell) (s' : Src), anyRun (callN Pt (k + 1)) n (l.map cD) s = some (r.map cD, s') ∧ r.length = n ∧ (∀ c ∈ r, c ∈ l) ∧ s'.turn ≤ s.turn + n
  | 0, l, s, _, _, _ => ⟨[], s, rfl, rfl, by simp, by omega⟩
  | n + 1, l, s, hl, hn, ht => by
    obtain ⟨i, s1, hp, h0, h1, t1⟩ := pick_spec k s (m := ((l.map cD).length : Int)) (by rw [List.length_map]; omega) (by omega)
    rw [List.length_map] at h1
    have h1' : i < l.length := by omega
    have hj : i.toNat < l.length := by omega
    obtain ⟨r, s2, hr, hlen, hsub, t2⟩ := any_run k n (l.eraseIdx i.toNat) s1 (by rw [List.length_eraseIdx_of_lt hj]; omega) (by omega) (by omega)
    refine ⟨l[i.toNat] :: r, s2, ?_, by simp [hlen], fun c hc => ?_, by omega⟩
    · rw [anyRun, hp, bD_some]
      simp only []
      rw [List.length_map, ixN_in h0 h1']
      simp only []
      rw [List.getElem?_map, List.getElem?_eq_getElem hj]
      simp only [Option.map_some]
      rw [erase_map]
      rw [hr]
      rfl
    · rcases List.mem_cons.mp hc with rfl | h
      · exact List.getElem_mem hj
      · exact erase_sub (hsub c h)
theorem any_spec (k : Nat) (s : Src) {l : List Cell} (hl : l.length ≤ 1000) (ht : s.turn + l.length ≤ 1000000) : ∃ (r : List Cell) (s' : Src), callN Pt (k + 2) 1 [.src, .dat (lstC l) 0] s = some (.dat (lstC r) 1, s') ∧ r.length = l.length ∧ (∀ c ∈ r, c ∈ l) ∧ s'.turn ≤ s.turn + l.length := by
  obtain ⟨r, s', h, h1, h2, h3⟩ := any_run k l.length l s rfl hl ht
  refine ⟨r, s', ?_, h1, h2, h3⟩
  rw [callN.eq_def]
  simp only [if_neg (show ¬ (1 : Nat) = 0 by decide), if_pos]
  show (if (l.map cD).length ≤ LIM then (match anyRun (callN Pt (k + 1)) (l.map cD).length (l.map cD) s with
    | some (r, s1) => some (Slot.dat (.list r) 1, s1)
    | none => none) else none) = _
  have lim : (200000 : Nat) < LIM := by decide
  rw [if_pos (by rw [List.length_map]; omega), List.length_map, h]
  rfl
theorem evi_range {cf : CF} {a : X} {env : Env} {s s1 : Src} {n : Int} {o : Nat} (h : ev cf a env s = some (.dat (.int n) o, s1)) (hn : -(2 ^ 61) < n ∧ n < 16777216) : evi cf (.r1 a) env s = some ((List.range n.toNat).map (fun j : Nat => .int (0 + (j : Int))), s1) := by rw [evi_r1 h hn, rangeD_eq]
/-! ### snake -/
def stepS (n : Int) (p : List Cell × Cell) (m : Cell) : List Cell × Cell := if (p.1.length : Int) + 1 < n then (p.1 ++ [p.2], addC p.2 m) else p
def E12 (n w : Int) (lap : Option Slot) (p : List Cell × Cell) : Env := [some .src, some (.dat (.int n) 0), some (.dat (.list ((p.1 ++ [p.2]).map cD)) 1), some (.dat (.int w) 0), lap, none, none]
theorem sn_step (cf : CF) (n w : Int) (lap : Option Slot) (p : List Cell × Cell) (m : Cell) (s : Src) (hl : p.1.length ≤ 1000) : foB cf (.tp (.cons (.nm 5) (.cons (.nm 6) .nil))) b_law_snake_l2 [5, 6] (cD m) (E12 n w lap p) s = some (.nx (E12 n w lap (stepS n p m)), s) := by
  have lim : (200000 : Nat) < LIM := by decide
  have test : ev cf (.cmp .Lt (.bi .len (.cons false (.v 2) .nil)) (.v 1)) (((E12 n w lap p).set 5 (some (.dat (.int m.1) 0))).set 6 (some (.dat (.int m.2) 0))) s = some (.dat (.bool (decide (((p.1 ++ [p.2]).length : Int) < n))) 0, s) := by
    apply ev_cmp
    · apply ev_bi
      · apply evs_cons
        · exact ev_v rfl
        · exact evs_nil
      · exact bi_len_list _
    · exact ev_v rfl
    · exact cmp_lt_int _ _
  have e0 : ((p.1 ++ [p.2]).length : Int) = (p.1.length : Int) + 1 := by simp
  rw [e0] at test
  have lst : ∀ {env : Env} {s : Src}, getv env 2 = some (.dat (.list ((p.1 ++ [p.2]).map cD)) 1) → ev cf (.sub (.v 2) (.neg (.k (.int 1)))) env s = some (.dat (cD p.2) 0, s) := fun hg => by
    apply ev_sub
    · exact ev_v hg
    · apply ev_neg
      exact ev_k
    · exact item_last _ _
  unfold stepS
  by_cases h : (p.1.length : Int) + 1 < n
  · rw [decide_eq_true h] at test
    rw [if_pos h]
    apply Eq.trans
    · apply foB_of
      · rfl
      · apply xs_cons
        · apply x_ite_t
          · exact test
          · rfl
          · apply xs_cons
            · apply x_appCells (l := p.1 ++ [p.2]) (c := addC p.2 m)
              · apply Eq.trans
                · apply ev_tup
                  · apply evs_cons
                    · apply ev_bin
                      · apply ev_sub
                        · exact lst rfl
                        · exact ev_k
                        · rfl
                      · exact ev_v rfl
                      · rfl
                    · apply evs_cons
                      · apply ev_bin
                        · apply ev_sub
                          · exact lst rfl
                          · exact ev_k
                          · rfl
                        · exact ev_v rfl
                        · rfl
                      · exact evs_nil
                  · exact (by decide : 2 ≤ LIM)
                · rfl
              · rfl
              · simp only [List.length_append, List.length_cons, List.length_nil]; omega
            · exact xs_nil
        · exact xs_nil
    · rfl
  · rw [decide_eq_false h] at test
    rw [if_neg h]
    apply Eq.trans
    · apply foB_of
      · rfl
      · apply xs_cons
        · apply x_ite_f
          · exact test
          · rfl
          · exact xs_nil
        · exact xs_nil
    · rfl
def mvS (w : Int) (b : Bool) : List Cell := if b then [(w, 0), (w, 0), (0, 1), (0, 1)] else [(w, 0), (0, 1), (0, 1)]
theorem stepS_len (n : Int) (p : List Cell × Cell) (m : Cell) : (stepS n p m).1.length ≤ p.1.length + 1 := by
  unfold stepS
  split
  · simp
  · omega
theorem sn_turn (k : Nat) (n w : Int) (p : List Cell × Cell) (d : D) (s : Src) (hl : p.1.length ≤ 500) (ht : s.turn ≤ 900000) :
    ∃ w' b s', foB (callN Pt (k + 1)) (.nm 4) b_law_snake_l1 [4, 5, 6] d (E12 n w none p) s = some (.nx (E12 n w' none ((mvS w' b).foldl (stepS n) p)), s') ∧ (w' = w ∨ w' = -w) ∧ s'.turn ≤ s.turn + 2 := by
  obtain ⟨r, s1, h1, _, _, t1⟩ := ev_pick (k := k) (i := 0) (e := .k (.int 7)) (env := E12 n w (some (.dat d 0)) p) (s := s) rfl ev_k (by decide) (by omega)
  have hw : ∃ w', (w' = w ∨ w' = -w) ∧ ev (callN Pt (k + 1)) (.ite (.cmp .Gt (.call 0 (.cons false (.v 0) (.cons false (.k (.int 7)) .nil))) (.k (.int 0))) (.bin .Sub (.k (.int 0)) (.v 3)) (.v 3)) (E12 n w (some (.dat d 0)) p) s = some (.dat (.int w') 0, s1) := by
    have test : ev (callN Pt (k + 1)) (.cmp .Gt (.call 0 (.cons false (.v 0) (.cons false (.k (.int 7)) .nil))) (.k (.int 0))) (E12 n w (some (.dat d 0)) p) s = some (.dat (.bool (decide (0 < r))) 0, s1) := by
      apply ev_cmp
      · exact h1
      · exact ev_k
      · exact cmp_gt_int _ _
    by_cases h : 0 < r
    · rw [decide_eq_true h] at test
      refine ⟨0 - w, .inr (by omega), ?_⟩
      apply ev_ite_t
      · exact test
      · rfl
      · apply ev_bin
        · exact ev_k
        · exact ev_v rfl
        · rfl
    · rw [decide_eq_false h] at test
      refine ⟨w, .inl rfl, ?_⟩
      apply ev_ite_f
      · exact test
      · rfl
      · exact ev_v rfl
  obtain ⟨w', hw', he⟩ := hw
  obtain ⟨q, s2, h2, _, _, t2⟩ := ev_pick (k := k) (i := 0) (e := .k (.int 5)) (env := E12 n w' (some (.dat d 0)) p) (s := s1) rfl ev_k (by decide) (by omega)
  refine ⟨w', decide (q = 0), s2, ?_, hw', by omega⟩
  have hit : evi (callN Pt (k + 1)) (.e (.bin .Add (.bin .Mult (.lst (.cons false (.tup (.cons false (.v 3) (.cons false (.k (.int 0)) .nil))) .nil)) (.bin .Add (.k (.int 1)) (.bi .int (.cons false (.cmp .Eq (.call 0 (.cons false (.v 0) (.cons false (.k (.int 5)) .nil))) (.k (.int 0))) .nil)))) (.lst (.cons false (.tup (.cons false (.k (.int 0)) (.cons false (.k (.int 1)) .nil))) (.cons false (.tup (.cons false (.k (.int 0)) (.cons false (.k (.int 1)) .nil))) .nil))))) (E12 n w' (some (.dat d 0)) p) s1 = some ((mvS w' (decide (q = 0))).map cD, s2) := by
    have tst : ev (callN Pt (k + 1)) (.bi .int (.cons false (.cmp .Eq (.call 0 (.cons false (.v 0) (.cons false (.k (.int 5)) .nil))) (.k (.int 0))) .nil)) (E12 n w' (some (.dat d 0)) p) s1 = some (.dat (.int (if decide (q = 0) then 1 else 0)) 0, s2) := by
      apply ev_bi
      · apply evs_cons
        · apply ev_cmp
          · exact h2
          · exact ev_k
          · exact cmp_eq_int _ _
        · exact evs_nil
      · rfl
    generalize decide (q = 0) = b at tst ⊢
    apply evi_e (d := .list ((mvS w' b).map cD)) (o := 1)
    · cases b with
      | true =>
        apply Eq.trans
        · apply ev_bin
          · apply ev_bin
            · apply ev_lst
              · apply evs_cons
                · apply ev_tup
                  · bv_omega
                  · exact (by decide : 2 ≤ LIM)
                · exact evs_nil
              · exact (by decide : 1 ≤ LIM)
            · apply ev_bin
              · exact ev_k
              · exact tst
              · rfl
            · exact mul_list (by exact (by decide : 1 * 2 ≤ LIM ∧ -(2 ^ 63) ≤ (2 : Int) ∧ (2 : Int) < 2 ^ 63))
          · apply ev_lst
            · apply evs_cons
              · apply ev_tup
                · bv_omega
                · exact (by decide : 2 ≤ LIM)
              · apply evs_cons
                · apply ev_tup
                  · bv_omega
                  · exact (by decide : 2 ≤ LIM)
                · exact evs_nil
            · exact (by decide : 2 ≤ LIM)
          · exact add_lists _ _ (by exact (by decide : 2 + 2 ≤ LIM))
        · rfl
      | false =>
        apply Eq.trans
        · apply ev_bin
          · apply ev_bin
            · apply ev_lst
              · apply evs_cons
                · apply ev_tup
                  · bv_omega
                  · exact (by decide : 2 ≤ LIM)
                · exact evs_nil
              · exact (by decide : 1 ≤ LIM)
            · apply ev_bin
              · exact ev_k
              · exact tst
              · rfl
            · exact mul_list (by exact (by decide : 1 * 1 ≤ LIM ∧ -(2 ^ 63) ≤ (1 : Int) ∧ (1 : Int) < 2 ^ 63))
          · apply ev_lst
            · apply evs_cons
              · apply ev_tup
                · bv_omega
                · exact (by decide : 2 ≤ LIM)
              · apply evs_cons
                · apply ev_tup
                  · bv_omega
                  · exact (by decide : 2 ≤ LIM)
                · exact evs_nil
            · exact (by decide : 2 ≤ LIM)
          · exact add_lists _ _ (by exact (by decide : 1 + 2 ≤ LIM))
        · rfl
    · rfl
  apply Eq.trans
  · apply foB_of
    · rfl
    · apply xs_cons
      · apply x_asg
        · exact he
        · rfl
      · apply xs_cons
        · apply x_for
          · exact hit
          · rfl
          · have key := forL_foldP (body := foB (callN Pt (k + 1)) (.tp (.cons (.nm 5) (.cons (.nm 6) .nil))) b_law_snake_l2 [5, 6]) cD (E12 n w' (some (.dat d 0))) (stepS n) (fun done p' => p'.1.length ≤ p.1.length + done.length) (mvS w' (decide (q = 0))) [] (b := p) (s := s2) (Nat.le_refl _) fun dn m r e p' s' hp => by
              have hd : dn.length ≤ 4 := by
                have := congrArg List.length e
                unfold mvS at this
                split at this <;> (simp only [List.nil_append, List.length_append, List.length_cons, List.length_nil] at this; omega)
              refine ⟨sn_step _ _ _ _ _ _ _ (by omega), ?_⟩
              have := stepS_len n p' m
              simp only [List.length_append, List.length_cons, List.length_nil]
              omega
            exact key.1
        · exact xs_nil
  · rfl
end N
/-! S12. The snake's law; what a drawn list of cells is. -/
namespace N
open PySem
local macro_rules | `(tactic| bv_omega) => `(tactic| repeat' (first
  | (with_reducible show ev _ _ _ _ = _); first
      | with_reducible exact ev_k | with_reducible apply ev_cmp | with_reducible apply ev_bin | with_reducible apply ev_tup | with_reducible apply ev_lst | with_reducible apply ev_dic | with_reducible apply ev_sub | with_reducible apply ev_andb | with_reducible apply ev_orb
      | with_reducible apply ev_nt | with_reducible apply ev_neg | with_reducible apply ev_sl | with_reducible apply ev_rev | with_reducible apply ev_bi | with_reducible apply ev_me
      | exact ev_v rfl | exact ev_src rfl | assumption
  | (with_reducible show evs _ _ _ _ = _); first | with_reducible exact evs_nil | with_reducible apply evs_cons
  | (with_reducible show evc _ _ _ _ = _); first | with_reducible exact evc_nil | with_reducible apply evc_cons
  | (with_reducible show evo _ _ _ _ = _); first | with_reducible exact evo_nil | with_reducible apply evo_one
  | (with_reducible show evp _ _ _ _ = _); first | with_reducible exact evp_nil | with_reducible apply evp_cons
  | (with_reducible show evr _ _ _ _ = _); first | with_reducible exact evr_nil' | with_reducible apply evr_cons'
  | (with_reducible show tests _ _ _ _ = _); first | with_reducible exact tests_nil | with_reducible apply tests_one
  | (with_reducible show evi _ _ _ _ = _); first | with_reducible apply evi_e
  | (with_reducible show cmpD _ _ _ = _); first | exact in_dict _ _ _ | exact nin_dict _ _ _ | exact in_lst _ _ | exact in_tup _ _ | exact nin_lst _ _ | exact nin_tup _ _
      | exact cmp_eq_cD _ _ | exact cmp_ne_cD _ _ | exact cmp_lt_int _ _ | exact cmp_gt_int _ _ | exact cmp_le_int _ _ | exact cmp_ge_int _ _ | exact cmp_eq_int _ _ | exact cmp_ne_int _ _ | exact cmp_eq_tup _ _ | exact cmp_ne_tup _ _ | exact cmp_eq_lst _ _ | exact cmp_ne_lst _ _ | exact cmp_eq_tup0 _ | exact cmp_ne_tup0 _ | exact cmp_eq_lst0 _ | exact cmp_ne_lst0 _ | rfl
  | (with_reducible show biD _ _ = _); first | exact bi_len_list _ | exact bi_len_tup _ | exact bi_len_dict _ _ | exact bi_sorted_list _ | exact bi_sorted_tup _ | exact bi_sorted_dict _ _ | exact bi_list_dict _ _ | rfl
  | (with_reducible show itemsOf _ = _); first | exact items_dict _ _ | rfl
  | (with_reducible show kept _ _ _ = _); first | exact kept_tup | rfl
  | (with_reducible show stores _ _ _ _ _ = _); first | with_reducible exact sts_nil | with_reducible apply sts_nm | with_reducible apply sts_sb
  | (with_reducible show exec _ _ _ _ = _); first | with_reducible apply x_asg | with_reducible apply x_asgT | with_reducible apply x_asgB | with_reducible apply x_par | with_reducible apply x_pop | with_reducible apply x_append | with_reducible apply x_extend | with_reducible apply x_popKey | with_reducible exact x_retn
  | with_reducible exact xs_nil | rfl | (intro _) | decide | (simp only [List.length_cons, List.length_nil]; decide)))

def Box (n : Int) (c : Cell) : Prop := (-n ≤ c.1 ∧ c.1 ≤ n) ∧ (-n ≤ c.2 ∧ c.2 ≤ n)
structure RoomL (l : List Cell) : Prop where
  nd : l.Nodup
  ne : l ≠ []
  bx : ∀ c ∈ l, Box l.length c
theorem nodup_snoc {l : List Cell} {a : Cell} (h : l.Nodup) (hn : ¬ a ∈ l) : (l ++ [a]).Nodup := by
  rw [List.nodup_append]
  refine ⟨h, by simp, fun x hx y hy => ?_⟩
  rw [List.mem_singleton] at hy
  subst hy
  rintro rfl
  exact hn hx
theorem RoomL.snoc {l : List Cell} {a : Cell} (h : RoomL l) (hn : ¬ a ∈ l) (hb : Box (l.length + 1 : Nat) a) : RoomL (l ++ [a]) := by
  refine ⟨nodup_snoc h.nd hn, by simp, fun c hc => ?_⟩
  have e : ((l ++ [a]).length : Int) = (l.length : Int) + 1 := by simp
  rcases List.mem_append.mp hc with hc | hc
  · have := h.bx c hc
    unfold Box at *
    omega
  · rw [List.mem_singleton] at hc
    subst hc
    unfold Box at *
    omega
structure Snk (n : Int) (p : List Cell × Cell) : Prop where
  nd : p.1.Nodup
  nn : ¬ p.2 ∈ p.1
  bx : ∀ c ∈ p.1 ++ [p.2], Box p.1.length c
  le : (p.1.length : Int) + 1 ≤ max 1 n
def SStrict (n : Int) (p : List Cell × Cell) : Prop := n ≤ (p.1.length : Int) + 1 ∨ ∀ c ∈ p.1, c.2 < p.2.2
def SOrd (n w : Int) (p : List Cell × Cell) : Prop := n ≤ (p.1.length : Int) + 1 ∨ ∀ c ∈ p.1, c.2 < p.2.2 ∨ c.2 = p.2.2 ∧ (w = 1 ∧ c.1 < p.2.1 ∨ w = -1 ∧ p.2.1 < c.1)
theorem SStrict.ord {n w : Int} {p : List Cell × Cell} (h : SStrict n p) : SOrd n w p := by
  rcases h with h | h
  · exact .inl h
  · exact .inr fun c hc => .inl (h c hc)
theorem snk_step {n w : Int} {p : List Cell × Cell} {m : Cell} (h : Snk n p) (hm : -1 ≤ m.1 ∧ m.1 ≤ 1 ∧ -1 ≤ m.2 ∧ m.2 ≤ 1) (hn : (p.1.length : Int) + 1 < n → ¬ addC p.2 m ∈ p.1 ∧ addC p.2 m ≠ p.2) : Snk n (stepS n p m) := by
  unfold stepS
  split
  · rename_i hc
    obtain ⟨h1, h2⟩ := hn hc
    have e : ((p.1 ++ [p.2]).length : Int) = (p.1.length : Int) + 1 := by simp
    refine ⟨nodup_snoc h.nd h.nn, ?_, fun c hc => ?_, ?_⟩
    · show ¬ addC p.2 m ∈ p.1 ++ [p.2]
      rw [List.mem_append, List.mem_singleton]
      rintro (z | z)
      · exact h1 z
      · exact h2 z
    · show Box ((p.1 ++ [p.2]).length : Int) c
      have hb2 := h.bx p.2 (by simp)
      rcases List.mem_append.mp hc with hc | hc
      · have := h.bx c hc
        unfold Box at *
        omega
      · rw [List.mem_singleton] at hc
        subst hc
        unfold Box addC at *
        simp only []
        omega
    · show ((p.1 ++ [p.2]).length : Int) + 1 ≤ max 1 n
      omega
  · exact h
theorem snk_side {n w : Int} {p : List Cell × Cell} (hw : w = 1 ∨ w = -1) (h : Snk n p) (ho : SOrd n w p) : Snk n (stepS n p (w, 0)) ∧ SOrd n w (stepS n p (w, 0)) := by
  have hadd : addC p.2 (w, 0) = (p.2.1 + w, p.2.2) := by unfold addC; simp
  refine ⟨snk_step (w := w) h (by show -1 ≤ w ∧ w ≤ 1 ∧ -1 ≤ (0 : Int) ∧ (0 : Int) ≤ 1; omega) fun hc => ?_, ?_⟩
  · rw [hadd]
    rcases ho with ho | ho
    · omega
    · refine ⟨fun hm => ?_, fun he => ?_⟩
      · have := ho _ hm
        simp only [] at this
        omega
      · have := congrArg (·.1) he
        simp only [] at this
        omega
  · unfold stepS
    split
    · rename_i hc
      rcases ho with ho | ho
      · omega
      · refine .inr fun c hc => ?_
        rw [hadd]
        show c.2 < p.2.2 ∨ c.2 = p.2.2 ∧ (w = 1 ∧ c.1 < p.2.1 + w ∨ w = -1 ∧ p.2.1 + w < c.1)
        rcases List.mem_append.mp hc with hc | hc
        · have := ho c hc
          omega
        · rw [List.mem_singleton] at hc
          subst hc
          omega
    · exact ho
theorem snk_up {n w : Int} {p : List Cell × Cell} (h : Snk n p) (ho : SOrd n w p) : Snk n (stepS n p (0, 1)) ∧ SStrict n (stepS n p (0, 1)) := by
  have hadd : addC p.2 (0, 1) = (p.2.1, p.2.2 + 1) := by unfold addC; simp
  refine ⟨snk_step (w := w) h (by decide) fun hc => ?_, ?_⟩
  · rw [hadd]
    rcases ho with ho | ho
    · omega
    · refine ⟨fun hm => ?_, fun he => ?_⟩
      · have := ho _ hm
        simp only [] at this
        omega
      · have := congrArg (·.2) he
        simp only [] at this
        omega
  · unfold stepS
    split
    · rename_i hc
      rcases ho with ho | ho
      · omega
      · refine .inr fun c hc => ?_
        rw [hadd]
        show c.2 < p.2.2 + 1
        rcases List.mem_append.mp hc with hc | hc
        · have := ho c hc
          omega
        · rw [List.mem_singleton] at hc
          subst hc
          omega
    · rename_i hc
      exact .inl (by omega)
theorem snk_lap {n w : Int} {b : Bool} {p : List Cell × Cell} (hw : w = 1 ∨ w = -1) (h : Snk n p) (ho : SStrict n p) : Snk n ((mvS w b).foldl (stepS n) p) ∧ SStrict n ((mvS w b).foldl (stepS n) p) := by
  have h1 := snk_side hw h ho.ord
  cases b with
  | false =>
    have h2 := snk_up h1.1 h1.2
    exact snk_up (w := 1) h2.1 h2.2.ord
  | true =>
    have h2 := snk_side hw h1.1 h1.2
    have h3 := snk_up h2.1 h2.2
    exact snk_up (w := 1) h3.1 h3.2.ord
theorem snake_spec (k : Nat) (s : Src) {n : Int} (h0 : -1000 ≤ n) (h1 : n ≤ 400) (ht : s.turn ≤ 800000) : ∃ (l : List Cell) (s' : Src), callN Pt (k + 2) 50 [.src, .dat (.int n) 0] s = some (.dat (lstC l) 1, s') ∧ RoomL l ∧ (l.length : Int) ≤ max 1 n ∧ s'.turn ≤ s.turn + 1000 := by
  obtain ⟨env1, s1, hw, w, p, rfl, hww, hs, ho, ht1⟩ := forL_inv (body := foB (callN Pt (k + 1)) (.nm 4) b_law_snake_l1 [4, 5, 6]) (fun j : Nat => PyData.int (0 + (j : Int))) (fun done env s' => ∃ w p, env = E12 n w none p ∧ (w = 1 ∨ w = -1) ∧ Snk n p ∧ SStrict n p ∧ s'.turn ≤ s.turn + 2 * (done.length : Int)) (List.range n.toNat) [] (env := E12 n 1 none ([], (0, 0))) (s := s) ⟨1, ([], (0, 0)), rfl, .inl rfl, ⟨List.nodup_nil, by simp, fun c hc => by rw [List.nil_append, List.mem_singleton] at hc; subst hc; unfold Box; simp, by show (0 : Int) + 1 ≤ max 1 n; omega⟩, .inr (fun c hc => by simp at hc), by show s.turn ≤ s.turn + 2 * (0 : Int); omega⟩ (by
    rintro dn j r e env s' ⟨w, p, rfl, hww, hs, ho, ht1⟩
    have hd : dn.length < n.toNat := by
      have := congrArg List.length e
      simp only [List.nil_append, List.length_append, List.length_cons, List.length_range] at this
      omega
    have hle := hs.le
    obtain ⟨w', b, s2, h1, h2, h3⟩ := sn_turn k n w p (.int (0 + (j : Int))) s' (by omega) (by omega)
    have hw' : w' = 1 ∨ w' = -1 := by omega
    obtain ⟨h4, h5⟩ := snk_lap (b := b) hw' hs ho
    exact ⟨_, s2, h1, w', _, rfl, hw', h4, h5, by rw [List.length_append]; simp only [List.length_cons, List.length_nil]; omega⟩)
  rw [List.nil_append, List.length_range] at ht1
  refine ⟨p.1 ++ [p.2], s1, ?_, ⟨nodup_snoc hs.nd hs.nn, by simp, fun c hc => ?_⟩, ?_, by omega⟩
  · apply run_def (by decide) rfl rfl
    apply xs_cons
    · apply x_par
      · apply evr_cons'
        · apply ev_lst
          · apply evs_cons
            · apply ev_tup
              · bv_omega
              · exact (by decide : 2 ≤ LIM)
            · exact evs_nil
          · exact (by decide : 1 ≤ LIM)
        · apply evr_cons'
          · exact ev_k
          · exact evr_nil'
      · rfl
      · apply sts_nm
        · rfl
        · apply sts_nm
          · rfl
          · exact sts_nil
    · apply xs_cons
      · apply x_for
        · apply evi_range
          · exact ev_v rfl
          · omega
        · rfl
        · exact hw
      · apply xs_stop_rt
        exact x_retv rfl
  · have := hs.bx c hc
    have e : ((p.1 ++ [p.2]).length : Int) = (p.1.length : Int) + 1 := by simp
    unfold Box at *
    omega
  · have e : ((p.1 ++ [p.2]).length : Int) = (p.1.length : Int) + 1 := by simp
    have := hs.le
    omega
end N
/-! S13. The bent room and the drawn room. -/
namespace N
open PySem
local macro_rules | `(tactic| bv_omega) => `(tactic| repeat' (first
  | (with_reducible show ev _ _ _ _ = _); first
      | with_reducible exact ev_k | with_reducible apply ev_cmp | with_reducible apply ev_bin | with_reducible apply ev_tup | with_reducible apply ev_lst | with_reducible apply ev_dic | with_reducible apply ev_sub | with_reducible apply ev_andb | with_reducible apply ev_orb
      | with_reducible apply ev_nt | with_reducible apply ev_neg | with_reducible apply ev_sl | with_reducible apply ev_rev | with_reducible apply ev_bi | with_reducible apply ev_me
      | exact ev_v rfl | exact ev_src rfl | assumption
  | (with_reducible show evs _ _ _ _ = _); first | with_reducible exact evs_nil | with_reducible apply evs_cons
  | (with_reducible show evc _ _ _ _ = _); first | with_reducible exact evc_nil | with_reducible apply evc_cons
  | (with_reducible show evo _ _ _ _ = _); first | with_reducible exact evo_nil | with_reducible apply evo_one
  | (with_reducible show evp _ _ _ _ = _); first | with_reducible exact evp_nil | with_reducible apply evp_cons
  | (with_reducible show evr _ _ _ _ = _); first | with_reducible exact evr_nil' | with_reducible apply evr_cons'
  | (with_reducible show tests _ _ _ _ = _); first | with_reducible exact tests_nil | with_reducible apply tests_one
  | (with_reducible show evi _ _ _ _ = _); first | with_reducible apply evi_e
  | (with_reducible show cmpD _ _ _ = _); first | exact in_dict _ _ _ | exact nin_dict _ _ _ | exact in_lst _ _ | exact in_tup _ _ | exact nin_lst _ _ | exact nin_tup _ _
      | exact cmp_eq_cD _ _ | exact cmp_ne_cD _ _ | exact cmp_lt_int _ _ | exact cmp_gt_int _ _ | exact cmp_le_int _ _ | exact cmp_ge_int _ _ | exact cmp_eq_int _ _ | exact cmp_ne_int _ _ | exact cmp_eq_tup _ _ | exact cmp_ne_tup _ _ | exact cmp_eq_lst _ _ | exact cmp_ne_lst _ _ | exact cmp_eq_tup0 _ | exact cmp_ne_tup0 _ | exact cmp_eq_lst0 _ | exact cmp_ne_lst0 _ | rfl
  | (with_reducible show biD _ _ = _); first | exact bi_len_list _ | exact bi_len_tup _ | exact bi_len_dict _ _ | exact bi_sorted_list _ | exact bi_sorted_tup _ | exact bi_sorted_dict _ _ | exact bi_list_dict _ _ | rfl
  | (with_reducible show itemsOf _ = _); first | exact items_dict _ _ | rfl
  | (with_reducible show kept _ _ _ = _); first | exact kept_tup | rfl
  | (with_reducible show stores _ _ _ _ _ = _); first | with_reducible exact sts_nil | with_reducible apply sts_nm | with_reducible apply sts_sb
  | (with_reducible show exec _ _ _ _ = _); first | with_reducible apply x_asg | with_reducible apply x_asgT | with_reducible apply x_asgB | with_reducible apply x_par | with_reducible apply x_pop | with_reducible apply x_append | with_reducible apply x_extend | with_reducible apply x_popKey | with_reducible exact x_retn
  | with_reducible exact xs_nil | rfl | (intro _) | decide | (simp only [List.length_cons, List.length_nil]; decide)))

theorem x_asgI {cf : CF} {env : Env} {s s1 : Src} {e : X} {d : D} {o i : Nat} (h : ev cf e env s = some (.dat d o, s1)) (hi : imm d = true) : exec cf (.asg (.nm i) e) env s = some (.nx (env.set i (some (.dat d o))), s1) := x_asgK h (kept_imm hi)
theorem side_box {c a : Cell} {n : Int} (h : Box n c) (ha : a ∈ sidesC c) : Box (n + 1) a := by
  unfold sidesC at ha
  simp only [List.mem_cons, List.not_mem_nil, or_false] at ha
  unfold Box at *
  rcases ha with rfl | rfl | rfl | rfl <;> (simp only []; omega)
theorem bi_min2 (a b : Int) : biD .min [.int a, .int b] = some (.int (min a b), 0) := by
  have h := best_ok PySem.W.minD a [b]
  rw [PySem.W.minD_ints] at h
  simp only [biD]
  simp only [List.map_cons, List.map_nil] at h
  rw [h]
  rfl
theorem room_call (k : Nat) (s : Src) {l : List Cell} {a : Cell} (h : RoomL l) (hl : l.length ≤ 90) (ha : Box (l.length + 1 : Nat) a) : ∃ b : Bool, callN Pt (k + 3) 55 [.dat (lstC (l ++ [a])) 0] s = some (.dat (.bool b) 0, s) := by
  obtain ⟨b, hb, _⟩ := is_room_spec k s (l := l ++ [a]) (by simp; omega) (fun c hc => by
    rcases List.mem_append.mp hc with hc | hc
    · have := h.bx c hc
      unfold Box at this
      omega
    · rw [List.mem_singleton] at hc
      subst hc
      unfold Box at ha
      omega)
  exact ⟨b, hb⟩
/-- a side of a cell of the room, drawn -/
theorem ev_side {k : Nat} {e1 e2 : X} {v : Nat} {env : Env} {s s1 s2 : Src} {l : List Cell} {i j : Int} {o o1 o2 : Nat} (hg : getv env v = some (.dat (.list (l.map cD)) o)) (h1 : ev (callN Pt (k + 1)) e1 env s = some (.dat (.int i) o1, s1)) (hi0 : 0 ≤ i) (hi1 : i < l.length) (h2 : ev (callN Pt (k + 1)) e2 env s1 = some (.dat (.int j) o2, s2)) (hj0 : 0 ≤ j) (hj1 : j < 4) :
    ∃ c ∈ l, ∃ a ∈ sidesC c, ev (callN Pt (k + 1)) (.sub (.call 52 (.cons false (.sub (.v v) e1) .nil)) e2) env s = some (.dat (cD a) 0, s2) := by
  obtain ⟨c, hc, h3⟩ := item_lst hi0 hi1
  obtain ⟨a, ha, h4⟩ := item_lst (l := sidesC c) hj0 (by exact hj1)
  refine ⟨c, hc, a, ha, ?_⟩
  apply ev_sub
  · apply ev_call
    · apply evc_cons
      · apply ev_sub
        · exact ev_v hg
        · exact h1
        · exact h3
      · exact evc_nil
    · exact sides_spec _ _ _
  · exact h2
  · exact h4
/-! ### the drawn room -/
def E14 (most many : Int) (l : List Cell) : Env := [some .src, some (.dat (.int most) 0), some (.dat (.list (l.map cD)) 1), some (.dat (.int many) 0), none, none]
theorem dr_turn (k : Nat) (most many : Int) (l : List Cell) (d : D) (s : Src) (h : RoomL l) (hl : l.length ≤ 80) (ht : s.turn ≤ 900000) :
    ∃ l' s', foB (callN Pt (k + 3)) (.nm 4) b_law_draw_room_l1 [4, 5] d (E14 most many l) s = some (.nx (E14 most many l'), s') ∧ RoomL l' ∧ (l'.length : Int) ≤ max (l.length : Int) many ∧ s'.turn ≤ s.turn + 2 := by
  have lim : (200000 : Nat) < LIM := by decide
  have hpos : 0 < l.length := List.length_pos_iff.mpr h.ne
  have test : ev (callN Pt (k + 3)) (.cmp .Lt (.bi .len (.cons false (.v 2) .nil)) (.v 3)) ((E14 most many l).set 4 (some (.dat d 0))) s = some (.dat (.bool (decide ((l.length : Int) < many))) 0, s) := by
    apply ev_cmp
    · apply ev_bi
      · apply evs_cons
        · exact ev_v rfl
        · exact evs_nil
      · exact bi_len_list _
    · exact ev_v rfl
    · exact cmp_lt_int _ _
  by_cases hlt : (l.length : Int) < many
  · rw [decide_eq_true hlt] at test
    obtain ⟨i, s1, hi, hi0, hi1, t1⟩ := ev_pick (k := k + 2) (i := 0) (e := .bi .len (.cons false (.v 2) .nil)) (env := (E14 most many l).set 4 (some (.dat d 0))) (s := s) (s1 := s) (m := l.length) (o := 0) rfl (by
      apply ev_bi
      · apply evs_cons
        · exact ev_v rfl
        · exact evs_nil
      · exact bi_len_list _) (by omega) (by omega)
    obtain ⟨j, s2, hj, hj0, hj1, t2⟩ := ev_pick (k := k + 2) (i := 0) (e := .k (.int 4)) (env := (E14 most many l).set 4 (some (.dat d 0))) (s := s1) rfl ev_k (by decide) (by omega)
    obtain ⟨c, hc, a, ha, hev⟩ := ev_side (k := k + 2) (v := 2) (l := l) (o := 1) rfl hi hi0 (by omega) hj hj0 (by omega)
    have hbox : Box (l.length + 1 : Nat) a := side_box (h.bx c hc) ha
    obtain ⟨b, hb⟩ := room_call k s2 h (by omega) hbox
    have test2 : ev (callN Pt (k + 3)) (.and (.cmp .NotIn (.v 5) (.v 2)) (.call 55 (.cons false (.bin .Add (.v 2) (.lst (.cons false (.v 5) .nil))) .nil))) (((E14 most many l).set 4 (some (.dat d 0))).set 5 (some (.dat (cD a) 0))) s2 = some (.dat (.bool (!decide (a ∈ l) && b)) 0, s2) := by
      apply ev_andb
      · apply ev_cmp
        · exact ev_v rfl
        · exact ev_v rfl
        · exact nin_lst _ _
      · intro _
        apply ev_call
        · apply evc_cons
          · apply ev_bin
            · exact ev_v rfl
            · apply ev_lst
              · apply evs_cons
                · exact ev_v rfl
                · exact evs_nil
              · exact (by decide : 1 ≤ LIM)
            · exact add_lists _ _ (by rw [List.length_map]; simp only [List.length_cons, List.length_nil]; omega)
          · exact evc_nil
        · rw [lstC, List.map_append] at hb
          exact hb
    by_cases hok : (!decide (a ∈ l) && b) = true
    · rw [hok] at test2
      have hn : ¬ a ∈ l := by
        rw [Bool.and_eq_true] at hok
        simpa using hok.1
      refine ⟨l ++ [a], s2, ?_, h.snoc hn hbox, by simp only [List.length_append, List.length_cons, List.length_nil]; omega, by omega⟩
      apply Eq.trans
      · apply foB_of
        · rfl
        · apply xs_cons
          · apply x_ite_t
            · exact test
            · rfl
            · apply xs_cons
              · apply x_asgI
                · exact hev
                · exact imm_cD a
              · apply xs_cons
                · apply x_ite_t
                  · exact test2
                  · rfl
                  · apply xs_cons
                    · apply x_appCells (l := l) (c := a)
                      · exact ev_v rfl
                      · rfl
                      · omega
                    · exact xs_nil
                · exact xs_nil
          · exact xs_nil
      · rfl
    · have hok' : (!decide (a ∈ l) && b) = false := by simpa using hok
      rw [hok'] at test2
      refine ⟨l, s2, ?_, h, by omega, by omega⟩
      apply Eq.trans
      · apply foB_of
        · rfl
        · apply xs_cons
          · apply x_ite_t
            · exact test
            · rfl
            · apply xs_cons
              · apply x_asgI
                · exact hev
                · exact imm_cD a
              · apply xs_cons
                · apply x_ite_f
                  · exact test2
                  · rfl
                  · exact xs_nil
                · exact xs_nil
          · exact xs_nil
      · rfl
  · rw [decide_eq_false hlt] at test
    refine ⟨l, s, ?_, h, by omega, by omega⟩
    apply Eq.trans
    · apply foB_of
      · rfl
      · apply xs_cons
        · apply x_ite_f
          · exact test
          · rfl
          · exact xs_nil
        · exact xs_nil
    · rfl
/-! ### the bent room -/
def E13 (most : Int) (sn : Bool) (many : Int) (l : List Cell) : Env := [some .src, some (.dat (.int most) 0), some (.dat (.bool sn) 0), some (.dat (.int many) 0), some (.dat (.list (l.map cD)) 1), none, none, none, none, none, none]
theorem br_turn (k : Nat) (most : Int) (sn : Bool) (many : Int) (l : List Cell) (d : D) (s : Src) (h : RoomL l) (hl : l.length ≤ 80) (ht : s.turn ≤ 900000) :
    ∃ l' s', foB (callN Pt (k + 3)) (.nm 5) b_law_bent_room_l1 [5, 6, 7] d (E13 most sn many l) s = some (.nx (E13 most sn many l'), s') ∧ RoomL l' ∧ (l'.length : Int) ≤ max (l.length : Int) many ∧ s'.turn ≤ s.turn + 2 := by
  have lim : (200000 : Nat) < LIM := by decide
  have hpos : 0 < l.length := List.length_pos_iff.mpr h.ne
  have test : ev (callN Pt (k + 3)) (.cmp .Lt (.bi .len (.cons false (.v 4) .nil)) (.v 3)) ((E13 most sn many l).set 5 (some (.dat d 0))) s = some (.dat (.bool (decide ((l.length : Int) < many))) 0, s) := by
    apply ev_cmp
    · apply ev_bi
      · apply evs_cons
        · exact ev_v rfl
        · exact evs_nil
      · exact bi_len_list _
    · exact ev_v rfl
    · exact cmp_lt_int _ _
  by_cases hlt : (l.length : Int) < many
  · rw [decide_eq_true hlt] at test
    obtain ⟨r, s1, hr, hr0, hr1, t1⟩ := ev_pick (k := k + 2) (i := 0) (e := .bi .min (.cons false (.k (.int 3)) (.cons false (.bi .len (.cons false (.v 4) .nil)) .nil))) (env := (E13 most sn many l).set 5 (some (.dat d 0))) (s := s) (s1 := s) (m := min 3 l.length) (o := 0) rfl (by
      apply ev_bi
      · apply evs_cons
        · exact ev_k
        · apply evs_cons
          · apply ev_bi
            · apply evs_cons
              · exact ev_v rfl
              · exact evs_nil
            · exact bi_len_list _
          · exact evs_nil
      · exact bi_min2 _ _) (by omega) (by omega)
    obtain ⟨j, s2, hj, hj0, hj1, t2⟩ := ev_pick (k := k + 2) (i := 0) (e := .k (.int 4)) (env := (E13 most sn many l).set 5 (some (.dat d 0))) (s := s1) rfl ev_k (by decide) (by omega)
    have hi : ev (callN Pt (k + 3)) (.bin .Sub (.bin .Sub (.bi .len (.cons false (.v 4) .nil)) (.k (.int 1))) (.call 0 (.cons false (.v 0) (.cons false (.bi .min (.cons false (.k (.int 3)) (.cons false (.bi .len (.cons false (.v 4) .nil)) .nil))) .nil)))) ((E13 most sn many l).set 5 (some (.dat d 0))) s = some (.dat (.int ((l.length : Int) - 1 - r)) 0, s1) := by
      apply ev_bin
      · apply ev_bin
        · apply ev_bi
          · apply evs_cons
            · exact ev_v rfl
            · exact evs_nil
          · exact bi_len_list _
        · exact ev_k
        · rfl
      · exact hr
      · rfl
    obtain ⟨c, hc, a, ha, hev⟩ := ev_side (k := k + 2) (v := 4) (l := l) (o := 1) rfl hi (by omega) (by omega) hj hj0 (by omega)
    have hbox : Box (l.length + 1 : Nat) a := side_box (h.bx c hc) ha
    obtain ⟨b, hb⟩ := room_call k s2 h (by omega) hbox
    have about : ev (callN Pt (k + 3)) (.bi .len (.cons false (.lc (.v 8) (.nm 8) (.e (.call 53 (.cons false (.v 6) .nil))) (.cons false (.cmp .In (.v 8) (.v 4)) .nil) [8]) .nil)) (((E13 most sn many l).set 5 (some (.dat d 0))).set 6 (some (.dat (cD a) 0))) s2 = some (.dat (.int (((nearC a).filter fun z => decide (z ∈ l)).length : Nat)) 0, s2) := by
      apply ev_bi
      · apply evs_cons
        · apply ev_lcFilter (l := nearC a) (q := fun z => decide (z ∈ l))
          · apply evi_e
            · apply ev_call
              · apply evc_cons
                · exact ev_v rfl
                · exact evc_nil
              · exact near_spec _ _ _
            · rfl
          · exact (by decide : 8 < 11)
          · intro c _ s
            refine ⟨0, ?_⟩
            apply ev_cmp
            · exact ev_v rfl
            · exact ev_v rfl
            · exact in_lst _ _
        · exact evs_nil
      · exact bi_len_list _
    generalize ((nearC a).filter fun z => decide (z ∈ l)).length = na at about
    have test2 : ev (callN Pt (k + 3)) (.and (.cmp .NotIn (.v 6) (.v 4)) (.and (.cmp .Lt (.v 7) (.k (.int 4))) (.call 55 (.cons false (.bin .Add (.v 4) (.lst (.cons false (.v 6) .nil))) .nil)))) ((((E13 most sn many l).set 5 (some (.dat d 0))).set 6 (some (.dat (cD a) 0))).set 7 (some (.dat (.int (na : Nat)) 0))) s2 = some (.dat (.bool (!decide (a ∈ l) && (decide ((na : Int) < 4) && b))) 0, s2) := by
      apply ev_andb
      · apply ev_cmp
        · exact ev_v rfl
        · exact ev_v rfl
        · exact nin_lst _ _
      · intro _
        apply ev_andb
        · apply ev_cmp
          · exact ev_v rfl
          · exact ev_k
          · exact cmp_lt_int _ _
        · intro _
          apply ev_call
          · apply evc_cons
            · apply ev_bin
              · exact ev_v rfl
              · apply ev_lst
                · apply evs_cons
                  · exact ev_v rfl
                  · exact evs_nil
                · exact (by decide : 1 ≤ LIM)
              · exact add_lists _ _ (by rw [List.length_map]; simp only [List.length_cons, List.length_nil]; omega)
            · exact evc_nil
          · rw [lstC, List.map_append] at hb
            exact hb
    by_cases hok : (!decide (a ∈ l) && (decide ((na : Int) < 4) && b)) = true
    · rw [hok] at test2
      have hn : ¬ a ∈ l := by
        rw [Bool.and_eq_true] at hok
        simpa using hok.1
      refine ⟨l ++ [a], s2, ?_, h.snoc hn hbox, by simp only [List.length_append, List.length_cons, List.length_nil]; omega, by omega⟩
      apply Eq.trans
      · apply foB_of
        · rfl
        · apply xs_cons
          · apply x_ite_t
            · exact test
            · rfl
            · apply xs_cons
              · apply x_asgI
                · exact hev
                · exact imm_cD a
              · apply xs_cons
                · apply x_asg
                  · exact about
                  · rfl
                · apply xs_cons
                  · apply x_ite_t
                    · exact test2
                    · rfl
                    · apply xs_cons
                      · apply x_appCells (l := l) (c := a)
                        · exact ev_v rfl
                        · rfl
                        · omega
                      · exact xs_nil
                  · exact xs_nil
          · exact xs_nil
      · rfl
    · have hok' : (!decide (a ∈ l) && (decide ((na : Int) < 4) && b)) = false := by simpa using hok
      rw [hok'] at test2
      refine ⟨l, s2, ?_, h, by omega, by omega⟩
      apply Eq.trans
      · apply foB_of
        · rfl
        · apply xs_cons
          · apply x_ite_t
            · exact test
            · rfl
            · apply xs_cons
              · apply x_asgI
                · exact hev
                · exact imm_cD a
              · apply xs_cons
                · apply x_asg
                  · exact about
                  · rfl
                · apply xs_cons
                  · apply x_ite_f
                    · exact test2
                    · rfl
                    · exact xs_nil
                  · exact xs_nil
          · exact xs_nil
      · rfl
  · rw [decide_eq_false hlt] at test
    refine ⟨l, s, ?_, h, by omega, by omega⟩
    apply Eq.trans
    · apply foB_of
      · rfl
      · apply xs_cons
        · apply x_ite_f
          · exact test
          · rfl
          · exact xs_nil
        · exact xs_nil
    · rfl
end N
/-! S14. The rooms drawn. -/
namespace N
open PySem
section
variable {cf : CF} {env : Env} {s s1 s2 : Src} {a b : X} {d1 d2 : D} {o1 o2 : Nat}
theorem ev_and_t (ha : ev cf a env s = some (.dat d1 o1, s1)) (h : truth d1 = some true) {r : Option (Slot × Src)} (hb : ev cf b env s1 = r) : ev cf (.and a b) env s = r := by rw [ev, ha, bD_some, h]; exact hb
theorem ev_and_f (ha : ev cf a env s = some (.dat d1 o1, s1)) (h : truth d1 = some false) : ev cf (.and a b) env s = some (.dat d1 0, s1) := by rw [ev, ha, bD_some, h]
end
local macro_rules | `(tactic| bv_omega) => `(tactic| repeat' (first
  | (with_reducible show ev _ _ _ _ = _); first
      | with_reducible exact ev_k | with_reducible apply ev_cmp | with_reducible apply ev_bin | with_reducible apply ev_tup | with_reducible apply ev_lst | with_reducible apply ev_dic | with_reducible apply ev_sub | with_reducible apply ev_andb | with_reducible apply ev_orb
      | with_reducible apply ev_nt | with_reducible apply ev_neg | with_reducible apply ev_sl | with_reducible apply ev_rev | with_reducible apply ev_bi | with_reducible apply ev_me
      | exact ev_v rfl | exact ev_src rfl | assumption
  | (with_reducible show evs _ _ _ _ = _); first | with_reducible exact evs_nil | with_reducible apply evs_cons
  | (with_reducible show evc _ _ _ _ = _); first | with_reducible exact evc_nil | with_reducible apply evc_cons
  | (with_reducible show evo _ _ _ _ = _); first | with_reducible exact evo_nil | with_reducible apply evo_one
  | (with_reducible show evp _ _ _ _ = _); first | with_reducible exact evp_nil | with_reducible apply evp_cons
  | (with_reducible show evr _ _ _ _ = _); first | with_reducible exact evr_nil' | with_reducible apply evr_cons'
  | (with_reducible show tests _ _ _ _ = _); first | with_reducible exact tests_nil | with_reducible apply tests_one
  | (with_reducible show evi _ _ _ _ = _); first | with_reducible apply evi_e
  | (with_reducible show cmpD _ _ _ = _); first | exact in_dict _ _ _ | exact nin_dict _ _ _ | exact in_lst _ _ | exact in_tup _ _ | exact nin_lst _ _ | exact nin_tup _ _
      | exact cmp_eq_cD _ _ | exact cmp_ne_cD _ _ | exact cmp_lt_int _ _ | exact cmp_gt_int _ _ | exact cmp_le_int _ _ | exact cmp_ge_int _ _ | exact cmp_eq_int _ _ | exact cmp_ne_int _ _ | exact cmp_eq_tup _ _ | exact cmp_ne_tup _ _ | exact cmp_eq_lst _ _ | exact cmp_ne_lst _ _ | exact cmp_eq_tup0 _ | exact cmp_ne_tup0 _ | exact cmp_eq_lst0 _ | exact cmp_ne_lst0 _ | rfl
  | (with_reducible show biD _ _ = _); first | exact bi_len_list _ | exact bi_len_tup _ | exact bi_len_dict _ _ | exact bi_sorted_list _ | exact bi_sorted_tup _ | exact bi_sorted_dict _ _ | exact bi_list_dict _ _ | rfl
  | (with_reducible show itemsOf _ = _); first | exact items_dict _ _ | rfl
  | (with_reducible show kept _ _ _ = _); first | exact kept_tup | rfl
  | (with_reducible show stores _ _ _ _ _ = _); first | with_reducible exact sts_nil | with_reducible apply sts_nm | with_reducible apply sts_sb
  | (with_reducible show exec _ _ _ _ = _); first | with_reducible apply x_asg | with_reducible apply x_asgT | with_reducible apply x_asgB | with_reducible apply x_par | with_reducible apply x_pop | with_reducible apply x_append | with_reducible apply x_extend | with_reducible apply x_popKey | with_reducible exact x_retn
  | with_reducible exact xs_nil | rfl | (intro _) | decide | (simp only [List.length_cons, List.length_nil]; decide)))

structure Hall (I : List Cell) : Prop where
  room : IsRoom I
  ne : I ≠ []
  le : I.length ≤ 80
theorem hall_of {l : List Cell} (nd : l.Nodup) (ne : l ≠ []) (hl : l.length ≤ 80) : Hall (sortC l) := by
  refine ⟨⟨sortC_asc nd, by rw [len_sortC]; omega⟩, fun e => ?_, by rw [len_sortC]; exact hl⟩
  have := congrArg List.length e
  rw [len_sortC] at this
  exact ne (List.length_eq_zero_iff.mp (by simpa using this))
def swapC (c : Cell) : Cell := (c.2, c.1)
theorem swap_nodup {l : List Cell} (h : l.Nodup) : (l.map swapC).Nodup := by
  rw [List.nodup_iff_pairwise_ne, List.pairwise_map]
  refine (List.nodup_iff_pairwise_ne.mp h).imp fun {a b} hab e => hab ?_
  have h1 := congrArg (·.1) e
  have h2 := congrArg (·.2) e
  exact Prod.ext h2 h1
theorem one_room : RoomL [(0, 0)] := ⟨by simp, by simp, fun c hc => by rw [List.mem_singleton] at hc; subst hc; unfold Box; simp⟩
theorem bent_spec (k : Nat) (s : Src) {most : Int} (hm0 : 1 ≤ most) (hm1 : most ≤ 40) (ht : s.turn ≤ 700000) : ∃ (I : List Cell) (s' : Src), callN Pt (k + 4) 51 [.src, .dat (.int most) 0] s = some (.dat (tupC I) 0, s') ∧ Hall I ∧ s'.turn ≤ s.turn + 3000 := by
  have lim : (200000 : Nat) < LIM := by decide
  have st1 : ∃ sn s1, ev (callN Pt (k + 3)) (.and (.cmp .Gt (.v 1) (.k (.int 3))) (.cmp .Gt (.call 0 (.cons false (.v 0) (.cons false (.k (.int 4)) .nil))) (.k (.int 0)))) (enter d_law_bent_room [.src, .dat (.int most) 0]) s = some (.dat (.bool sn) 0, s1) ∧ s1.turn ≤ s.turn + 1 := by
    have test : ev (callN Pt (k + 3)) (.cmp .Gt (.v 1) (.k (.int 3))) (enter d_law_bent_room [.src, .dat (.int most) 0]) s = some (.dat (.bool (decide (3 < most))) 0, s) := by
      apply ev_cmp
      · exact ev_v rfl
      · exact ev_k
      · exact cmp_gt_int _ _
    by_cases h : 3 < most
    · rw [decide_eq_true h] at test
      obtain ⟨r, s1, hr, _, _, t1⟩ := ev_pick (k := k + 2) (i := 0) (e := .k (.int 4)) (env := enter d_law_bent_room [.src, .dat (.int most) 0]) (s := s) rfl ev_k (by decide) (by omega)
      refine ⟨decide (0 < r), s1, ?_, t1⟩
      apply ev_and_t
      · exact test
      · rfl
      · apply ev_cmp
        · exact hr
        · exact ev_k
        · exact cmp_gt_int _ _
    · rw [decide_eq_false h] at test
      exact ⟨false, s, ev_and_f test rfl, by omega⟩
  obtain ⟨sn, s1, hs1, t1⟩ := st1
  have st2 : ∃ many s2, ev (callN Pt (k + 3)) (.ite (.v 2) (.bin .Sub (.v 1) (.call 0 (.cons false (.v 0) (.cons false (.k (.int 3)) .nil)))) (.bin .Add (.k (.int 2)) (.call 0 (.cons false (.v 0) (.cons false (.bin .Sub (.v 1) (.k (.int 1))) .nil))))) ((enter d_law_bent_room [.src, .dat (.int most) 0]).set 2 (some (.dat (.bool sn) 0))) s1 = some (.dat (.int many) 0, s2) ∧ -5 ≤ many ∧ many ≤ most + 2 ∧ s2.turn ≤ s1.turn + 1 := by
    cases sn with
    | true =>
      obtain ⟨r, s2, hr, hr0, hr1, t2⟩ := ev_pick (k := k + 2) (i := 0) (e := .k (.int 3)) (env := (enter d_law_bent_room [.src, .dat (.int most) 0]).set 2 (some (.dat (.bool true) 0))) (s := s1) rfl ev_k (by decide) (by omega)
      refine ⟨most - r, s2, ?_, by omega, by omega, t2⟩
      apply ev_ite_t
      · exact ev_v rfl
      · rfl
      · apply ev_bin
        · exact ev_v rfl
        · exact hr
        · rfl
    | false =>
      obtain ⟨r, s2, hr, hr0, hr1, t2⟩ := ev_pick (k := k + 2) (i := 0) (e := .bin .Sub (.v 1) (.k (.int 1))) (env := (enter d_law_bent_room [.src, .dat (.int most) 0]).set 2 (some (.dat (.bool false) 0))) (s := s1) (s1 := s1) (m := most - 1) (o := 0) rfl (by
        apply ev_bin
        · exact ev_v rfl
        · exact ev_k
        · rfl) (by omega) (by omega)
      refine ⟨2 + r, s2, ?_, by omega, by omega, t2⟩
      apply ev_ite_f
      · exact ev_v rfl
      · rfl
      · apply ev_bin
        · exact ev_k
        · exact hr
        · rfl
  obtain ⟨many, s2, hs2, hmany0, hmany1, t2⟩ := st2
  have st3 : ∃ l s3, ev (callN Pt (k + 3)) (.ite (.v 2) (.call 50 (.cons false (.v 0) (.cons false (.bin .Sub (.v 3) (.call 0 (.cons false (.v 0) (.cons false (.k (.int 3)) .nil)))) .nil))) (.lst (.cons false (.tup (.cons false (.k (.int 0)) (.cons false (.k (.int 0)) .nil))) .nil))) (((enter d_law_bent_room [.src, .dat (.int most) 0]).set 2 (some (.dat (.bool sn) 0))).set 3 (some (.dat (.int many) 0))) s2 = some (.dat (lstC l) 1, s3) ∧ RoomL l ∧ (l.length : Int) ≤ 60 ∧ s3.turn ≤ s2.turn + 1001 := by
    cases sn with
    | true =>
      obtain ⟨r, s3, hr, hr0, hr1, t3⟩ := ev_pick (k := k + 2) (i := 0) (e := .k (.int 3)) (env := ((enter d_law_bent_room [.src, .dat (.int most) 0]).set 2 (some (.dat (.bool true) 0))).set 3 (some (.dat (.int many) 0))) (s := s2) rfl ev_k (by decide) (by omega)
      obtain ⟨l, s4, hc, hR, hl, t4⟩ := snake_spec (k + 1) s3 (n := many - r) (by omega) (by omega) (by omega)
      refine ⟨l, s4, ?_, hR, by omega, by omega⟩
      apply ev_ite_t
      · exact ev_v rfl
      · rfl
      · apply ev_call
        · apply evc_src
          · exact ev_src rfl
          · apply evc_cons
            · apply ev_bin
              · exact ev_v rfl
              · exact hr
              · rfl
            · exact evc_nil
        · exact hc
    | false =>
      refine ⟨[(0, 0)], s2, ?_, one_room, by decide, by omega⟩
      apply ev_ite_f
      · exact ev_v rfl
      · rfl
      · apply Eq.trans
        · apply ev_lst
          · apply evs_cons
            · apply ev_tup
              · bv_omega
              · exact (by decide : 2 ≤ LIM)
            · exact evs_nil
          · exact (by decide : 1 ≤ LIM)
        · rfl
  obtain ⟨l, s3, hs3, hR, hl, t3⟩ := st3
  obtain ⟨env1, s4, hw, l', rfl, hR', hl', t4⟩ := forL_inv (body := foB (callN Pt (k + 3)) (.nm 5) b_law_bent_room_l1 [5, 6, 7]) (fun j : Nat => PyData.int (0 + (j : Int))) (fun done env s' => ∃ l', env = E13 most sn many l' ∧ RoomL l' ∧ l'.length ≤ 60 ∧ s'.turn ≤ s3.turn + 2 * (done.length : Int)) (List.range (8 * most).toNat) [] (env := E13 most sn many l) (s := s3) ⟨l, rfl, hR, by omega, by show s3.turn ≤ s3.turn + 2 * (0 : Int); omega⟩ (by
    rintro dn j r e env s' ⟨l', rfl, hR', hl', t4⟩
    have hd : dn.length < (8 * most).toNat := by
      have := congrArg List.length e
      simp only [List.nil_append, List.length_append, List.length_cons, List.length_range] at this
      omega
    obtain ⟨l2, s5, h1, h2, h3, h4⟩ := br_turn k most sn many l' (.int (0 + (j : Int))) s' hR' (by omega) (by omega)
    exact ⟨_, s5, h1, l2, rfl, h2, by omega, by rw [List.length_append]; simp only [List.length_cons, List.length_nil]; omega⟩)
  rw [List.nil_append, List.length_range] at t4
  obtain ⟨r, s5, hr, _, _, t5⟩ := ev_pick (k := k + 2) (i := 0) (e := .k (.int 2)) (env := E13 most sn many l') (s := s4) rfl ev_k (by decide) (by omega)
  have test : ev (callN Pt (k + 3)) (.cmp .Eq (.call 0 (.cons false (.v 0) (.cons false (.k (.int 2)) .nil))) (.k (.int 0))) (E13 most sn many l') s4 = some (.dat (.bool (decide (r = 0))) 0, s5) := by
    apply ev_cmp
    · exact hr
    · exact ev_k
    · exact cmp_eq_int _ _
  have fin : ∃ l2 : List Cell, l2.Nodup ∧ l2.length = l'.length ∧ ∃ o, ev (callN Pt (k + 3)) (.ite (.cmp .Eq (.call 0 (.cons false (.v 0) (.cons false (.k (.int 2)) .nil))) (.k (.int 0))) (.lc (.tup (.cons false (.v 10) (.cons false (.v 9) .nil))) (.tp (.cons (.nm 9) (.cons (.nm 10) .nil))) (.e (.v 4)) .nil [9, 10]) (.v 4)) (E13 most sn many l') s4 = some (.dat (lstC l2) o, s5) := by
    generalize decide (r = 0) = t at test
    cases t with
    | true =>
      refine ⟨l'.map swapC, swap_nodup hR'.nd, List.length_map _, 1, ?_⟩
      apply ev_ite_t
      · exact test
      · rfl
      · apply Eq.trans
        · apply ev_lcMap cD (l := l') (fun c => cD (swapC c)) (fun c => ((wipe (flat (E13 most sn many l')) [9, 10]).set 9 (some (.dat (.int c.1) 0))).set 10 (some (.dat (.int c.2) 0)))
          · apply evi_e
            · exact ev_v rfl
            · rfl
          · intro c _; rfl
          · intro c _ s
            refine ⟨0, ?_⟩
            apply ev_tup
            · bv_omega
            · exact (by decide : 2 ≤ LIM)
        · unfold lstC
          rw [List.map_map]
          rfl
    | false =>
      refine ⟨l', hR'.nd, rfl, 0, ?_⟩
      apply ev_ite_f
      · exact test
      · rfl
      · exact ev_v rfl
  obtain ⟨l2, nd2, len2, o, hfin⟩ := fin
  have hpos : 0 < l'.length := List.length_pos_iff.mpr hR'.ne
  refine ⟨sortC l2, s5, ?_, hall_of nd2 (fun e => by rw [e] at len2; simp at len2; omega) (by omega), by omega⟩
  apply run_def (by decide) rfl rfl
  apply xs_cons
  · apply x_asg
    · exact hs1
    · rfl
  · apply xs_cons
    · apply x_asg
      · exact hs2
      · rfl
    · apply xs_cons
      · apply x_asg
        · exact hs3
        · rfl
      · apply xs_cons
        · apply x_for
          · apply evi_range (n := 8 * most)
            · apply ev_bin
              · exact ev_k
              · exact ev_v rfl
              · rfl
            · omega
          · rfl
          · exact hw
        · apply xs_stop_rt
          apply x_ret rfl
          apply ev_bi
          · apply evs_cons
            · apply ev_bi
              · apply evs_cons
                · exact hfin
                · exact evs_nil
              · exact bi_sorted_list _
            · exact evs_nil
          · rfl
theorem draw_room_spec (k : Nat) (s : Src) {most : Int} (hm0 : 1 ≤ most) (hm1 : most ≤ 40) (ht : s.turn ≤ 600000) : ∃ (I : List Cell) (s' : Src), callN Pt (k + 5) 56 [.src, .dat (.int most) 0] s = some (.dat (tupC I) 0, s') ∧ Hall I ∧ s'.turn ≤ s.turn + 4000 := by
  have lim : (200000 : Nat) < LIM := by decide
  have st1 : ∃ t s1, ev (callN Pt (k + 4)) (.and (.cmp .Gt (.v 1) (.k (.int 5))) (.cmp .Eq (.call 0 (.cons false (.v 0) (.cons false (.k (.int 3)) .nil))) (.k (.int 0)))) (enter d_law_draw_room [.src, .dat (.int most) 0]) s = some (.dat (.bool t) 0, s1) ∧ s1.turn ≤ s.turn + 1 := by
    have test : ev (callN Pt (k + 4)) (.cmp .Gt (.v 1) (.k (.int 5))) (enter d_law_draw_room [.src, .dat (.int most) 0]) s = some (.dat (.bool (decide (5 < most))) 0, s) := by
      apply ev_cmp
      · exact ev_v rfl
      · exact ev_k
      · exact cmp_gt_int _ _
    by_cases h : 5 < most
    · rw [decide_eq_true h] at test
      obtain ⟨r, s1, hr, _, _, t1⟩ := ev_pick (k := k + 3) (i := 0) (e := .k (.int 3)) (env := enter d_law_draw_room [.src, .dat (.int most) 0]) (s := s) rfl ev_k (by decide) (by omega)
      refine ⟨decide (r = 0), s1, ?_, t1⟩
      apply ev_and_t
      · exact test
      · rfl
      · apply ev_cmp
        · exact hr
        · exact ev_k
        · exact cmp_eq_int _ _
    · rw [decide_eq_false h] at test
      exact ⟨false, s, ev_and_f test rfl, by omega⟩
  obtain ⟨t, s1, hs1, t1⟩ := st1
  cases t with
  | true =>
    obtain ⟨I, s', hc, hH, t2⟩ := bent_spec k s1 hm0 hm1 (by omega)
    refine ⟨I, s', ?_, hH, by omega⟩
    apply run_def (by decide) rfl rfl
    apply xs_stop_rt
    apply x_ite_t
    · exact hs1
    · rfl
    · apply xs_stop_rt
      apply x_ret rfl
      apply ev_call
      · apply evc_src
        · exact ev_src rfl
        · apply evc_cons
          · exact ev_v rfl
          · exact evc_nil
      · exact hc
  | false =>
    obtain ⟨r, s2, hr, hr0, hr1, t2⟩ := ev_pick (k := k + 3) (i := 0) (e := .v 1) (env := (enter d_law_draw_room [.src, .dat (.int most) 0]).set 2 (some (.dat (lstC [(0, 0)]) 1))) (s := s1) (s1 := s1) (m := most) (o := 0) rfl (ev_v rfl) (by omega) (by omega)
    obtain ⟨env1, s4, hw, l', rfl, hR', hl', t4⟩ := forL_inv (body := foB (callN Pt (k + 4)) (.nm 4) b_law_draw_room_l1 [4, 5]) (fun j : Nat => PyData.int (0 + (j : Int))) (fun done env s' => ∃ l', env = E14 most (1 + r) l' ∧ RoomL l' ∧ l'.length ≤ 60 ∧ s'.turn ≤ s2.turn + 2 * (done.length : Int)) (List.range (4 * most).toNat) [] (env := E14 most (1 + r) [(0, 0)]) (s := s2) ⟨[(0, 0)], rfl, one_room, by decide, by show s2.turn ≤ s2.turn + 2 * (0 : Int); omega⟩ (by
      rintro dn j q e env s' ⟨l', rfl, hR', hl', t4⟩
      have hd : dn.length < (4 * most).toNat := by
        have := congrArg List.length e
        simp only [List.nil_append, List.length_append, List.length_cons, List.length_range] at this
        omega
      obtain ⟨l2, s5, h1, h2, h3, h4⟩ := dr_turn (k + 1) most (1 + r) l' (.int (0 + (j : Int))) s' hR' (by omega) (by omega)
      exact ⟨_, s5, h1, l2, rfl, h2, by omega, by rw [List.length_append]; simp only [List.length_cons, List.length_nil]; omega⟩)
    rw [List.nil_append, List.length_range] at t4
    refine ⟨sortC l', s4, ?_, hall_of hR'.nd hR'.ne (by omega), by omega⟩
    apply run_def (by decide) rfl rfl
    apply xs_cons
    · apply x_ite_f
      · exact hs1
      · rfl
      · exact xs_nil
    · apply xs_cons
      · apply x_asg
        · apply ev_lst
          · apply evs_cons
            · apply ev_tup
              · bv_omega
              · exact (by decide : 2 ≤ LIM)
            · exact evs_nil
          · exact (by decide : 1 ≤ LIM)
        · rfl
      · apply xs_cons
        · apply x_asg
          · apply ev_bin
            · exact ev_k
            · exact hr
            · rfl
          · rfl
        · apply xs_cons
          · apply x_for
            · apply evi_range (n := 4 * most)
              · apply ev_bin
                · exact ev_k
                · exact ev_v rfl
                · rfl
              · omega
            · rfl
            · exact hw
          · apply xs_stop_rt
            apply x_ret rfl
            apply ev_bi
            · apply evs_cons
              · apply ev_bi
                · apply evs_cons
                  · exact ev_v rfl
                  · exact evs_nil
                · exact bi_sorted_list _
              · exact evs_nil
            · rfl
end N
/-! S15. The hall drawn. -/
namespace N
open PySem
local macro_rules | `(tactic| bv_omega) => `(tactic| repeat' (first
  | (with_reducible show ev _ _ _ _ = _); first
      | with_reducible exact ev_k | with_reducible apply ev_cmp | with_reducible apply ev_bin | with_reducible apply ev_tup | with_reducible apply ev_lst | with_reducible apply ev_dic | with_reducible apply ev_sub | with_reducible apply ev_andb | with_reducible apply ev_orb
      | with_reducible apply ev_nt | with_reducible apply ev_neg | with_reducible apply ev_sl | with_reducible apply ev_rev | with_reducible apply ev_bi | with_reducible apply ev_me
      | exact ev_v rfl | exact ev_src rfl | assumption
  | (with_reducible show evs _ _ _ _ = _); first | with_reducible exact evs_nil | with_reducible apply evs_cons
  | (with_reducible show evc _ _ _ _ = _); first | with_reducible exact evc_nil | with_reducible apply evc_cons
  | (with_reducible show evo _ _ _ _ = _); first | with_reducible exact evo_nil | with_reducible apply evo_one
  | (with_reducible show evp _ _ _ _ = _); first | with_reducible exact evp_nil | with_reducible apply evp_cons
  | (with_reducible show evr _ _ _ _ = _); first | with_reducible exact evr_nil' | with_reducible apply evr_cons'
  | (with_reducible show tests _ _ _ _ = _); first | with_reducible exact tests_nil | with_reducible apply tests_one
  | (with_reducible show evi _ _ _ _ = _); first | with_reducible apply evi_e
  | (with_reducible show cmpD _ _ _ = _); first | exact in_dict _ _ _ | exact nin_dict _ _ _ | exact in_lst _ _ | exact in_tup _ _ | exact nin_lst _ _ | exact nin_tup _ _
      | exact cmp_eq_cD _ _ | exact cmp_ne_cD _ _ | exact cmp_lt_int _ _ | exact cmp_gt_int _ _ | exact cmp_le_int _ _ | exact cmp_ge_int _ _ | exact cmp_eq_int _ _ | exact cmp_ne_int _ _ | exact cmp_eq_tup _ _ | exact cmp_ne_tup _ _ | exact cmp_eq_lst _ _ | exact cmp_ne_lst _ _ | exact cmp_eq_tup0 _ | exact cmp_ne_tup0 _ | exact cmp_eq_lst0 _ | exact cmp_ne_lst0 _ | rfl
  | (with_reducible show biD _ _ = _); first | exact bi_len_list _ | exact bi_len_tup _ | exact bi_len_dict _ _ | exact bi_sorted_list _ | exact bi_sorted_tup _ | exact bi_sorted_dict _ _ | exact bi_list_dict _ _ | rfl
  | (with_reducible show itemsOf _ = _); first | exact items_dict _ _ | rfl
  | (with_reducible show kept _ _ _ = _); first | exact kept_tup | rfl
  | (with_reducible show stores _ _ _ _ _ = _); first | with_reducible exact sts_nil | with_reducible apply sts_nm | with_reducible apply sts_sb
  | (with_reducible show exec _ _ _ _ = _); first | with_reducible apply x_asg | with_reducible apply x_asgT | with_reducible apply x_asgB | with_reducible apply x_par | with_reducible apply x_pop | with_reducible apply x_append | with_reducible apply x_extend | with_reducible apply x_popKey | with_reducible exact x_retn
  | with_reducible exact xs_nil | rfl | (intro _) | decide | (simp only [List.length_cons, List.length_nil]; decide)))

/-- a comprehension that keeps or leaves each cell, each with one draw -/
theorem lc_draws {step : D → Src → Option (Option D × Src)} : ∀ (l : List Cell) (s : Src), s.turn + l.length ≤ 900000 → (∀ c ∈ l, ∀ s : Src, s.turn ≤ 900000 → ∃ (b : Bool) (s' : Src), step (cD c) s = some (if b then some (cD c) else none, s') ∧ s'.turn ≤ s.turn + 1) → ∃ (l' : List Cell) (s' : Src), lcRun step (l.map cD) s = some (l'.map cD, s') ∧ l'.Sublist l ∧ s'.turn ≤ s.turn + l.length
  | [], s, _, _ => ⟨[], s, rfl, List.Sublist.refl _, by simp⟩
  | c :: l, s, ht, h => by
    have e : ((c :: l).length : Int) = (l.length : Int) + 1 := by simp
    obtain ⟨b, s1, h1, t1⟩ := h c (by simp) s (by omega)
    obtain ⟨l', s2, h2, hs, t2⟩ := lc_draws l s1 (by omega) fun c hc => h c (List.mem_cons_of_mem _ hc)
    cases b with
    | true => exact ⟨c :: l', s2, by rw [List.map_cons]; exact lcRun_t h1 h2, hs.cons₂ c, by omega⟩
    | false => exact ⟨l', s2, by rw [List.map_cons]; exact lcRun_f h1 h2, hs.cons c, by omega⟩
structure RoomH (l : List Cell) : Prop where
  nd : l.Nodup
  ne : l ≠ []
  le : l.length ≤ 60
  bx : ∀ c ∈ l, Box 60 c
def E15 (most road wide high : Int) (l : List Cell) : Env := [some .src, some (.dat (.int most) 0), some (.dat (.int road) 0), some (.dat (.int wide) 0), some (.dat (.int high) 0), some (.dat (.list (l.map cD)) 1), none, none, none, none, none]
def E15x (most road wide high : Int) (o : Nat) (l : List Cell) : Env := [some .src, some (.dat (.int most) 0), some (.dat (.int road) 0), some (.dat (.int wide) 0), some (.dat (.int high) 0), some (.dat (.list (l.map cD)) o), none, none, none, none, none]
theorem dh_turn (k : Nat) (most road wide high : Int) (o : Nat) (l : List Cell) (d : D) (s : Src) (ho : o = 0 ∨ o = 1) (h : RoomH l) (ht : s.turn ≤ 800000) :
    ∃ o' l' s', foB (callN Pt (k + 3)) (.nm 8) b_law_draw_hall_l2 [8, 9] d (E15x most road wide high o l) s = some (.nx (E15x most road wide high o' l'), s') ∧ (o' = 0 ∨ o' = 1) ∧ RoomH l' ∧ s'.turn ≤ s.turn + 60 := by
  have lim : (200000 : Nat) < LIM := by decide
  have hpos : 0 < l.length := List.length_pos_iff.mpr h.ne
  have hle := h.le
  obtain ⟨l1, s1, hrun, hsub, t1⟩ := lc_draws (step := lcStep (callN Pt (k + 3)) (.v 10) (.nm 10) (.cons false (.cmp .NotEq (.v 10) (.sub (.v 5) (.call 0 (.cons false (.v 0) (.cons false (.bi .len (.cons false (.v 5) .nil)) .nil))))) .nil) [10] ((E15x most road wide high o l).set 8 (some (.dat d 0)))) l s (by omega) (fun c _ s ht => by
    obtain ⟨i, s1, hi, hi0, hi1, t1⟩ := ev_pick (k := k + 2) (i := 0) (e := .bi .len (.cons false (.v 5) .nil)) (env := (wipe (flat ((E15x most road wide high o l).set 8 (some (.dat d 0)))) [10]).set 10 (some (.dat (cD c) 0))) (s := s) (s1 := s) (m := l.length) (o := 0) rfl (by
      apply ev_bi
      · apply evs_cons
        · exact ev_v rfl
        · exact evs_nil
      · exact bi_len_list _) (by omega) (by omega)
    obtain ⟨z, hz, hit⟩ := item_lst (l := l) hi0 (by omega)
    refine ⟨!decide (c = z), s1, ?_, t1⟩
    have test : ev (callN Pt (k + 3)) (.cmp .NotEq (.v 10) (.sub (.v 5) (.call 0 (.cons false (.v 0) (.cons false (.bi .len (.cons false (.v 5) .nil)) .nil))))) ((wipe (flat ((E15x most road wide high o l).set 8 (some (.dat d 0)))) [10]).set 10 (some (.dat (cD c) 0))) s = some (.dat (.bool (!decide (c = z))) 0, s1) := by
      apply ev_cmp
      · exact ev_v rfl
      · apply ev_sub
        · exact ev_v rfl
        · exact hi
        · exact hit
      · exact cmp_ne_cD _ _
    generalize (!decide (c = z)) = t at test ⊢
    cases t with
    | true =>
      apply lcStep_t
      · rfl
      · exact tests_one test rfl
      · exact ev_v rfl
    | false =>
      apply lcStep_f
      · rfl
      · exact tests_one test rfl)
  have hlc : exec (callN Pt (k + 3)) (.asg (.nm 9) (.lc (.v 10) (.nm 10) (.e (.v 5)) (.cons false (.cmp .NotEq (.v 10) (.sub (.v 5) (.call 0 (.cons false (.v 0) (.cons false (.bi .len (.cons false (.v 5) .nil)) .nil))))) .nil) [10])) ((E15x most road wide high o l).set 8 (some (.dat d 0))) s = some (.nx (((E15x most road wide high o l).set 8 (some (.dat d 0))).set 9 (some (.dat (.list (l1.map cD)) 1))), s1) := by
    apply x_asgL
    · apply ev_lc
      · apply evi_e
        · exact ev_v rfl
        · rfl
      · exact hrun
    · exact imm_cells l1
  have hlen1 : l1.length ≤ l.length := hsub.length_le
  have hbx1 : ∀ c ∈ l1, Box 60 c := fun c hc => h.bx c (hsub.subset hc)
  obtain ⟨b, hb, _⟩ := is_room_spec k s1 (l := l1) (by omega) (fun c hc => by have := hbx1 c hc; unfold Box at this; omega)
  have test : ev (callN Pt (k + 3)) (.and (.cmp .NotEq (.v 9) (.lst .nil)) (.call 55 (.cons false (.v 9) .nil))) (((E15x most road wide high o l).set 8 (some (.dat d 0))).set 9 (some (.dat (.list (l1.map cD)) 1))) s1 = some (.dat (.bool (!decide (l1 = []) && b)) 0, s1) := by
    apply ev_andb
    · apply ev_cmp
      · exact ev_v rfl
      · apply ev_lst
        · exact evs_nil
        · decide
      · exact cmp_ne_lst0 _
    · intro _
      apply ev_call
      · apply evc_cons
        · exact ev_v rfl
        · exact evc_nil
      · exact hb
  have fin : ∃ l', RoomH l' ∧ ev (callN Pt (k + 3)) (.ite (.and (.cmp .NotEq (.v 9) (.lst .nil)) (.call 55 (.cons false (.v 9) .nil))) (.v 9) (.v 5)) (((E15x most road wide high o l).set 8 (some (.dat d 0))).set 9 (some (.dat (.list (l1.map cD)) 1))) s1 = some (.dat (lstC l') 0, s1) := by
    by_cases hok : (!decide (l1 = []) && b) = true
    · rw [hok] at test
      have hn : l1 ≠ [] := by
        rw [Bool.and_eq_true] at hok
        simpa using hok.1
      refine ⟨l1, ⟨h.nd.sublist hsub, hn, by omega, hbx1⟩, ?_⟩
      apply ev_ite_t
      · exact test
      · rfl
      · exact ev_v rfl
    · have hok' : (!decide (l1 = []) && b) = false := by simpa using hok
      rw [hok'] at test
      refine ⟨l, h, ?_⟩
      apply ev_ite_f
      · exact test
      · rfl
      · exact ev_v rfl
  obtain ⟨l', hR, hfin⟩ := fin
  refine ⟨0, l', s1, ?_, .inl rfl, hR, by omega⟩
  apply Eq.trans
  · apply foB_of
    · rfl
    · apply xs_cons
      · exact hlc
      · apply xs_cons
        · apply x_asgK
          · exact hfin
          · rfl
        · exact xs_nil
  · rcases ho with rfl | rfl <;> rfl
theorem grid_turn (cf : CF) (most road wide high : Int) (o : Nat) (ho : o = 0 ∨ o = 1) (l : List Cell) (x : Int) (s : Src) (hl : l.length ≤ 1000) (h0 : 0 ≤ high) (h1 : high ≤ 4) :
    foB cf (.nm 6) b_law_draw_hall_l1 [6] (.int x) (E15x most road wide high o l) s = some (.nx (E15x most road wide high 1 (l ++ (List.range high.toNat).map fun j : Nat => (x, 0 + (j : Int)))), s) := by
  have lim : (200000 : Nat) < LIM := by decide
  apply Eq.trans
  · apply foB_of
    · rfl
    · apply xs_cons
      · apply x_asgL
        · apply ev_bin
          · exact ev_v rfl
          · apply ev_lcMap (fun j : Nat => .int (0 + (j : Int))) (l := List.range high.toNat) (fun j : Nat => cD (x, 0 + (j : Int))) (fun j : Nat => (wipe (flat ((E15x most road wide high o l).set 6 (some (.dat (.int x) 0)))) [7]).set 7 (some (.dat (.int (0 + (j : Int))) 0)))
            · apply evi_range (n := high)
              · exact ev_v rfl
              · omega
            · intro j _; rfl
            · intro j _ s
              refine ⟨0, ?_⟩
              apply ev_tup
              · bv_omega
              · exact (by decide : 2 ≤ LIM)
          · exact add_lists _ _ (by simp; omega)
        · exact immAll_append (imm_cells l) (immAll_map _ (fun _ => rfl) _)
      · exact xs_nil
  · have e : ((List.range high.toNat).map fun j : Nat => (x, 0 + (j : Int))).map cD = (List.range high.toNat).map fun j : Nat => cD (x, 0 + (j : Int)) := by rw [List.map_map]; rfl
    unfold E15x
    rw [List.map_append, e]
    rfl
theorem range_cells_nodup (x : Int) (n : Nat) : ((List.range n).map fun j : Nat => (x, 0 + (j : Int))).Nodup := by
  rw [List.nodup_iff_pairwise_ne, List.pairwise_map]
  refine (List.nodup_iff_pairwise_ne.mp List.nodup_range).imp fun {a b} hab e => hab ?_
  have h1 := congrArg (·.2) e
  simp only [] at h1
  omega
theorem hall_spec (k : Nat) (s : Src) {most : Int} (hm0 : 1 ≤ most) (hm1 : most ≤ 40) (ht : s.turn ≤ 500000) : ∃ (I : List Cell) (s' : Src), callN Pt (k + 6) 158 [.src, .dat (.int most) 0] s = some (.dat (tupC I) 0, s') ∧ Hall I ∧ s'.turn ≤ s.turn + 5000 := by
  have lim : (200000 : Nat) < LIM := by decide
  obtain ⟨road, s1, hr1, hr10, hr11, t1⟩ := ev_pick (k := k + 4) (i := 0) (e := .k (.int 4)) (env := enter d_law_draw_hall [.src, .dat (.int most) 0]) (s := s) rfl ev_k (by decide) (by omega)
  have test1 : ev (callN Pt (k + 5)) (.cmp .Lt (.v 2) (.k (.int 2))) ((enter d_law_draw_hall [.src, .dat (.int most) 0]).set 2 (some (.dat (.int road) 0))) s1 = some (.dat (.bool (decide (road < 2))) 0, s1) := by
    apply ev_cmp
    · exact ev_v rfl
    · exact ev_k
    · exact cmp_lt_int _ _
  have test2 : ev (callN Pt (k + 5)) (.cmp .Eq (.v 2) (.k (.int 2))) ((enter d_law_draw_hall [.src, .dat (.int most) 0]).set 2 (some (.dat (.int road) 0))) s1 = some (.dat (.bool (decide (road = 2))) 0, s1) := by
    apply ev_cmp
    · exact ev_v rfl
    · exact ev_k
    · exact cmp_eq_int _ _
  by_cases c1 : road < 2
  · rw [decide_eq_true c1] at test1
    obtain ⟨I, s', hc, hH, t2⟩ := bent_spec (k + 1) s1 hm0 hm1 (by omega)
    refine ⟨I, s', ?_, hH, by omega⟩
    apply run_def (by decide) rfl rfl
    apply xs_cons
    · apply x_asg
      · exact hr1
      · rfl
    · apply xs_stop_rt
      apply x_ite_t
      · exact test1
      · rfl
      · apply xs_stop_rt
        apply x_ret rfl
        apply ev_call
        · apply evc_src
          · exact ev_src rfl
          · apply evc_cons
            · exact ev_v rfl
            · exact evc_nil
        · exact hc
  · rw [decide_eq_false c1] at test1
    by_cases c2 : road = 2
    · rw [decide_eq_true c2] at test2
      obtain ⟨I, s', hc, hH, t2⟩ := draw_room_spec k s1 hm0 hm1 (by omega)
      refine ⟨I, s', ?_, hH, by omega⟩
      apply run_def (by decide) rfl rfl
      apply xs_cons
      · apply x_asg
        · exact hr1
        · rfl
      · apply xs_cons
        · apply x_ite_f
          · exact test1
          · rfl
          · exact xs_nil
        · apply xs_stop_rt
          apply x_ite_t
          · exact test2
          · rfl
          · apply xs_stop_rt
            apply x_ret rfl
            apply ev_call
            · apply evc_src
              · exact ev_src rfl
              · apply evc_cons
                · exact ev_v rfl
                · exact evc_nil
            · exact hc
    · rw [decide_eq_false c2] at test2
      obtain ⟨r1, s2, hr2, hr20, hr21, t2⟩ := ev_pick (k := k + 4) (i := 0) (e := .k (.int 5)) (env := (enter d_law_draw_hall [.src, .dat (.int most) 0]).set 2 (some (.dat (.int road) 0))) (s := s1) rfl ev_k (by decide) (by omega)
      obtain ⟨r2, s3, hr3, hr30, hr31, t3⟩ := ev_pick (k := k + 4) (i := 0) (e := .k (.int 4)) (env := (enter d_law_draw_hall [.src, .dat (.int most) 0]).set 2 (some (.dat (.int road) 0))) (s := s2) rfl ev_k (by decide) (by omega)
      obtain ⟨env1, s4, hw1, rfl, o, l, rfl, ho, nd, hlen, hbx, hmem⟩ := forL_inv (body := foB (callN Pt (k + 5)) (.nm 6) b_law_draw_hall_l1 [6]) (fun j : Nat => PyData.int (0 + (j : Int))) (fun done env s' => s' = s3 ∧ ∃ o l, env = E15x most road (1 + r1) (1 + r2) o l ∧ (o = 0 ∨ o = 1) ∧ l.Nodup ∧ (l.length : Int) = (1 + r2) * done.length ∧ (∀ c ∈ l, Box 60 c) ∧ (∀ c ∈ l, ∃ j ∈ done, c.1 = 0 + (j : Int))) (List.range (1 + r1).toNat) [] (env := E15x most road (1 + r1) (1 + r2) 0 []) (s := s3) ⟨rfl, 0, [], rfl, .inl rfl, List.nodup_nil, by simp, fun c hc => by simp at hc, fun c hc => by simp at hc⟩ (by
        rintro dn j r e env s' ⟨rfl, o, l, rfl, ho, nd, hlen, hbx, hmem⟩
        have hd : dn.length < 5 := by
          have := congrArg List.length e
          simp only [List.nil_append, List.length_append, List.length_cons, List.length_range] at this
          omega
        have hj : j ∈ List.range (1 + r1).toNat := by
          have : j ∈ [] ++ List.range (1 + r1).toNat := by rw [e]; simp
          simpa using this
        rw [List.mem_range] at hj
        have hjd : ¬ j ∈ dn := by
          have hnd : (dn ++ j :: r).Nodup := by rw [← e]; simpa using List.nodup_range
          rw [List.nodup_append] at hnd
          intro z
          exact hnd.2.2 j z j (by simp) rfl
        have hle : (l.length : Int) ≤ 4 * 5 := by
          rw [hlen]
          have h1 : (1 + r2) * (dn.length : Int) ≤ 4 * (dn.length : Int) := Int.mul_le_mul_of_nonneg_right (by omega) (by omega)
          omega
        refine ⟨_, _, grid_turn _ _ _ _ _ o ho l _ _ (by omega) (by omega) (by omega), rfl, 1, _, rfl, .inr rfl, ?_, ?_, ?_, ?_⟩
        · rw [List.nodup_append]
          refine ⟨nd, range_cells_nodup _ _, fun a ha b hb hab => ?_⟩
          subst hab
          obtain ⟨j', hj', e1⟩ := hmem a ha
          obtain ⟨i, _, rfl⟩ := List.mem_map.mp hb
          simp only [] at e1
          have : j = j' := by omega
          subst this
          exact hjd hj'
        · simp only [List.length_append, List.length_map, List.length_range, List.length_cons, List.length_nil]
          rw [show ((l.length + (1 + r2).toNat : Nat) : Int) = (l.length : Int) + (1 + r2) from by omega, hlen]
          rw [show ((dn.length + (0 + 1) : Nat) : Int) = (dn.length : Int) + 1 from by omega, Int.mul_add, Int.mul_one]
        · intro c hc
          rcases List.mem_append.mp hc with hc | hc
          · exact hbx c hc
          · obtain ⟨i, hi, rfl⟩ := List.mem_map.mp hc
            rw [List.mem_range] at hi
            unfold Box
            simp only []
            omega
        · intro c hc
          rcases List.mem_append.mp hc with hc | hc
          · obtain ⟨j', hj', e1⟩ := hmem c hc
            exact ⟨j', by simp [hj'], e1⟩
          · obtain ⟨i, hi, rfl⟩ := List.mem_map.mp hc
            exact ⟨j, by simp, rfl⟩)
      rw [List.nil_append, List.length_range] at hlen
      have hlen1 : (l.length : Int) ≤ 20 ∧ 1 ≤ (l.length : Int) := by
        rw [hlen, show (((1 + r1).toNat : Nat) : Int) = 1 + r1 from by omega]
        constructor
        · have h1 : (1 + r2) * (1 + r1) ≤ 4 * (1 + r1) := Int.mul_le_mul_of_nonneg_right (by omega) (by omega)
          omega
        · have h1 : 1 * (1 + r1) ≤ (1 + r2) * (1 + r1) := Int.mul_le_mul_of_nonneg_right (by omega) (by omega)
          omega
      have hR0 : RoomH l := ⟨nd, fun z => by rw [z] at hlen1; simp at hlen1, by omega, hbx⟩
      obtain ⟨r3, s5, hr4, hr40, hr41, t5⟩ := ev_pick (k := k + 4) (i := 0) (e := .k (.int 9)) (env := E15x most road (1 + r1) (1 + r2) o l) (s := s4) rfl ev_k (by decide) (by omega)
      obtain ⟨env2, s6, hw2, o', l', rfl, ho', hR', t6⟩ := forL_inv (body := foB (callN Pt (k + 5)) (.nm 8) b_law_draw_hall_l2 [8, 9]) (fun j : Nat => PyData.int (0 + (j : Int))) (fun done env s' => ∃ o l, env = E15x most road (1 + r1) (1 + r2) o l ∧ (o = 0 ∨ o = 1) ∧ RoomH l ∧ s'.turn ≤ s5.turn + 60 * (done.length : Int)) (List.range r3.toNat) [] (env := E15x most road (1 + r1) (1 + r2) o l) (s := s5) ⟨o, l, rfl, ho, hR0, by show s5.turn ≤ s5.turn + 60 * (0 : Int); omega⟩ (by
        rintro dn j r e env s' ⟨o, l, rfl, ho, hR, t6⟩
        have hd : dn.length < r3.toNat := by
          have := congrArg List.length e
          simp only [List.nil_append, List.length_append, List.length_cons, List.length_range] at this
          omega
        obtain ⟨o2, l2, s7, h1, h2, h3, h4⟩ := dh_turn (k + 2) most road (1 + r1) (1 + r2) o l (.int (0 + (j : Int))) s' ho hR (by omega)
        exact ⟨_, s7, h1, o2, l2, rfl, h2, h3, by rw [List.length_append]; simp only [List.length_cons, List.length_nil]; omega⟩)
      rw [List.nil_append, List.length_range] at t6
      refine ⟨sortC l', s6, ?_, hall_of hR'.nd hR'.ne (by have := hR'.le; omega), by omega⟩
      apply run_def (by decide) rfl rfl
      apply xs_cons
      · apply x_asg
        · exact hr1
        · rfl
      · apply xs_cons
        · apply x_ite_f
          · exact test1
          · rfl
          · exact xs_nil
        · apply xs_cons
          · apply x_ite_f
            · exact test2
            · rfl
            · exact xs_nil
          · apply xs_cons
            · apply x_asgT
              · apply ev_tup
                · apply evs_cons
                  · apply ev_bin
                    · exact ev_k
                    · exact hr2
                    · rfl
                  · apply evs_cons
                    · apply ev_bin
                      · exact ev_k
                      · exact hr3
                      · rfl
                    · apply evs_cons
                      · apply ev_lst
                        · exact evs_nil
                        · decide
                      · exact evs_nil
                · exact (by decide : 3 ≤ LIM)
              · rfl
              · rfl
            · apply xs_cons
              · apply x_for
                · apply evi_range (n := 1 + r1)
                  · exact ev_v rfl
                  · omega
                · rfl
                · exact hw1
              · apply xs_cons
                · apply x_for
                  · apply evi_range (n := r3)
                    · exact hr4
                    · omega
                  · rfl
                  · exact hw2
                · apply xs_stop_rt
                  apply x_ret rfl
                  apply ev_bi
                  · apply evs_cons
                    · apply ev_bi
                      · apply evs_cons
                        · exact ev_v rfl
                        · exact evs_nil
                      · exact bi_sorted_list _
                    · exact evs_nil
                  · rfl
end N
/-! S16. What is dark, and who sees most of it. -/
namespace N
open PySem
local macro_rules | `(tactic| bv_omega) => `(tactic| repeat' (first
  | (with_reducible show ev _ _ _ _ = _); first
      | with_reducible exact ev_k | with_reducible apply ev_cmp | with_reducible apply ev_bin | with_reducible apply ev_tup | with_reducible apply ev_lst | with_reducible apply ev_dic | with_reducible apply ev_sub | with_reducible apply ev_andb | with_reducible apply ev_orb
      | with_reducible apply ev_nt | with_reducible apply ev_neg | with_reducible apply ev_sl | with_reducible apply ev_rev | with_reducible apply ev_bi | with_reducible apply ev_me
      | exact ev_v rfl | exact ev_src rfl | assumption
  | (with_reducible show evs _ _ _ _ = _); first | with_reducible exact evs_nil | with_reducible apply evs_cons
  | (with_reducible show evc _ _ _ _ = _); first | with_reducible exact evc_nil | with_reducible apply evc_cons
  | (with_reducible show evo _ _ _ _ = _); first | with_reducible exact evo_nil | with_reducible apply evo_one
  | (with_reducible show evp _ _ _ _ = _); first | with_reducible exact evp_nil | with_reducible apply evp_cons
  | (with_reducible show evr _ _ _ _ = _); first | with_reducible exact evr_nil' | with_reducible apply evr_cons'
  | (with_reducible show tests _ _ _ _ = _); first | with_reducible exact tests_nil | with_reducible apply tests_one
  | (with_reducible show evi _ _ _ _ = _); first | with_reducible apply evi_e
  | (with_reducible show cmpD _ _ _ = _); first | exact in_dict _ _ _ | exact nin_dict _ _ _ | exact in_lst _ _ | exact in_tup _ _ | exact nin_lst _ _ | exact nin_tup _ _
      | exact cmp_eq_cD _ _ | exact cmp_ne_cD _ _ | exact cmp_lt_int _ _ | exact cmp_gt_int _ _ | exact cmp_le_int _ _ | exact cmp_ge_int _ _ | exact cmp_eq_int _ _ | exact cmp_ne_int _ _ | exact cmp_eq_tup _ _ | exact cmp_ne_tup _ _ | exact cmp_eq_lst _ _ | exact cmp_ne_lst _ _ | exact cmp_eq_tup0 _ | exact cmp_ne_tup0 _ | exact cmp_eq_lst0 _ | exact cmp_ne_lst0 _ | rfl
  | (with_reducible show biD _ _ = _); first | exact bi_len_list _ | exact bi_len_tup _ | exact bi_len_dict _ _ | exact bi_sorted_list _ | exact bi_sorted_tup _ | exact bi_sorted_dict _ _ | exact bi_list_dict _ _ | rfl
  | (with_reducible show itemsOf _ = _); first | exact items_dict _ _ | rfl
  | (with_reducible show kept _ _ _ = _); first | exact kept_tup | rfl
  | (with_reducible show stores _ _ _ _ _ = _); first | with_reducible exact sts_nil | with_reducible apply sts_nm | with_reducible apply sts_sb
  | (with_reducible show exec _ _ _ _ = _); first | with_reducible apply x_asg | with_reducible apply x_asgT | with_reducible apply x_asgB | with_reducible apply x_par | with_reducible apply x_pop | with_reducible apply x_append | with_reducible apply x_extend | with_reducible apply x_popKey | with_reducible exact x_retn
  | with_reducible exact xs_nil | rfl | (intro _) | decide | (simp only [List.length_cons, List.length_nil]; decide)))

theorem intsOf_map : ∀ ns : List Int, intsOf (ns.map .int) = some ns
  | [] => rfl
  | n :: ns => by rw [List.map_cons, intsOf, intsOf_map ns]; rfl
theorem cmp_ne_bool (p q : Bool) : cmpD .NotEq (.bool p) (.bool q) = some (!decide (p = q)) := by cases p <;> cases q <;> rfl
theorem item_kvC (f : Cell → D) {l : List Cell} {a : Cell} (h : a ∈ l) : itemD (.dict (kvC f l)) (cD a) = some (f a) := by
  show (if goes (kvC f l) (cD a) then dget (kvC f l) (cD a) else none) = _
  rw [goes_kvC, dget_kvC, if_pos h]
  rfl
def bestG (f : Cell → Int) (p : Option Cell × Int) (c : Cell) : Option Cell × Int := if p.2 < f c then (some c, f c) else p
theorem bestG_max (f : Cell → Int) : ∀ (l : List Cell) (p : Option Cell × Int), (l.foldl (bestG f) p).2 = (l.map f).foldl max p.2
  | [], _ => rfl
  | c :: l, p => by
    rw [List.foldl_cons, bestG_max f l, List.map_cons, List.foldl_cons]
    congr 1
    unfold bestG
    split
    · show f c = max p.2 (f c)
      omega
    · omega
theorem bestG_stay (f : Cell → Int) : ∀ (l : List Cell) (p : Option Cell × Int), (∀ x ∈ l, f x ≤ p.2) → l.foldl (bestG f) p = p
  | [], _, _ => rfl
  | c :: l, p, h => by
    have hc := h c (by simp)
    rw [List.foldl_cons, show bestG f p c = p from if_neg (by omega)]
    exact bestG_stay f l p fun x hx => h x (List.mem_cons_of_mem _ hx)
theorem foldl_max_ge (l : List Int) (b x : Int) (h : x ∈ l) : x ≤ l.foldl max b := (foldl_max l b).2 x (by simp [h])
theorem bestG_first (f : Cell → Int) : ∀ (l : List Cell) (p : Option Cell × Int), (∃ x ∈ l, p.2 < f x) → (l.foldl (bestG f) p).1 = l[(l.map f).idxOf ((l.map f).foldl max p.2)]?
  | [], _, h => by obtain ⟨x, hx, _⟩ := h; simp at hx
  | c :: l, p, h => by
    rw [List.foldl_cons, List.map_cons, List.foldl_cons]
    by_cases hc : p.2 < f c
    · rw [show bestG f p c = (some c, f c) from if_pos hc, show max p.2 (f c) = f c from by omega]
      by_cases h2 : ∃ x ∈ l, f c < f x
      · rw [bestG_first f l (some c, f c) h2]
        obtain ⟨x, hx, hlt⟩ := h2
        have hge := foldl_max_ge (l.map f) (f c) (f x) (List.mem_map_of_mem hx)
        show l[(l.map f).idxOf ((l.map f).foldl max (f c))]? = _
        rw [List.idxOf_cons]
        have hne : (f c == (l.map f).foldl max (f c)) = false := by
          rw [beq_eq_false_iff_ne]; omega
        rw [hne]
        rfl
      · have h3 : ∀ x ∈ l, f x ≤ f c := fun x hx => by
          rcases Int.lt_or_le (f c) (f x) with z | z
          · exact absurd ⟨x, hx, z⟩ h2
          · exact z
        rw [bestG_stay f l (some c, f c) h3]
        have e : (l.map f).foldl max (f c) = f c := by
          have := (foldl_max (l.map f) (f c)).1
          have hge := (foldl_max (l.map f) (f c)).2 (f c) (by simp)
          rcases List.mem_cons.mp this with z | z
          · exact z
          · obtain ⟨x, hx, e⟩ := List.mem_map.mp z
            have := h3 x hx
            omega
        rw [e, List.idxOf_cons]
        simp
    · rw [show bestG f p c = p from if_neg hc, show max p.2 (f c) = p.2 from by omega]
      have h2 : ∃ x ∈ l, p.2 < f x := by
        obtain ⟨x, hx, hlt⟩ := h
        rcases List.mem_cons.mp hx with rfl | hx
        · exact absurd hlt hc
        · exact ⟨x, hx, hlt⟩
      rw [bestG_first f l p h2]
      obtain ⟨x, hx, hlt⟩ := h2
      have hge := foldl_max_ge (l.map f) p.2 (f x) (List.mem_map_of_mem hx)
      rw [List.idxOf_cons]
      have hne : (f c == (l.map f).foldl max p.2) = false := by
        rw [beq_eq_false_iff_ne]; omega
      rw [hne]
      rfl
theorem cntF_nonneg (I lot : List Cell) (c : Cell) : 0 ≤ cntF I lot c := by unfold cntF; omega
theorem bestF_eq (I lot : List Cell) : bestF I lot = bestG (cntF I lot) := rfl
theorem best_law (I lot l : List Cell) (h : l ≠ []) : ∃ c m, l.foldl (bestF I lot) (none, -1) = (some c, m) ∧ biD .max [.list ((l.map (cntF I lot)).map .int)] = some (.int m, 0) ∧ meD .index (.list ((l.map (cntF I lot)).map .int)) [.int m] = (if l.length ≤ LIM then some (.int ((l.map (cntF I lot)).idxOf m : Nat), 0) else none) ∧ l[(l.map (cntF I lot)).idxOf m]? = some c := by
  cases l with
  | nil => exact absurd rfl h
  | cons a l =>
    have h0 := cntF_nonneg I lot a
    have h1 := bestG_max (cntF I lot) (a :: l) (none, -1)
    have h2 := bestG_first (cntF I lot) (a :: l) (none, -1) ⟨a, by simp, by show -1 < _; omega⟩
    have e : ((a :: l).map (cntF I lot)).foldl max (-1) = (l.map (cntF I lot)).foldl max (cntF I lot a) := by
      rw [List.map_cons, List.foldl_cons, show max (-1) (cntF I lot a) = cntF I lot a from by omega]
    simp only [] at h1 h2
    rw [e] at h1 h2
    have hm := foldl_max (l.map (cntF I lot)) (cntF I lot a)
    have hmem : (l.map (cntF I lot)).foldl max (cntF I lot a) ∈ (a :: l).map (cntF I lot) := by rw [List.map_cons]; exact hm.1
    have hlt := List.idxOf_lt_length_of_mem hmem
    rw [List.length_map] at hlt
    refine ⟨(a :: l)[((a :: l).map (cntF I lot)).idxOf ((l.map (cntF I lot)).foldl max (cntF I lot a))], (l.map (cntF I lot)).foldl max (cntF I lot a), ?_, ?_, ?_, List.getElem?_eq_getElem hlt⟩
    · rw [bestF_eq]
      refine Prod.ext ?_ h1
      rw [h2]
      exact List.getElem?_eq_getElem hlt
    · exact bi_max _ _
    · show ((intsOf _).bind fun ns => if _ ∈ ns ∧ ns.length ≤ LIM then some (PyData.int (ns.idxOf _ : Nat), 0) else none) = _
      rw [intsOf_map]
      show (if _ ∈ (a :: l).map (cntF I lot) ∧ ((a :: l).map (cntF I lot)).length ≤ LIM then _ else _) = _
      rw [List.length_map]
      by_cases hL : (a :: l).length ≤ LIM
      · rw [if_pos ⟨hmem, hL⟩, if_pos hL]
      · rw [if_neg (fun z => hL z.2), if_neg hL]
noncomputable def fldD (I : List Cell) : Cell → D := fun c => tupC (fld I c)
theorem dark_right_spec (k : Nat) (s : Src) {I sts : List Cell} (h : IsRoom I) (hne : I ≠ []) (hs : ∀ a ∈ sts, a ∈ I) (hl : sts.length ≤ 500) : callN Pt (k + 8) 528 [.dat (tupC I) 0, .dat (.dict (kvC (fldD I) I)) 0, .dat (lstC sts) 0, .dat (tupC (litC I sts)) 0] s = some (.dat (.bool true) 0, s) := by
  have lim : (200000 : Nat) < LIM := by decide
  obtain ⟨c, m, hb, hmax, hidx, hat⟩ := best_law I (outC I (litC I sts)) I hne
  rw [if_pos (by have := h.le; omega)] at hidx
  have hsbm := sbm_spec (k + 1) s (I := I) (lot := outC I (litC I sts)) h
  rw [hb] at hsbm
  apply run_def (by decide) rfl rfl
  apply xs_cons
  · apply x_asg
    · apply ev_bi
      · apply evs_cons
        · apply ev_lcFilter (l := I) (q := fun x => !decide (x ∈ litC I sts))
          · apply evi_e
            · exact ev_v rfl
            · rfl
          · exact (by decide : 5 < 8)
          · intro c _ s
            refine ⟨0, ?_⟩
            apply ev_cmp
            · exact ev_v rfl
            · exact ev_v rfl
            · exact nin_tup _ _
        · exact evs_nil
      · rfl
    · rfl
  · apply xs_cons
    · apply x_ite_f (d1 := .bool (false || false)) (o1 := 0)
      · apply ev_orb
        · apply Eq.trans
          · apply ev_cmp
            · apply ev_call
              · apply evc_cons
                · exact ev_v rfl
                · apply evc_cons
                  · exact ev_v rfl
                  · apply evc_cons
                    · exact ev_v rfl
                    · exact evc_nil
              · exact dark_spec (k + 1) s h (lot := I) (sts := sts) rfl hs (by omega)
            · exact ev_v rfl
            · exact cmp_ne_tup (outC I (litC I sts)) (outC I (litC I sts))
          · rw [decide_eq_true rfl]
            rfl
        · intro _
          apply Eq.trans
          · apply ev_cmp
            · apply ev_call
              · apply evc_cons
                · exact ev_v rfl
                · apply evc_cons
                  · exact ev_v rfl
                  · apply evc_cons
                    · exact ev_v rfl
                    · exact evc_nil
              · exact serve_spec k s h (lot := I) (sts := sts) rfl hs (by omega)
            · apply ev_cmp
              · exact ev_v rfl
              · apply ev_tup
                · exact evs_nil
                · decide
              · exact cmp_eq_tup0 (outC I (litC I sts))
            · exact cmp_ne_bool _ _
          · rw [decide_eq_true rfl]
            rfl
      · rfl
      · exact xs_nil
    · apply xs_cons
      · apply x_asg
        · apply ev_lcMap cD (l := I) (fun c => .int (cntF I (outC I (litC I sts)) c)) (fun c => [some (.dat (tupC I) 0), some (.dat (.dict (kvC (fldD I) I)) 0), some (.dat (lstC sts) 0), some (.dat (tupC (litC I sts)) 0), some (.dat (tupC (outC I (litC I sts))) 0), some (.dat (cD c) 0), none, none])
          · apply evi_e
            · exact ev_v rfl
            · rfl
          · intro c _; rfl
          · intro c hc s
            refine ⟨0, ?_⟩
            apply ev_bi
            · apply evs_cons
              · apply ev_lcFilter (l := outC I (litC I sts)) (q := fun x => decide (x ∈ fld I c))
                · apply evi_e
                  · exact ev_v rfl
                  · rfl
                · exact (by decide : 7 < 8)
                · intro z _ s
                  refine ⟨0, ?_⟩
                  apply ev_cmp
                  · exact ev_v rfl
                  · apply ev_sub
                    · exact ev_v rfl
                    · exact ev_v rfl
                    · exact item_kvC (fldD I) hc
                  · exact in_tup _ _
              · exact evs_nil
            · refine (bi_len_list _).trans ?_
              unfold cntF
              congr 4
        · rfl
      · have e0 : (I.map fun c => PyData.int (cntF I (outC I (litC I sts)) c)) = (I.map (cntF I (outC I (litC I sts)))).map .int := by rw [List.map_map]; rfl
        rw [e0]
        apply xs_stop_rt
        apply x_ret rfl
        apply ev_cmp
        · apply ev_call
          · apply evc_cons
            · exact ev_v rfl
            · apply evc_cons
              · exact ev_v rfl
              · exact evc_nil
          · exact hsbm
        · apply ev_tup
          · apply evs_cons
            · apply ev_sub
              · exact ev_v rfl
              · apply ev_me
                · exact ev_v rfl
                · apply evs_cons
                  · apply ev_bi
                    · apply evs_cons
                      · exact ev_v rfl
                      · exact evs_nil
                    · exact hmax
                  · exact evs_nil
                · exact hidx
              · show L2.atI (I.map cD) _ = some (cD c)
                rw [atI_map]
                unfold L2.atI
                have hlt : (I.map (cntF I (outC I (litC I sts)))).idxOf m < I.length := by
                  rcases Nat.lt_or_ge ((I.map (cntF I (outC I (litC I sts)))).idxOf m) I.length with z | z
                  · exact z
                  · rw [List.getElem?_eq_none z] at hat
                    cases hat
                rw [ixN_in (by omega) (by omega)]
                show Option.map cD (I[_]?) = _
                rw [Int.toNat_natCast, hat]
                rfl
            · apply evs_cons
              · apply ev_bi
                · apply evs_cons
                  · exact ev_v rfl
                  · exact evs_nil
                · exact hmax
              · exact evs_nil
          · exact (by decide : 2 ≤ LIM)
        · show (if eqOk (.tuple [cD c, .int m]) (.tuple [cD c, .int m]) then some (PyData.eqv (.tuple [cD c, .int m]) (.tuple [cD c, .int m])) else none) = some true
          rw [show eqOk (.tuple [cD c, .int m]) (.tuple [cD c, .int m]) = true from rfl, if_pos rfl]
          simp [PyData.eqv, PyData.eqvAll, eqv_cD]
end N
/-! S17. The law's turns. -/
namespace N
open PySem
local macro_rules | `(tactic| bv_omega) => `(tactic| repeat' (first
  | (with_reducible show ev _ _ _ _ = _); first
      | with_reducible exact ev_k | with_reducible apply ev_cmp | with_reducible apply ev_bin | with_reducible apply ev_tup | with_reducible apply ev_lst | with_reducible apply ev_dic | with_reducible apply ev_sub | with_reducible apply ev_andb | with_reducible apply ev_orb
      | with_reducible apply ev_nt | with_reducible apply ev_neg | with_reducible apply ev_sl | with_reducible apply ev_rev | with_reducible apply ev_bi | with_reducible apply ev_me
      | exact ev_v rfl | exact ev_src rfl | assumption
  | (with_reducible show evs _ _ _ _ = _); first | with_reducible exact evs_nil | with_reducible apply evs_cons
  | (with_reducible show evc _ _ _ _ = _); first | with_reducible exact evc_nil | with_reducible apply evc_cons
  | (with_reducible show evo _ _ _ _ = _); first | with_reducible exact evo_nil | with_reducible apply evo_one
  | (with_reducible show evp _ _ _ _ = _); first | with_reducible exact evp_nil | with_reducible apply evp_cons
  | (with_reducible show evr _ _ _ _ = _); first | with_reducible exact evr_nil' | with_reducible apply evr_cons'
  | (with_reducible show tests _ _ _ _ = _); first | with_reducible exact tests_nil | with_reducible apply tests_one
  | (with_reducible show evi _ _ _ _ = _); first | with_reducible apply evi_e
  | (with_reducible show cmpD _ _ _ = _); first | exact in_dict _ _ _ | exact nin_dict _ _ _ | exact in_lst _ _ | exact in_tup _ _ | exact nin_lst _ _ | exact nin_tup _ _
      | exact cmp_eq_cD _ _ | exact cmp_ne_cD _ _ | exact cmp_lt_int _ _ | exact cmp_gt_int _ _ | exact cmp_le_int _ _ | exact cmp_ge_int _ _ | exact cmp_eq_int _ _ | exact cmp_ne_int _ _ | exact cmp_eq_tup _ _ | exact cmp_ne_tup _ _ | exact cmp_eq_lst _ _ | exact cmp_ne_lst _ _ | exact cmp_eq_tup0 _ | exact cmp_ne_tup0 _ | exact cmp_eq_lst0 _ | exact cmp_ne_lst0 _ | rfl
  | (with_reducible show biD _ _ = _); first | exact bi_len_list _ | exact bi_len_tup _ | exact bi_len_dict _ _ | exact bi_sorted_list _ | exact bi_sorted_tup _ | exact bi_sorted_dict _ _ | exact bi_list_dict _ _ | rfl
  | (with_reducible show itemsOf _ = _); first | exact items_dict _ _ | rfl
  | (with_reducible show kept _ _ _ = _); first | exact kept_tup | rfl
  | (with_reducible show stores _ _ _ _ _ = _); first | with_reducible exact sts_nil | with_reducible apply sts_nm | with_reducible apply sts_sb
  | (with_reducible show exec _ _ _ _ = _); first | with_reducible apply x_asg | with_reducible apply x_asgT | with_reducible apply x_asgB | with_reducible apply x_par | with_reducible apply x_pop | with_reducible apply x_append | with_reducible apply x_extend | with_reducible apply x_popKey | with_reducible exact x_retn
  | with_reducible exact xs_nil | rfl | (intro _) | decide | (simp only [List.length_cons, List.length_nil]; decide)))

theorem xs_step {cf : CF} {st : S} {ss : Ss} {env env1 env2 : Env} {s s1 : Src} {r : RS} (h : exec cf st env s = some (.nx env1, s1)) (he : env1 = env2) (h2 : execs cf ss env2 s1 = r) : execs cf (.cons st ss) env s = r := by subst he; rw [execs, h]; exact h2
theorem boolsOf_map : ∀ bs : List Bool, boolsOf (bs.map .bool) = some bs
  | [] => rfl
  | n :: ns => by rw [List.map_cons, boolsOf, boolsOf_map ns]; rfl
theorem bi_any (bs : List Bool) : biD .any [.list (bs.map .bool)] = some (.bool (bs.any id), 0) := by
  show (boolsOf (bs.map .bool)).map _ = _
  rw [boolsOf_map]
  rfl
theorem plainAll_ints : ∀ l : List Int, PyData.plainAll (l.map .int) = true
  | [] => rfl
  | c :: l => by rw [List.map_cons, PyData.plainAll, plainAll_ints l]; rfl
theorem eqvAll_ints : ∀ l m : List Int, PyData.eqvAll (l.map .int) (m.map .int) = decide (l = m)
  | [], [] => rfl
  | [], _ :: _ => rfl
  | _ :: _, [] => rfl
  | a :: l, b :: m => by
    rw [List.map_cons, List.map_cons, PyData.eqvAll, eqvAll_ints l m]
    by_cases h : a = b
    · subst h; simp [PyData.eqv]
    · simp [PyData.eqv, h]
theorem cmp_ne_ints (l m : List Int) : cmpD .NotEq (.list (l.map .int)) (.list (m.map .int)) = some (!decide (l = m)) := by
  show (if eqOk (.list (l.map .int)) (.list (m.map .int)) then some (!PyData.eqv (.list (l.map .int)) (.list (m.map .int))) else none) = _
  have h : eqOk (.list (l.map .int)) (.list (m.map .int)) = true := by
    unfold eqOk
    rw [PyData.plain, PyData.plain, plainAll_ints, plainAll_ints, PyData.depth, PyData.depth, depthAll_ints]
    rfl
  rw [h, if_pos rfl, PyData.eqv, eqvAll_ints]
theorem lit_any (I sts : List Cell) : I.filter (fun x => ((sts.map fun a => decide (x ∈ fld I a)).any id)) = litC I sts := by
  unfold litC
  refine List.filter_congr fun x _ => ?_
  rw [Bool.eq_iff_iff, List.any_eq_true, decide_eq_true_iff]
  constructor
  · rintro ⟨b, hb, hx⟩
    obtain ⟨a, ha, rfl⟩ := List.mem_map.mp hb
    exact ⟨a, ha, of_decide_eq_true hx⟩
  · rintro ⟨a, ha, hx⟩
    exact ⟨true, List.mem_map.mpr ⟨a, ha, decide_eq_true hx⟩, rfl⟩
noncomputable def aloneC (I sts : List Cell) : List (List Cell) := (sts.map (fld I)).zipIdx.map fun p => outC p.1 (insAll [] (restC (sts.map (fld I)) p.2))
theorem mem_rest {I sts : List Cell} {i : Nat} {x : Cell} : x ∈ insAll [] (restC (sts.map (fld I)) i) ↔ x ∈ litC I (sts.take i ++ sts.drop (i + 1)) := by
  rw [mem_insAll, mem_litC]
  unfold restC
  rw [← List.map_take, ← List.map_drop, ← List.map_append, List.flatMap_map, List.mem_flatMap]
  simp
theorem outC_congr {l m n : List Cell} (h : ∀ x, x ∈ m ↔ x ∈ n) : outC l m = outC l n := by
  unfold outC
  refine List.filter_congr fun x _ => ?_
  rw [show decide (x ∈ m) = decide (x ∈ n) from decide_eq_decide.mpr (h x)]
theorem alone_len (I sts : List Cell) : (aloneC I sts).length = sts.length := by unfold aloneC; simp
theorem alone_at (I : List Cell) {sts : List Cell} {i : Nat} {c : Cell} (h : sts[i]? = some c) : (aloneC I sts)[i]? = some (outC (fld I c) (litC I (sts.take i ++ sts.drop (i + 1)))) := by
  unfold aloneC
  rw [List.getElem?_map, List.getElem?_zipIdx, List.getElem?_map, h]
  show some _ = some _
  congr 1
  rw [Nat.zero_add]
  exact outC_congr fun x => mem_rest
theorem outC_asc {l m : List Cell} (h : Asc l) : Asc (outC l m) := by unfold outC; exact Asc.filter _ h
theorem alone_last {I sts : List Cell} {a : Cell} (h : IsRoom I) : (aloneC I (sts ++ [a]))[sts.length]? = some (outC (litC I (sts ++ [a])) (litC I sts)) := by
  rw [alone_at I (c := a) (by simp)]
  congr 1
  rw [show (sts ++ [a]).take sts.length ++ (sts ++ [a]).drop (sts.length + 1) = sts from by simp]
  refine asc_ext (outC_asc (fld_asc h.asc)) (outC_asc (litC_asc h.asc)) fun x => ?_
  rw [mem_outC, mem_outC, mem_litC, mem_litC]
  constructor
  · rintro ⟨h1, h2⟩
    exact ⟨⟨a, by simp, h1⟩, h2⟩
  · rintro ⟨⟨b, hb, h1⟩, h2⟩
    rcases List.mem_append.mp hb with hb | hb
    · exact absurd ⟨b, hb, h1⟩ h2
    · rw [List.mem_singleton] at hb
      subst hb
      exact ⟨h1, h2⟩
/-! ### the turns of the stalls -/
noncomputable def E18 (lap : D) (I sts : List Cell) (a : Cell) (old new : List Cell) (al : List (List Cell)) (one : Option Slot) : Env := [none, some .src, some (.dat lap 0), some (.dat (tupC I) 0), some (.dat (.dict (kvC (fldD I) I)) 0), some (.dat (lstC sts) 0), some (.dat (cD a) 0), some (.dat (tupC old) 0), some (.dat (tupC new) 0), some (.dat (.list (al.map tupC)) 1), none, one, none, none, none, none, none, none, none, none, none, none, none, none]
theorem at_alone {al : List (List Cell)} {i : Nat} {l : List Cell} (h : al[i]? = some l) : itemD (.list (al.map tupC)) (.int i) = some (tupC l) := by
  show L2.atI (al.map tupC) i = _
  rw [atI_map]
  unfold L2.atI
  have hlt : i < al.length := by
    rcases Nat.lt_or_ge i al.length with z | z
    · exact z
    · rw [List.getElem?_eq_none z] at h
      cases h
  rw [ixN_in (by omega) (by omega)]
  show Option.map tupC (al[_]?) = _
  rw [Int.toNat_natCast, h]
  rfl
theorem l3_turn (k : Nat) (lap : D) {I sts : List Cell} (a : Cell) (old new : List Cell) (one : Option Slot) (s : Src) (h : IsRoom I) (hs : ∀ c ∈ sts, c ∈ I) (hl : sts.length ≤ 100) {i : Nat} {c : Cell} (hc : sts[i]? = some c) :
    foB (callN Pt (k + 8)) (.tp (.cons (.nm 12) (.cons (.nm 11) .nil))) b_law_k44_l3 [12, 13] (.tuple [.int i, cD c]) (E18 lap I sts a old new (aloneC I sts) one) s = some (.nx (E18 lap I sts a old new (aloneC I sts) (some (.dat (cD c) 0))), s) := by
  have lim : (200000 : Nat) < LIM := by decide
  have hcI : c ∈ I := hs c (List.mem_of_getElem? hc)
  have hsub : ∀ x ∈ sts.take i ++ sts.drop (i + 1), x ∈ I := fun x hx => by
    rcases List.mem_append.mp hx with hx | hx
    · exact hs x (List.mem_of_mem_take hx)
    · exact hs x (List.mem_of_mem_drop hx)
  apply Eq.trans
  · apply foB_of
    · rfl
    · apply xs_cons
      · apply x_asg (d := tupC (litC I (sts.take i ++ sts.drop (i + 1)))) (o := 0)
        · apply ev_call
          · apply evc_cons
            · exact ev_v rfl
            · apply evc_cons
              · apply ev_bin
                · apply ev_sl
                  · exact ev_v rfl
                  · exact evo_nil
                  · apply evo_one
                    exact ev_v rfl
                  · exact sl_to cD sts i
                · apply ev_sl
                  · exact ev_v rfl
                  · apply evo_one
                    apply ev_bin
                    · exact ev_v rfl
                    · exact ev_k
                    · rfl
                  · exact evo_nil
                  · exact sl_from cD sts (i + 1)
                · exact add_lists _ _ (by simp only [List.length_map, List.length_take, List.length_drop]; omega)
              · exact evc_nil
          · rw [← List.map_append]
            exact lit_spec (k + 3) s (sts := sts.take i ++ sts.drop (i + 1)) h rfl hsub (by simp only [List.length_append, List.length_take, List.length_drop]; omega)
        · rfl
      · apply xs_cons
        · apply x_ite_f (d1 := .bool false) (o1 := 0)
          · apply Eq.trans
            · apply ev_cmp
              · apply ev_sub
                · exact ev_v rfl
                · exact ev_v rfl
                · exact at_alone (alone_at I hc)
              · apply ev_bi
                · apply evs_cons
                  · apply ev_lcFilter (l := fld I c) (q := fun x => !decide (x ∈ litC I (sts.take i ++ sts.drop (i + 1))))
                    · apply evi_e
                      · apply ev_sub
                        · exact ev_v rfl
                        · exact ev_v rfl
                        · exact item_kvC (fldD I) hcI
                      · rfl
                    · exact (by decide : 10 < 24)
                    · intro x _ s
                      refine ⟨0, ?_⟩
                      apply ev_cmp
                      · exact ev_v rfl
                      · exact ev_v rfl
                      · exact nin_tup _ _
                  · exact evs_nil
                · rfl
              · exact cmp_ne_tup (outC (fld I c) (litC I (sts.take i ++ sts.drop (i + 1)))) (outC (fld I c) (litC I (sts.take i ++ sts.drop (i + 1))))
            · rw [decide_eq_true rfl]
              rfl
          · rfl
          · exact xs_nil
        · exact xs_nil
  · rfl
def E16 (lap : D) (I sts : List Cell) (kv : List (D × D)) (one : Option Slot) : Env := [none, some .src, some (.dat lap 0), some (.dat (tupC I) 0), some (.dat (.dict kv) 0), some (.dat (lstC sts) 0), none, none, none, none, none, one, none, none, none, none, none, none, none, none, none, none, none, none]
set_option maxHeartbeats 1000000 in
theorem l2_turn (k : Nat) (lap : D) {I sts : List Cell} (a : Cell) (one : Option Slot) (s : Src) (h : IsRoom I) (hne : I ≠ []) (hs : ∀ c ∈ sts, c ∈ I) (ha : a ∈ I) (hl : sts.length ≤ 50) :
    ∃ one', foB (callN Pt (k + 8)) (.nm 6) b_law_k44_l2 [6, 7, 8, 9, 12, 13] (cD a) (E16 lap I sts (kvC (fldD I) I) one) s = some (.nx (E16 lap I (sts ++ [a]) (kvC (fldD I) I) one'), s) := by
  have lim : (200000 : Nat) < LIM := by decide
  have hs' : ∀ c ∈ sts ++ [a], c ∈ I := fun c hc => by
    rcases List.mem_append.mp hc with hc | hc
    · exact hs c hc
    · rw [List.mem_singleton] at hc; subst hc; exact ha
  have hl' : (sts ++ [a]).length ≤ 51 := by simp only [List.length_append, List.length_cons, List.length_nil]; omega
  have loop : ∃ one', forL (foB (callN Pt (k + 8)) (.tp (.cons (.nm 12) (.cons (.nm 11) .nil))) b_law_k44_l3 [12, 13]) (enumD 0 ((sts ++ [a]).map cD)) (E18 lap I (sts ++ [a]) a (litC I sts) (litC I (sts ++ [a])) (aloneC I (sts ++ [a])) one) s = some (.nx (E18 lap I (sts ++ [a]) a (litC I sts) (litC I (sts ++ [a])) (aloneC I (sts ++ [a])) one'), s) := by
    rw [show enumD 0 ((sts ++ [a]).map cD) = _ from enum_map cD (sts ++ [a]) 0]
    obtain ⟨env1, s1, hw, rfl, one', rfl⟩ := forL_inv (body := foB (callN Pt (k + 8)) (.tp (.cons (.nm 12) (.cons (.nm 11) .nil))) b_law_k44_l3 [12, 13]) (fun p : Cell × Nat => PyData.tuple [.int p.2, cD p.1]) (fun done env s' => s' = s ∧ ∃ one', env = E18 lap I (sts ++ [a]) a (litC I sts) (litC I (sts ++ [a])) (aloneC I (sts ++ [a])) one') ((sts ++ [a]).zipIdx) [] (env := E18 lap I (sts ++ [a]) a (litC I sts) (litC I (sts ++ [a])) (aloneC I (sts ++ [a])) one) (s := s) ⟨rfl, one, rfl⟩ (by
      rintro dn p r e env s' ⟨rfl, one', rfl⟩
      have hp : p ∈ (sts ++ [a]).zipIdx := by
        have : p ∈ [] ++ (sts ++ [a]).zipIdx := by rw [e]; simp
        simpa using this
      exact ⟨_, _, l3_turn k lap a _ _ one' s' h hs' (by omega) (List.mem_zipIdx_iff_getElem?.mp hp), rfl, _, rfl⟩)
    exact ⟨one', hw⟩
  obtain ⟨one', hw⟩ := loop
  refine ⟨one', ?_⟩
  apply Eq.trans
  · apply foB_of
    · rfl
    · apply xs_step (env2 := [none, some .src, some (.dat lap 0), some (.dat (tupC I) 0), some (.dat (.dict (kvC (fldD I) I)) 0), some (.dat (lstC (sts ++ [a])) 0), some (.dat (cD a) 0), some (.dat (tupC (litC I sts)) 0), none, none, none, one, none, none, none, none, none, none, none, none, none, none, none, none])
      · apply x_asgT
        · apply ev_tup
          · apply evs_cons
            · apply ev_call
              · apply evc_cons
                · exact ev_v rfl
                · apply evc_cons
                  · exact ev_v rfl
                  · exact evc_nil
              · exact lit_spec (k + 3) s (sts := sts) h rfl hs (by omega)
            · apply evs_cons
              · apply ev_bin
                · exact ev_v rfl
                · apply ev_lst
                  · apply evs_cons
                    · exact ev_v rfl
                    · exact evs_nil
                  · exact (by decide : 1 ≤ LIM)
                · exact add_lists _ _ (by rw [List.length_map]; simp only [List.length_cons, List.length_nil]; omega)
              · exact evs_nil
          · exact (by decide : 2 ≤ LIM)
        · rfl
        · rfl
      · unfold lstC
        rw [show (sts ++ [a]).map cD = List.map cD sts ++ [cD a] from by rw [List.map_append]; rfl]
        rfl
      · apply xs_step (env2 := E18 lap I (sts ++ [a]) a (litC I sts) (litC I (sts ++ [a])) (aloneC I (sts ++ [a])) one)
        · apply x_par
          · apply evr_cons'
            · apply ev_call
              · apply evc_cons
                · exact ev_v rfl
                · apply evc_cons
                  · exact ev_v rfl
                  · exact evc_nil
              · exact lit_spec (k + 3) s (sts := sts ++ [a]) h rfl hs' (by omega)
            · apply evr_cons'
              · apply ev_call
                · apply evc_cons
                  · exact ev_v rfl
                  · apply evc_cons
                    · exact ev_v rfl
                    · exact evc_nil
                · exact alone_spec (k + 3) s (sts := sts ++ [a]) h rfl hs' (by omega)
              · exact evr_nil'
          · rfl
          · apply sts_nm
            · rfl
            · apply sts_nm
              · rfl
              · exact sts_nil
        · rfl
        · apply xs_cons
          · apply x_ite_f (d1 := .bool false) (o1 := 0)
            · apply Eq.trans
              · apply ev_cmp
                · exact ev_v rfl
                · apply ev_bi
                  · apply evs_cons
                    · apply ev_lcFilter (l := I) (q := fun x => ((sts ++ [a]).map fun b => decide (x ∈ fld I b)).any id)
                      · apply evi_e
                        · exact ev_v rfl
                        · rfl
                      · exact (by decide : 10 < 24)
                      · intro x _ s
                        refine ⟨0, ?_⟩
                        apply ev_bi
                        · apply evs_cons
                          · apply ev_lcMap cD (l := sts ++ [a]) (fun b => .bool (decide (x ∈ fld I b))) (fun b => [none, some .src, some (.dat lap 0), some (.dat (tupC I) 0), some (.dat (.dict (kvC (fldD I) I)) 0), some (.dat (lstC (sts ++ [a])) 0), some (.dat (cD a) 0), some (.dat (tupC (litC I sts)) 0), some (.dat (tupC (litC I (sts ++ [a]))) 0), some (.dat (.list ((aloneC I (sts ++ [a])).map tupC)) 0), some (.dat (cD x) 0), some (.dat (cD b) 0), none, none, none, none, none, none, none, none, none, none, none, none])
                            · apply evi_e
                              · exact ev_v rfl
                              · rfl
                            · intro b _; rfl
                            · intro b hb s
                              refine ⟨0, ?_⟩
                              apply ev_cmp
                              · exact ev_v rfl
                              · apply ev_sub
                                · exact ev_v rfl
                                · exact ev_v rfl
                                · exact item_kvC (fldD I) (hs' b hb)
                              · exact in_tup _ _
                          · exact evs_nil
                        · rw [show ((sts ++ [a]).map fun b => PyData.bool (decide (x ∈ fld I b))) = ((sts ++ [a]).map fun b => decide (x ∈ fld I b)).map .bool from by rw [List.map_map]; rfl]
                          exact bi_any _
                    · exact evs_nil
                  · rfl
                · exact cmp_ne_tup (litC I (sts ++ [a])) (I.filter (fun x => ((sts ++ [a]).map fun b => decide (x ∈ fld I b)).any id))
              · rw [lit_any, decide_eq_true rfl]
                rfl
            · rfl
            · exact xs_nil
          · apply xs_cons
            · apply x_ite_f (d1 := .bool false) (o1 := 0)
              · apply Eq.trans
                · apply ev_cmp
                  · apply ev_bi
                    · apply evs_cons
                      · apply ev_sub
                        · exact ev_v rfl
                        · apply ev_bin
                          · apply ev_bi
                            · apply evs_cons
                              · exact ev_v rfl
                              · exact evs_nil
                            · rfl
                          · exact ev_k
                          · rfl
                        · have e : (((aloneC I (sts ++ [a])).map tupC).length : Int) - 1 = (sts.length : Int) := by rw [List.length_map, alone_len]; simp only [List.length_append, List.length_cons, List.length_nil]; omega
                          refine Eq.trans ?_ (at_alone (alone_last (sts := sts) (a := a) h))
                          rw [← e]
                      · exact evs_nil
                    · rfl
                  · apply ev_lcFilter (l := litC I (sts ++ [a])) (q := fun x => !decide (x ∈ litC I sts))
                    · apply evi_e
                      · exact ev_v rfl
                      · rfl
                    · exact (by decide : 10 < 24)
                    · intro x _ s
                      refine ⟨0, ?_⟩
                      apply ev_cmp
                      · exact ev_v rfl
                      · exact ev_v rfl
                      · exact nin_tup _ _
                  · exact cmp_ne_lst (outC (litC I (sts ++ [a])) (litC I sts)) (outC (litC I (sts ++ [a])) (litC I sts))
                · rw [decide_eq_true rfl]
                  rfl
              · rfl
              · exact xs_nil
            · apply xs_cons
              · apply x_ite_f (d1 := .bool false) (o1 := 0)
                · apply Eq.trans
                  · apply ev_cmp
                    · apply ev_bi
                      · apply evs_cons
                        · exact ev_v rfl
                        · exact evs_nil
                      · rfl
                    · apply ev_bi
                      · apply evs_cons
                        · exact ev_v rfl
                        · exact evs_nil
                      · exact bi_len_list _
                    · exact cmp_ne_int _ _
                  · have e : (((aloneC I (sts ++ [a])).map tupC).length : Int) = ((sts ++ [a]).length : Int) := by rw [List.length_map, alone_len]
                    rw [show decide ((((aloneC I (sts ++ [a])).map tupC).length : Int) = ((sts ++ [a]).length : Int)) = true from decide_eq_true e]
                    rfl
                · rfl
                · exact xs_nil
              · apply xs_cons
                · apply x_for
                  · apply evi_en
                    · exact ev_v rfl
                    · rfl
                    · rfl
                  · rfl
                  · exact hw
                · apply xs_cons
                  · apply x_ite_f (d1 := .bool (!true)) (o1 := 0)
                    · apply ev_nt
                      · apply ev_call
                        · apply evc_cons
                          · exact ev_v rfl
                          · apply evc_cons
                            · exact ev_v rfl
                            · apply evc_cons
                              · exact ev_v rfl
                              · apply evc_cons
                                · exact ev_v rfl
                                · exact evc_nil
                        · exact dark_right_spec k s (sts := sts ++ [a]) h hne hs' (by omega)
                      · rfl
                    · rfl
                    · exact xs_nil
                  · exact xs_nil
  · rfl
end N
/-! S18. The walk, and the answer. -/
namespace N
open PySem
local macro_rules | `(tactic| bv_omega) => `(tactic| repeat' (first
  | (with_reducible show ev _ _ _ _ = _); first
      | with_reducible exact ev_k | with_reducible apply ev_cmp | with_reducible apply ev_bin | with_reducible apply ev_tup | with_reducible apply ev_lst | with_reducible apply ev_dic | with_reducible apply ev_sub | with_reducible apply ev_andb | with_reducible apply ev_orb
      | with_reducible apply ev_nt | with_reducible apply ev_neg | with_reducible apply ev_sl | with_reducible apply ev_rev | with_reducible apply ev_bi | with_reducible apply ev_me
      | exact ev_v rfl | exact ev_src rfl | assumption
  | (with_reducible show evs _ _ _ _ = _); first | with_reducible exact evs_nil | with_reducible apply evs_cons
  | (with_reducible show evc _ _ _ _ = _); first | with_reducible exact evc_nil | with_reducible apply evc_cons
  | (with_reducible show evo _ _ _ _ = _); first | with_reducible exact evo_nil | with_reducible apply evo_one
  | (with_reducible show evp _ _ _ _ = _); first | with_reducible exact evp_nil | with_reducible apply evp_cons
  | (with_reducible show evr _ _ _ _ = _); first | with_reducible exact evr_nil' | with_reducible apply evr_cons'
  | (with_reducible show tests _ _ _ _ = _); first | with_reducible exact tests_nil | with_reducible apply tests_one
  | (with_reducible show evi _ _ _ _ = _); first | with_reducible apply evi_e
  | (with_reducible show cmpD _ _ _ = _); first | exact in_dict _ _ _ | exact nin_dict _ _ _ | exact in_lst _ _ | exact in_tup _ _ | exact nin_lst _ _ | exact nin_tup _ _
      | exact cmp_eq_cD _ _ | exact cmp_ne_cD _ _ | exact cmp_lt_int _ _ | exact cmp_gt_int _ _ | exact cmp_le_int _ _ | exact cmp_ge_int _ _ | exact cmp_eq_int _ _ | exact cmp_ne_int _ _ | exact cmp_eq_tup _ _ | exact cmp_ne_tup _ _ | exact cmp_eq_lst _ _ | exact cmp_ne_lst _ _ | exact cmp_eq_tup0 _ | exact cmp_ne_tup0 _ | exact cmp_eq_lst0 _ | exact cmp_ne_lst0 _ | rfl
  | (with_reducible show biD _ _ = _); first | exact bi_len_list _ | exact bi_len_tup _ | exact bi_len_dict _ _ | exact bi_sorted_list _ | exact bi_sorted_tup _ | exact bi_sorted_dict _ _ | exact bi_list_dict _ _ | rfl
  | (with_reducible show itemsOf _ = _); first | exact items_dict _ _ | rfl
  | (with_reducible show kept _ _ _ = _); first | exact kept_tup | rfl
  | (with_reducible show stores _ _ _ _ _ = _); first | with_reducible exact sts_nil | with_reducible apply sts_nm | with_reducible apply sts_sb
  | (with_reducible show exec _ _ _ _ = _); first | with_reducible apply x_asg | with_reducible apply x_asgT | with_reducible apply x_asgB | with_reducible apply x_par | with_reducible apply x_pop | with_reducible apply x_append | with_reducible apply x_extend | with_reducible apply x_popKey | with_reducible exact x_retn
  | with_reducible exact xs_nil | rfl | (intro _) | decide | (simp only [List.length_cons, List.length_nil]; decide)))

theorem split_len (m : List Cell) : ∀ l : List Cell, (l.filter fun x => decide (x ∈ m)).length + (outC l m).length = l.length
  | [] => rfl
  | a :: l => by
    have ih := split_len m l
    unfold outC at *
    rw [List.filter_cons, List.filter_cons]
    by_cases h : a ∈ m
    · simp only [h, decide_true, if_true, Bool.not_true, Bool.false_eq_true, if_false, List.length_cons]
      omega
    · simp only [h, decide_false, if_true, Bool.not_false, Bool.false_eq_true, if_false, List.length_cons]
      omega
theorem both_le {l m : List Cell} (h : l.Nodup) : (l.filter fun x => decide (x ∈ m)).length ≤ (m.filter fun x => decide (x ∈ l)).length := by
  refine nodup_sub_len (h.sublist List.filter_sublist) fun x hx => ?_
  rw [List.mem_filter, decide_eq_true_iff] at hx ⊢
  exact ⟨hx.2, hx.1⟩
theorem gain_len {l m : List Cell} (hl : l.Nodup) (hm : m.Nodup) : (m.length : Int) - l.length = ((outC m l).length : Int) - (outC l m).length := by
  have h1 := split_len m l
  have h2 := split_len l m
  have h3 := both_le (m := m) hl
  have h4 := both_le (m := l) hm
  omega
theorem stay_sort {l m : List Cell} (hl : Asc l) (hm : Asc m) : sortC (outC l (outC l m) ++ outC m l) = m := by
  refine sortC_eq ?_ hm fun x => ?_
  · rw [List.nodup_append]
    refine ⟨(outC_asc hl).nodup, (outC_asc hm).nodup, fun a ha b hb hab => ?_⟩
    subst hab
    exact (mem_outC.mp hb).2 (mem_outC.mp ha).1
  · rw [List.mem_append, mem_outC, mem_outC, mem_outC]
    constructor
    · rintro (⟨h1, h2⟩ | h)
      · by_cases hx : x ∈ m
        · exact hx
        · exact absurd ⟨h1, hx⟩ h2
      · exact h.1
    · intro h
      by_cases hx : x ∈ l
      · exact .inl ⟨hx, fun z => z.2 h⟩
      · exact .inr ⟨h, hx⟩
noncomputable def E19 (lap : D) (I sts : List Cell) (one : Option Slot) (tn : Cell) (W : List Cell) (o : Nat) (sz : Option Slot) : Env := [none, some .src, some (.dat lap 0), some (.dat (tupC I) 0), some (.dat (.dict (kvC (fldD I) I)) 0), some (.dat (lstC sts) 0), none, none, none, none, none, one, none, none, some (.dat (cD tn) 0), some (.dat (lstC W) o), none, none, none, sz, none, none, none, none]
theorem l4_turn (k : Nat) (lap : D) (I sts : List Cell) (one : Option Slot) (tn : Cell) (W : List Cell) (d : D) (s : Src) (hne : W ≠ []) (hW : ∀ c ∈ W, c ∈ I) (hl : W.length ≤ 100) (ht : s.turn ≤ 800000) :
    ∃ W' s', foB (callN Pt (k + 8)) (.nm 16) b_law_k44_l4 [16, 17] d (E19 lap I sts one tn W 1 none) s = some (.nx (E19 lap I sts one tn W' 1 none), s') ∧ W' ≠ [] ∧ (∀ c ∈ W', c ∈ I) ∧ W'.length ≤ W.length + 1 ∧ s'.turn ≤ s.turn + 1 := by
  have lim : (200000 : Nat) < LIM := by decide
  have hpos : 0 < W.length := List.length_pos_iff.mpr hne
  obtain ⟨c, hc, hit⟩ := item_lst (l := W) (i := (W.length : Int) - 1) (by omega) (by omega)
  have hnear : exec (callN Pt (k + 8)) (.asg (.nm 17) (.lc (.v 18) (.nm 18) (.e (.call 52 (.cons false (.sub (.v 15) (.bin .Sub (.bi .len (.cons false (.v 15) .nil)) (.k (.int 1)))) .nil))) (.cons false (.cmp .In (.v 18) (.v 3)) .nil) [18])) ((E19 lap I sts one tn W 1 none).set 16 (some (.dat d 0))) s = some (.nx (((E19 lap I sts one tn W 1 none).set 16 (some (.dat d 0))).set 17 (some (.dat (lstC ((sidesC c).filter fun x => decide (x ∈ I))) 1))), s) := by
    apply x_asgL
    · apply ev_lcFilter (l := sidesC c) (q := fun x => decide (x ∈ I))
      · apply evi_e
        · apply ev_call
          · apply evc_cons
            · apply ev_sub
              · exact ev_v rfl
              · apply ev_bin
                · apply ev_bi
                  · apply evs_cons
                    · exact ev_v rfl
                    · exact evs_nil
                  · exact bi_len_list _
                · exact ev_k
                · rfl
              · exact hit
            · exact evc_nil
          · exact sides_spec _ _ _
        · rfl
      · exact (by decide : 18 < 24)
      · intro x _ s
        refine ⟨0, ?_⟩
        apply ev_cmp
        · exact ev_v rfl
        · exact ev_v rfl
        · exact in_tup _ _
    · exact imm_cells _
  generalize hN : (sidesC c).filter (fun x => decide (x ∈ I)) = N at hnear
  have hNI : ∀ x ∈ N, x ∈ I := fun x hx => by
    rw [← hN, List.mem_filter, decide_eq_true_iff] at hx
    exact hx.2
  have hNl : N.length ≤ 4 := by
    rw [← hN]
    exact Nat.le_trans (List.length_filter_le _ _) (by exact Nat.le_refl 4)
  have test : ev (callN Pt (k + 8)) (.cmp .NotEq (.v 17) (.lst .nil)) (((E19 lap I sts one tn W 1 none).set 16 (some (.dat d 0))).set 17 (some (.dat (lstC N) 1))) s = some (.dat (.bool (!decide (N = []))) 0, s) := by
    apply ev_cmp
    · exact ev_v rfl
    · apply ev_lst
      · exact evs_nil
      · decide
    · exact cmp_ne_lst0 _
  by_cases hN0 : N = []
  · rw [decide_eq_true hN0] at test
    refine ⟨W, s, ?_, hne, hW, by omega, by omega⟩
    apply Eq.trans
    · apply foB_of
      · rfl
      · apply xs_cons
        · exact hnear
        · apply xs_cons
          · apply x_ite_f
            · exact test
            · rfl
            · exact xs_nil
          · exact xs_nil
    · rfl
  · rw [decide_eq_false hN0] at test
    have hNp : 0 < N.length := List.length_pos_iff.mpr hN0
    obtain ⟨i, s1, hi, hi0, hi1, t1⟩ := ev_pick (k := k + 7) (i := 1) (e := .bi .len (.cons false (.v 17) .nil)) (env := ((E19 lap I sts one tn W 1 none).set 16 (some (.dat d 0))).set 17 (some (.dat (lstC N) 1))) (s := s) (s1 := s) (m := N.length) (o := 0) rfl (by
      apply ev_bi
      · apply evs_cons
        · exact ev_v rfl
        · exact evs_nil
      · exact bi_len_list _) (by omega) (by omega)
    obtain ⟨z, hz, hzi⟩ := item_lst (l := N) hi0 (by omega)
    refine ⟨W ++ [z], s1, ?_, by simp, fun x hx => ?_, by simp, t1⟩
    · apply Eq.trans
      · apply foB_of
        · rfl
        · apply xs_cons
          · exact hnear
          · apply xs_cons
            · apply x_ite_t
              · exact test
              · rfl
              · apply xs_cons
                · apply x_appCells (l := W) (c := z)
                  · apply ev_sub
                    · exact ev_v rfl
                    · exact hi
                    · exact hzi
                  · rfl
                  · omega
                · exact xs_nil
            · exact xs_nil
      · rfl
    · rcases List.mem_append.mp hx with hx | hx
      · exact hW x hx
      · rw [List.mem_singleton] at hx
        subst hx
        exact hNI x hz
noncomputable def lenF (I : List Cell) (c : Cell) : Int := ((fld I c).length : Nat)
theorem l5_turn (k : Nat) (lap : D) {I sts : List Cell} (one : Option Slot) (tn : Cell) (W : List Cell) (o : Nat) (j : Nat) (s : Src) (h : IsRoom I) (hW : ∀ c ∈ W, c ∈ I) (hj : j + 1 < W.length) :
    foB (callN Pt (k + 8)) (.nm 20) b_law_k44_l5 [20, 21, 22, 23] (.int (0 + (j : Int))) (E19 lap I sts one tn W o (some (.dat (.list ((W.map (lenF I)).map .int)) 1))) s = some (.nx (E19 lap I sts one tn W o (some (.dat (.list ((W.map (lenF I)).map .int)) 1))), s) := by
  have lim : (200000 : Nat) < LIM := by decide
  obtain ⟨a, ha, hai, _⟩ := atI_in (l := W) (i := 0 + (j : Int)) (by omega) (by omega)
  obtain ⟨b, hb, hbi, _⟩ := atI_in (l := W) (i := 0 + (j : Int) + 1) (by omega) (by omega)
  have haI := hW a ha
  have hbI := hW b hb
  have iA : itemD (.list (W.map cD)) (.int (0 + (j : Int))) = some (cD a) := by show L2.atI _ _ = _; rw [atI_map, hai]; rfl
  have iB : itemD (.list (W.map cD)) (.int (0 + (j : Int) + 1)) = some (cD b) := by show L2.atI _ _ = _; rw [atI_map, hbi]; rfl
  have nA : itemD (.list ((W.map (lenF I)).map .int)) (.int (0 + (j : Int))) = some (.int (lenF I a)) := by show L2.atI _ _ = _; rw [atI_map, atI_map, hai]; rfl
  have nB : itemD (.list ((W.map (lenF I)).map .int)) (.int (0 + (j : Int) + 1)) = some (.int (lenF I b)) := by show L2.atI _ _ = _; rw [atI_map, atI_map, hbi]; rfl
  have fa := fld_asc (a := a) h.asc
  have fb := fld_asc (a := b) h.asc
  apply Eq.trans
  · apply foB_of
    · rfl
    · apply xs_step (env2 := [none, some .src, some (.dat lap 0), some (.dat (tupC I) 0), some (.dat (.dict (kvC (fldD I) I)) 0), some (.dat (lstC sts) 0), none, none, none, none, none, one, none, none, some (.dat (cD tn) 0), some (.dat (lstC W) o), none, none, none, some (.dat (.list ((W.map (lenF I)).map .int)) 1), some (.dat (.int (0 + (j : Int))) 0), some (.dat (tupC (outC (fld I a) (fld I b))) 0), some (.dat (tupC (outC (fld I b) (fld I a))) 0), none])
      · apply x_asgTK (env2 := (E19 lap I sts one tn W o (some (.dat (.list ((W.map (lenF I)).map .int)) 1))).set 20 (some (.dat (.int (0 + (j : Int))) 0)))
        · apply ev_call
          · apply evc_cons
            · exact ev_v rfl
            · apply evc_cons
              · apply ev_sub
                · exact ev_v rfl
                · exact ev_v rfl
                · exact iA
              · apply evc_cons
                · apply ev_sub
                  · exact ev_v rfl
                  · apply ev_bin
                    · exact ev_v rfl
                    · exact ev_k
                    · rfl
                  · exact iB
                · exact evc_nil
          · exact gained_spec (k + 3) s h haI hbI
        · apply kept_imm
          show immAll [tupC _, tupC _] = true
          unfold tupC
          simp only [immAll, imm, imm_cells]
          rfl
        · rfl
      · rfl
      · apply xs_cons
        · apply x_ite_f (d1 := .bool false) (o1 := 0)
          · apply Eq.trans
            · apply ev_cmp
              · apply ev_bin
                · apply ev_sub
                  · exact ev_v rfl
                  · apply ev_bin
                    · exact ev_v rfl
                    · exact ev_k
                    · rfl
                  · exact nB
                · apply ev_sub
                  · exact ev_v rfl
                  · exact ev_v rfl
                  · exact nA
                · rfl
              · apply ev_bin
                · apply ev_bi
                  · apply evs_cons
                    · exact ev_v rfl
                    · exact evs_nil
                  · exact bi_len_tup _
                · apply ev_bi
                  · apply evs_cons
                    · exact ev_v rfl
                    · exact evs_nil
                  · exact bi_len_tup _
                · rfl
              · exact cmp_ne_int _ _
            · rw [show decide (lenF I b - lenF I a = ((outC (fld I b) (fld I a)).length : Int) - ((outC (fld I a) (fld I b)).length : Int)) = true from decide_eq_true (gain_len fa.nodup fb.nodup)]
              rfl
          · rfl
          · exact xs_nil
        · apply xs_cons
          · apply x_asgL
            · apply ev_lcFilter (l := fld I a) (q := fun x => !decide (x ∈ outC (fld I a) (fld I b)))
              · apply evi_e
                · apply ev_sub
                  · exact ev_v rfl
                  · apply ev_sub
                    · exact ev_v rfl
                    · exact ev_v rfl
                    · exact iA
                  · exact item_kvC (fldD I) haI
                · rfl
              · exact (by decide : 11 < 24)
              · intro x _ s
                refine ⟨0, ?_⟩
                apply ev_cmp
                · exact ev_v rfl
                · exact ev_v rfl
                · exact nin_tup _ _
            · exact imm_cells _
          · apply xs_cons
            · apply x_ite_f (d1 := .bool false) (o1 := 0)
              · apply Eq.trans
                · apply ev_cmp
                  · apply ev_call
                    · apply evc_cons
                      · exact ev_v rfl
                      · apply evc_cons
                        · apply ev_sub
                          · exact ev_v rfl
                          · apply ev_bin
                            · exact ev_v rfl
                            · exact ev_k
                            · rfl
                          · exact iB
                        · exact evc_nil
                    · exact field_spec (k + 4) s h hbI
                  · apply ev_bi
                    · apply evs_cons
                      · apply ev_bi
                        · apply evs_cons
                          · apply ev_bin
                            · exact ev_v rfl
                            · apply ev_bi
                              · apply evs_cons
                                · exact ev_v rfl
                                · exact evs_nil
                              · rfl
                            · exact add_lists _ _ (by
                                simp only [List.length_map]
                                have h1 : (List.filter (fun x => !decide (x ∈ outC (fld I a) (fld I b))) (fld I a)).length ≤ (fld I a).length := List.length_filter_le _ _
                                have h2 : (outC (fld I b) (fld I a)).length ≤ (fld I b).length := List.length_filter_le _ _
                                have h3 := fld_len (I := I) (a := a)
                                have h4 := fld_len (I := I) (a := b)
                                have h5 := h.le
                                omega)
                          · exact evs_nil
                        · rw [← List.map_append]
                          exact bi_sorted_list (outC (fld I a) (outC (fld I a) (fld I b)) ++ outC (fld I b) (fld I a))
                      · exact evs_nil
                    · rfl
                  · exact cmp_ne_tup (fld I b) (sortC (outC (fld I a) (outC (fld I a) (fld I b)) ++ outC (fld I b) (fld I a)))
                · rw [stay_sort fa fb, decide_eq_true rfl]
                  rfl
              · rfl
              · exact xs_nil
            · exact xs_nil
  · rfl
end N
/-! S19. The whole law. -/
namespace N
open PySem
local macro_rules | `(tactic| bv_omega) => `(tactic| repeat' (first
  | (with_reducible show ev _ _ _ _ = _); first
      | with_reducible exact ev_k | with_reducible apply ev_cmp | with_reducible apply ev_bin | with_reducible apply ev_tup | with_reducible apply ev_lst | with_reducible apply ev_dic | with_reducible apply ev_sub | with_reducible apply ev_andb | with_reducible apply ev_orb
      | with_reducible apply ev_nt | with_reducible apply ev_neg | with_reducible apply ev_sl | with_reducible apply ev_rev | with_reducible apply ev_bi | with_reducible apply ev_me
      | exact ev_v rfl | exact ev_src rfl | assumption
  | (with_reducible show evs _ _ _ _ = _); first | with_reducible exact evs_nil | with_reducible apply evs_cons
  | (with_reducible show evc _ _ _ _ = _); first | with_reducible exact evc_nil | with_reducible apply evc_cons
  | (with_reducible show evo _ _ _ _ = _); first | with_reducible exact evo_nil | with_reducible apply evo_one
  | (with_reducible show evp _ _ _ _ = _); first | with_reducible exact evp_nil | with_reducible apply evp_cons
  | (with_reducible show evr _ _ _ _ = _); first | with_reducible exact evr_nil' | with_reducible apply evr_cons'
  | (with_reducible show tests _ _ _ _ = _); first | with_reducible exact tests_nil | with_reducible apply tests_one
  | (with_reducible show evi _ _ _ _ = _); first | with_reducible apply evi_e
  | (with_reducible show cmpD _ _ _ = _); first | exact in_dict _ _ _ | exact nin_dict _ _ _ | exact in_lst _ _ | exact in_tup _ _ | exact nin_lst _ _ | exact nin_tup _ _
      | exact cmp_eq_cD _ _ | exact cmp_ne_cD _ _ | exact cmp_lt_int _ _ | exact cmp_gt_int _ _ | exact cmp_le_int _ _ | exact cmp_ge_int _ _ | exact cmp_eq_int _ _ | exact cmp_ne_int _ _ | exact cmp_eq_tup _ _ | exact cmp_ne_tup _ _ | exact cmp_eq_lst _ _ | exact cmp_ne_lst _ _ | exact cmp_eq_tup0 _ | exact cmp_ne_tup0 _ | exact cmp_eq_lst0 _ | exact cmp_ne_lst0 _ | rfl
  | (with_reducible show biD _ _ = _); first | exact bi_len_list _ | exact bi_len_tup _ | exact bi_len_dict _ _ | exact bi_sorted_list _ | exact bi_sorted_tup _ | exact bi_sorted_dict _ _ | exact bi_list_dict _ _ | rfl
  | (with_reducible show itemsOf _ = _); first | exact items_dict _ _ | rfl
  | (with_reducible show kept _ _ _ = _); first | exact kept_tup | rfl
  | (with_reducible show stores _ _ _ _ _ = _); first | with_reducible exact sts_nil | with_reducible apply sts_nm | with_reducible apply sts_sb
  | (with_reducible show exec _ _ _ _ = _); first | with_reducible apply x_asg | with_reducible apply x_asgT | with_reducible apply x_asgB | with_reducible apply x_par | with_reducible apply x_pop | with_reducible apply x_append | with_reducible apply x_extend | with_reducible apply x_popKey | with_reducible exact x_retn
  | with_reducible exact xs_nil | rfl | (intro _) | decide | (simp only [List.length_cons, List.length_nil]; decide)))

def E17 (one : Option Slot) : Env := [none, some .src, none, none, none, none, none, none, none, none, none, one, none, none, none, none, none, none, none, none, none, none, none, none]
theorem stalls_loop (k : Nat) (lap : D) {I : List Cell} (one : Option Slot) (s : Src) (r : List Cell) (h : IsRoom I) (hne : I ≠ []) (hr : ∀ c ∈ r, c ∈ I) (hl : r.length ≤ 50) :
    ∃ sts one', forL (foB (callN Pt (k + 8)) (.nm 6) b_law_k44_l2 [6, 7, 8, 9, 12, 13]) (r.map cD) (E16 lap I [] (kvC (fldD I) I) one) s = some (.nx (E16 lap I sts (kvC (fldD I) I) one'), s) := by
  obtain ⟨env1, s1, hw, rfl, sts, one', rfl, _, _⟩ := forL_inv (body := foB (callN Pt (k + 8)) (.nm 6) b_law_k44_l2 [6, 7, 8, 9, 12, 13]) cD (fun done env s' => s' = s ∧ ∃ sts one', env = E16 lap I sts (kvC (fldD I) I) one' ∧ (∀ c ∈ sts, c ∈ I) ∧ sts.length ≤ done.length) r [] (env := E16 lap I [] (kvC (fldD I) I) one) (s := s) ⟨rfl, [], one, rfl, fun c hc => by simp at hc, Nat.le_refl _⟩ (by
    rintro dn a q e env s' ⟨rfl, sts, one', rfl, hs, hle⟩
    have hd : dn.length < r.length := by
      have := congrArg List.length e
      simp only [List.nil_append, List.length_append, List.length_cons] at this
      omega
    have ha : a ∈ I := hr a (by
      have : a ∈ [] ++ r := by rw [e]; simp
      simpa using this)
    obtain ⟨one2, h1⟩ := l2_turn k lap a one' s' h hne hs ha (by omega)
    refine ⟨_, _, h1, rfl, sts ++ [a], one2, rfl, fun c hc => ?_, by simp only [List.length_append, List.length_cons, List.length_nil]; omega⟩
    rcases List.mem_append.mp hc with hc | hc
    · exact hs c hc
    · rw [List.mem_singleton] at hc
      subst hc
      exact ha)
  exact ⟨sts, one', hw⟩
theorem walk_loop (k : Nat) (lap : D) (I sts : List Cell) (one : Option Slot) (tn : Cell) (s : Src) (ht : s.turn ≤ 700000) (hI : tn ∈ I) :
    ∃ W s', forL (foB (callN Pt (k + 8)) (.nm 16) b_law_k44_l4 [16, 17]) ((List.range 5).map fun j : Nat => PyData.int (0 + (j : Int))) (E19 lap I sts one tn [tn] 1 none) s = some (.nx (E19 lap I sts one tn W 1 none), s') ∧ W ≠ [] ∧ (∀ c ∈ W, c ∈ I) ∧ W.length ≤ 6 ∧ s'.turn ≤ s.turn + 5 := by
  obtain ⟨env1, s1, hw, W, rfl, hne, hW, hl, t1⟩ := forL_inv (body := foB (callN Pt (k + 8)) (.nm 16) b_law_k44_l4 [16, 17]) (fun j : Nat => PyData.int (0 + (j : Int))) (fun done env s' => ∃ W, env = E19 lap I sts one tn W 1 none ∧ W ≠ [] ∧ (∀ c ∈ W, c ∈ I) ∧ W.length ≤ 1 + done.length ∧ s'.turn ≤ s.turn + (done.length : Int)) (List.range 5) [] (env := E19 lap I sts one tn [tn] 1 none) (s := s) ⟨[tn], rfl, by simp, fun c hc => by rw [List.mem_singleton] at hc; subst hc; exact hI, Nat.le_refl _, by show s.turn ≤ s.turn + (0 : Int); omega⟩ (by
    rintro dn j q e env s' ⟨W, rfl, hne, hW, hl, t1⟩
    have hd : dn.length < 5 := by
      have := congrArg List.length e
      simp only [List.nil_append, List.length_append, List.length_cons, List.length_range] at this
      omega
    obtain ⟨W', s2, h1, h2, h3, h4, h5⟩ := l4_turn k lap I sts one tn W (.int (0 + (j : Int))) s' hne hW (by omega) (by omega)
    exact ⟨_, s2, h1, W', rfl, h2, h3, by simp only [List.length_append, List.length_cons, List.length_nil]; omega, by rw [List.length_append]; simp only [List.length_cons, List.length_nil]; omega⟩)
  rw [List.nil_append, List.length_range] at hl t1
  exact ⟨W, s1, hw, hne, hW, hl, by omega⟩
theorem gain_loop (k : Nat) (lap : D) {I sts : List Cell} (one : Option Slot) (tn : Cell) (W : List Cell) (o : Nat) (s : Src) (h : IsRoom I) (hW : ∀ c ∈ W, c ∈ I) :
    forL (foB (callN Pt (k + 8)) (.nm 20) b_law_k44_l5 [20, 21, 22, 23]) ((List.range ((W.length : Int) - 1).toNat).map fun j : Nat => PyData.int (0 + (j : Int))) (E19 lap I sts one tn W o (some (.dat (.list ((W.map (lenF I)).map .int)) 1))) s = some (.nx (E19 lap I sts one tn W o (some (.dat (.list ((W.map (lenF I)).map .int)) 1))), s) := by
  obtain ⟨env1, s1, hw, rfl, rfl⟩ := forL_inv (body := foB (callN Pt (k + 8)) (.nm 20) b_law_k44_l5 [20, 21, 22, 23]) (fun j : Nat => PyData.int (0 + (j : Int))) (fun done env s' => s' = s ∧ env = E19 lap I sts one tn W o (some (.dat (.list ((W.map (lenF I)).map .int)) 1))) (List.range ((W.length : Int) - 1).toNat) [] (env := E19 lap I sts one tn W o (some (.dat (.list ((W.map (lenF I)).map .int)) 1))) (s := s) ⟨rfl, rfl⟩ (by
    rintro dn j q e env s' ⟨rfl, rfl⟩
    have hj : j ∈ List.range ((W.length : Int) - 1).toNat := by
      have : j ∈ [] ++ List.range ((W.length : Int) - 1).toNat := by rw [e]; simp
      simpa using this
    rw [List.mem_range] at hj
    exact ⟨_, _, l5_turn k lap one tn W o j s' h hW (by omega), rfl, rfl⟩)
  exact hw
set_option maxHeartbeats 2000000 in
theorem l1_turn (k : Nat) (lap : D) (one : Option Slot) (s : Src) (ht : s.turn ≤ 400000) :
    ∃ one' s', foB (callN Pt (k + 8)) (.nm 2) b_law_k44_l1 [2, 3, 4, 5, 6, 7, 8, 9, 12, 13, 14, 15, 16, 17, 19, 20, 21, 22, 23] lap (E17 one) s = some (.nx (E17 one'), s') ∧ s'.turn ≤ s.turn + 10000 := by
  have lim : (200000 : Nat) < LIM := by decide
  obtain ⟨I, s1, hall, hH, t1⟩ := hall_spec (k + 2) s (most := 20) (by decide) (by decide) (by omega)
  have hR := hH.room
  have hpos : 0 < I.length := List.length_pos_iff.mpr hH.ne
  have hIl := hH.le
  obtain ⟨r, s2, hany, hrl, hrI, t2⟩ := any_spec (k + 6) s1 (l := I) (by omega) (by omega)
  obtain ⟨sts, one2, hst⟩ := stalls_loop k lap (I := I) one s2 (r.take 5) hR hH.ne (fun c hc => hrI c (List.mem_of_mem_take hc)) (by rw [List.length_take]; omega)
  obtain ⟨i, s3, hi, hi0, hi1, t3⟩ := ev_pick (k := k + 7) (i := 1) (e := .bi .len (.cons false (.v 3) .nil)) (env := E16 lap I sts (kvC (fldD I) I) one2) (s := s2) (s1 := s2) (m := I.length) (o := 0) rfl (by
    apply ev_bi
    · apply evs_cons
      · exact ev_v rfl
      · exact evs_nil
    · exact bi_len_tup _) (by omega) (by omega)
  obtain ⟨tn, htn, htni⟩ := item_tup (l := I) hi0 (by omega)
  obtain ⟨W, s4, hwalk, hWne, hWI, hWl, t4⟩ := walk_loop k lap I sts one2 tn s3 (by omega) htn
  refine ⟨one2, s4, ?_, by omega⟩
  apply Eq.trans
  · apply foB_of
    · rfl
    · apply xs_step (env2 := [none, some .src, some (.dat lap 0), some (.dat (tupC I) 0), none, none, none, none, none, none, none, one, none, none, none, none, none, none, none, none, none, none, none, none])
      · apply x_asg
        · apply ev_call
          · apply evc_src
            · exact ev_src rfl
            · apply evc_cons
              · exact ev_k
              · exact evc_nil
          · exact hall
        · rfl
      · rfl
      · apply xs_step (env2 := E16 lap I [] (kvC (fldD I) I) one)
        · apply x_asgT
          · apply ev_tup
            · apply evs_cons
              · apply ev_call
                · apply evc_cons
                  · exact ev_v rfl
                  · exact evc_nil
                · exact lfields_spec (k + 6) s1 hR
              · apply evs_cons
                · apply ev_lst
                  · exact evs_nil
                  · decide
                · exact evs_nil
            · exact (by decide : 2 ≤ LIM)
          · rfl
          · rfl
        · rfl
        · apply xs_cons
          · apply x_for
            · apply evi_e
              · apply ev_sl
                · apply ev_call
                  · apply evc_src
                    · exact ev_src rfl
                    · apply evc_cons
                      · apply ev_bi
                        · apply evs_cons
                          · exact ev_v rfl
                          · exact evs_nil
                        · rfl
                      · exact evc_nil
                  · exact hany
                · exact evo_nil
                · apply evo_one
                  exact ev_k
                · exact sl_to cD r 5
              · rfl
            · rfl
            · exact hst
          · apply xs_cons
            · apply x_asg
              · apply ev_sub
                · exact ev_v rfl
                · exact hi
                · exact htni
              · rfl
            · apply xs_step (env2 := E19 lap I sts one2 tn [tn] 1 none)
              · apply x_asg
                · apply ev_lst
                  · apply evs_cons
                    · exact ev_v rfl
                    · exact evs_nil
                  · exact (by decide : 1 ≤ LIM)
                · rfl
              · rfl
              · apply xs_cons
                · apply x_for
                  · apply evi_range (n := 5)
                    · exact ev_k
                    · decide
                  · rfl
                  · exact hwalk
                · apply xs_step (env2 := E19 lap I sts one2 tn W 1 (some (.dat (.list ((W.map (lenF I)).map .int)) 1)))
                  · apply x_asgL (xs := (W.map fun c => PyData.int (fld I c).length))
                    · apply ev_call
                      · apply evc_cons
                        · exact ev_v rfl
                        · apply evc_cons
                          · apply ev_bi
                            · apply evs_cons
                              · exact ev_v rfl
                              · exact evs_nil
                            · rfl
                          · exact evc_nil
                      · exact walk_spec (k + 3) s4 hR (cells := W) rfl hWI
                    · exact immAll_map _ (fun _ => rfl) _
                  · have e : (W.map fun c => PyData.int (fld I c).length) = (W.map (lenF I)).map .int := by rw [List.map_map]; rfl
                    rw [e]
                    rfl
                  · apply xs_cons
                    · apply x_ite_f (d1 := .bool false) (o1 := 0)
                      · apply Eq.trans
                        · apply ev_cmp
                          · exact ev_v rfl
                          · apply ev_lcMap cD (l := W) (fun c => .int (lenF I c)) (fun c => (wipe (flat (E19 lap I sts one2 tn W 1 (some (.dat (.list ((W.map (lenF I)).map .int)) 1)))) [10]).set 10 (some (.dat (cD c) 0)))
                            · apply evi_e
                              · exact ev_v rfl
                              · rfl
                            · intro c _; rfl
                            · intro c hc s
                              refine ⟨0, ?_⟩
                              apply ev_bi
                              · apply evs_cons
                                · apply ev_sub
                                  · exact ev_v rfl
                                  · exact ev_v rfl
                                  · exact item_kvC (fldD I) (hWI c hc)
                                · exact evs_nil
                              · exact bi_len_tup _
                          · rw [show (W.map fun c => PyData.int (lenF I c)) = (W.map (lenF I)).map .int from by rw [List.map_map]; rfl]
                            exact cmp_ne_ints _ _
                        · rw [decide_eq_true rfl]
                          rfl
                      · rfl
                      · exact xs_nil
                    · apply xs_cons
                      · apply x_for
                        · apply evi_range (n := (W.length : Int) - 1)
                          · apply ev_bin
                            · apply ev_bi
                              · apply evs_cons
                                · exact ev_v rfl
                                · exact evs_nil
                              · exact bi_len_list _
                            · exact ev_k
                            · rfl
                          · omega
                        · rfl
                        · exact gain_loop k lap one2 tn W 1 s4 hR hWI
                      · exact xs_nil
  · rfl
theorem ans (S : Src) (h0 : S.turn = 0) : ∃ o S1, execs (callN Pt 40) b_law_k44 (none :: some .src :: List.replicate (n_law_k44.length - 2) none) S = some (.rt (.dat (.bool true) o), S1) := by
  obtain ⟨env1, s1, hw, one, rfl, t1⟩ := forL_inv (body := foB (callN Pt (32 + 8)) (.nm 2) b_law_k44_l1 [2, 3, 4, 5, 6, 7, 8, 9, 12, 13, 14, 15, 16, 17, 19, 20, 21, 22, 23]) (fun j : Nat => PyData.int (0 + (j : Int))) (fun done env s' => ∃ one, env = E17 one ∧ s'.turn ≤ 10000 * (done.length : Int)) (List.range 2) [] (env := E17 none) (s := S) ⟨none, rfl, by show S.turn ≤ 10000 * (0 : Int); omega⟩ (by
    rintro dn j q e env s' ⟨one, rfl, t1⟩
    have hd : dn.length < 2 := by
      have := congrArg List.length e
      simp only [List.nil_append, List.length_append, List.length_cons, List.length_range] at this
      omega
    obtain ⟨one', s2, h1, t2⟩ := l1_turn 32 (.int (0 + (j : Int))) one s' (by omega)
    exact ⟨_, s2, h1, one', rfl, by rw [List.length_append]; simp only [List.length_cons, List.length_nil]; omega⟩)
  refine ⟨0, s1, ?_⟩
  apply xs_cons
  · apply x_for
    · apply evi_range (n := 2)
      · exact ev_k
      · decide
    · rfl
    · exact hw
  · apply xs_stop_rt
    apply x_ret rfl
    exact ev_k
end N
namespace N
open PySem PySem.Spec PyProof.Rows L2
def top (i : Nat) : Stmt := PySem.Challenge.pw_nodetour_k44_whole_lit_and_dark.main.body.getD i (.Pass ⟨0, 0, 0, 0⟩)
def fnN : Nat → Option Str
  | 2 => some "moves"
  | 3 => some "corner_field"
  | 4 => some "corner_fields"
  | 5 => some "field"
  | 176 => some "all_fields"
  | 180 => some "lit"
  | 181 => some "dark_in"
  | 199 => some "serve_all"
  | 200 => some "seen_by_most"
  | 201 => some "alone_served"
  | 185 => some "gained"
  | 186 => some "walk_lit"
  | 0 => some "_law_pick"
  | 1 => some "_law_any_order"
  | 52 => some "_law_sides"
  | 53 => some "_law_near"
  | 54 => some "_law_parts_by"
  | 55 => some "_law_is_room"
  | 56 => some "_law_draw_room"
  | 50 => some "_law_snake"
  | 51 => some "_law_bent_room"
  | 156 => some "_law_field"
  | 187 => some "_law_fields"
  | 158 => some "_law_draw_hall"
  | 528 => some "_law_dark_right"
  | _ => none
theorem ok_moves : okSs (ctOf n_moves (C8.fnScope (top 1)) fnN) b_moves (C8.fnBody (top 1)) = true := by decide +kernel
theorem sc_moves : C8.scC n_moves [] (C8.fnScope (top 1)) = true := by decide +kernel
theorem ok_corner_field : okSs (ctOf n_corner_field (C8.fnScope (top 3)) fnN) b_corner_field (C8.fnBody (top 3)) = true := by decide +kernel
theorem sc_corner_field : C8.scC n_corner_field ["inner", "stall", "signs"] (C8.fnScope (top 3)) = true := by decide +kernel
theorem ok_corner_fields : okSs (ctOf n_corner_fields (C8.fnScope (top 4)) fnN) b_corner_fields (C8.fnBody (top 4)) = true := by decide +kernel
theorem sc_corner_fields : C8.scC n_corner_fields ["room", "stall"] (C8.fnScope (top 4)) = true := by decide +kernel
theorem ok_field : okSs (ctOf n_field (C8.fnScope (top 5)) fnN) b_field (C8.fnBody (top 5)) = true := by decide +kernel
theorem sc_field : C8.scC n_field ["room", "stall"] (C8.fnScope (top 5)) = true := by decide +kernel
theorem ok_all_fields : okSs (ctOf n_all_fields (C8.fnScope (top 6)) fnN) b_all_fields (C8.fnBody (top 6)) = true := by decide +kernel
theorem sc_all_fields : C8.scC n_all_fields ["room"] (C8.fnScope (top 6)) = true := by decide +kernel
theorem ok_lit : okSs (ctOf n_lit (C8.fnScope (top 7)) fnN) b_lit (C8.fnBody (top 7)) = true := by decide +kernel
theorem sc_lit : C8.scC n_lit ["room", "stalls"] (C8.fnScope (top 7)) = true := by decide +kernel
theorem ok_dark_in : okSs (ctOf n_dark_in (C8.fnScope (top 8)) fnN) b_dark_in (C8.fnBody (top 8)) = true := by decide +kernel
theorem sc_dark_in : C8.scC n_dark_in ["room", "lot", "stalls"] (C8.fnScope (top 8)) = true := by decide +kernel
theorem ok_serve_all : okSs (ctOf n_serve_all (C8.fnScope (top 9)) fnN) b_serve_all (C8.fnBody (top 9)) = true := by decide +kernel
theorem sc_serve_all : C8.scC n_serve_all ["room", "lot", "stalls"] (C8.fnScope (top 9)) = true := by decide +kernel
theorem ok_seen_by_most : okSs (ctOf n_seen_by_most (C8.fnScope (top 10)) fnN) b_seen_by_most (C8.fnBody (top 10)) = true := by decide +kernel
theorem sc_seen_by_most : C8.scC n_seen_by_most ["room", "lot"] (C8.fnScope (top 10)) = true := by decide +kernel
theorem ok_alone_served : okSs (ctOf n_alone_served (C8.fnScope (top 11)) fnN) b_alone_served (C8.fnBody (top 11)) = true := by decide +kernel
theorem sc_alone_served : C8.scC n_alone_served ["room", "stalls"] (C8.fnScope (top 11)) = true := by decide +kernel
theorem ok_gained : okSs (ctOf n_gained (C8.fnScope (top 12)) fnN) b_gained (C8.fnBody (top 12)) = true := by decide +kernel
theorem sc_gained : C8.scC n_gained ["room", "one", "other"] (C8.fnScope (top 12)) = true := by decide +kernel
theorem ok_walk_lit : okSs (ctOf n_walk_lit (C8.fnScope (top 13)) fnN) b_walk_lit (C8.fnBody (top 13)) = true := by decide +kernel
theorem sc_walk_lit : C8.scC n_walk_lit ["room", "cells"] (C8.fnScope (top 13)) = true := by decide +kernel
theorem ok_law_sides : okSs (ctOf n_law_sides (C8.fnScope (top 18)) fnN) b_law_sides (C8.fnBody (top 18)) = true := by decide +kernel
theorem sc_law_sides : C8.scC n_law_sides ["cell"] (C8.fnScope (top 18)) = true := by decide +kernel
theorem ok_law_near : okSs (ctOf n_law_near (C8.fnScope (top 19)) fnN) b_law_near (C8.fnBody (top 19)) = true := by decide +kernel
theorem sc_law_near : C8.scC n_law_near ["cell"] (C8.fnScope (top 19)) = true := by decide +kernel
theorem ok_law_parts_by : okSs (ctOf n_law_parts_by (C8.fnScope (top 20)) fnN) b_law_parts_by (C8.fnBody (top 20)) = true := by decide +kernel
theorem sc_law_parts_by : C8.scC n_law_parts_by ["cells", "is_near"] (C8.fnScope (top 20)) = true := by decide +kernel
theorem ok_law_is_room : okSs (ctOf n_law_is_room (C8.fnScope (top 21)) fnN) b_law_is_room (C8.fnBody (top 21)) = true := by decide +kernel
theorem sc_law_is_room : C8.scC n_law_is_room ["cells"] (C8.fnScope (top 21)) = true := by decide +kernel
theorem ok_law_draw_room : okSs (ctOf n_law_draw_room (C8.fnScope (top 22)) fnN) b_law_draw_room (C8.fnBody (top 22)) = true := by decide +kernel
theorem sc_law_draw_room : C8.scC n_law_draw_room ["source", "most"] (C8.fnScope (top 22)) = true := by decide +kernel
theorem ok_law_snake : okSs (ctOf n_law_snake (C8.fnScope (top 23)) fnN) b_law_snake (C8.fnBody (top 23)) = true := by decide +kernel
theorem sc_law_snake : C8.scC n_law_snake ["source", "many"] (C8.fnScope (top 23)) = true := by decide +kernel
theorem ok_law_bent_room : okSs (ctOf n_law_bent_room (C8.fnScope (top 24)) fnN) b_law_bent_room (C8.fnBody (top 24)) = true := by decide +kernel
theorem sc_law_bent_room : C8.scC n_law_bent_room ["source", "most"] (C8.fnScope (top 24)) = true := by decide +kernel
theorem ok_law_field : okSs (ctOf n_law_field (C8.fnScope (top 25)) fnN) b_law_field (C8.fnBody (top 25)) = true := by decide +kernel
theorem sc_law_field : C8.scC n_law_field ["room", "stall"] (C8.fnScope (top 25)) = true := by decide +kernel
theorem ok_law_fields : okSs (ctOf n_law_fields (C8.fnScope (top 26)) fnN) b_law_fields (C8.fnBody (top 26)) = true := by decide +kernel
theorem sc_law_fields : C8.scC n_law_fields ["room"] (C8.fnScope (top 26)) = true := by decide +kernel
theorem ok_law_draw_hall : okSs (ctOf n_law_draw_hall (C8.fnScope (top 27)) fnN) b_law_draw_hall (C8.fnBody (top 27)) = true := by decide +kernel
theorem sc_law_draw_hall : C8.scC n_law_draw_hall ["source", "most"] (C8.fnScope (top 27)) = true := by decide +kernel
theorem ok_law_dark_right : okSs (ctOf n_law_dark_right (C8.fnScope (top 28)) fnN) b_law_dark_right (C8.fnBody (top 28)) = true := by decide +kernel
theorem sc_law_dark_right : C8.scC n_law_dark_right ["room", "due", "stalls", "bright"] (C8.fnScope (top 28)) = true := by decide +kernel
theorem ok_law_k44 : okSs (ctOf n_law_k44 (C8.fnScope (top 29)) fnN) b_law_k44 ((C8.fnBody (top 29)).drop 1) = true := by decide +kernel
theorem sc_law_k44 : C8.scC n_law_k44 ["script"] (C8.fnScope (top 29)) = true := by decide +kernel
theorem scPick : FnScope pN ["source", "most"] (C8.fnScope (top 16)) := C8.fnScope_by (by decide +kernel)
theorem scOpen : FnScope oN ["script"] (C8.fnScope (top 15)) := C8.fnScope_by (by decide +kernel)
theorem scAny : FnScope aN ["source", "things"] (C8.fnScope (top 17)) := C8.fnScope_by (by decide +kernel)
theorem boot_abs : bootBuiltins "abs" = some (.builtin "abs") := by decide +kernel
theorem boot_list : bootBuiltins "list" = some (.type "list") := by decide +kernel
section
variable {P : Program} {w : World} {c : Cfg} {K : PySem.W.Frag} {mg : Str → Option Value} {base : Heap} {fa : Addr} {cdv : Value} {A : Around} {outer : List PySem.Env} {s : Shared} {H : Hp} {E : XK}
theorem body_pick (mlen : mg "len" = none) (mint : mg "int" = none) (hu : (cxd P w K mg base pN "_law_pick" (top 16) fa cdv A outer s H E).A.units + 150 < cLine) : PSs (cxd P w K mg base pN "_law_pick" (top 16) fa cdv A outer s H E) (C8.fnBody (top 16)) (tPick K) :=
  have Sc := scPick
  pss_cons (ps_if (pt_cmpR op_lt (pv 1) pe_int (nomark _)) (pss_one (ps_ret pe_int)) pss_nil)
  (pss_cons (ps_set (i := 2) Sc.nd rfl (.inl rfl) (pe_dget (by omega) (pv 0) pe_str (fun _ _ => rfl)))
  (pss_cons (ps_while PassesOwn.never (PW.pt (pw_and (pt_cmpR op_lt (pe_dget (by omega) (pv 0) pe_str (fun _ _ => rfl)) pe_int (nomark _)) (pw_and1 (pt_cmpR op_gt (pe_callB call_len_seq rfl mlen boot_len (pa_cons (pv 2) pa_nil)) pe_int (nomark _)))))
    (pss_one (ps_dput (by omega) (pv 0) pe_str (pe_bm0 PySem.F.plainAttrs_list PySem.F.slot_list_pop PySem.F.type_list_pop mt_pop (pv 2)) (by rfl))))
  (pss_cons (ps_set (i := 3) Sc.nd rfl (.inl rfl) (pe_dget (by omega) (pv 0) pe_str (fun _ _ => rfl)))
  (pss_cons (ps_if (pt_cmpR op_gt (pv 3) pe_int (nomark _)) (pss_cons (ps_dput (by omega) (pv 0) pe_str (pe_op op_fdivW (pv 3) (pv 1)) (by rfl)) (pss_one (ps_ret (pe_op op_mod (pe_callTy call_int1 rfl mint boot_int (pa_cons (pv 3) pa_nil)) (pv 1))))) pss_nil)
  (pss_cons (ps_dput (by omega) (pv 0) pe_str (pe_op op_add (pe_dget (by omega) (pv 0) pe_str (fun _ _ => rfl)) pe_int) (by rfl))
  (pss_cons (ps_set (i := 4) Sc.nd rfl (.inl rfl) (pe_dget (by omega) (pv 0) pe_str (fun _ _ => rfl)))
  (pss_cons (ps_set (i := 5) Sc.nd rfl (.inl rfl) (pe_op op_mod (pe_callTy call_int1 rfl mint boot_int (pa_cons (pe_op op_add (pe_dget (by omega) (pv 0) pe_str (fun _ _ => rfl)) (pe_op op_mulW (pv 4) pe_int)) pa_nil)) pe_int))
  (pss_cons (ps_set (i := 5) Sc.nd rfl (.inl rfl) (pe_op op_mod (pe_callTy call_int1 rfl mint boot_int (pa_cons (pe_op op_add (pe_op op_mulW (pv 5) (pv 5)) (pe_op op_mulW (pv 4) pe_int)) pa_nil)) pe_int))
  (pss_one (ps_ret (pe_op op_mod (pe_callTy call_int1 rfl mint boot_int (pa_cons (pe_op op_fdivW (pv 5) pe_int) pa_nil)) (pv 1))))))))))))
theorem body_open (mint : mg "int" = none) (mabs : mg "abs" = none) (hu : (cxd P w K mg base oN "_law_open_cells" (top 15) fa cdv A outer s H E).A.units + 150 < cLine) : PSs (cxd P w K mg base oN "_law_open_cells" (top 15) fa cdv A outer s H E) (C8.fnBody (top 15)) (tOpen K) :=
  have Sc := scOpen
  pss_cons (ps_set (i := 1) Sc.nd rfl (.inl rfl) pe_int)
  (pss_cons (ps_for PassesOwn.never rfl (pi_list (pv 0)) (pg_name (i := 2) Sc.nd rfl (.inl rfl)) (pss_one (ps_set (i := 1) Sc.nd rfl (.inl rfl) (pe_op op_mod (pe_callTy call_int1 rfl mint boot_int (pa_cons (pe_op op_add (pe_op op_add (pe_op op_mul (pv 1) pe_int) (pe_op op_mul (pv 2) pe_int)) pe_int) pa_nil)) pe_int))))
  (pss_cons (ps_setLc (own := [(("cell" : Str), 2)]) (i := 3) rfl Sc.nd rfl rfl (by rfl) (pi_list (pv 0)) (show BlkOk oN (C8.fnScope (top 15)) _ _ from blkOk_by (by decide +kernel)) (fun _ _ _ _ _ => pg_name (i := 2) Sc.nd rfl (.inl rfl)) (fun _ _ _ _ _ => pts_nil) (fun _ _ _ _ _ => pe_callB call_abs rfl mabs boot_abs (pa_cons (pv 2) pa_nil)))
  (pss_one (ps_ret (pe_disp (pps_cons pe_str (pe_revL (pv 3)) (pps_cons pe_str pe_int (pps_cons pe_str (pv 1) (pps_cons pe_str pe_int pps_nil)))) rfl rfl (fun z => nomatch z) (by decide))))))
theorem body_any {k : Nat} {Pt : Nat → Option N.Def} (cl : C8.Cal c.prog c.w K mg base (k + 1) "_law_pick" (spF c (callN Pt k) 0) []) (rm : Room (k + 1) (cxd c.prog c.w K mg base aN "_law_any_order" (top 17) fa cdv A outer s H E).A) (mlen : mg "len" = none) (mlist : mg "list" = none) (mrange : mg "range" = none) : PSs (cxd c.prog c.w K mg base aN "_law_any_order" (top 17) fa cdv A outer s H E) (C8.fnBody (top 17)) (tAny c (callN Pt k) K) :=
  have Sc := scAny
  pss_cons (ps_set (i := 2) Sc.nd rfl (.inr rfl) (pe_callTy (call_list_data (c := c) rfl) rfl mlist boot_list (pa_cons (pv 1) pa_nil)))
  (pss_one (ps_ret (pe_lc (own := [(("lap" : Str), 3)]) rfl Sc.nd (pi_range1 rfl mrange (pa_cons (pe_callB call_len_seq rfl mlen boot_len (pa_cons (pv 2) pa_nil)) pa_nil)) (show BlkOk aN (C8.fnScope (top 17)) _ _ from blkOk_by (by decide +kernel)) (fun _ _ _ _ _ => pg_name (i := 3) Sc.nd rfl (.inl rfl)) (fun _ _ _ _ _ => pts_nil)
    (fun _ _ _ _ _ => pe_bm PySem.F.plainAttrs_list PySem.F.slot_list_pop PySem.F.type_list_pop mt_popAt (pv 2) (pa_cons (C8.pe_c cl rm (Nat.le_refl _) rfl (pa_cons (pv 0) (pa_cons (pe_callB call_len_seq rfl mlen boot_len (pa_cons (pv 2) pa_nil)) pa_nil))) pa_nil)))))
end
theorem all_mk {l : PySem.W.OpenLaw} {w : World} {K : PySem.W.Frag} {h : Heap} {mg : Str → Option Value} {fa : Addr} (X : K.In h) (G : h.Ns mainGlobals mg) (hfa : mg "law" = some (.ref fa)) (zz : ∀ x ∈ bnames, PySem.W.nsIn K mainGlobals x = some none)
    (q1 : DefAt K "moves" (top 1))
    (q3 : DefAt K "corner_field" (top 3))
    (q4 : DefAt K "corner_fields" (top 4))
    (q5 : DefAt K "field" (top 5))
    (q6 : DefAt K "all_fields" (top 6))
    (q7 : DefAt K "lit" (top 7))
    (q8 : DefAt K "dark_in" (top 8))
    (q9 : DefAt K "serve_all" (top 9))
    (q10 : DefAt K "seen_by_most" (top 10))
    (q11 : DefAt K "alone_served" (top 11))
    (q12 : DefAt K "gained" (top 12))
    (q13 : DefAt K "walk_lit" (top 13))
    (q15 : DefAt K "_law_open_cells" (top 15))
    (q16 : DefAt K "_law_pick" (top 16))
    (q17 : DefAt K "_law_any_order" (top 17))
    (q18 : DefAt K "_law_sides" (top 18))
    (q19 : DefAt K "_law_near" (top 19))
    (q20 : DefAt K "_law_parts_by" (top 20))
    (q21 : DefAt K "_law_is_room" (top 21))
    (q22 : DefAt K "_law_draw_room" (top 22))
    (q23 : DefAt K "_law_snake" (top 23))
    (q24 : DefAt K "_law_bent_room" (top 24))
    (q25 : DefAt K "_law_field" (top 25))
    (q26 : DefAt K "_law_fields" (top 26))
    (q27 : DefAt K "_law_draw_hall" (top 27))
    (q28 : DefAt K "_law_dark_right" (top 28))
    (q29 : DefAt K "law" (top 29))
    (ans : ∀ S : Src, S.turn = 0 → ∃ o S1, execs (callN Pt 40) b_law_k44 (none :: some .src :: List.replicate (n_law_k44.length - 2) none) S = some (.rt (.dat (.bool true) o), S1)) :
    ∃ fd : FuncData, (∀ (s : Shared) (v : Value), BindsTo s fd ⟨[v], []⟩ [("script", v)]) ∧ ∀ base : Heap, K.In base → base.Ns mainGlobals mg → FnOk l.prog w K mg base C8.CX0 42 fa fd ["script"] (spLaw K) := by
  have mgn : ∀ x ∈ bnames, mg x = none := fun x hx => PySem.W.mg_none_of X G (zz x hx)
  obtain ⟨fp, pd, Dp, bp, _⟩ := def_mk (ps := ["source", "most"]) q16 X G (fun _ _ _ _ _ _ us hl => match us, hl with | [_, _], _ => rfl)
  obtain ⟨fo, od, Do, bo, _⟩ := def_mk (ps := ["script"]) q15 X G (fun _ _ _ _ _ _ us hl => match us, hl with | [_], _ => rfl)
  obtain ⟨fl, ld, Dl, bl, dl, al, kV, doc, pm, an, cd, ct, el⟩ := def_mk (ps := ["script"]) q29 X G (fun _ _ _ _ _ _ us hl => match us, hl with | [_], _ => rfl)
  have e := hfa.symm.trans (PySem.W.mg_of X G al)
  cases e
  refine ⟨ld, fun s v => by rw [el]; exact .of_eq rfl, fun base _ _ => ?_⟩
  have pk : ∀ (c : Cfg) k x, fnN 0 = some x → C8.Cal c.prog c.w K mg base (k + 1) x (spF c (callN Pt k) 0) [] := fun c k x hx => by
    cases hx
    exact pick_cal Dp bp scPick (fun cdv A outer s H E hu => body_pick (mgn _ (by decide +kernel)) (mgn _ (by decide +kernel)) hu) k
  obtain ⟨fy, yd, Dy, by', _⟩ := def_mk (ps := ["source", "things"]) q17 X G (fun _ _ _ _ _ _ us hl => match us, hl with | [_, _], _ => rfl)
  have ao : ∀ (c : Cfg) k x, fnN 1 = some x → (∀ y, fnN 0 = some y → ∀ j ≤ k, C8.Cal c.prog c.w K mg base (j + 1) y (spF c (callN Pt j) 0) []) → C8.Cal c.prog c.w K mg base (k + 1) x (spF c (callN Pt k) 1) [] := fun c k x hx hj => by
    cases hx
    exact any_cal Dy by' scAny k fun j hjk cdv A outer s H E hu rm => body_any (hj _ rfl j (Nat.le_of_lt hjk)) rm (mgn _ (by decide +kernel)) (mgn _ (by decide +kernel)) (mgn _ (by decide +kernel))
  have r2 : Row K mg Pt fnN 2 "moves" := row_mk (ps := []) q1 X G ok_moves sc_moves (by decide) rfl rfl rfl (fun _ _ _ _ _ _ us hl => match us, hl with | [], _ => rfl)
  have r3 : Row K mg Pt fnN 3 "corner_field" := row_mk (ps := ["inner", "stall", "signs"]) q3 X G ok_corner_field sc_corner_field (by decide) rfl rfl rfl (fun _ _ _ _ _ _ us hl => match us, hl with | [_, _, _], _ => rfl)
  have r4 : Row K mg Pt fnN 4 "corner_fields" := row_mk (ps := ["room", "stall"]) q4 X G ok_corner_fields sc_corner_fields (by decide) rfl rfl rfl (fun _ _ _ _ _ _ us hl => match us, hl with | [_, _], _ => rfl)
  have r5 : Row K mg Pt fnN 5 "field" := row_mk (ps := ["room", "stall"]) q5 X G ok_field sc_field (by decide) rfl rfl rfl (fun _ _ _ _ _ _ us hl => match us, hl with | [_, _], _ => rfl)
  have r176 : Row K mg Pt fnN 176 "all_fields" := row_mk (ps := ["room"]) q6 X G ok_all_fields sc_all_fields (by decide) rfl rfl rfl (fun _ _ _ _ _ _ us hl => match us, hl with | [_], _ => rfl)
  have r180 : Row K mg Pt fnN 180 "lit" := row_mk (ps := ["room", "stalls"]) q7 X G ok_lit sc_lit (by decide) rfl rfl rfl (fun _ _ _ _ _ _ us hl => match us, hl with | [_, _], _ => rfl)
  have r181 : Row K mg Pt fnN 181 "dark_in" := row_mk (ps := ["room", "lot", "stalls"]) q8 X G ok_dark_in sc_dark_in (by decide) rfl rfl rfl (fun _ _ _ _ _ _ us hl => match us, hl with | [_, _, _], _ => rfl)
  have r199 : Row K mg Pt fnN 199 "serve_all" := row_mk (ps := ["room", "lot", "stalls"]) q9 X G ok_serve_all sc_serve_all (by decide) rfl rfl rfl (fun _ _ _ _ _ _ us hl => match us, hl with | [_, _, _], _ => rfl)
  have r200 : Row K mg Pt fnN 200 "seen_by_most" := row_mk (ps := ["room", "lot"]) q10 X G ok_seen_by_most sc_seen_by_most (by decide) rfl rfl rfl (fun _ _ _ _ _ _ us hl => match us, hl with | [_, _], _ => rfl)
  have r201 : Row K mg Pt fnN 201 "alone_served" := row_mk (ps := ["room", "stalls"]) q11 X G ok_alone_served sc_alone_served (by decide) rfl rfl rfl (fun _ _ _ _ _ _ us hl => match us, hl with | [_, _], _ => rfl)
  have r185 : Row K mg Pt fnN 185 "gained" := row_mk (ps := ["room", "one", "other"]) q12 X G ok_gained sc_gained (by decide) rfl rfl rfl (fun _ _ _ _ _ _ us hl => match us, hl with | [_, _, _], _ => rfl)
  have r186 : Row K mg Pt fnN 186 "walk_lit" := row_mk (ps := ["room", "cells"]) q13 X G ok_walk_lit sc_walk_lit (by decide) rfl rfl rfl (fun _ _ _ _ _ _ us hl => match us, hl with | [_, _], _ => rfl)
  have r52 : Row K mg Pt fnN 52 "_law_sides" := row_mk (ps := ["cell"]) q18 X G ok_law_sides sc_law_sides (by decide) rfl rfl rfl (fun _ _ _ _ _ _ us hl => match us, hl with | [_], _ => rfl)
  have r53 : Row K mg Pt fnN 53 "_law_near" := row_mk (ps := ["cell"]) q19 X G ok_law_near sc_law_near (by decide) rfl rfl rfl (fun _ _ _ _ _ _ us hl => match us, hl with | [_], _ => rfl)
  have r54 : Row K mg Pt fnN 54 "_law_parts_by" := row_mk (ps := ["cells", "is_near"]) q20 X G ok_law_parts_by sc_law_parts_by (by decide) rfl rfl rfl (fun _ _ _ _ _ _ us hl => match us, hl with | [_, _], _ => rfl)
  have r55 : Row K mg Pt fnN 55 "_law_is_room" := row_mk (ps := ["cells"]) q21 X G ok_law_is_room sc_law_is_room (by decide) rfl rfl rfl (fun _ _ _ _ _ _ us hl => match us, hl with | [_], _ => rfl)
  have r56 : Row K mg Pt fnN 56 "_law_draw_room" := row_mk (ps := ["source", "most"]) q22 X G ok_law_draw_room sc_law_draw_room (by decide) rfl rfl rfl (fun _ _ _ _ _ _ us hl => match us, hl with | [_, _], _ => rfl)
  have r50 : Row K mg Pt fnN 50 "_law_snake" := row_mk (ps := ["source", "many"]) q23 X G ok_law_snake sc_law_snake (by decide) rfl rfl rfl (fun _ _ _ _ _ _ us hl => match us, hl with | [_, _], _ => rfl)
  have r51 : Row K mg Pt fnN 51 "_law_bent_room" := row_mk (ps := ["source", "most"]) q24 X G ok_law_bent_room sc_law_bent_room (by decide) rfl rfl rfl (fun _ _ _ _ _ _ us hl => match us, hl with | [_, _], _ => rfl)
  have r156 : Row K mg Pt fnN 156 "_law_field" := row_mk (ps := ["room", "stall"]) q25 X G ok_law_field sc_law_field (by decide) rfl rfl rfl (fun _ _ _ _ _ _ us hl => match us, hl with | [_, _], _ => rfl)
  have r187 : Row K mg Pt fnN 187 "_law_fields" := row_mk (ps := ["room"]) q26 X G ok_law_fields sc_law_fields (by decide) rfl rfl rfl (fun _ _ _ _ _ _ us hl => match us, hl with | [_], _ => rfl)
  have r158 : Row K mg Pt fnN 158 "_law_draw_hall" := row_mk (ps := ["source", "most"]) q27 X G ok_law_draw_hall sc_law_draw_hall (by decide) rfl rfl rfl (fun _ _ _ _ _ _ us hl => match us, hl with | [_, _], _ => rfl)
  have r528 : Row K mg Pt fnN 528 "_law_dark_right" := row_mk (ps := ["room", "due", "stalls", "bright"]) q28 X G ok_law_dark_right sc_law_dark_right (by decide) rfl rfl rfl (fun _ _ _ _ _ _ us hl => match us, hl with | [_, _, _, _], _ => rfl)
  have rows : ∀ f x, fnN f = some x → 2 ≤ f → Row K mg Pt fnN f x := fun f x hx h2 => by
    unfold fnN at hx
    split at hx
    all_goals first | (cases hx; done) | omega | (cases hx; assumption)
  refine law_fn (k := 40) (N0 := n_law_k44) (rest := b_law_k44) (restB := (C8.fnBody (top 29)).drop 1) Dl (C8.fnScope_by sc_law_k44) rfl rfl ⟨_, _, _, _, _, rfl⟩ (by decide +kernel) (by first | exact .inl (by decide +kernel) | exact .inr (.inl (by decide +kernel))) (by decide +kernel)
    (open_cal Do bo scOpen fun cdv A outer s H E hu => body_open (mgn _ (by decide +kernel)) (mgn _ (by decide +kernel)) hu) mgn (fun c hp hw g y hg => cals mgn rows (pk c) (ao c) 40 g y hg) ok_law_k44 ans
theorem walk {l : PySem.W.OpenLaw} {q : Program} {loose : List Str} {XP : (Str → Option Value) → Heap → Prop} {YP : World → Heap → Prop} {d : DefRec} {K : Params → PySem.W.Frag} (hn : l.most = some 63) (hdf : d.params.defaults = [])
    (hY : ∀ (w : World) (h : Heap), YP w h → (K w.params).In h)
    (F : ∀ (w : World) (mg : Str → Option Value) (fa : Addr) (h : Heap), (K w.params).In h → h.Ns mainGlobals mg → mg d.name = some (.ref fa) →
      ∃ fd : FuncData, (∀ (s : Shared) (u : Value), BindsTo s fd ⟨[u], []⟩ [("script", u)]) ∧ ∀ base : Heap, (K w.params).In base → base.Ns mainGlobals mg → FnOk l.prog w (K w.params) mg base C8.CX0 42 fa fd ["script"] (spLaw (K w.params))) :
    PySem.W.WalkO q loose XP YP l.row.toRowW d [] (fun f vs => PySem.call f vs) :=
  L2.walk_of (n := 63) (k := 42) (x := "script") (CX := fun _ => C8.CX0) (sp := fun w => spLaw (K w.params)) hn (by decide) hdf ⟨by decide, by decide, by decide⟩ hY F (fun _ _ a ns hl _ hS => ⟨a, ns, rfl, hS, hl, fun _ => rfl⟩) fun _ _ _ _ _ z => z
end N
open PySem PySem.W PyProof.Rows
set_option maxRecDepth 100000 in
set_option maxHeartbeats 0 in
theorem PySem.Challenge.cw_nodetour_k44_whole_lit_and_dark_holds : PySem.Challenge.rw_nodetour_k44_whole_lit_and_dark.Holds := by
  w_on; o_law; k_head; (case hw => w_witness2)
  k_fill
  refine N.walk (l := PySem.Challenge.rw_nodetour_k44_whole_lit_and_dark) rfl rfl (fun w h Y => PySem.W.kIn_of Y) ?F
  case F =>
    intro w mg fa h KX G hmg
    refine' N.all_mk KX G hmg ?zz ?q1 ?q3 ?q4 ?q5 ?q6 ?q7 ?q8 ?q9 ?q10 ?q11 ?q12 ?q13 ?q15 ?q16 ?q17 ?q18 ?q19 ?q20 ?q21 ?q22 ?q23 ?q24 ?q25 ?q26 ?q27 ?q28 ?q29 N.ans
    (case zz =>
      intro x hx
      simp only [N.bnames, List.mem_cons, List.not_mem_nil, or_false] at hx
      rcases hx with rfl | rfl | rfl | rfl | rfl | rfl | rfl | rfl | rfl | rfl | rfl | rfl | rfl | rfl | rfl | rfl | rfl | rfl | rfl | rfl <;> k_is)
    (case q1 => refine' N.DefAt.mk' ?a ?l ?c ?k; (case a => k_is); (case l => k_is); (case c => k_is); (case k => k_is))
    (case q3 => refine' N.DefAt.mk' ?a ?l ?c ?k; (case a => k_is); (case l => k_is); (case c => k_is); (case k => k_is))
    (case q4 => refine' N.DefAt.mk' ?a ?l ?c ?k; (case a => k_is); (case l => k_is); (case c => k_is); (case k => k_is))
    (case q5 => refine' N.DefAt.mk' ?a ?l ?c ?k; (case a => k_is); (case l => k_is); (case c => k_is); (case k => k_is))
    (case q6 => refine' N.DefAt.mk' ?a ?l ?c ?k; (case a => k_is); (case l => k_is); (case c => k_is); (case k => k_is))
    (case q7 => refine' N.DefAt.mk' ?a ?l ?c ?k; (case a => k_is); (case l => k_is); (case c => k_is); (case k => k_is))
    (case q8 => refine' N.DefAt.mk' ?a ?l ?c ?k; (case a => k_is); (case l => k_is); (case c => k_is); (case k => k_is))
    (case q9 => refine' N.DefAt.mk' ?a ?l ?c ?k; (case a => k_is); (case l => k_is); (case c => k_is); (case k => k_is))
    (case q10 => refine' N.DefAt.mk' ?a ?l ?c ?k; (case a => k_is); (case l => k_is); (case c => k_is); (case k => k_is))
    (case q11 => refine' N.DefAt.mk' ?a ?l ?c ?k; (case a => k_is); (case l => k_is); (case c => k_is); (case k => k_is))
    (case q12 => refine' N.DefAt.mk' ?a ?l ?c ?k; (case a => k_is); (case l => k_is); (case c => k_is); (case k => k_is))
    (case q13 => refine' N.DefAt.mk' ?a ?l ?c ?k; (case a => k_is); (case l => k_is); (case c => k_is); (case k => k_is))
    (case q15 => refine' N.DefAt.mk' ?a ?l ?c ?k; (case a => k_is); (case l => k_is); (case c => k_is); (case k => k_is))
    (case q16 => refine' N.DefAt.mk' ?a ?l ?c ?k; (case a => k_is); (case l => k_is); (case c => k_is); (case k => k_is))
    (case q17 => refine' N.DefAt.mk' ?a ?l ?c ?k; (case a => k_is); (case l => k_is); (case c => k_is); (case k => k_is))
    (case q18 => refine' N.DefAt.mk' ?a ?l ?c ?k; (case a => k_is); (case l => k_is); (case c => k_is); (case k => k_is))
    (case q19 => refine' N.DefAt.mk' ?a ?l ?c ?k; (case a => k_is); (case l => k_is); (case c => k_is); (case k => k_is))
    (case q20 => refine' N.DefAt.mk' ?a ?l ?c ?k; (case a => k_is); (case l => k_is); (case c => k_is); (case k => k_is))
    (case q21 => refine' N.DefAt.mk' ?a ?l ?c ?k; (case a => k_is); (case l => k_is); (case c => k_is); (case k => k_is))
    (case q22 => refine' N.DefAt.mk' ?a ?l ?c ?k; (case a => k_is); (case l => k_is); (case c => k_is); (case k => k_is))
    (case q23 => refine' N.DefAt.mk' ?a ?l ?c ?k; (case a => k_is); (case l => k_is); (case c => k_is); (case k => k_is))
    (case q24 => refine' N.DefAt.mk' ?a ?l ?c ?k; (case a => k_is); (case l => k_is); (case c => k_is); (case k => k_is))
    (case q25 => refine' N.DefAt.mk' ?a ?l ?c ?k; (case a => k_is); (case l => k_is); (case c => k_is); (case k => k_is))
    (case q26 => refine' N.DefAt.mk' ?a ?l ?c ?k; (case a => k_is); (case l => k_is); (case c => k_is); (case k => k_is))
    (case q27 => refine' N.DefAt.mk' ?a ?l ?c ?k; (case a => k_is); (case l => k_is); (case c => k_is); (case k => k_is))
    (case q28 => refine' N.DefAt.mk' ?a ?l ?c ?k; (case a => k_is); (case l => k_is); (case c => k_is); (case k => k_is))
    (case q29 => refine' N.DefAt.mk' ?a ?l ?c ?k; (case a => k_is); (case l => k_is); (case c => k_is); (case k => k_is))
