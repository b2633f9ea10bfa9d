import PyProof.Rows.All
import Wide.All
import OpenK.AllK
import Wide.FinOn
import HandS.Base
import HandS.Call
import HandS.List
import HandS.Dict
import HandS.HeadHook2
import KE.KNestM
import PySem.Challenge.RW_axlebook_k56_whole_middles
import HandS.Words
import HandS.Head0
import HandS.Head1
import HandS.Head2
import HandS.Head3
import HandS.HeadEnd
import HandS.HeadHook1
import HandS.Lambda
import HandS.TupAny
import HandS.TupMul
import HandS.Wide
import HandS.Text
import HandS.Deep
import PyProof.P3In
import HandS.Iter
import HandS.Conv
import HandS.IsInst
import HandS.Gcd
import HandS.TupSets
import PyProof.ReprRoads
import KE.KIndexOf
import KE.GoesZip
import KE.GoesMore
import KE.KDictPairs
import KE.KDictZip
import HandS.SortOrd
import HandS.Keys
import KE.KSortKey
import HandS.DictComp
import HandS.ListItems
import KE.KItemsList
import HandS.IterVal
import HandS.EndTab
import HandS.Defaults
import PyProof.Rows.RegStrFacts
set_option Elab.async false
set_option linter.all false
set_option maxRecDepth 100000
/-! Mx, part A: a core language of values as trees, its syntax and its evaluator. No program, no model in sight. -/
namespace Mx
open PySem L2

/-! ### values -/
/-- tup, lst, dK, dT are trees that nothing changes any more (k: a tuple made by the code, no constant of a module); scr: the script; ref l: the changing thing number l -/
inductive D where
  | non | bl (b : Bool) | int (i : Int) | str (s : Str)
  | tup (k : Bool) (xs : List D) | lst (xs : List D) | scr (ns : List Int)
  | dK (kvs : List (Key × D)) | dT (kvs : List (List Key × D))
  | ref (l : Nat)
  deriving Inhabited
/-- a thing that may change -/
inductive MO where
  | lst (xs : List D) | dK (kvs : List (Key × D)) | dT (kvs : List (List Key × D))
  deriving Inhabited
abbrev MH := List MO
/-- what an evaluation comes to: a value and the own things behind it; an exception (its class, its field); no word -/
inductive Res (α : Type) where
  | ok (a : α) (h : MH)
  | exc (c : Str) (p : Option D) (h : MH)
  | err
abbrev M (α : Type) := MH → Res α
namespace M
@[inline] def pure {α : Type} (a : α) : M α := fun h => .ok a h
@[inline] def bind {α β : Type} (x : M α) (f : α → M β) : M β := fun h => match x h with
  | .ok a h' => f a h'
  | .exc c p h' => .exc c p h'
  | .err => .err
def err {α : Type} : M α := fun _ => .err
def lift {α : Type} : Option α → M α
  | some a => pure a
  | none => err
end M
instance : Monad M where
  pure := M.pure
  bind := M.bind

/-! ### operations on values -/
def keyOf : D → Option Key
  | .int i => some (.inl i)
  | .str s => some (.inr s)
  | _ => none
def keysOf : List D → Option (List Key)
  | [] => some []
  | d :: r => match keyOf d, keysOf r with
    | some k, some ks => some (k :: ks)
    | _, _ => none
def dKey : Key → D
  | .inl i => .int i
  | .inr s => .str s
section
variable {κ : Type} [DecidableEq κ]
def kget : List (κ × D) → κ → Option D
  | [], _ => none
  | p :: r, k => if p.1 = k then some p.2 else kget r k
def khas (l : List (κ × D)) (k : κ) : Bool := (kget l k).isSome
/-- stored: in its place, or behind the others -/
def kput (l : List (κ × D)) (k : κ) (v : D) : List (κ × D) := if khas l k then l.map (fun p => if p.1 = k then (p.1, v) else p) else l ++ [(k, v)]
def kdrop (l : List (κ × D)) (k : κ) : List (κ × D) := l.filter fun p => decide (p.1 ≠ k)
end
/-- the things that may be read: those that stood at the def's entry, then its own -/
def getO (ro rw : MH) (l : Nat) : Option MO := (ro ++ rw)[l]?
/-- a list's, a tuple's items -/
def seqOf (ro rw : MH) : D → Option (List D)
  | .tup _ xs => some xs
  | .lst xs => some xs
  | .scr ns => some (ns.map .int)
  | .ref l => match getO ro rw l with
    | some (.lst xs) => some xs
    | _ => none
  | _ => none
/-- a list's items -/
def lstOf (ro rw : MH) : D → Option (List D)
  | .lst xs => some xs
  | .ref l => match getO ro rw l with
    | some (.lst xs) => some xs
    | _ => none
  | _ => none
inductive Dc where
  | k (kvs : List (Key × D)) | t (kvs : List (List Key × D))
def dicOf (ro rw : MH) : D → Option Dc
  | .dK kvs => some (.k kvs)
  | .dT kvs => some (.t kvs)
  | .ref l => match getO ro rw l with
    | some (.dK kvs) => some (.k kvs)
    | some (.dT kvs) => some (.t kvs)
    | _ => none
  | _ => none
def dget : Dc → D → Option (Option D)
  | .k kvs, d => (keyOf d).map (kget kvs)
  | .t kvs, .tup true xs => (keysOf xs).map (kget kvs)
  | _, _ => none
/-- the plain data of a value, n deep -/
def toPy (ro rw : MH) : Nat → D → Option PyData
  | 0, _ => none
  | _ + 1, .non => some .none
  | _ + 1, .bl b => some (.bool b)
  | _ + 1, .int i => some (.int i)
  | _ + 1, .str s => some (.str s)
  | n + 1, .tup _ xs => (xs.mapM (toPy ro rw n)).map PyData.tuple
  | n + 1, .lst xs => (xs.mapM (toPy ro rw n)).map PyData.list
  | n + 1, .ref l => match getO ro rw l with
    | some (.lst xs) => (xs.mapM (toPy ro rw n)).map PyData.list
    | _ => none
  | _, _ => none
def deep : Nat := 80
def eqD (ro rw : MH) (d e : D) : Option Bool := match toPy ro rw deep d, toPy ro rw deep e with
  | some p, some q => if SeqAt.shaped p && SeqAt.shaped q then some (PyData.eqv p q) else none
  | _, _ => none
def mulOk (i j : Int) : Bool := decide (i.natAbs.log2 < 500000) && decide (j.natAbs.log2 < 500000)
inductive BO where
  | add | sub | mul | fdiv | mod | pow
  deriving DecidableEq
def lineOk (n : Nat) : Bool := decide (n ≤ 16777216)
/-- the operators; a list plus a list is a new tree -/
def binop (ro rw : MH) : BO → D → D → Option D
  | .add, .int i, .int j => some (.int (i + j))
  | .sub, .int i, .int j => some (.int (i - j))
  | .mul, .int i, .int j => if mulOk i j then some (.int (i * j)) else none
  | .fdiv, .int i, .int j => if decide (j ≠ 0) && decide (j.natAbs.log2 < 9000) then some (.int (i.fdiv j)) else none
  | .mod, .int i, .int j => if decide (j ≠ 0) then some (.int (i.fmod j)) else none
  | .pow, .int i, .int j => if decide (0 ≤ j) && decide (j ≤ 1000000) && decide (i.natAbs < 2 ^ 64) then some (.int (i ^ j.toNat)) else none
  | .add, .str s, .str t => if lineOk (s.length + t.length) then some (.str (s ++ t)) else none
  | .add, .tup k xs, .tup j ys => if lineOk (xs.length + ys.length) then some (.tup (k && j) (xs ++ ys)) else none
  | .add, x, y => match lstOf ro rw x, lstOf ro rw y with
    | some xs, some ys => if lineOk (xs.length + ys.length) then some (.lst (xs ++ ys)) else none
    | _, _ => none
  | .mul, .tup c xs, .int k => if decide (-1000 ≤ k) && decide (k ≤ 1000) && decide (xs.length ≤ 1000) then some (.tup c (List.replicate k.toNat xs).flatten) else none
  | .mul, x, .int k => match lstOf ro rw x with
    | some xs => if decide (0 ≤ k) && decide (k ≤ 1000) && decide (xs.length ≤ 1000) then some (.lst (List.replicate k.toNat xs).flatten) else none
    | _ => none
  | _, _, _ => none
inductive CO where
  | eq | ne | lt | le | gt | ge | isin | notin | is_ | isnot
  deriving DecidableEq
/-- is None -/
def isNone : D → Bool
  | .non => true
  | _ => false
def isSame : D → D → Option Bool
  | x, .non => some (isNone x)
  | _, _ => none
def inPy (d : PyData) : PyData → Option Bool
  | .list ds => if SeqAt.shaped d && SeqAt.shaped (.list ds) then some (ds.any fun z => PyData.eqv z d) else none
  | .tuple ds => if SeqAt.shaped d && SeqAt.shaped (.tuple ds) then some (ds.any fun z => PyData.eqv z d) else none
  | _ => none
/-- among a dict's keys, a list's or a tuple's items -/
def isinD (ro rw : MH) (x y : D) : Option Bool := match dicOf ro rw y with
  | some dc => (dget dc x).map (·.isSome)
  | none => match toPy ro rw deep x, toPy ro rw deep y with
    | some d, some e => inPy d e
    | _, _ => none
/-- one sign in a text -/
def signIn : D → D → Option Bool
  | .str s, .str t => if decide (s.cps.size = 1) then some (decide (s.cps.getD 0 0 ∈ t.cps.toList)) else none
  | _, _ => none
def cmpop (ro rw : MH) : CO → D → D → Option Bool
  | .eq, x, y => eqD ro rw x y
  | .ne, x, y => (eqD ro rw x y).map (!·)
  | .lt, .int i, .int j => some (decide (i < j))
  | .le, .int i, .int j => some (decide (i ≤ j))
  | .gt, .int i, .int j => some (decide (j < i))
  | .ge, .int i, .int j => some (decide (j ≤ i))
  | .lt, .str s, .str t => some (decide (s.cps.toList < t.cps.toList))
  | .isin, x, y => match signIn x y with
    | some b => some b
    | none => isinD ro rw x y
  | .notin, x, y => (isinD ro rw x y).map (!·)
  | .is_, x, y => isSame x y
  | .isnot, x, y => (isSame x y).map (!·)
  | _, _, _ => none
/-- an item of a list, a tuple, a text -/
def subI (ro rw : MH) (x : D) (k : Int) : Option D := match x with
  | .str s => if lineOk s.length then (atI s.cps.toList k).map fun c => .str ⟨#[c]⟩ else none
  | _ => (seqOf ro rw x).bind fun xs => atI xs k
/-- x[i] -/
def subD (ro rw : MH) (x i : D) : Option D := match dicOf ro rw x with
  | some dc => (dget dc i).bind id
  | none => match i with
    | .int k => subI ro rw x k
    | _ => none
def sIxD (n d : Nat) : Option Int → Nat
  | none => d
  | some v => (if v < 0 then max (v + (n : Int)) 0 else min v (n : Int)).toNat
def cutD {α : Type} (xs : List α) (lo hi : Option Int) : List α := (xs.drop (sIxD xs.length 0 lo)).take (sIxD xs.length xs.length hi - sIxD xs.length 0 lo)
def sliceD (ro rw : MH) (x : D) (lo hi : Option Int) : Option D := match x with
  | .tup k xs => some (.tup k (cutD xs lo hi))
  | .str s => if lineOk s.length then some (.str ⟨(cutD s.cps.toList lo hi).toArray⟩) else none
  | _ => (lstOf ro rw x).map fun xs => .lst (cutD xs lo hi)
def intPart : D → Option Int
  | .int i => some i
  | _ => none
/-- a built-in's call, by values; those that make a list or a dict make a tree -/
inductive BI where
  | len | abs | min2 | max2 | int1 | str1 | sum | all | any | tuple | list | sorted | sortedLen | repr | gcd
  | lrange1 | lrange2 | lzip | dzip | dpairs | litems | dgetd
  deriving DecidableEq
def intsOf : List D → Option (List Int)
  | [] => some []
  | .int i :: r => (intsOf r).map (i :: ·)
  | _ => none
def blsOf : List D → Option (List Bool)
  | [] => some []
  | .bl b :: r => (blsOf r).map (b :: ·)
  | _ => none
def strsOf : List D → Option (List Str)
  | [] => some []
  | .str b :: r => (strsOf r).map (b :: ·)
  | _ => none
def insertBy {α : Type} (lt : α → α → Bool) (x : α) : List α → List α
  | [] => [x]
  | y :: r => if lt x y then x :: y :: r else y :: insertBy lt x r
/-- sorted, by inserting from the right -/
def isort {α : Type} (lt : α → α → Bool) : List α → List α
  | [] => []
  | x :: r => insertBy (fun a b => !lt b a) x (isort lt r)
def ltStr (s t : Str) : Bool := decide (s.cps.toList < t.cps.toList)
def ltInt (i j : Int) : Bool := decide (i < j)
/-- tuples of ints or of texts, one behind another -/
def lexBy {α : Type} [DecidableEq α] (lt : α → α → Bool) : List α → List α → Bool
  | _, [] => false
  | [], _ :: _ => true
  | x :: r, y :: q => if x = y then lexBy lt r q else lt x y
def lenLex {α : Type} [DecidableEq α] (lt : α → α → Bool) (x y : List α) : Bool := if x.length = y.length then lexBy lt x y else decide (x.length < y.length)
def tupItems : D → Option (List D)
  | .tup _ xs => some xs
  | _ => none
/-- a tuple that may be a key -/
def keyTup : D → Option (List D)
  | .tup true xs => some xs
  | _ => none
def tupInts (d : D) : Option (List Int) := (keyTup d).bind intsOf
def tupStrs (d : D) : Option (List Str) := (keyTup d).bind strsOf
def sortD (xs : List D) : Option (List D) := if decide (xs.length < 64) then (intsOf xs).map fun ns => (isort ltInt ns).map .int else none
def sortLenD (xs : List D) : Option (List D) := if decide (xs.length < 64) then (xs.mapM tupInts).map fun ts => (isort (lenLex ltInt) ts).map fun t => .tup true (t.map .int) else none
def dicTree : Dc → D
  | .k kvs => .dK kvs
  | .t kvs => .dT kvs
def dicLen : Dc → Nat
  | .k kvs => kvs.length
  | .t kvs => kvs.length
def dicPairs : Dc → List D
  | .k kvs => kvs.map fun p => .tup true [dKey p.1, p.2]
  | .t kvs => kvs.map fun p => .tup true [.tup true (p.1.map dKey), p.2]
def dicKeys : Dc → List D
  | .k kvs => kvs.map fun p => dKey p.1
  | .t kvs => kvs.map fun p => .tup true (p.1.map dKey)
def pairOf : D → Option (D × D)
  | .tup _ [k, v] => some (k, v)
  | _ => none
/-- key, value, key, value .. -/
def pairUp : List D → Option (List (D × D))
  | [] => some []
  | [_] => none
  | k :: v :: r => (pairUp r).map ((k, v) :: ·)
def allK : List (D × D) → Option (List (Key × D))
  | [] => some []
  | (k, v) :: r => match keyOf k, allK r with
    | some k, some r => some ((k, v) :: r)
    | _, _ => none
def allT : List (D × D) → Option (List (List Key × D))
  | [] => some []
  | (k, v) :: r => match (keyTup k).bind keysOf, allT r with
    | some k, some r => some ((k, v) :: r)
    | _, _ => none
def mergeD {κ : Type} [DecidableEq κ] (acc : List (κ × D)) (ps : List (κ × D)) : List (κ × D) := ps.foldl (fun a p => kput a p.1 p.2) acc
def dictFrom (ps : List (D × D)) : Option D := match allK ps with
  | some kvs => some (.dK (mergeD [] kvs))
  | none => (allT ps).map fun kvs => .dT (mergeD [] kvs)
def zipD : List D → List D → List D
  | a :: r, b :: q => .tup true [a, b] :: zipD r q
  | _, _ => []
def zipD3 : List D → List D → List D → List D
  | a :: r, b :: q, c :: p => .tup true [a, b, c] :: zipD3 r q p
  | _, _, _ => []
def enumD (i : Nat) : List D → List D
  | [] => []
  | a :: r => .tup true [.int i, a] :: enumD (i + 1) r
def rangeD (a b : Int) : List D := (List.range (b - a).toNat).map fun i => .int (a + (i : Nat))
def rangeOk (a b : Int) : Bool := decide (-(2 ^ 62) ≤ a) && decide (a < 2 ^ 62) && decide (-(2 ^ 62) ≤ b) && decide (b < 2 ^ 62) && decide ((b - a).toNat ≤ 2 ^ 24)
inductive Ty where
  | non | bl | int | str | tup | lst | dic
  deriving DecidableEq
def tyOf (ro rw : MH) : D → Option Ty
  | .non => some .non
  | .bl _ => some .bl
  | .int _ => some .int
  | .str _ => some .str
  | .tup _ _ => some .tup
  | .lst _ => some .lst
  | .scr _ => some .lst
  | .dK _ => some .dic
  | .dT _ => none
  | .ref l => match getO ro rw l with
    | some (.lst _) => some .lst
    | some _ => some .dic
    | none => none
/-- isinstance: a truth is a whole, too -/
def isaB (t c : Ty) : Bool := decide (t = c) || (decide (t = .bl) && decide (c = .int))
def bltop (ro rw : MH) : BI → List D → Option D
  | .len, [.str s] => if lineOk s.length then some (.int s.length) else none
  | .len, [x] => match dicOf ro rw x with
    | some (.k kvs) => some (.int kvs.length)
    | some (.t _) => none
    | none => (seqOf ro rw x).map fun xs => .int xs.length
  | .abs, [.int i] => some (.int (if i < 0 then -i else i))
  | .min2, [.int i, .int j] => some (.int (if j < i then j else i))
  | .max2, [.int i, .int j] => some (.int (if j > i then j else i))
  | .int1, [.int i] => some (.int i)
  | .int1, [.bl b] => some (.int (if b then 1 else 0))
  | .str1, [.int i] => if decide (i.natAbs.log2 < 1920) then some (.str (Str.ofString (toString i))) else none
  | .sum, [x] => ((lstOf ro rw x).bind intsOf).map fun ns => .int ns.sum
  | .all, [x] => ((lstOf ro rw x).bind blsOf).map fun bs => .bl (bs.all id)
  | .any, [x] => ((lstOf ro rw x).bind blsOf).map fun bs => .bl (bs.any id)
  | .tuple, [.tup k xs] => some (.tup k xs)
  | .tuple, [x] => (seqOf ro rw x).map (.tup true)
  | .list, [x] => (seqOf ro rw x).map .lst
  | .sorted, [x] => ((lstOf ro rw x).bind sortD).map .lst
  | .sortedLen, [x] => ((lstOf ro rw x).bind sortLenD).map .lst
  | .repr, [x] => match toPy ro rw deep x with
    | some p => if p.showable && !p.hasDict && lineOk p.shown.length && decide (p.depth ≤ 64) then some (.str p.shown) else none
    | none => none
  | .gcd, [.int i, .int j] => some (.int ((Nat.gcd i.natAbs j.natAbs : Nat) : Int))
  | .lrange1, [.int b] => if rangeOk 0 b then some (.lst (rangeD 0 b)) else none
  | .lrange2, [.int a, .int b] => if rangeOk a b then some (.lst (rangeD a b)) else none
  | .lzip, [x, y] => match seqOf ro rw x, seqOf ro rw y with
    | some xs, some ys => some (.lst (zipD xs ys))
    | _, _ => none
  | .dzip, [x, y] => match seqOf ro rw x, seqOf ro rw y with
    | some xs, some ys => (allT (xs.zip ys)).map fun kvs => .dT (mergeD [] kvs)
    | _, _ => none
  | .dpairs, [x] => ((lstOf ro rw x).bind fun xs => xs.mapM pairOf).bind dictFrom
  | .litems, [x] => (dicOf ro rw x).map fun dc => .lst (dicPairs dc)
  | .dgetd, [x, k, d] => (dicOf ro rw x).bind fun dc => (dget dc k).map fun o => o.getD d
  | _, _ => none

/-! ### syntax -/
/-- a target -/
inductive MG where
  | nm (i : Nat) | tup (gs : List MG)
  deriving Inhabited
mutual
/-- an expression: names are slots; mu: what is made is an own thing that may change -/
inductive ME where
  | nope
  | nm (i : Nat) | cst (d : D)
  | bin (op : BO) (a b : ME) | neg (a : ME)
  | cmp (op : CO) (a b : ME) | chain (op op' : CO) (a b c : ME)
  | and (es : List ME) | or (es : List ME) | not (a : ME) | ite (c a b : ME)
  | tup (es : List ME) | lst (mu : Bool) (es : List ME) | dct (mu : Bool) (es : List ME)
  | sub (a i : ME) | slc (a : ME) (lo hi : Option ME)
  | call (f : Str) (es : List ME) (dv : List D) (src : List Nat)
  | blt (mu : Bool) (b : BI) (es : List ME) | isa (e : ME) (cs : List Ty) | idx (ns : List Int) (e : ME)
  | append (o e : ME) | popAt (o i : ME)
  | comp (mu : Bool) (elt : ME) (vs : List Nat) (tg : MG) (it : MT) (ifs : Option ME)
  | dcomp (mu : Bool) (k v : ME) (vs : List Nat) (tg : MG) (it : MT) (ifs : Option ME)
/-- what a loop walks -/
inductive MT where
  | seq (e : ME) | rng1 (e : ME) | rng2 (a b : ME) | zip2 (a b : ME) | zip3 (a b c : ME) | enum (e : ME) | items (e : ME) | keys (i : Nat)
end
instance : Inhabited ME := ⟨.nope⟩
inductive MS where
  | nope
  | set (i : Nat) (e : ME) | par (is : List Nat) (es : List ME) | unp (g : MG) (e : ME)
  | put (o i e : ME) | aug (i : Nat) (op : BO) (e : ME)
  | ex (e : ME)
  | ite (c : ME) (a b : List MS)
  | whl (c : ME) (b : List MS)
  | loop (g : MG) (it : MT) (b : List MS)
  | ret (e : Option ME) | brk | cont | pass
  | zret (i : Nat) (e : ME)
  deriving Inhabited
/-- a def: how many parameters, how many slots, whether all that it changes is its own, its body -/
structure MF where
  np : Nat
  ns : Nat
  own : Bool
  body : List MS

/-! ### the evaluator -/
abbrev Sig := List (Option D)
/-- a call: the things that may be read alone, the def's name, the arguments -/
abbrev Calls := MH → Str → List D → M D
def isBl : D → M Bool
  | .bl b => M.pure b
  | _ => M.err
def alloc (ro : MH) (mu : Bool) (d : D) : M D := fun rw => if mu then (match d with
  | .lst xs => .ok (.ref (ro.length + rw.length)) (rw ++ [.lst xs])
  | .dK xs => .ok (.ref (ro.length + rw.length)) (rw ++ [.dK xs])
  | .dT xs => .ok (.ref (ro.length + rw.length)) (rw ++ [.dT xs])
  | _ => .err) else .ok d rw
/-- an own thing is changed -/
def upO (ro : MH) (l : Nat) (f : MO → Option MO) : M Unit := fun rw => if l < ro.length then .err else match rw[l - ro.length]? with
  | some o => match f o with
    | some o' => .ok () (rw.set (l - ro.length) o')
    | none => .err
  | none => .err
mutual
/-- a target is given a value -/
def asG : MG → D → Sig → Option Sig
  | .nm i, d, σ => if i < σ.length then some (σ.set i (some d)) else none
  | .tup gs, .tup _ ds, σ => asGs gs ds σ
  | .tup _, _, _ => none
def asGs : List MG → List D → Sig → Option Sig
  | [], [], σ => some σ
  | g :: gs, d :: ds, σ => (asG g d σ).bind (asGs gs ds)
  | _, _, _ => none
end
/-- the items that are walked: of what nothing changes -/
def srcOf : D → Option (List D)
  | .tup _ xs => some xs
  | .lst xs => some xs
  | .scr ns => some (ns.map .int)
  | _ => none
/-- a dict's keys, no own dict -/
def keysD : D → Option (List D)
  | .dK kvs => some (dicKeys (.k kvs))
  | .dT kvs => some (dicKeys (.t kvs))
  | _ => none
def wipeD (σ : Sig) : List Nat → Sig
  | [] => σ
  | v :: vs => (wipeD σ vs).set v none
/-- a loop over items, a state carried along -/
def loopL {α : Type} (f : D → α → M α) : List D → α → M α
  | [], a => M.pure a
  | d :: ds, a => M.bind (f d a) (loopL f ds)
def loopF {α : Type} (ds : List D) (f : D → α → M α) (a : α) : M α := loopL f ds a
def bigN : Nat := 1000000000
/-- the parameters' values: each from its place among the written ones and the defaults -/
def argsBy : List Nat → List D → Option (List D)
  | [], _ => some []
  | i :: r, ds => match ds[i]?, argsBy r ds with
    | some d, some q => some (d :: q)
    | _, _ => none
def stepL (acc : List D) (x : D) : M (List D) := if decide (acc.length < 16777216) then M.pure (acc ++ [x]) else M.err
def appO (x : D) : MO → Option MO
  | .lst xs => if decide (xs.length < 16777216) then some (.lst (xs ++ [x])) else none
  | _ => none
def extO (ys : List D) : MO → Option MO
  | .lst xs => if lineOk (xs.length + ys.length) then some (.lst (xs ++ ys)) else none
  | _ => none
def putO (k v : D) : MO → Option MO
  | .dK kvs => if decide (kvs.length < 16777216) then (keyOf k).map fun k => .dK (kput kvs k v) else none
  | .dT kvs => if decide (kvs.length < 16777216) then ((keyTup k).bind keysOf).map fun k => .dT (kput kvs k v) else none
  | .lst xs => match k with
    | .int i => (ixN xs.length i).map fun j => .lst (xs.set j v)
    | _ => none
/-- a tuple's place in a dict -/
def putT (k v : D) : MO → Option MO
  | .dT kvs => if decide (kvs.length < 16777216) then ((keyTup k).bind keysOf).map fun k => .dT (kput kvs k v) else none
  | _ => none
def putK1 (dc : Dc) (k v : D) : Option Dc := match dc with
  | .k kvs => if decide (kvs.length < 16777216) then (keyOf k).map fun k => .k (kput kvs k v) else none
  | .t kvs => if decide (kvs.length < 16777216) then ((keyTup k).bind keysOf).map fun k => .t (kput kvs k v) else none
/-- it is a list -/
def chkL (ro : MH) (x : D) : M Unit := fun rw => match lstOf ro rw x with
  | some _ => .ok () rw
  | none => .err
def refOf : D → Option Nat
  | .ref l => some l
  | _ => none
section
variable (C : Calls) (ro : MH)
mutual
def evE : ME → Sig → M D
  | .nope, _ => M.err
  | .nm i, σ => M.lift ((σ[i]?).bind id)
  | .cst d, _ => M.pure d
  | .bin op a b, σ => M.bind (evE a σ) fun x => M.bind (evE b σ) fun y => fun rw => M.lift (binop ro rw op x y) rw
  | .neg a, σ => M.bind (evE a σ) fun x => M.lift (match x with | .int i => some (.int (-i)) | _ => none)
  | .cmp op a b, σ => M.bind (evE a σ) fun x => M.bind (evE b σ) fun y => fun rw => M.lift ((cmpop ro rw op x y).map .bl) rw
  | .chain op op' a b c, σ => M.bind (evE a σ) fun x => M.bind (evE b σ) fun y => fun rw => M.bind (M.lift (cmpop ro rw op x y)) (fun k => if k then M.bind (evE c σ) fun z => fun rw => M.lift ((cmpop ro rw op' y z).map .bl) rw else M.pure (.bl false)) rw
  | .and es, σ => M.bind (evAnd es σ) fun k => M.pure (.bl k)
  | .or es, σ => M.bind (evOr es σ) fun k => M.pure (.bl k)
  | .not a, σ => M.bind (evE a σ) fun x => M.bind (isBl x) fun k => M.pure (.bl !k)
  | .ite c a b, σ => M.bind (evE c σ) fun x => M.bind (isBl x) fun k => if k then evE a σ else evE b σ
  | .tup es, σ => M.bind (evEs es σ) fun ds => if lineOk ds.length then M.pure (.tup true ds) else M.err
  | .lst mu es, σ => M.bind (evEs es σ) fun ds => if lineOk ds.length then alloc ro mu (.lst ds) else M.err
  | .dct mu es, σ => M.bind (evEs es σ) fun ds => if decide (ds.length ≤ 30) then (match (pairUp ds).bind allK with
    | some kvs => alloc ro mu (.dK (mergeD [] kvs))
    | none => M.err) else M.err
  | .sub a i, σ => M.bind (evE a σ) fun x => M.bind (evE i σ) fun y => fun rw => M.lift (subD ro rw x y) rw
  | .slc a lo hi, σ => M.bind (evE a σ) fun x => M.bind (evO lo σ) fun l => M.bind (evO hi σ) fun u => fun rw => M.lift (sliceD ro rw x l u) rw
  | .call f es dv src, σ => M.bind (evEs es σ) fun ds => M.bind (M.lift (argsBy src (ds ++ dv))) fun as => C ro f as
  | .blt mu b es, σ => M.bind (evEs es σ) fun ds => fun rw => M.bind (M.lift (bltop ro rw b ds)) (alloc ro mu) rw
  | .isa e cs, σ => M.bind (evE e σ) fun x => fun rw => M.lift ((tyOf ro rw x).map fun t => .bl (cs.any (isaB t))) rw
  | .idx ns e, σ => M.bind (evE e σ) fun x => M.lift ((intPart x).bind fun k => if k ∈ ns then some (.int (ns.idxOf k : Nat)) else none)
  | .append o e, σ => M.bind (evE o σ) fun x => M.bind (chkL ro x) fun _ => M.bind (evE e σ) fun y => M.bind (M.lift (refOf x)) fun l => M.bind (upO ro l (appO y)) fun _ => M.pure .non
  | .popAt o i, σ => M.bind (evE o σ) fun x => M.bind (chkL ro x) fun _ => M.bind (evE i σ) fun y => M.bind (M.lift (refOf x)) fun l => M.bind (M.lift (intPart y)) fun i => fun rw => match getO ro rw l with
    | some (.lst xs) => if decide (-(2 ^ 63) ≤ i) && decide (i < 2 ^ 63) then match ixN xs.length i with
      | some j => match xs[j]? with
        | some z => M.bind (upO ro l fun _ => some (.lst (xs.eraseIdx j))) (fun _ => M.pure z) rw
        | none => .err
      | none => .err else .err
    | _ => .err
  | .comp mu elt vs tg it ifs, σ => M.bind (evT it σ) fun s => if mu then M.bind (alloc ro true (.lst [])) fun r => M.bind (M.lift (refOf r)) fun l =>
      M.bind (loopF s (fun d _ => M.bind (M.lift (asG tg d (wipeD σ vs))) fun σ2 => M.bind (evIfs ifs σ2) fun k => if k then M.bind (evE elt σ2) fun y => upO ro l (appO y) else M.pure ()) ()) fun _ => M.pure r
      else M.bind (loopF s (fun d acc => M.bind (M.lift (asG tg d (wipeD σ vs))) fun σ2 => M.bind (evIfs ifs σ2) fun k => if k then M.bind (evE elt σ2) fun y => stepL acc y else M.pure acc) []) fun acc => M.pure (.lst acc)
  | .dcomp mu k v vs tg it ifs, σ => M.bind (evT it σ) fun s => if mu then M.bind (alloc ro true (.dT [])) fun r => M.bind (M.lift (refOf r)) fun l =>
      M.bind (loopF s (fun d _ => M.bind (M.lift (asG tg d (wipeD σ vs))) fun σ2 => M.bind (evIfs ifs σ2) fun j => if j then M.bind (evE k σ2) fun x => M.bind (evE v σ2) fun y => upO ro l (putT x y) else M.pure ()) ()) fun _ => M.pure r
      else M.bind (loopF s (fun d (acc : Dc) => M.bind (M.lift (asG tg d (wipeD σ vs))) fun σ2 => M.bind (evIfs ifs σ2) fun j => if j then M.bind (evE k σ2) fun x => M.bind (evE v σ2) fun y => M.lift (putK1 acc x y) else M.pure acc) (Dc.t [])) fun acc => M.pure (dicTree acc)
def evEs : List ME → Sig → M (List D)
  | [], _ => M.pure []
  | e :: es, σ => M.bind (evE e σ) fun d => M.bind (evEs es σ) fun ds => M.pure (d :: ds)
/-- all of tests, from the left -/
def evAnd : List ME → Sig → M Bool
  | [], _ => M.err
  | [e], σ => M.bind (evE e σ) isBl
  | e :: es, σ => M.bind (evE e σ) fun d => M.bind (isBl d) fun k => if k then evAnd es σ else M.pure false
def evOr : List ME → Sig → M Bool
  | [], _ => M.err
  | [e], σ => M.bind (evE e σ) isBl
  | e :: es, σ => M.bind (evE e σ) fun d => M.bind (isBl d) fun k => if k then M.pure true else evOr es σ
def evO : Option ME → Sig → M (Option Int)
  | none, _ => M.pure none
  | some e, σ => M.bind (evE e σ) fun d => M.bind (M.lift (intPart d)) fun i => M.pure (some i)
def evIfs : Option ME → Sig → M Bool
  | none, _ => M.pure true
  | some e, σ => M.bind (evE e σ) isBl
def evT : MT → Sig → M (List D)
  | .seq e, σ => M.bind (evE e σ) fun d => M.lift (srcOf d)
  | .rng1 e, σ => M.bind (evE e σ) fun d => M.lift (match d with | .int b => if rangeOk 0 b then some (rangeD 0 b) else none | _ => none)
  | .rng2 a b, σ => M.bind (evE a σ) fun x => M.bind (evE b σ) fun y => M.lift (match x, y with | .int a, .int b => if rangeOk a b then some (rangeD a b) else none | _, _ => none)
  | .zip2 a b, σ => M.bind (evE a σ) fun x => M.bind (evE b σ) fun y => M.lift (match srcOf x, srcOf y with | some xs, some ys => some (zipD xs ys) | _, _ => none)
  | .zip3 a b c, σ => M.bind (evE a σ) fun x => M.bind (evE b σ) fun y => M.bind (evE c σ) fun z => M.lift (match srcOf x, srcOf y, srcOf z with | some xs, some ys, some zs => some (zipD3 xs ys zs) | _, _, _ => none)
  | .enum e, σ => M.bind (evE e σ) fun x => M.lift ((srcOf x).map (enumD 0))
  | .keys i, σ => M.lift (((σ[i]?).bind id).bind keysD)
  | .items e, σ => M.bind (evE e σ) fun x => fun rw => M.lift ((dicOf ro rw x).map dicPairs) rw
end
/-- how a statement ends -/
inductive Fl where
  | nx (σ : Sig) | rt (d : D) | bk (σ : Sig) | ct (σ : Sig)
def setAll : List Nat → List D → Sig → Option Sig
  | [], [], σ => some σ
  | i :: is, d :: ds, σ => if i < σ.length then setAll is ds (σ.set i (some d)) else none
  | _, _, _ => none
/-- a loop's turn behind another: break, continue, return -/
def turnF (f : D → Sig → M Fl) (d : D) (a : Fl) : M Fl := match a with
  | .nx σ => M.bind (f d σ) fun r => M.pure (match r with | .ct σ => .nx σ | r => r)
  | a => M.pure a
def endF : Fl → Fl
  | .bk σ => .nx σ
  | r => r
def whileF (c : Sig → M Bool) (b : Sig → M Fl) : Nat → Sig → M Fl
  | 0, _ => M.err
  | n + 1, σ => M.bind (c σ) fun k => if k then M.bind (b σ) fun r => match r with
    | .nx σ' => whileF c b n σ'
    | .ct σ' => whileF c b n σ'
    | .bk σ' => M.pure (.nx σ')
    | .rt d => M.pure (.rt d)
    else M.pure (.nx σ)
mutual
def exS : MS → Sig → M Fl
  | .nope, _ => M.err
  | .set i e, σ => M.bind (evE C ro e σ) fun d => if i < σ.length then M.pure (.nx (σ.set i (some d))) else M.err
  | .par is es, σ => M.bind (evEs C ro es σ) fun ds => M.bind (M.lift (setAll is ds σ)) fun σ' => M.pure (.nx σ')
  | .unp g e, σ => M.bind (evE C ro e σ) fun d => M.bind (M.lift (asG g d σ)) fun σ' => M.pure (.nx σ')
  | .put o i e, σ => M.bind (evE C ro e σ) fun v => M.bind (evE C ro o σ) fun x => M.bind (evE C ro i σ) fun k => M.bind (M.lift (refOf x)) fun l => M.bind (upO ro l (putO k v)) fun _ => M.pure (.nx σ)
  | .aug i op e, σ => M.bind (M.lift ((σ[i]?).bind id)) fun x => M.bind (evE C ro e σ) fun y => fun rw => M.bind (M.lift (match x, y with | .int _, .int _ => binop ro rw op x y | _, _ => none)) (fun z => if i < σ.length then M.pure (.nx (σ.set i (some z))) else M.err) rw
  | .ex e, σ => M.bind (evE C ro e σ) fun _ => M.pure (.nx σ)
  | .ite c a b, σ => M.bind (evE C ro c σ) fun x => M.bind (isBl x) fun k => if k then exSs a σ else exSs b σ
  | .whl c b, σ => whileF (fun σ => M.bind (evE C ro c σ) isBl) (fun σ => exSs b σ) bigN σ
  | .loop g it b, σ => M.bind (evT C ro it σ) fun s => M.bind (loopF s (turnF fun d σ => M.bind (M.lift (asG g d σ)) fun σ' => exSs b σ') (.nx σ)) fun r => M.pure (endF r)
  | .ret none, _ => M.pure (.rt .non)
  | .ret (some e), σ => M.bind (evE C ro e σ) fun d => M.pure (.rt d)
  | .zret i e, σ => if i < σ.length then M.bind (evE C ro e (wipeD σ [i])) fun d => M.pure (.rt d) else M.err
  | .brk, σ => M.pure (.bk σ)
  | .cont, σ => M.pure (.ct σ)
  | .pass, σ => M.pure (.nx σ)
def exSs : List MS → Sig → M Fl
  | [], σ => M.pure (.nx σ)
  | s :: ss, σ => M.bind (exS s σ) fun r => match r with
    | .nx σ' => exSs ss σ'
    | r => M.pure r
end
end
/-! ### defs -/
/-- what a def hands back, made a tree: its own things are no more changed -/
def froz (base : Nat) (rw : MH) : Nat → D → Option D
  | 0, _ => none
  | n + 1, .tup k xs => (xs.mapM (froz base rw n)).map (.tup k)
  | n + 1, .lst xs => (xs.mapM (froz base rw n)).map .lst
  | n + 1, .dK kvs => (kvs.mapM fun p => (froz base rw n p.2).map fun d => (p.1, d)).map .dK
  | n + 1, .dT kvs => (kvs.mapM fun p => (froz base rw n p.2).map fun d => (p.1, d)).map .dT
  | n + 1, .ref l => if l < base then some (.ref l) else match rw[l - base]? with
    | some (.lst xs) => (xs.mapM (froz base rw n)).map .lst
    | some (.dK kvs) => (kvs.mapM fun p => (froz base rw n p.2).map fun d => (p.1, d)).map .dK
    | some (.dT kvs) => (kvs.mapM fun p => (froz base rw n p.2).map fun d => (p.1, d)).map .dT
    | none => none
  | _ + 1, d => some d
def startD (ns : Nat) (as : List D) : Sig := as.map some ++ List.replicate (ns - as.length) none
abbrev Tab := Str → Option MF
def flD : Fl → Option D
  | .nx _ => some .non
  | .rt d => some d
  | _ => none
def callN (T : Tab) : Nat → Calls
  | 0 => fun _ _ _ => M.err
  | n + 1 => fun ro f as rw => match T f with
    | none => .err
    | some mf => if as.length = mf.np ∧ mf.np ≤ mf.ns then (if mf.own then
        match exSs (callN T n) (ro ++ rw) mf.body (startD mf.ns as) [] with
        | .ok fl rw' => match (flD fl).bind (froz (ro ++ rw).length rw' deep) with
          | some d => .ok d rw
          | none => .err
        | .exc c p _ => .exc c p rw
        | .err => .err
      else match exSs (callN T n) ro mf.body (startD mf.ns as) rw with
        | .ok fl rw' => match flD fl with
          | some d => .ok d rw'
          | none => .err
        | .exc c p rw' => .exc c p rw'
        | .err => .err) else .err
end Mx

set_option Elab.async false
set_option linter.all false
set_option maxRecDepth 100000
set_option maxHeartbeats 1000000
/-! MyG0: what the head is asked for. -/
namespace Mx
open PySem PySem.Spec PyProof.Rows L2
/-- the built-ins' names that are used -/
def bltNames : List Str := ["len", "abs", "min", "max", "int", "str", "sum", "all", "any", "tuple", "list", "sorted", "repr", "dict", "zip", "range", "enumerate", "isinstance", "bool"]
/-! ### constants -/
mutual
def krB (K : PySem.W.Frag) : D → Value → Bool
  | .non, .none => true
  | .bl b, .bool c => b == c
  | .int i, .int j _ => decide (i = j)
  | .str s, .str t _ => decide (s = t)
  | .tup false ds, .ref a => match K.lookup a with
    | some ⟨.type c, none, .seq its _, _⟩ => decide (c = "tuple") && decide (its.size ≤ sizeLine) && krsB K ds its.toList
    | _ => false
  | _, _ => false
def krsB (K : PySem.W.Frag) : List D → List Value → Bool
  | [], [] => true
  | d :: ds, u :: us => krB K d u && krsB K ds us
  | _, _ => false
end
/-! ### the checks -/
/-- an empty table of code objects -/
def isTab : Option Obj → Bool
  | some ⟨.none, none, .fields vs, sl⟩ => vs.size == 0 && sl.size == 0
  | _ => false
theorem isTab_ok {o : Option Obj} (h : isTab o = true) : o = some (PySem.W.tabObj #[]) := by
  cases o with
  | none => cases h
  | some o =>
    obtain ⟨oc, od, dt, osl⟩ := o
    cases oc with
    | none =>
      cases od with
      | none =>
        cases dt with
        | fields vs =>
          have h : (vs.size == 0 && osl.size == 0) = true := h
          simp only [Bool.and_eq_true, beq_iff_eq] at h
          have e1 : vs = #[] := Array.size_eq_zero_iff.mp h.1
          have e2 : osl = #[] := Array.size_eq_zero_iff.mp h.2
          subst e1 e2; rfl
        | _ => cases h
      | some _ => cases dt <;> cases h
    | _ => cases od <;> cases dt <;> cases h
/-- a def's code object and its table -/
def codeT (K : PySem.W.Frag) (a : Addr) : Addr × Addr := match K.lookup a with
  | some ⟨_, _, .func fd, _⟩ => (match fd.code with
    | .ref c => (match K.lookup c with
      | some ⟨_, _, .fields vs, _⟩ => (match (vs[11]? : Option Value) with
        | some (.ref P) => (c, P)
        | _ => (0, 0))
      | _ => (0, 0))
    | _ => (0, 0))
  | _ => (0, 0)
def dfB (K : PySem.W.Frag) (dfl : List D) (u : Value) : Bool := match dfl with
  | [] => (match u with
    | .none => true
    | _ => false)
  | d :: r => krB K (.tup false (d :: r)) u
/-- one def as it is known: its record, its defaults -/
structure DefR where
  rec_ : He.DefD
  dfl : List D
def DefR.at_ (d : DefR) : Str := d.rec_.at_.1
def DefR.ok (K KA : PySem.W.Frag) (d : DefR) : Bool :=
  decide (PySem.W.nsIn K mainGlobals d.at_ = some (some (.ref (He.ga K d.at_)))) && PySem.W.keepIn K (.ref (He.ga K d.at_)) && (match K.lookup (He.ga K d.at_) with
    | some ⟨_, _, .func fd, _⟩ => PySem.W.codeIn K fd.code d.rec_.qual && decide (fd.code = .ref (codeT K (He.ga K d.at_)).1) && dfB K d.dfl fd.defaults
    | _ => false) && PySem.W.codeHdIn K (codeT K (He.ga K d.at_)).1 (codeT K (He.ga K d.at_)).2 && isTab (KA.lookup (codeT K (He.ga K d.at_)).2) && (K.lookup (codeT K (He.ga K d.at_)).2).isNone
/-- a def's name for its lambdas -/
def DefR.lamQ (d : DefR) : Str := (d.rec_.qual ++ ".<locals>.") ++ "<lambda>"
def DefR.tb (K : PySem.W.Frag) (d : DefR) : Addr × Str := ((codeT K (He.ga K d.at_)).2, d.lamQ)
/-- addresses that rise; where one stands twice it is for the same name -/
def riseB : List (Addr × Str) → Bool
  | p :: q :: r => (decide (p.1 < q.1) || (decide (p.1 = q.1) && decide (p.2 = q.2))) && riseB (q :: r)
  | _ => true
theorem rise_le : ∀ {l : List (Addr × Str)} {p : Addr × Str}, riseB (p :: l) = true → ∀ q ∈ l, p.1 ≤ q.1 ∧ (p.1 = q.1 → p.2 = q.2)
  | [], _, _, q, hq => by cases hq
  | r :: l, p, h, q, hq => by
    have h : ((decide (p.1 < r.1) || (decide (p.1 = r.1) && decide (p.2 = r.2))) && riseB (r :: l)) = true := h
    simp only [Bool.and_eq_true, Bool.or_eq_true, decide_eq_true_eq] at h
    obtain ⟨h1, h2⟩ := h
    rcases List.mem_cons.mp hq with rfl | hq
    · rcases h1 with h1 | ⟨h1, h3⟩
      · exact ⟨Nat.le_of_lt h1, fun e => absurd e (Nat.ne_of_lt h1)⟩
      · exact ⟨Nat.le_of_eq h1, fun _ => h3⟩
    · obtain ⟨i1, i2⟩ := rise_le h2 q hq
      rcases h1 with h1 | ⟨h1, h3⟩
      · exact ⟨Nat.le_trans (Nat.le_of_lt h1) i1, fun e => absurd e (Nat.ne_of_lt (Nat.lt_of_lt_of_le h1 i1))⟩
      · exact ⟨by rw [h1]; exact i1, fun e => by rw [h3]; exact i2 (by rw [← h1]; exact e)⟩
theorem rise_ok : ∀ {l : List (Addr × Str)}, riseB l = true → ∀ p ∈ l, ∀ q ∈ l, p.1 = q.1 → p.2 = q.2
  | [], _, p, hp, _, _, _ => by cases hp
  | r :: l, h, p, hp, q, hq, e => by
    have h2 : riseB l = true := by
      cases l with
      | nil => rfl
      | cons a l =>
        have h : ((decide (r.1 < a.1) || (decide (r.1 = a.1) && decide (r.2 = a.2))) && riseB (a :: l)) = true := h
        exact (Bool.and_eq_true_iff.mp h).2
    rcases List.mem_cons.mp hp with e1 | hp2
    · rcases List.mem_cons.mp hq with e2 | hq2
      · rw [e1, e2]
      · rw [e1] at e ⊢
        exact (rise_le h q hq2).2 e
    · rcases List.mem_cons.mp hq with e2 | hq2
      · rw [e2] at e ⊢
        exact ((rise_le h p hp2).2 e.symm).symm
      · exact rise_ok h2 p hp2 q hq2 e
/-- all that is asked: defs, constants, names that the module leaves to Python -/
structure Ask where
  defs : List DefR
  cst : List (Str × D)
  free : List Str
  gcd : Bool
def Ask.ok (a : Ask) (K KA : PySem.W.Frag) : Bool :=
  (a.defs.all fun d => d.ok K KA) && (a.cst.all fun p => match PySem.W.nsIn K mainGlobals p.1 with
    | some (some u) => krB K p.2 u
    | _ => false) && (a.free.all fun x => decide (PySem.W.nsIn K mainGlobals x = some none)) && (!a.gcd || decide (PySem.W.nsIn K mainGlobals "gcd" = some (some (.builtin "math.gcd")))) &&
  riseB (a.defs.map fun d => d.tb K)
abbrev AlG : Type := Bool × List He.FnW
def Ask.obsK (a : Ask) (K KA : PySem.W.Frag) : AlG := (a.ok K KA, a.defs.map fun d => He.fnW K d.rec_.at_)
def Ask.val (a : Ask) : AlG := (true, a.defs.map fun d => d.rec_.val)
def noTab (g : Addr → Option Obj) (as : List Addr) : List Addr := as.filter fun b => !isTab (g b)
def Ask.obsG (a : Ask) (n : Nat) (g : Addr → Option Obj) : AlG := a.obsK (He.frG g (noTab g (He.asD g n))) (He.frG g (He.asD g n))
def Ask.hook (a : Ask) (n : Nat) : PySem.W.Hook where
  α := AlG
  obs := fun s => a.obsG n s.heap.get?
  val := fun _ => a.val
  says := fun _ h => ∃ K KA : PySem.W.Frag, K.In h ∧ KA.In h ∧ a.obsK K KA = a.val
  of := fun _ _ e => ⟨_, _, He.frG_in, He.frG_in, e⟩
  keeps := fun _ _ _ ⟨K, KA, h1, h2, c⟩ k => ⟨K, KA, PySem.W.Frag.In.keeps h1 k, PySem.W.Frag.In.keeps h2 k, c⟩
theorem Ask.obs_eq {a : Ask} {n : Nat} {g : Addr → Option Obj} {s : Shared} (h : ∀ b, g b = s.heap.get? b) : a.obsG n g = (a.hook n).obs s := by
  have e : g = s.heap.get? := funext h
  rw [e]; rfl
end Mx

set_option Elab.async false
set_option linter.all false
set_option maxRecDepth 100000
set_option maxHeartbeats 0
/-! LwH: the defs of the law, the head (printed by tools/genlw.py k56). -/
namespace Lw
open PySem PySem.Spec PyProof.Rows L2 Mx
abbrev prg : Program := PySem.Challenge.pw_axlebook_k56_whole_middles
def topAt (i : Nat) : Stmt := prg.main.body.getD i (.Pass ⟨0, 0, 0, 0⟩)
def dOf (at_ nm : Str) (i : Nat) : He.DefD := ⟨(at_, none), nm, nm, defArgs (topAt i), defBody (topAt i), defScope (topAt i), [], []⟩
def cstL : List (Str × D) := [("MOST_AXES_lots1", .int 4), ("ZERO", .tup false [.int 0, .int 1]), ("ONE", .tup false [.int 1, .int 1]), ("WIDTHS", .tup false [.int 1, .int 2, .int 4, .int 8, .int 16]), ("MOST_AXES_inverse3", .int 4)]
def d_is_whole : DefR := ⟨dOf "is_whole" "is_whole" 7, []⟩
def d_is_below : DefR := ⟨dOf "is_below" "is_below" 8, []⟩
def d_lots_of : DefR := ⟨dOf "lots_of" "lots_of" 11, []⟩
def d_parted : DefR := ⟨dOf "parted" "parted" 12, []⟩
def d_swaps_of : DefR := ⟨dOf "swaps_of" "swaps_of" 13, []⟩
def d_number : DefR := ⟨dOf "number" "number" 17, [.int 1]⟩
def d_is_number : DefR := ⟨dOf "is_number" "is_number" 18, []⟩
def d_plus : DefR := ⟨dOf "plus" "plus" 19, []⟩
def d_minus : DefR := ⟨dOf "minus" "minus" 20, []⟩
def d_times : DefR := ⟨dOf "times" "times" 21, []⟩
def d_need_many : DefR := ⟨dOf "need_many" "need_many" 24, []⟩
def d_is_any_table : DefR := ⟨dOf "is_any_table" "is_any_table" 25, []⟩
def d_count_of : DefR := ⟨dOf "count_of" "count_of" 26, []⟩
def d_is_table : DefR := ⟨dOf "is_table" "is_table" 27, []⟩
def d_need_table_tables2 : DefR := ⟨dOf "need_table_tables2" "need_table" 28, []⟩
def d_made : DefR := ⟨dOf "made" "made" 30, []⟩
def d_lines : DefR := ⟨dOf "lines" "lines" 31, []⟩
def d_worth : DefR := ⟨dOf "worth" "worth" 32, []⟩
def d_fold_of : DefR := ⟨dOf "fold_of" "fold_of" 33, []⟩
def d_need_squares_tables2 : DefR := ⟨dOf "need_squares_tables2" "need_squares" 34, []⟩
def d_fold_tables : DefR := ⟨dOf "fold_tables" "fold_tables" 36, []⟩
def d_need_squares_inverse3 : DefR := ⟨dOf "need_squares_inverse3" "need_squares" 39, []⟩
def d_need_table_inverse3 : DefR := ⟨dOf "need_table_inverse3" "need_table" 41, []⟩
def d_is_middle_lot : DefR := ⟨dOf "is_middle_lot" "is_middle_lot" 44, []⟩
def d_middle_lots : DefR := ⟨dOf "middle_lots" "middle_lots" 45, []⟩
def d_is_middle : DefR := ⟨dOf "is_middle" "is_middle" 46, []⟩
def d__law_begun : DefR := ⟨dOf "_law_begun" "_law_begun" 48, []⟩
def d__law_mixed : DefR := ⟨dOf "_law_mixed" "_law_mixed" 49, []⟩
def d__law_draw : DefR := ⟨dOf "_law_draw" "_law_draw" 50, []⟩
def d__law_pick : DefR := ⟨dOf "_law_pick" "_law_pick" 51, []⟩
def d__law_plain : DefR := ⟨dOf "_law_plain" "_law_plain" 52, []⟩
def d__law_is : DefR := ⟨dOf "_law_is" "_law_is" 53, []⟩
def d__law_common : DefR := ⟨dOf "_law_common" "_law_common" 54, []⟩
def d__law_no : DefR := ⟨dOf "_law_no" "_law_no" 55, []⟩
def d__law_plus : DefR := ⟨dOf "_law_plus" "_law_plus" 56, []⟩
def d__law_times : DefR := ⟨dOf "_law_times" "_law_times" 57, []⟩
def d__law_some_number : DefR := ⟨dOf "_law_some_number" "_law_some_number" 58, []⟩
def d__law_lots : DefR := ⟨dOf "_law_lots" "_law_lots" 59, []⟩
def d__law_merged : DefR := ⟨dOf "_law_merged" "_law_merged" 60, []⟩
def d__law_sign : DefR := ⟨dOf "_law_sign" "_law_sign" 61, []⟩
def d__law_places : DefR := ⟨dOf "_law_places" "_law_places" 62, []⟩
def d__law_wide : DefR := ⟨dOf "_law_wide" "_law_wide" 63, []⟩
def d__law_folded : DefR := ⟨dOf "_law_folded" "_law_folded" 64, []⟩
def d__law_ones : DefR := ⟨dOf "_law_ones" "_law_ones" 65, []⟩
def d__law_some_line : DefR := ⟨dOf "_law_some_line" "_law_some_line" 66, []⟩
def d__law_arrow_line : DefR := ⟨dOf "_law_arrow_line" "_law_arrow_line" 67, []⟩
def d__law_axes_rows : DefR := ⟨dOf "_law_axes_rows" "_law_axes_rows" 68, []⟩
def d__law_folds_alike : DefR := ⟨dOf "_law_folds_alike" "_law_folds_alike" 69, []⟩
def d_law : DefR := ⟨dOf "law" "law" 70, []⟩
def defs0 : List DefR := [d_is_whole, d_is_below, d_lots_of, d_parted, d_swaps_of, d_number, d_is_number, d_plus, d_minus, d_times, d_need_many, d_is_any_table]
def defs1 : List DefR := [d_count_of, d_is_table, d_need_table_tables2, d_made, d_lines, d_worth, d_fold_of, d_need_squares_tables2, d_fold_tables, d_need_squares_inverse3, d_need_table_inverse3, d_is_middle_lot]
def defs2 : List DefR := [d_middle_lots, d_is_middle, d__law_begun, d__law_mixed, d__law_draw, d__law_pick, d__law_plain, d__law_is, d__law_common, d__law_no, d__law_plus, d__law_times]
def defs3 : List DefR := [d__law_some_number, d__law_lots, d__law_merged, d__law_sign, d__law_places, d__law_wide, d__law_folded, d__law_ones, d__law_some_line, d__law_arrow_line, d__law_axes_rows, d__law_folds_alike]
def defs4 : List DefR := [d_law]
def defsL : List DefR := defs0 ++ (defs1 ++ (defs2 ++ (defs3 ++ (defs4))))
def ask : Ask := { defs := defsL, cst := cstL, free := bltNames, gcd := true }
def loose0 : List Str := ["AxleError", "NoNumber", "NoSquares", "NoTable", "is_whole", "is_below", "MOST_AXES_lots1", "lots_of", "parted", "swaps_of", "ZERO", "ONE", "number", "is_number", "plus", "minus", "times", "WIDTHS", "need_many", "is_any_table", "count_of", "is_table", "need_table", "need_table_tables2"]
def loose1 : List Str := ["made", "lines", "worth", "fold_of", "need_squares", "need_squares_tables2", "fold_tables", "MOST_AXES_inverse3", "need_squares_inverse3", "need_table_inverse3", "is_middle_lot", "middle_lots", "is_middle", "_law_begun", "_law_mixed", "_law_draw", "_law_pick", "_law_plain", "_law_is", "_law_common", "_law_no", "_law_plus", "_law_times", "_law_some_number"]
def loose2 : List Str := ["_law_lots", "_law_merged", "_law_sign", "_law_places", "_law_wide", "_law_folded", "_law_ones", "_law_some_line", "_law_arrow_line", "_law_axes_rows", "_law_folds_alike"]
def looseL : List Str := loose0 ++ (loose1 ++ (loose2))
abbrev row : PySem.W.OpenRow := PySem.W.OpenLaw.row PySem.Challenge.rw_axlebook_k56_whole_middles
abbrev vw : Program := PySem.W.view row.prog [0, 70]
abbrev hk : PySem.W.Hook := ask.hook 3
def ob (s : PySem.W.SharedT) : AlG := ask.obsG 3 (HandSHeadRun.getT s)
theorem ob_eq (s : PySem.W.SharedT) : ob s = hk.obs s.abs := Ask.obs_eq (HandSHeadRun.getT_eq s)
theorem runB (w : World) : (HandSHeadRun.wholeF (fun p => HandSHeadRun.stepQ (HandSHeadRun.denQ HandSHeadRun.tabQ) p w) HandSHeadRun.fenceQ 6000 row.prog).map (fun x => (HandSHeadRun.looksF row.prog x.1.heap x.2.abs, HandSHeadRun.seenQ vw looseL (importedModules row.prog.main.body) (fun s => PySem.W.xlAt vw [] s && PySem.W.recOk row.toRowW.records s) x.2.abs)) = some (true, PySem.W.openGood vw looseL) := by kernel_rfl
theorem runC (w : World) : (HandSHeadRun.wholeF (fun p => HandSHeadRun.stepQ (HandSHeadRun.denQ HandSHeadRun.tabQ) p w) HandSHeadRun.fenceQ 6000 row.prog).map (fun x => ob x.2) = some (hk.val w) := by kernel_rfl
theorem run (w : World) : HandSHeadRun.RunEqI row vw hk ob 6000 looseL w := by
  have b := runB w
  have c := runC w
  unfold HandSHeadRun.RunEqI
  generalize HandSHeadRun.wholeF (fun p => HandSHeadRun.stepQ (HandSHeadRun.denQ HandSHeadRun.tabQ) p w) HandSHeadRun.fenceQ 6000 row.prog = z at b c
  cases z with
  | none => cases b
  | some x =>
    have b := Option.some.inj b
    have c := Option.some.inj c
    exact congrArg some (Prod.ext (congrArg (fun z => z.1) b) (Prod.ext (congrArg (fun z => z.2) b) c))
theorem namesRight : ∀ d ∈ ask.defs, d.rec_.at_ = (d.at_, none) := by
  have h : (ask.defs.all fun d => decide (d.rec_.at_ = (d.at_, none))) = true := by kernel_rfl
  intro d hd
  exact of_decide_eq_true (List.all_eq_true.mp h d hd)
end Lw

set_option Elab.async false
set_option linter.all false
set_option maxRecDepth 100000
set_option maxHeartbeats 1000000
/-! Mx, part B: how the trees stand in the hand layer's abstract heap. -/
namespace Mx
open PySem L2

/-- the own things' addresses by their numbers; lists that are being filled (no tree holds them yet) -/
structure Wd where
  r : List Addr
  x : List Addr
instance : Membership Addr Wd := ⟨fun m a => a ∈ m.r ∨ a ∈ m.x⟩
theorem mem_wd {m : Wd} {a : Addr} : a ∈ m ↔ a ∈ m.r ∨ a ∈ m.x := Iff.rfl
/-- what own things may be -/
def isOwn : HO → Bool
  | .lst _ => true
  | .dK _ => true
  | .dT _ => true
  | _ => false
/-- a list that nothing changes, apart from the own things -/
def SqF (m : Wd) (H : Hp) (a : Addr) (xs : List V) : Prop := H a = some (.lst xs) ∧ a ∉ m
/-- the script: locked, or of the module -/
def SqZ (K : PySem.W.Frag) (H : Hp) (a : Addr) (xs : List V) : Prop :=
  (∃ o, H a = some (.frz o (.lst xs))) ∨
    ∃ (o : Obj) (its : Array Value) (n : Nat), K.lookup a = some o ∧ o.cls = .type "list" ∧ o.dict = none ∧ o.data = .seq its n ∧ its.size ≤ sizeLine ∧ Vals xs its.toList
theorem SqZ.l {K : PySem.W.Frag} {H : Hp} {a : Addr} {xs : List V} (h : SqZ K H a xs) : SqL K H a xs := by
  rcases h with ⟨o, h⟩ | h
  · exact .inl (.inr ⟨o, h⟩)
  · exact .inr h

mutual
/-- v stands for the tree d -/
inductive Rep (K : PySem.W.Frag) (m : Wd) (H : Hp) : D → V → Prop
  | non : Rep K m H .non .non
  | bl (b : Bool) : Rep K m H (.bl b) (.bl b)
  | int (i : Int) : Rep K m H (.int i) (.int i)
  | str (s : Str) : Rep K m H (.str s) (.str s)
  | tup {k : Bool} {a : Addr} {xs : List D} {vs : List V} : SqT K H a vs → (k = true → H a = some (.tup vs)) → Reps K m H xs vs → Rep K m H (.tup k xs) (.ref a)
  | lst {a : Addr} {xs : List D} {vs : List V} : SqF m H a vs → Reps K m H xs vs → Rep K m H (.lst xs) (.ref a)
  | scr {a : Addr} {ns : List Int} : SqZ K H a (ns.map .int) → Rep K m H (.scr ns) (.ref a)
  | dK {a : Addr} {kvs : List (Key × D)} {ws : List (Key × V)} : Rd H a (.dK ws) → a ∉ m → kvs.map (·.1) = ws.map (·.1) → Reps K m H (kvs.map (·.2)) (ws.map (·.2)) → Rep K m H (.dK kvs) (.ref a)
  | dT {a : Addr} {kvs : List (List Key × D)} {ws : List (List Key × V)} : Rd H a (.dT ws) → a ∉ m → kvs.map (·.1) = ws.map (·.1) → Reps K m H (kvs.map (·.2)) (ws.map (·.2)) → Rep K m H (.dT kvs) (.ref a)
  | ref {l : Nat} {a : Addr} : m.r[l]? = some a → Rep K m H (.ref l) (.ref a)
inductive Reps (K : PySem.W.Frag) (m : Wd) (H : Hp) : List D → List V → Prop
  | nil : Reps K m H [] []
  | cons {d : D} {ds : List D} {v : V} {vs : List V} : Rep K m H d v → Reps K m H ds vs → Reps K m H (d :: ds) (v :: vs)
end
/-- what stands at an own thing's address -/
def ORep (K : PySem.W.Frag) (m : Wd) (H : Hp) (a : Addr) : MO → Prop
  | .lst xs => ∃ vs, H a = some (.lst vs) ∧ Reps K m H xs vs
  | .dK kvs => ∃ ws : List (Key × V), H a = some (.dK ws) ∧ kvs.map (·.1) = ws.map (·.1) ∧ Reps K m H (kvs.map (·.2)) (ws.map (·.2))
  | .dT kvs => ∃ ws : List (List Key × V), H a = some (.dT ws) ∧ kvs.map (·.1) = ws.map (·.1) ∧ Reps K m H (kvs.map (·.2)) (ws.map (·.2))
/-- the tables of code objects that are followed (HandS.Lambda) -/
abbrev Tbs := List (Addr × Str)
structure HRel (T : Tbs) (K : PySem.W.Frag) (m : Wd) (h : MH) (H : Hp) : Prop where
  tabs : LamX.Tabs T H
  len : m.r.length = h.length
  nd : m.r.Nodup
  hid : ∀ a ∈ m.x, a ∉ m.r ∧ ∃ u, H a = some u ∧ isOwn u = true
  ob : ∀ (l : Nat) (o : MO) (a : Addr), h[l]? = some o → m.r[l]? = some a → ORep K m H a o

/-- a dict -/
def isDc : HO → Bool
  | .dK _ => true
  | .dT _ => true
  | _ => false
/-- what is locked for a walk is the same dict -/
def core : HO → HO
  | .frz o u => if isDc u then u else .frz o u
  | o => o
theorem core_f (o : Obj) (u : HO) : core (.frz o u) = if isDc u = true then u else .frz o u := rfl
/-- from (m, H) to (m', H'): own things may come and change, all else that is tracked stays -/
structure ExtW (m : Wd) (H : Hp) (m' : Wd) (H' : Hp) : Prop where
  pre : ∃ new, m'.r = m.r ++ new
  fresh : ∀ a ∈ m', a ∈ m ∨ H a = none ∨ ∃ ps, H a = some (.tbl ps)
  keep : ∀ a o, H a = some o → a ∉ m → (∀ ps, o ≠ .tbl ps) → ∃ o', H' a = some o' ∧ core o' = core o
theorem ExtW.refl (m : Wd) (H : Hp) : ExtW m H m H := ⟨⟨[], by simp⟩, fun a h => .inl h, fun a o h _ _ => ⟨o, h, rfl⟩⟩
/-- .. and what is locked stays so -/
structure Ext (m : Wd) (H : Hp) (m' : Wd) (H' : Hp) : Prop extends ExtW m H m' H' where
  frz : ∀ a o u, H a = some (.frz o u) → H' a = some (.frz o u)
  same : ∀ a o, H a = some o → a ∉ m → (∀ ps, o ≠ .tbl ps) → H' a = some o
  hid : m'.x = m.x
  hsame : ∀ a ∈ m.x, ∀ u, H a = some u → H' a = some u
theorem Ext.refl (m : Wd) (H : Hp) : Ext m H m H := ⟨.refl m H, fun _ _ _ h => h, fun _ _ h _ _ => h, rfl, fun _ _ _ h => h⟩
section
variable {m m' m'' : Wd} {H H' H'' : Hp}
theorem core_tbl {o : HO} {ps : Array Value} (h : core o = .tbl ps) : o = .tbl ps := by
  cases o with
  | frz ob u =>
    rw [core_f] at h
    by_cases q : isDc u = true
    · rw [if_pos q] at h
      rw [h] at q; cases q
    · rw [if_neg q] at h; cases h
  | _ => exact h
theorem ExtW.notin (e : ExtW m H m' H') {a : Addr} {o : HO} (h : H a = some o) (hm : a ∉ m) (ht : ∀ ps, o ≠ .tbl ps) : a ∉ m' := fun z => by
  rcases e.fresh a z with q | q | ⟨ps, q⟩
  · exact hm q
  · rw [q] at h; cases h
  · rw [q] at h; cases h; exact ht _ rfl
theorem core_ne {o o' : HO} (ht : ∀ ps, o ≠ .tbl ps) (c : core o' = core o) : ∀ ps, o' ≠ .tbl ps := fun ps z => by
  subst z
  exact ht ps (core_tbl c.symm)
theorem ExtW.trans (e : ExtW m H m' H') (f : ExtW m' H' m'' H'') : ExtW m H m'' H'' where
  pre := by
    obtain ⟨n1, e1⟩ := e.pre
    obtain ⟨n2, e2⟩ := f.pre
    exact ⟨n1 ++ n2, by rw [e2, e1, List.append_assoc]⟩
  fresh := fun a h => by
    by_cases hm : a ∈ m
    · exact .inl hm
    · refine .inr ?_
      cases q : H a with
      | none => exact .inl rfl
      | some o =>
        by_cases ht : ∃ ps, o = .tbl ps
        · obtain ⟨ps, rfl⟩ := ht
          exact .inr ⟨ps, rfl⟩
        · have ht : ∀ ps, o ≠ .tbl ps := fun ps z => ht ⟨ps, z⟩
          obtain ⟨o', h', c'⟩ := e.keep a o q hm ht
          have ht' := core_ne ht c'
          rcases f.fresh a h with z | z | ⟨ps, z⟩
          · exact absurd z (e.notin q hm ht)
          · rw [z] at h'; cases h'
          · rw [z] at h'; cases h'; exact absurd rfl (ht' _)
  keep := fun a o h hm ht => by
    obtain ⟨o', h', c'⟩ := e.keep a o h hm ht
    obtain ⟨o'', h'', c''⟩ := f.keep a o' h' (e.notin h hm ht) (core_ne ht c')
    exact ⟨o'', h'', c''.trans c'⟩
theorem ExtW.get (e : ExtW m H m' H') {l : Nat} {a : Addr} (h : m.r[l]? = some a) : m'.r[l]? = some a := by
  obtain ⟨new, e1⟩ := e.pre
  rw [e1, List.getElem?_append_left (List.getElem?_eq_some_iff.mp h).1]
  exact h
theorem ExtW.kept (e : ExtW m H m' H') {a : Addr} {o : HO} (h : H a = some o) (hm : a ∉ m) (hc : core o = o) (hd : isDc o = false) (ht : ∀ ps, o ≠ .tbl ps := by intro _ z; cases z) : H' a = some o := by
  obtain ⟨o', h', c'⟩ := e.keep a o h hm ht
  rw [hc] at c'
  rw [h']
  congr 1
  cases o' with
  | frz ob u =>
    rw [core_f] at c'
    by_cases q : isDc u = true
    · rw [if_pos q] at c'
      rw [← c'] at hd
      rw [q] at hd; cases hd
    · rw [if_neg q] at c'
      exact c'
  | _ => exact c'
theorem core_frz {o : Obj} {u : HO} (h : isDc u = false) : core (.frz o u) = .frz o u := by rw [core_f, h]; rfl
theorem core_dic {u : HO} (h : isDc u = true) : core u = u := by cases u <;> first | rfl | cases h
theorem ExtW.rdL (e : ExtW m H m' H') {a : Addr} {xs : List V} (h : Rd H a (.lst xs)) (hm : a ∉ m) : Rd H' a (.lst xs) := by
  rcases h with h | ⟨o, h⟩
  · exact .inl (e.kept h hm rfl rfl)
  · exact .inr ⟨o, e.kept h hm (core_frz rfl) rfl⟩
theorem dic_ntbl {u : HO} (hu : isDc u = true) : ∀ ps, u ≠ .tbl ps := fun ps z => by rw [z] at hu; cases hu
theorem frz_ntbl {o : Obj} {u : HO} : ∀ ps, HO.frz o u ≠ .tbl ps := fun ps z => by cases z
theorem ExtW.rdD (e : ExtW m H m' H') {a : Addr} {u : HO} (hu : isDc u = true) (h : Rd H a u) (hm : a ∉ m) : Rd H' a u := by
  have done : ∀ o', H' a = some o' → core o' = u → Rd H' a u := fun o' h' c' => by
    cases o' with
    | frz ob w =>
      rw [core_f] at c'
      by_cases q : isDc w = true
      · rw [if_pos q] at c'
        rw [c'] at h'
        exact .inr ⟨_, h'⟩
      · rw [if_neg q] at c'
        rw [← c'] at hu; cases hu
    | _ =>
      have c2 := c'
      simp only [core] at c2
      rw [c2] at h'
      exact .inl h'
  rcases h with h | ⟨o, h⟩
  · obtain ⟨o', h', c'⟩ := e.keep a _ h hm (dic_ntbl hu)
    exact done o' h' (c'.trans (core_dic hu))
  · obtain ⟨o', h', c'⟩ := e.keep a _ h hm frz_ntbl
    refine done o' h' (c'.trans ?_)
    rw [core_f, if_pos hu]
variable {K : PySem.W.Frag}
theorem ExtW.rd_notin (e : ExtW m H m' H') {a : Addr} {u : HO} (hu : isDc u = true) (h : Rd H a u) (hm : a ∉ m) : a ∉ m' := by
  rcases h with h | ⟨o, h⟩
  · exact e.notin h hm (dic_ntbl hu)
  · exact e.notin h hm frz_ntbl
theorem ExtW.sqF (e : ExtW m H m' H') {a : Addr} {xs : List V} (h : SqF m H a xs) : SqF m' H' a xs := ⟨e.kept h.1 h.2 rfl rfl, e.notin h.1 h.2 fun _ z => nomatch z⟩
/-- own things are no tuples -/
def NoTup (m : Wd) (H : Hp) : Prop := ∀ a ∈ m, ∀ u, H a = some u → (∀ xs, u ≠ .tup xs) ∧ (∀ o w, u ≠ .frz o w)
theorem HRel.noTup {T : Tbs} {h : MH} (r : HRel T K m h H) : NoTup m H := fun a ha u hu => by
  have own : ∀ u, isOwn u = true → (∀ xs, u ≠ .tup xs) ∧ (∀ o w, u ≠ .frz o w) := fun u z => ⟨fun xs e => by (rw [e] at z; cases z), fun o w e => by (rw [e] at z; cases z)⟩
  rcases ha with ha | ha
  · obtain ⟨l, hl⟩ := List.mem_iff_getElem?.mp ha
    have hlt : l < h.length := by rw [← r.len]; exact (List.getElem?_eq_some_iff.mp hl).1
    have q := r.ob l h[l] a (List.getElem?_eq_getElem hlt) hl
    refine own u ?_
    cases ho : h[l] <;> rw [ho] at q
    · obtain ⟨vs, e, _⟩ := q; rw [e] at hu; cases hu; rfl
    · obtain ⟨vs, e, _⟩ := q; rw [e] at hu; cases hu; rfl
    · obtain ⟨vs, e, _⟩ := q; rw [e] at hu; cases hu; rfl
  · obtain ⟨_, w, e, z⟩ := r.hid a ha
    rw [e] at hu; cases hu
    exact own _ z
theorem ExtW.sqT (e : ExtW m H m' H') (nt : NoTup m H) {a : Addr} {xs : List V} (h : SqT K H a xs) : SqT K H' a xs := by
  rcases h with (h | ⟨o, h⟩) | h
  · exact .inl (.inl (e.kept h (fun z => (nt a z _ h).1 _ rfl) rfl rfl))
  · exact .inl (.inr ⟨o, e.kept h (fun z => (nt a z _ h).2 _ _ rfl) (core_frz rfl) rfl⟩)
  · exact .inr h
theorem ExtW.tupl (e : ExtW m H m' H') (nt : NoTup m H) {a : Addr} {xs : List V} (h : H a = some (.tup xs)) : H' a = some (.tup xs) := e.kept h (fun z => (nt a z _ h).1 _ rfl) rfl rfl
theorem ExtW.sqZ (e : ExtW m H m' H') (nt : NoTup m H) {a : Addr} {xs : List V} (h : SqZ K H a xs) : SqZ K H' a xs := by
  rcases h with ⟨o, h⟩ | h
  · exact .inl ⟨o, e.kept h (fun z => (nt a z _ h).2 _ _ rfl) (core_frz rfl) rfl⟩
  · exact .inr h
mutual
theorem Rep.ext (e : ExtW m H m' H') (nt : NoTup m H) : ∀ {d : D} {v : V}, Rep K m H d v → Rep K m' H' d v
  | _, _, .non => .non
  | _, _, .bl b => .bl b
  | _, _, .int i => .int i
  | _, _, .str s => .str s
  | _, _, .tup h t r => .tup (e.sqT nt h) (fun z => e.tupl nt (t z)) (Reps.ext e nt r)
  | _, _, .lst h r => .lst (e.sqF h) (Reps.ext e nt r)
  | _, _, .scr h => .scr (e.sqZ nt h)
  | _, _, .dK h hm k r => .dK (e.rdD rfl h hm) (e.rd_notin rfl h hm) k (Reps.ext e nt r)
  | _, _, .dT h hm k r => .dT (e.rdD rfl h hm) (e.rd_notin rfl h hm) k (Reps.ext e nt r)
  | _, _, .ref h => .ref (e.get h)
theorem Reps.ext (e : ExtW m H m' H') (nt : NoTup m H) : ∀ {ds : List D} {vs : List V}, Reps K m H ds vs → Reps K m' H' ds vs
  | _, _, .nil => .nil
  | _, _, .cons h t => .cons (Rep.ext e nt h) (Reps.ext e nt t)
end
end

theorem Ext.trans {m m' m'' : Wd} {H H' H'' : Hp} (e : Ext m H m' H') (f : Ext m' H' m'' H'') : Ext m H m'' H'' := ⟨e.toExtW.trans f.toExtW, fun a o u h => f.frz a o u (e.frz a o u h), fun a o h hm ht => f.same a o (e.same a o h hm ht) (e.toExtW.notin h hm ht) ht, f.hid.trans e.hid, fun a ha u hu => f.hsame a (by rw [e.hid]; exact ha) u (e.hsame a ha u hu)⟩

/-! ### lists of values -/
section
variable {K : PySem.W.Frag} {m : Wd} {H : Hp}
theorem Reps.length : ∀ {ds : List D} {vs : List V}, Reps K m H ds vs → ds.length = vs.length
  | _, _, .nil => rfl
  | _, _, .cons _ t => congrArg Nat.succ (Reps.length t)
theorem Reps.get : ∀ {ds : List D} {vs : List V} {i : Nat} {d : D}, Reps K m H ds vs → ds[i]? = some d → ∃ v, vs[i]? = some v ∧ Rep K m H d v
  | _, _, 0, _, .cons h _, e => by
    simp only [List.getElem?_cons_zero, Option.some.injEq] at e
    subst e
    exact ⟨_, rfl, h⟩
  | _, _, i + 1, d, .cons _ t, e => by
    obtain ⟨v, h1, h2⟩ := Reps.get (i := i) (d := d) t (by simpa using e)
    exact ⟨v, by simpa using h1, h2⟩
  | _, _, _, _, .nil, e => by simp at e
theorem Reps.getV : ∀ {ds : List D} {vs : List V} {i : Nat} {v : V}, Reps K m H ds vs → vs[i]? = some v → ∃ d, ds[i]? = some d ∧ Rep K m H d v
  | _, _, 0, _, .cons h _, e => by
    simp only [List.getElem?_cons_zero, Option.some.injEq] at e
    subst e
    exact ⟨_, rfl, h⟩
  | _, _, i + 1, d, .cons _ t, e => by
    obtain ⟨v, h1, h2⟩ := Reps.getV (i := i) (v := d) t (by simpa using e)
    exact ⟨v, by simpa using h1, h2⟩
  | _, _, _, _, .nil, e => by simp at e
theorem Reps.append : ∀ {as bs : List D} {vs ws : List V}, Reps K m H as vs → Reps K m H bs ws → Reps K m H (as ++ bs) (vs ++ ws)
  | _, _, _, _, .nil, s => s
  | _, _, _, _, .cons h t, s => .cons h (Reps.append t s)
theorem Reps.one {d : D} {v : V} (h : Rep K m H d v) : Reps K m H [d] [v] := .cons h .nil
theorem Reps.take : ∀ {ds : List D} {vs : List V} (n : Nat), Reps K m H ds vs → Reps K m H (ds.take n) (vs.take n)
  | _, _, 0, _ => .nil
  | _, _, _ + 1, .nil => .nil
  | _, _, n + 1, .cons h t => .cons h (Reps.take n t)
theorem Reps.drop : ∀ {ds : List D} {vs : List V} (n : Nat), Reps K m H ds vs → Reps K m H (ds.drop n) (vs.drop n)
  | _, _, 0, r => r
  | _, _, _ + 1, .nil => .nil
  | _, _, n + 1, .cons _ t => Reps.drop n t
theorem Reps.set {d : D} {v : V} (h : Rep K m H d v) : ∀ {ds : List D} {vs : List V} (i : Nat), Reps K m H ds vs → Reps K m H (ds.set i d) (vs.set i v)
  | _, _, _, .nil => .nil
  | _, _, 0, .cons _ t => .cons h t
  | _, _, i + 1, .cons q t => .cons q (Reps.set h i t)
theorem Reps.erase : ∀ {ds : List D} {vs : List V} (i : Nat), Reps K m H ds vs → Reps K m H (ds.eraseIdx i) (vs.eraseIdx i)
  | _, _, _, .nil => .nil
  | _, _, 0, .cons _ t => t
  | _, _, i + 1, .cons q t => .cons q (Reps.erase i t)
theorem Reps.dropLast {ds : List D} {vs : List V} (r : Reps K m H ds vs) : Reps K m H ds.dropLast vs.dropLast := by
  rw [List.dropLast_eq_take, List.dropLast_eq_take, r.length]
  exact r.take _
theorem Reps.rep {ds : List D} {vs : List V} (r : Reps K m H ds vs) : ∀ n : Nat, Reps K m H (List.replicate n ds).flatten (List.replicate n vs).flatten
  | 0 => .nil
  | n + 1 => by
    simp only [List.replicate_succ, List.flatten_cons]
    exact r.append (Reps.rep r n)
theorem Reps.ints : ∀ {ds : List D} {vs : List V} {ns : List Int}, Reps K m H ds vs → intsOf ds = some ns → vs = ns.map .int
  | _, _, _, .nil, e => by simp only [intsOf, Option.some.injEq] at e; subst e; rfl
  | _, _, ns, @Reps.cons _ _ _ d ds v vs h t, e => by
    cases h <;> simp only [intsOf, reduceCtorEq] at e
    cases q : intsOf ds with
    | none => rw [q] at e; cases e
    | some ms =>
      rw [q] at e
      simp only [Option.map_some, Option.some.injEq] at e
      subst e
      rw [Reps.ints t q]; rfl
theorem Reps.bls : ∀ {ds : List D} {vs : List V} {ns : List Bool}, Reps K m H ds vs → blsOf ds = some ns → vs = ns.map .bl
  | _, _, _, .nil, e => by simp only [blsOf, Option.some.injEq] at e; subst e; rfl
  | _, _, ns, @Reps.cons _ _ _ d ds v vs h t, e => by
    cases h <;> simp only [blsOf, reduceCtorEq] at e
    cases q : blsOf ds with
    | none => rw [q] at e; cases e
    | some ms =>
      rw [q] at e
      simp only [Option.map_some, Option.some.injEq] at e
      subst e
      rw [Reps.bls t q]; rfl
theorem Reps.strs : ∀ {ds : List D} {vs : List V} {ns : List Str}, Reps K m H ds vs → strsOf ds = some ns → vs = ns.map .str
  | _, _, _, .nil, e => by simp only [strsOf, Option.some.injEq] at e; subst e; rfl
  | _, _, ns, @Reps.cons _ _ _ d ds v vs h t, e => by
    cases h <;> simp only [strsOf, reduceCtorEq] at e
    cases q : strsOf ds with
    | none => rw [q] at e; cases e
    | some ms =>
      rw [q] at e
      simp only [Option.map_some, Option.some.injEq] at e
      subst e
      rw [Reps.strs t q]; rfl
theorem Reps.ofInts : ∀ ns : List Int, Reps K m H (ns.map .int) (ns.map .int)
  | [] => .nil
  | n :: ns => .cons (.int n) (Reps.ofInts ns)
theorem Reps.ofStrs : ∀ ns : List Str, Reps K m H (ns.map .str) (ns.map .str)
  | [] => .nil
  | n :: ns => .cons (.str n) (Reps.ofStrs ns)
theorem Reps.keys : ∀ {ds : List D} {vs : List V} {ks : List Key}, Reps K m H ds vs → keysOf ds = some ks → vs = ks.map kV
  | _, _, _, .nil, e => by simp only [keysOf, Option.some.injEq] at e; subst e; rfl
  | _, _, _, @Reps.cons _ _ _ d ds v vs h t, e => by
    unfold keysOf at e
    cases q : keyOf d with
    | none => rw [q] at e; cases e
    | some k =>
      cases q2 : keysOf ds with
      | none => rw [q, q2] at e; cases e
      | some ks' =>
        rw [q, q2] at e
        simp only [Option.some.injEq] at e
        subst e
        rw [Reps.keys t q2]
        cases h <;> simp only [keyOf, reduceCtorEq, Option.some.injEq] at q <;> subst q <;> rfl
end
/-- own things at l -/
theorem HRel.at' {T : Tbs} {K : PySem.W.Frag} {m : Wd} {h : MH} {H : Hp} (r : HRel T K m h H) {l : Nat} {o : MO} (e : h[l]? = some o) : ∃ a, m.r[l]? = some a ∧ ORep K m H a o := by
  have hl : l < m.r.length := by rw [r.len]; exact (List.getElem?_eq_some_iff.mp e).1
  exact ⟨m.r[l], List.getElem?_eq_getElem hl, r.ob l o _ e (List.getElem?_eq_getElem hl)⟩
theorem HRel.of_ref {T : Tbs} {K : PySem.W.Frag} {m : Wd} {ro rw : MH} {H : Hp} (r : HRel T K m (ro ++ rw) H) {l : Nat} {o : MO} {v : V} (e : getO ro rw l = some o) (p : Rep K m H (.ref l) v) : ∃ a, v = .ref a ∧ m.r[l]? = some a ∧ ORep K m H a o := by
  cases p with
  | ref h => exact ⟨_, rfl, h, r.ob l o _ e h⟩
/-- a list as it may be read -/
theorem HRel.lst {T : Tbs} {K : PySem.W.Frag} {m : Wd} {ro rw : MH} {H : Hp} (r : HRel T K m (ro ++ rw) H) {d : D} {v : V} {xs : List D} (e : lstOf ro rw d = some xs) (p : Rep K m H d v) : ∃ a vs, v = .ref a ∧ H a = some (.lst vs) ∧ Reps K m H xs vs := by
  cases p with
  | lst h q =>
    simp only [lstOf, Option.some.injEq] at e
    subst e
    exact ⟨_, _, rfl, h.1, q⟩
  | ref h =>
    rename_i l a
    have e : (match getO ro rw l with
      | some (.lst xs) => some xs
      | _ => none) = some xs := e
    cases g : getO ro rw l with
    | none => rw [g] at e; cases e
    | some o =>
      rw [g] at e
      cases o with
      | lst ys =>
        simp only [Option.some.injEq] at e
        subst e
        obtain ⟨vs, h1, h2⟩ := r.ob l _ a g h
        exact ⟨_, _, rfl, h1, h2⟩
      | dK _ => cases e
      | dT _ => cases e
  | _ => cases e
theorem HRel.seq {T : Tbs} {K : PySem.W.Frag} {m : Wd} {ro rw : MH} {H : Hp} (r : HRel T K m (ro ++ rw) H) {d : D} {v : V} {xs : List D} (e : seqOf ro rw d = some xs) (p : Rep K m H d v) : ∃ a vs, v = .ref a ∧ (SqL K H a vs ∨ SqT K H a vs) ∧ Reps K m H xs vs := by
  cases d with
  | tup k ys =>
    simp only [seqOf, Option.some.injEq] at e
    subst e
    cases p with
    | tup h _ q => exact ⟨_, _, rfl, .inr h, q⟩
  | lst ys =>
    obtain ⟨a, vs, h1, h2, h3⟩ := r.lst (d := .lst ys) (xs := xs) e p
    exact ⟨a, vs, h1, .inl (SqL.of h2), h3⟩
  | scr ns =>
    simp only [seqOf, Option.some.injEq] at e
    subst e
    cases p with
    | scr h => exact ⟨_, _, rfl, .inl h.l, Reps.ofInts ns⟩
  | ref l =>
    obtain ⟨a, vs, h1, h2, h3⟩ := r.lst (d := .ref l) (xs := xs) e p
    exact ⟨a, vs, h1, .inl (SqL.of h2), h3⟩
  | _ => cases e
theorem Reps.one' {K : PySem.W.Frag} {m : Wd} {H : Hp} {d : D} : ∀ {vs : List V}, Reps K m H [d] vs → ∃ v, vs = [v] ∧ Rep K m H d v
  | _, .cons h .nil => ⟨_, rfl, h⟩
theorem Reps.two {K : PySem.W.Frag} {m : Wd} {H : Hp} {d e : D} : ∀ {vs : List V}, Reps K m H [d, e] vs → ∃ v u, vs = [v, u] ∧ Rep K m H d v ∧ Rep K m H e u
  | _, .cons h (.cons q .nil) => ⟨_, _, rfl, h, q⟩
theorem Reps.three {K : PySem.W.Frag} {m : Wd} {H : Hp} {d e f : D} : ∀ {vs : List V}, Reps K m H [d, e, f] vs → ∃ v u w, vs = [v, u, w] ∧ Rep K m H d v ∧ Rep K m H e u ∧ Rep K m H f w
  | _, .cons h (.cons q (.cons r .nil)) => ⟨_, _, _, rfl, h, q, r⟩
/-- a list, not a tuple -/
theorem HRel.seqL {T : Tbs} {K : PySem.W.Frag} {m : Wd} {ro rw : MH} {H : Hp} (r : HRel T K m (ro ++ rw) H) {d : D} {v : V} {xs : List D} (nt : ∀ k ys, d ≠ .tup k ys) (e : seqOf ro rw d = some xs) (p : Rep K m H d v) : ∃ a vs, v = .ref a ∧ SqL K H a vs ∧ Reps K m H xs vs := by
  cases d with
  | tup k ys => exact absurd rfl (nt k ys)
  | lst ys =>
    obtain ⟨a, vs, h1, h2, h3⟩ := r.lst (d := .lst ys) (xs := xs) e p
    exact ⟨a, vs, h1, SqL.of h2, h3⟩
  | scr ns =>
    simp only [seqOf, Option.some.injEq] at e
    subst e
    cases p with
    | scr h => exact ⟨_, _, rfl, h.l, Reps.ofInts ns⟩
  | ref l =>
    obtain ⟨a, vs, h1, h2, h3⟩ := r.lst (d := .ref l) (xs := xs) e p
    exact ⟨a, vs, h1, SqL.of h2, h3⟩
  | _ => cases e
end Mx

set_option Elab.async false
set_option linter.all false
set_option maxRecDepth 100000
set_option maxHeartbeats 1000000
/-! Mx, part C: what a reading asks at the weakest; the operators. -/
namespace Mx
open PySem L2 PySem.Spec PyProof.Rows

/-! ### an evaluation's end is met -/
def Sat {α : Type} (T : Tbs) (K : PySem.W.Frag) (ro : MH) (m : Wd) (H : Hp) (r : Res α) (P : α → MH → Wd → Hp → Prop) : Prop :=
  match r with
  | .ok a rw => ∀ m' H', Ext m H m' H' → HRel T K m' (ro ++ rw) H' → P a rw m' H'
  | _ => False
section
variable {T : Tbs} {K : PySem.W.Frag} {ro rw : MH} {m : Wd} {H : Hp}
theorem Sat.bind {α β : Type} {x : M α} {f : α → M β} {P : β → MH → Wd → Hp → Prop} (h : Sat T K ro m H (M.bind x f rw) P) :
    Sat T K ro m H (x rw) fun a rw1 m1 H1 => Sat T K ro m1 H1 (f a rw1) P := by
  unfold M.bind at h
  cases e : x rw with
  | ok a rw1 =>
    rw [e] at h
    intro m1 H1 e1 _
    have h : Sat T K ro m H (f a rw1) P := h
    show Sat T K ro m1 H1 (f a rw1) P
    cases e2 : f a rw1 with
    | ok b rw2 =>
      rw [e2] at h
      exact fun m2 H2 e3 r3 => h m2 H2 (e1.trans e3) r3
    | exc c p h' => rw [e2] at h; exact h.elim
    | err => rw [e2] at h; exact h.elim
  | exc c p h' => rw [e] at h; exact h.elim
  | err => rw [e] at h; exact h.elim
theorem Sat.mono {α : Type} {r : Res α} {P P' : α → MH → Wd → Hp → Prop} (h : Sat T K ro m H r P)
    (f : ∀ a rw m' H', Ext m H m' H' → HRel T K m' (ro ++ rw) H' → P a rw m' H' → P' a rw m' H') : Sat T K ro m H r P' := by
  cases r with
  | ok a rw => exact fun m' H' e r => f a rw m' H' e r (h m' H' e r)
  | exc c p h' => exact h
  | err => exact h
theorem Sat.lift {α : Type} {o : Option α} {P : α → MH → Wd → Hp → Prop} (h : Sat T K ro m H (M.lift o rw) P) : ∃ a, o = some a ∧ ∀ m' H', Ext m H m' H' → HRel T K m' (ro ++ rw) H' → P a rw m' H' := by
  cases o with
  | none => exact h.elim
  | some a => exact ⟨a, rfl, h⟩
theorem Sat.here {α : Type} {a : α} {P : α → MH → Wd → Hp → Prop} (h : Sat T K ro m H (.ok a rw) P) (r : HRel T K m (ro ++ rw) H) : P a rw m H := h m H (Ext.refl m H) r
theorem Sat.ok {α : Type} {a : α} {P : α → MH → Wd → Hp → Prop} (h : Sat T K ro m H (M.pure a rw) P) (r : HRel T K m (ro ++ rw) H) : P a rw m H := h m H (Ext.refl m H) r
end
/-- a value is handed on -/
def Got (T : Tbs) (K : PySem.W.Frag) (ro rw : MH) (m : Wd) (H : Hp) (d : D) (Q : VK) : Prop := ∀ m' H', Ext m H m' H' → HRel T K m' (ro ++ rw) H' → ∀ v, Rep K m' H' d v → Q v H'
section
variable {T : Tbs} {K : PySem.W.Frag} {ro rw : MH} {m : Wd} {H : Hp} {d : D} {Q : VK}
theorem Got.here (g : Got T K ro rw m H d Q) (r : HRel T K m (ro ++ rw) H) {v : V} (p : Rep K m H d v) : Q v H := g m H (Ext.refl m H) r v p
theorem ext_new {p : Addr} {o : HO} (h : H p = none) : Ext m H m (upd H p o) :=
  have old : ∀ a u, H a = some u → upd H p o a = some u := fun a u hu => by rw [upd_ne (ne_of_none hu h)]; exact hu
  ⟨⟨⟨[], by simp⟩, fun a h => .inl h, fun a u hu _ _ => ⟨u, old a u hu, rfl⟩⟩, fun a ob u hu => old a _ hu, fun a u hu _ _ => old a u hu, rfl, fun a _ u hu => old a u hu⟩
theorem ORep.ext {m' : Wd} {H' : Hp} {a : Addr} {o : MO} (e : ExtW m H m' H') (nt : NoTup m H) (same : H' a = H a) (h : ORep K m H a o) : ORep K m' H' a o := by
  cases o with
  | lst xs =>
    obtain ⟨vs, h1, h2⟩ := h
    exact ⟨vs, same.trans h1, h2.ext e nt⟩
  | dK xs =>
    obtain ⟨vs, h1, h2, h3⟩ := h
    exact ⟨vs, same.trans h1, h2, h3.ext e nt⟩
  | dT xs =>
    obtain ⟨vs, h1, h2, h3⟩ := h
    exact ⟨vs, same.trans h1, h2, h3.ext e nt⟩
theorem ORep.some {a : Addr} {o : MO} (h : ORep K m H a o) : ∃ u, H a = some u := by
  cases o with
  | lst xs => obtain ⟨vs, h1, _⟩ := h; exact ⟨_, h1⟩
  | dK xs => obtain ⟨vs, h1, _⟩ := h; exact ⟨_, h1⟩
  | dT xs => obtain ⟨vs, h1, _⟩ := h; exact ⟨_, h1⟩
theorem HRel.here {h : MH} (r : HRel T K m h H) {a : Addr} (ha : a ∈ m) : ∃ u, H a = some u := by
  rcases ha with ha | ha
  · obtain ⟨l, hl⟩ := List.mem_iff_getElem?.mp ha
    have hlt : l < h.length := by rw [← r.len]; exact (List.getElem?_eq_some_iff.mp hl).1
    exact (r.ob l _ a (List.getElem?_eq_getElem hlt) hl).some
  · obtain ⟨_, u, e, _⟩ := r.hid a ha
    exact ⟨u, e⟩
/-- all own things as they stood -/
theorem HRel.same {h : MH} {H' : Hp} (r : HRel T K m h H) (e : ExtW m H m H') (same : ∀ a ∈ m, H' a = H a) (tb : LamX.Tabs T H') : HRel T K m h H' :=
  ⟨tb, r.len, r.nd, fun a ha => ⟨(r.hid a ha).1, by rw [same a (.inr ha)]; exact (r.hid a ha).2⟩, fun l o a h1 h2 => (r.ob l o a h1 h2).ext e r.noTup (same a (.inl (List.mem_of_getElem? h2)))⟩
theorem HRel.new {h : MH} (r : HRel T K m h H) {p : Addr} {o : HO} (hp : H p = none) : HRel T K m h (upd H p o) :=
  r.same (ext_new hp).toExtW (fun a ha => by
    obtain ⟨u, hu⟩ := r.here ha
    rw [upd_ne (ne_of_none hu hp)]) (r.tabs.ext fun b u hb => by rw [upd_ne (ne_of_none hb hp)]; exact hb)
theorem HRel.notin {h : MH} (r : HRel T K m h H) {p : Addr} (hp : H p = none) : p ∉ m := fun z => by
  obtain ⟨u, hu⟩ := r.here z
  rw [hp] at hu; cases hu
/-- a new tuple, a new list that stays as it is -/
theorem Got.tup {k : Bool} {xs : List D} {vs : List V} (g : Got T K ro rw m H (.tup k xs) Q) (r : HRel T K m (ro ++ rw) H) (p : Reps K m H xs vs) (q : Addr) (hq : H q = none) : Q (.ref q) (upd H q (.tup vs)) :=
  g m _ (ext_new hq) (r.new hq) _ (.tup (.inl (.inl upd_same)) (fun _ => upd_same) (p.ext (ext_new hq).toExtW r.noTup))
theorem Got.lst {xs : List D} {vs : List V} (g : Got T K ro rw m H (.lst xs) Q) (r : HRel T K m (ro ++ rw) H) (p : Reps K m H xs vs) (q : Addr) (hq : H q = none) : Q (.ref q) (upd H q (.lst vs)) :=
  g m _ (ext_new hq) (r.new hq) _ (.lst ⟨upd_same, r.notin hq⟩ (p.ext (ext_new hq).toExtW r.noTup))
end

/-! ### the weakest readings -/
section
variable (X : Cx)
def wE (e : Expr) : TE := fun σ H Q => ∀ (pins : List (Addr × Obj)) (s : Shared), Inv X pins σ H s → wpAny (model X.prog X.w) X.A (eval e X.env) (EP X pins σ Q) X.xe s
def wT (e : Expr) : TT := fun σ H Q => ∀ (pins : List (Addr × Obj)) (s : Shared), Inv X pins σ H s → wpAny (model X.prog X.w) X.A (isTrue e X.env (eval e X.env)) (TP X pins σ Q) X.xe s
def wO (f : Value → Value → Sem Value) : R2 := fun x y H Q => ∀ (pins : List (Addr × Obj)) (s : Shared) (σ : L2.St) (v u : Value), Inv X pins σ H s → RelV x v → RelV y u → wpAny (model X.prog X.w) X.A (f v u) (EP X pins σ Q) X.xe s
def wU (f : Value → Sem Value) : V → Hp → VK → Prop := fun x H Q => ∀ (pins : List (Addr × Obj)) (s : Shared) (σ : L2.St) (v : Value), Inv X pins σ H s → RelV x v → wpAny (model X.prog X.w) X.A (f v) (EP X pins σ Q) X.xe s
def wC (f : Value) : List V → Hp → VK → Prop := fun xs H Q => ∀ (pins : List (Addr × Obj)) (s : Shared) (σ : L2.St) (us : List Value), Inv X pins σ H s → Vals xs us → wpAny (model X.prog X.w) X.A (call f us) (EP X pins σ Q) X.xe s
def wS (st : Stmt) : TS := fun D σ H => ∀ (pins : List (Addr × Obj)) (s : Shared), Inv X pins σ H s → wpAny (model X.prog X.w) X.A (exec st X.env) (SP X pins D) X.xe s
def wSs (st : List Stmt) : TS := fun D σ H => ∀ (pins : List (Addr × Obj)) (s : Shared), Inv X pins σ H s → wpAny (model X.prog X.w) X.A (execs st X.env) (SP X pins D) X.xe s
def wA (es : List Expr) : TA := fun σ H Q => ∀ (pos : Pos) (pins : List (Addr × Obj)) (s : Shared), Inv X pins σ H s → wpAny (model X.prog X.w) X.A (spliced (backTo pos (starEach es X.env))) (AP X pins σ Q) X.xe s
end
section
variable {X : Cx} {e : Expr}
theorem pe_w : PE X e (wE X e) := ⟨fun pins s σ H Q I h => h pins s I⟩
theorem pt_w : PT X e (wT X e) := ⟨fun pins s σ H Q I h => h pins s I⟩
theorem ps_w {st : Stmt} : PS X st (wS X st) := ⟨fun pins s σ H D I h => h pins s I⟩
theorem pss_w {st : List Stmt} : PSs X st (wSs X st) := ⟨fun pins s σ H D I h => h pins s I⟩
theorem pa_w {es : List Expr} : PA X es (wA X es) := ⟨fun pos pins s σ H Q I h => h pos pins s I⟩
theorem op_w {f : Value → Value → Sem Value} : OpR X f (wO X f) := fun pins s σ H x y v u Q I rx ry h => h pins s σ v u I rx ry
theorem un_w {f : Value → Sem Value} : UnR X f (wU X f) := fun pins s σ H x v Q I rx h => h pins s σ v I rx
theorem call_w {f : Value} : CallR X f (wC X f) := fun pins s σ H xs us Q I r h => h pins s σ us I r
theorem PE.le {t : TE} (h : PE X e t) {σ : L2.St} {H : Hp} {Q : VK} (q : t σ H Q) : wE X e σ H Q := fun pins s I => h.run pins s σ H Q I q
theorem PT.le {t : TT} (h : PT X e t) {σ : L2.St} {H : Hp} {Q : Bool → Hp → Prop} (q : t σ H Q) : wT X e σ H Q := fun pins s I => h.run pins s σ H Q I q
theorem PS.le {st : Stmt} {t : TS} (h : PS X st t) {σ : L2.St} {H : Hp} {D : Ends} (q : t D σ H) : wS X st D σ H := fun pins s I => h.run pins s σ H D I q
theorem PSs.le {st : List Stmt} {t : TS} (h : PSs X st t) {σ : L2.St} {H : Hp} {D : Ends} (q : t D σ H) : wSs X st D σ H := fun pins s I => h.run pins s σ H D I q
theorem PA.le {es : List Expr} {t : TA} (h : PA X es t) {σ : L2.St} {H : Hp} {Q : List V → Hp → Prop} (q : t σ H Q) : wA X es σ H Q := fun pos pins s I => h.run pos pins s σ H Q I q
theorem OpR.le {f : Value → Value → Sem Value} {r : R2} (h : OpR X f r) {x y : V} {H : Hp} {Q : VK} (q : r x y H Q) : wO X f x y H Q := fun pins s σ v u I rx ry => h pins s σ H x y v u Q I rx ry q
theorem CallR.le {f : Value} {r : List V → Hp → VK → Prop} (h : CallR X f r) {xs : List V} {H : Hp} {Q : VK} (q : r xs H Q) : wC X f xs H Q := fun pins s σ us I rx => h pins s σ H xs us Q I rx q
end

/-! ### the operators -/
def opOf : BO → Operator
  | .add => .Add
  | .sub => .Sub
  | .mul => .Mult
  | .fdiv => .FloorDiv
  | .mod => .Mod
  | .pow => .Pow
theorem line_ok {n : Nat} (h : lineOk n = true) : n ≤ sizeLine := by
  have := of_decide_eq_true h
  rw [sizeLine_eq]; exact this
theorem bits_of {i : Int} (h : i.natAbs.log2 < 500000) : Builtin.Int.intBits i ≤ 2 ^ 20 := by
  unfold Builtin.Int.intBits
  split
  · exact Nat.zero_le _
  · have e : (2 : Nat) ^ 20 = 1048576 := by decide
    omega
section
variable {T : Tbs} {X : Cx} {ro rw : MH} {m : Wd} {H : Hp} {Q : VK}
/-! a tuple times 1, times what is not above 0, an empty one -/
theorem tmul_same (l : Addr) (items : Array Value) (n : Nat) (dd : Option Addr) (sl : Array (Option Value)) (x : Int) (u : Tok) (c0 : (decide (x < -(2 ^ 63)) || decide (x ≥ 2 ^ 63)) = false) (c1 : (items.isEmpty || x == 1) = true) :
    Meets (Builtin.«tuple.__mul__» ⟨[.ref l, .int x u], []⟩) (fun _ R s => s.heap.get? l = some { cls := .type "tuple", dict := dd, data := .seq items n, slots := sl } ∧ R (.ok (.ret (Value.ref l))) s) :=
  .of_wp fun prog w A R s h => by
    obtain ⟨hp, g, d, tk, os⟩ := s
    obtain ⟨hl, h⟩ := h
    have ix := AutoSeq1.idx_int
    wp_walk using wpAny_loadPart' hl
    repeat (first
      | (refine wpAny_ite_false (decide_eq_false (by rw [c0]; exact Bool.false_ne_true)) ?_; wp_walk using wpAny_loadPart' hl)
      | (refine wpAny_ite_true (decide_eq_true c1) ?_; wp_walk using wpAny_loadPart' hl))
    exact ⟨_, rfl, h⟩
theorem tmul_none (l : Addr) (items : Array Value) (n : Nat) (dd : Option Addr) (sl : Array (Option Value)) (x : Int) (u : Tok) (c0 : (decide (x < -(2 ^ 63)) || decide (x ≥ 2 ^ 63)) = false) (c1 : (items.isEmpty || x == 1) = false) (c2 : (decide (x ≤ 0) || items.isEmpty) = true) :
    Meets (Builtin.«tuple.__mul__» ⟨[.ref l, .int x u], []⟩) (fun _ R s => s.heap.get? l = some { cls := .type "tuple", dict := dd, data := .seq items n, slots := sl } ∧
      R (.ok (.ret (Value.ref s.heap.objs.size))) { s with heap := s.heap.push { cls := Value.type "tuple", data := Data.seq #[] }, toks := s.toks }) :=
  .of_wp fun prog w A R s h => by
    obtain ⟨hp, g, d, tk, os⟩ := s
    obtain ⟨hl, h⟩ := h
    have ix := AutoSeq1.idx_int
    wp_walk using wpAny_loadPart' hl
    repeat (first
      | (refine wpAny_ite_false (decide_eq_false (by rw [c0]; exact Bool.false_ne_true)) ?_; wp_walk using wpAny_loadPart' hl)
      | (refine wpAny_ite_false (decide_eq_false (by rw [c1]; exact Bool.false_ne_true)) ?_; wp_walk using wpAny_loadPart' hl)
      | (refine wpAny_ite_true (decide_eq_true c2) ?_; wp_walk using wpAny_loadPart' hl))
    exact ⟨_, rfl, h⟩
theorem op_tmul {X : Cx} : OpR X (binaryOp .Mult) (fun x y H Q => ∃ l k xs, x = .ref l ∧ y = .int k ∧ SqT X.K H l xs ∧ k ≤ 1000 ∧ -1000 ≤ k ∧ xs.length ≤ 1000 ∧
    ((xs = [] ∨ k = 1) → Q (.ref l) H) ∧ (xs ≠ [] → k ≠ 1 → ∀ p, H p = none → Q (.ref p) (upd H p (.tup (List.replicate k.toNat xs).flatten)))) := by
  intro pins s σ H x y v u Q I rx ry h
  obtain ⟨l, k, xs, rfl, rfl, hT, h1, h0, hz, q1, q2⟩ := h
  have c0 : (decide (k < -(2 ^ 63)) || decide (k ≥ 2 ^ 63)) = false := by
    rw [decide_eq_false (by omega), decide_eq_false (by omega)]; rfl
  have empt : ∀ its : List Value, Vals xs its → (its.toArray.isEmpty = true ↔ xs = []) := fun its r => by
    cases r with
    | nil => simp
    | cons _ _ => simp
  by_cases same : xs = [] ∨ k = 1
  · cases rx
    obtain ⟨t, rfl⟩ := ry
    obtain ⟨its, r, ⟨⟨cls, dd, data, sl⟩, ho, hc, n, hd⟩, hs⟩ := I.tuple hT
    simp only at hc hd
    subst hc hd
    have c1 : (its.toArray.isEmpty || k == 1) = true := by
      rcases same with e | e
      · rw [(empt its r).mpr e]; rfl
      · rw [e]; exact Bool.or_true _
    exact wpAny_binaryOp_repeat_ref (T := "tuple") (U := "int") (by decide) ⟨_, ho, rfl⟩ (fun s' => typeIs_int s' k t) noFill_tuple_mul F.fills_int_mul F.slot_int_rmul repeat_tuple F.slot_int_index.lookup
      (call_meets F.slot_int_rmul (typeIs_int s k t) F.entry_int_rmul (F.args_int_rmul_2 _ _) (int_rmul_tuple k t l its.toArray n dd sl)
        ⟨ho, rfl, ⟨_, ho, rfl⟩, call_meets F.slot_tuple_mul ⟨_, ho, rfl⟩ F.entry_tuple_mul (F.args_tuple_mul_2 _ _) (tmul_same l its.toArray n dd sl k t c0 c1) ⟨ho, ⟨.ref l, H, I, rfl, q1 same⟩⟩⟩)
  · have ne : xs ≠ [] := fun e => same (.inl e)
    have n1 : k ≠ 1 := fun e => same (.inr e)
    by_cases big : 2 ≤ k
    · exact op_repT pins s σ H _ _ v u Q I rx ry ⟨l, k, xs, rfl, rfl, hT, ne, big, h1, hz, q2 ne n1⟩
    · cases rx
      obtain ⟨t, rfl⟩ := ry
      obtain ⟨its, r, ⟨⟨cls, dd, data, sl⟩, ho, hc, n, hd⟩, hs⟩ := I.tuple hT
      simp only at hc hd
      subst hc hd
      have he : its.toArray.isEmpty = false := by
        cases q : its.toArray.isEmpty with
        | false => rfl
        | true => exact absurd ((empt its r).mp q) ne
      have c1 : (its.toArray.isEmpty || k == 1) = false := by
        rw [he, Bool.false_or]
        exact beq_eq_false_iff_ne.mpr n1
      have c2 : (decide (k ≤ 0) || its.toArray.isEmpty) = true := by
        rw [decide_eq_true (by omega)]; rfl
      have k0 : k.toNat = 0 := by omega
      have q3 := q2 ne n1
      rw [k0] at q3
      exact wpAny_binaryOp_repeat_ref (T := "tuple") (U := "int") (by decide) ⟨_, ho, rfl⟩ (fun s' => typeIs_int s' k t) noFill_tuple_mul F.fills_int_mul F.slot_int_rmul repeat_tuple F.slot_int_index.lookup
        (call_meets F.slot_int_rmul (typeIs_int s k t) F.entry_int_rmul (F.args_int_rmul_2 _ _) (int_rmul_tuple k t l its.toArray n dd sl)
          ⟨ho, rfl, ⟨_, ho, rfl⟩, call_meets F.slot_tuple_mul ⟨_, ho, rfl⟩ F.entry_tuple_mul (F.args_tuple_mul_2 _ _) (tmul_none l its.toArray n dd sl k t c0 c1 c2) ⟨ho,
            ⟨.ref s.heap.objs.size, _, I.laid (t' := s.toks) (o := .tup []) (fun b ob q => Heap.get?_push_of_some _ q) (Nat.le_refl _) ⟨Nat.zero_le _, [], .nil, IsTup.new _ _⟩, rfl, q3 _ I.fresh⟩⟩⟩)
end
end Mx

set_option Elab.async false
set_option linter.all false
set_option maxRecDepth 100000
set_option maxHeartbeats 2000000
/-! Mx, part D: the operators by values. -/
namespace Mx
open PySem L2 PySem.Spec PyProof.Rows

/-- what holds wherever the code runs: k calls deep may be gone -/
structure Ctx (X : Cx) (k : Nat) : Prop where
  nd : X.N.Nodup
  calm : X.calm = true
  room : Room k X.A
  guards : X.A.guards = some []
theorem Ctx.hu {X : Cx} {k : Nat} (c : Ctx X k) : X.A.units + 200 < cLine := by have := c.room.un; omega

section
variable {T : Tbs} {K : PySem.W.Frag} {ro rw : MH} {m : Wd} {H : Hp}
/-- plain data as the library reads it -/
theorem toPy_dp (hr : HRel T K m (ro ++ rw) H) : ∀ (n : Nat) (d : D) (v : V) (p : PyData), Rep K m H d v → toPy ro rw n d = some p → Dp K H v p := by
  intro n
  induction n with
  | zero => intro d v p _ e; cases e
  | succ n ih =>
    have all : ∀ (xs : List D) (vs : List V) (ps : List PyData), Reps K m H xs vs → xs.mapM (toPy ro rw n) = some ps → DpAll K H vs ps := by
      intro xs
      induction xs with
      | nil =>
        intro vs ps r e
        cases r
        simp only [List.mapM_nil, Option.pure_def, Option.some.injEq] at e
        subst e
        exact .nil
      | cons x xs ihx =>
        intro vs ps r e
        cases r with
        | cons h t =>
          rw [List.mapM_cons] at e
          cases e1 : toPy ro rw n x with
          | none => rw [e1] at e; cases e
          | some p1 =>
            cases e2 : xs.mapM (toPy ro rw n) with
            | none => rw [e1, e2] at e; cases e
            | some ps1 =>
              rw [e1, e2] at e
              have e3 : some (p1 :: ps1) = some ps := e
              cases e3
              exact .cons (ih _ _ _ h e1) (ihx _ _ t e2)
    intro d v p r e
    cases r with
    | non => cases e; exact .non
    | bl b => cases e; exact .bl b
    | int i => cases e; exact .int i
    | str x => cases e; exact .str x
    | @tup k a xs vs hq _ hs =>
      have e : (xs.mapM (toPy ro rw n)).map PyData.tuple = some p := e
      obtain ⟨ps, e1, e2⟩ := Option.map_eq_some_iff.mp e
      subst e2
      exact .tup hq (all _ _ _ hs e1)
    | @lst a xs vs hq hs =>
      have e : (xs.mapM (toPy ro rw n)).map PyData.list = some p := e
      obtain ⟨ps, e1, e2⟩ := Option.map_eq_some_iff.mp e
      subst e2
      exact .lst (SqL.of hq.1) (all _ _ _ hs e1)
    | @ref l a hl =>
      have e : (match getO ro rw l with
        | some (.lst xs) => (xs.mapM (toPy ro rw n)).map PyData.list
        | _ => none) = some p := e
      cases g : getO ro rw l with
      | none => rw [g] at e; cases e
      | some o =>
        rw [g] at e
        cases o with
        | lst xs =>
          have e : (xs.mapM (toPy ro rw n)).map PyData.list = some p := e
          obtain ⟨ps, e1, e2⟩ := Option.map_eq_some_iff.mp e
          subst e2
          obtain ⟨vs, h1, h2⟩ := hr.ob l _ a g hl
          exact .lst (SqL.of h1) (all _ _ _ h2 e1)
        | dK _ => cases e
        | dT _ => cases e
    | _ => cases e
end

section
variable {T : Tbs} {X : Cx} {k : Nat} {ro rw : MH} {m : Wd} {H : Hp} {Q : VK} {x y d : D} {v u : V}
theorem binop_ok (hr : HRel T X.K m (ro ++ rw) H) {op : BO} (px : Rep X.K m H x v) (py : Rep X.K m H y u) (e : binop ro rw op x y = some d) (g : Got T X.K ro rw m H d Q) : wO X (binaryOp (opOf op)) v u H Q := by
  unfold binop at e
  split at e
  · cases e; cases px; cases py
    exact OpR.le op_add ⟨_, _, rfl, rfl, g.here hr (.int _)⟩
  · cases e; cases px; cases py
    exact OpR.le op_sub ⟨_, _, rfl, rfl, g.here hr (.int _)⟩
  · split at e
    · rename_i c
      cases e; cases px; cases py
      have c2 := Bool.and_eq_true_iff.mp c
      exact OpR.le (opI (C := IntMulOk) fun _ _ _ _ _ _ _ hc q => mul_int q hc) ⟨_, _, rfl, rfl, IntMulOk.of_bits (bits_of (of_decide_eq_true c2.1)) (bits_of (of_decide_eq_true c2.2)), g.here hr (.int _)⟩
    · cases e
  · split at e
    · rename_i c
      cases e; cases px; cases py
      have c2 := Bool.and_eq_true_iff.mp c
      exact OpR.le (opI (C := fun _ j => j ≠ 0 ∧ j.natAbs.log2 < 9000) fun _ _ _ _ _ _ _ hc q => floordiv_int hc.1 q (.inl (PyProof.noPylong_of_log2 hc.2))) ⟨_, _, rfl, rfl, ⟨of_decide_eq_true c2.1, of_decide_eq_true c2.2⟩, g.here hr (.int _)⟩
    · cases e
  · split at e
    · rename_i c
      cases e; cases px; cases py
      exact OpR.le op_modN ⟨_, _, rfl, rfl, of_decide_eq_true c, g.here hr (.int _)⟩
    · cases e
  · split at e
    · rename_i c
      cases e; cases px; cases py
      simp only [Bool.and_eq_true, decide_eq_true_eq] at c
      exact OpR.le op_pow ⟨_, _, rfl, rfl, ⟨c.1.1, c.1.2, c.2⟩, g.here hr (.int _)⟩
    · cases e
  · split at e
    · rename_i c
      cases e; cases px; cases py
      exact OpR.le op_add_str ⟨_, _, rfl, rfl, line_ok c, g.here hr (.str _)⟩
    · cases e
  · split at e
    · rename_i kx xs ky ys c
      cases e
      cases px with
      | @tup _ a _ vs hq ht hs =>
        cases py with
        | @tup _ b _ us hq2 ht2 hs2 =>
          have z := line_ok c
          rw [hs.length, hs2.length] at z
          refine OpR.le op_catA ⟨a, b, vs, us, rfl, rfl, hq, hq2, z, fun q => ?_, fun _ q => ?_, fun _ _ p hp => g.tup hr (hs.append hs2) p hp⟩
          · subst q
            cases hs
            exact g.here hr (.tup hq2 (fun z => ht2 (Bool.and_eq_true_iff.mp z).2) hs2)
          · subst q
            cases hs2
            refine g.here hr (.tup hq (fun z => ht (Bool.and_eq_true_iff.mp z).1) ?_)
            rw [List.append_nil]
            exact hs
    · cases e
  · split at e
    · rename_i ex ey
      split at e
      · rename_i c
        cases e
        obtain ⟨a, vs, rfl, h1, h2⟩ := hr.lst ex px
        obtain ⟨b, us, rfl, h3, h4⟩ := hr.lst ey py
        have z := line_ok c
        rw [h2.length, h4.length] at z
        exact OpR.le op_cat ⟨a, b, vs, us, rfl, rfl, h1, h3, z, fun p hp => g.lst hr (h2.append h4) p hp⟩
      · cases e
    · cases e
  · split at e
    · rename_i c
      cases e
      simp only [Bool.and_eq_true, decide_eq_true_eq] at c
      cases py
      cases px with
      | @tup _ a _ vs hq ht hs =>
        have hl := hs.length
        refine OpR.le op_tmul ⟨a, _, vs, rfl, rfl, hq, c.1.2, c.1.1, by omega, fun q => ?_, fun _ _ p hp => g.tup hr (hs.rep _) p hp⟩
        have same : ∀ {zs : List D}, Reps X.K m H zs vs → Rep X.K m H (.tup _ zs) (.ref a) := fun r => .tup hq ht r
        refine g.here hr (same ?_)
        rcases q with q | q
        · subst q
          cases hs
          have : ∀ n : Nat, (List.replicate n ([] : List D)).flatten = [] := fun n => by
            induction n with
            | zero => rfl
            | succ n ih => rw [List.replicate_succ, List.flatten_cons, ih]; rfl
          rw [this]
          exact .nil
        · subst q
          simpa using hs
    · cases e
  · split at e
    · rename_i ex
      split at e
      · rename_i c
        cases e
        simp only [Bool.and_eq_true, decide_eq_true_eq] at c
        cases py
        obtain ⟨a, vs, rfl, h1, h2⟩ := hr.lst ex px
        have hl := h2.length
        refine OpR.le op_rep ⟨a, _, vs, rfl, rfl, h1, by omega, by omega, ?_, fun p hp => g.lst hr (h2.rep _) p hp⟩
        rw [sizeLine_eq]
        have hk : ∀ kk : Int, kk ≤ 1000 → vs.length * kk.toNat ≤ 16777216 := fun kk h => by
          have : vs.length * kk.toNat ≤ 1000 * 1000 := Nat.mul_le_mul (by omega) (by omega)
          omega
        exact hk _ c.1.2
      · cases e
    · cases e
  · cases e

/-! ### dicts -/
/-- a dict at a -/
def DRep (K : PySem.W.Frag) (m : Wd) (H : Hp) (a : Addr) : Dc → Prop
  | .k kvs => ∃ ws : List (Key × V), Rd H a (.dK ws) ∧ kvs.map (·.1) = ws.map (·.1) ∧ Reps K m H (kvs.map (·.2)) (ws.map (·.2))
  | .t kvs => ∃ ws : List (List Key × V), Rd H a (.dT ws) ∧ kvs.map (·.1) = ws.map (·.1) ∧ Reps K m H (kvs.map (·.2)) (ws.map (·.2))
theorem dic_at {K : PySem.W.Frag} (hr : HRel T K m (ro ++ rw) H) {dc : Dc} (e : dicOf ro rw y = some dc) (p : Rep K m H y u) : ∃ a, u = .ref a ∧ DRep K m H a dc := by
  cases p with
  | dK h1 h2 h3 h4 => cases e; exact ⟨_, rfl, _, h1, h3, h4⟩
  | dT h1 h2 h3 h4 => cases e; exact ⟨_, rfl, _, h1, h3, h4⟩
  | @ref l a hl =>
    have e : (match getO ro rw l with
      | some (.dK kvs) => some (Dc.k kvs)
      | some (.dT kvs) => some (Dc.t kvs)
      | _ => none) = some dc := e
    cases g : getO ro rw l with
    | none => rw [g] at e; cases e
    | some o =>
      rw [g] at e
      have q := hr.ob l o a g hl
      cases o with
      | lst _ => cases e
      | dK kvs => cases e; obtain ⟨ws, h1, h2, h3⟩ := q; exact ⟨a, rfl, ws, .inl h1, h2, h3⟩
      | dT kvs => cases e; obtain ⟨ws, h1, h2, h3⟩ := q; exact ⟨a, rfl, ws, .inl h1, h2, h3⟩
  | _ => cases e
/-- what is found, where it is found -/
def ORel (K : PySem.W.Frag) (m : Wd) (H : Hp) : Option D → Option V → Prop
  | some d, some v => Rep K m H d v
  | none, none => True
  | _, _ => False
theorem ORel.isSome {K : PySem.W.Frag} {o : Option D} {o' : Option V} (h : ORel K m H o o') : o'.isSome = o.isSome := by
  cases o <;> cases o' <;> first | rfl | exact h.elim
theorem kget_val {K : PySem.W.Frag} {κ : Type} [DecidableEq κ] (k : κ) : ∀ {kvs : List (κ × D)} {ws : List (κ × V)}, kvs.map (·.1) = ws.map (·.1) → Reps K m H (kvs.map (·.2)) (ws.map (·.2)) → ORel K m H (kget kvs k) (valV ws k)
  | [], [], _, _ => True.intro
  | [], _ :: _, e, _ => nomatch e
  | _ :: _, [], e, _ => nomatch e
  | p :: kvs, q :: ws, e, r => by
    simp only [List.map_cons, List.cons.injEq] at e
    simp only [List.map_cons] at r
    cases r with
    | cons h t =>
      unfold kget
      by_cases z : p.1 = k
      · rw [if_pos z, valV_pos (by rw [← e.1]; exact z)]
        exact h
      · rw [if_neg z, valV_neg (by rw [← e.1]; exact z)]
        exact kget_val k e.2 t
theorem dget_at {K : PySem.W.Frag} {dc : Dc} {a : Addr} {o : Option D} (h : DRep K m H a dc) (e : dget dc x = some o) (p : Rep K m H x v) : ∃ o', DGet H a v o' ∧ ORel K m H o o' := by
  cases dc with
  | k kvs =>
    obtain ⟨ws, h1, h2, h3⟩ := h
    have e : (keyOf x).map (kget kvs) = some o := e
    obtain ⟨k, ek, eo⟩ := Option.map_eq_some_iff.mp e
    subst eo
    refine ⟨valV ws k, .inl ⟨ws, k, h1, ?_, rfl⟩, kget_val k h2 h3⟩
    cases p <;> simp only [keyOf, reduceCtorEq, Option.some.injEq] at ek <;> subst ek <;> rfl
  | t kvs =>
    obtain ⟨ws, h1, h2, h3⟩ := h
    cases p with
    | @tup c b xs vs hq ht hs =>
      cases c with
      | false => cases e
      | true =>
        have e : (keysOf xs).map (kget kvs) = some o := e
        obtain ⟨k, ek, eo⟩ := Option.map_eq_some_iff.mp e
        subst eo
        refine ⟨valV ws k, .inr ⟨ws, k, b, h1, rfl, ?_, rfl⟩, kget_val k h2 h3⟩
        rw [← hs.keys ek]
        exact ht rfl
    | _ => cases e
/-! ### comparisons -/
def cOf : CO → CmpOp
  | .eq => .Eq
  | .ne => .NotEq
  | .lt => .Lt
  | .le => .LtE
  | .gt => .Gt
  | .ge => .GtE
  | .isin => .In
  | .notin => .NotIn
  | .is_ => .Is
  | .isnot => .IsNot
theorem eqD_at (hr : HRel T X.K m (ro ++ rw) H) {b : Bool} (e : eqD ro rw x y = some b) (px : Rep X.K m H x v) (py : Rep X.K m H y u) : ∃ d e, Dp X.K H v d ∧ Dp X.K H u e ∧ SeqAt.shaped d = true ∧ SeqAt.shaped e = true ∧ PyData.eqv d e = b := by
  unfold eqD at e
  split at e
  · rename_i p q ep eq
    split at e
    · rename_i c
      cases e
      have c := Bool.and_eq_true_iff.mp c
      exact ⟨p, q, toPy_dp hr _ _ _ _ px ep, toPy_dp hr _ _ _ _ py eq, c.1, c.2, rfl⟩
    · cases e
  · cases e
theorem isSame_at {b : Bool} (e : isSame x y = some b) (px : Rep X.K m H x v) (py : Rep X.K m H y u) : u = .non ∧ decide (v = .non) = b := by
  unfold isSame at e
  split at e
  · cases py
    simp only [Option.some.injEq] at e
    subst e
    refine ⟨rfl, ?_⟩
    cases px <;> rfl
  · cases e
theorem inPy_at (c : Ctx X k) (hr : HRel T X.K m (ro ++ rw) H) {b : Bool} {d e : PyData} (hd : Dp X.K H v d) (he : Dp X.K H u e) (q : inPy d e = some b) :
    (Q (.bl b) H → wO X (compareOp .In) v u H Q) ∧ (Q (.bl (!b)) H → wO X (compareOp .NotIn) v u H Q) := by
  have hu : X.A.units + 65 < cLine := by have := c.hu; omega
  cases e with
  | list ds =>
    have q : (if SeqAt.shaped d && SeqAt.shaped (.list ds) then some (ds.any fun z => PyData.eqv z d) else none) = some b := q
    split at q
    · rename_i s
      cases q
      have s := Bool.and_eq_true_iff.mp s
      exact ⟨fun g => OpR.le (op_inD hu) ⟨d, ds, hd, he, s.1, s.2, g⟩, fun g => OpR.le (op_notInD hu) ⟨d, ds, hd, he, s.1, s.2, g⟩⟩
    · cases q
  | tuple ds =>
    have q : (if SeqAt.shaped d && SeqAt.shaped (.tuple ds) then some (ds.any fun z => PyData.eqv z d) else none) = some b := q
    split at q
    · rename_i s
      cases q
      have s := Bool.and_eq_true_iff.mp s
      refine ⟨fun g => ?_, fun g => ?_⟩ <;> intro pins s0 σ v' u' I rx ry
      · obtain ⟨as, r1⟩ := Dp.reads I d v v' hd rx
        obtain ⟨bs, r2⟩ := Dp.reads I (.tuple ds) u u' he ry
        exact SeqAt.in_tuple_reads r2 r1 (SeqAt.canLay_of_shaped s.2) (SeqAt.canLay_of_shaped s.1) (room_in_shaped s.1 hu) ⟨.bl _, H, I, rfl, g⟩
      · obtain ⟨as, r1⟩ := Dp.reads I d v v' hd rx
        obtain ⟨bs, r2⟩ := Dp.reads I (.tuple ds) u u' he ry
        exact SeqAt.notIn_tuple_reads r2 r1 (SeqAt.canLay_of_shaped s.2) (SeqAt.canLay_of_shaped s.1) (room_in_shaped s.1 hu) ⟨.bl _, H, I, rfl, g⟩
    · cases q
  | _ => cases q
theorem isin_at (c : Ctx X k) (hr : HRel T X.K m (ro ++ rw) H) {b : Bool} (e : isinD ro rw x y = some b) (px : Rep X.K m H x v) (py : Rep X.K m H y u) :
    (Q (.bl b) H → wO X (compareOp .In) v u H Q) ∧ (Q (.bl (!b)) H → wO X (compareOp .NotIn) v u H Q) := by
  have hu : X.A.units + 1 < cLine := by have := c.hu; omega
  unfold isinD at e
  cases ed : dicOf ro rw y with
  | some dc =>
    rw [ed] at e
    obtain ⟨o, eo, eb⟩ := Option.map_eq_some_iff.mp e
    obtain ⟨a, rfl, h⟩ := dic_at hr ed py
    obtain ⟨o', g1, g2⟩ := dget_at h eo px
    have eb2 : o'.isSome = b := g2.isSome.trans eb
    subst eb2
    refine ⟨fun g => ?_, fun g => ?_⟩ <;> intro pins s0 σ v' u' I rx ry
    · cases ry
      exact d_in hu I g1 rx fun s' I' => ⟨.bl _, H, I', rfl, g⟩
    · cases ry
      exact d_notIn hu I g1 rx fun s' I' => ⟨.bl _, H, I', rfl, g⟩
  | none =>
    rw [ed] at e
    cases ex : toPy ro rw deep x with
    | none => rw [ex] at e; cases e
    | some d =>
      cases ey : toPy ro rw deep y with
      | none => rw [ex, ey] at e; cases e
      | some d' =>
        rw [ex, ey] at e
        exact inPy_at c hr (toPy_dp hr _ _ _ _ px ex) (toPy_dp hr _ _ _ _ py ey) e
theorem sign_at {b : Bool} (e : signIn x y = some b) (px : Rep X.K m H x v) (py : Rep X.K m H y u) (g : Q (.bl b) H) : wO X (compareOp .In) v u H Q := by
  unfold signIn at e
  split at e
  · rename_i s t
    split at e
    · rename_i z
      cases e; cases px; cases py
      have z := of_decide_eq_true z
      refine OpR.le op_in_sign ⟨s.cps.getD 0 0, t, ?_, rfl, g⟩
      obtain ⟨⟨l⟩⟩ := s
      match l, z with
      | [c], _ => rfl
    · cases e
  · cases e
theorem cmpop_ok (c : Ctx X k) (hr : HRel T X.K m (ro ++ rw) H) {op : CO} {b : Bool} (px : Rep X.K m H x v) (py : Rep X.K m H y u) (e : cmpop ro rw op x y = some b) (g : Q (.bl b) H) : wO X (compareOp (cOf op)) v u H Q := by
  have hu : X.A.units + 64 < cLine := by have := c.hu; omega
  unfold cmpop at e
  split at e
  · obtain ⟨d, e', h1, h2, h3, h4, rfl⟩ := eqD_at hr e px py
    exact OpR.le (op_eqD hu) ⟨d, e', h1, h2, h3, h4, g⟩
  · obtain ⟨b', eb, rfl⟩ := Option.map_eq_some_iff.mp e
    obtain ⟨d, e', h1, h2, h3, h4, rfl⟩ := eqD_at hr eb px py
    exact OpR.le (op_neD hu) ⟨d, e', h1, h2, h3, h4, g⟩
  · cases e; cases px; cases py
    exact OpR.le op_lt ⟨_, _, rfl, rfl, g⟩
  · cases e; cases px; cases py
    exact OpR.le op_le ⟨_, _, rfl, rfl, g⟩
  · cases e; cases px; cases py
    exact OpR.le op_gt ⟨_, _, rfl, rfl, g⟩
  · cases e; cases px; cases py
    exact OpR.le op_ge ⟨_, _, rfl, rfl, g⟩
  · cases e; cases px; cases py
    exact OpR.le op_lt_str ⟨_, _, rfl, rfl, g⟩
  · split at e
    · rename_i b' eb
      cases e
      exact sign_at eb px py g
    · exact (isin_at c hr e px py).1 g
  · obtain ⟨b', eb, rfl⟩ := Option.map_eq_some_iff.mp e
    exact (isin_at c hr eb px py).2 g
  · obtain ⟨rfl, rfl⟩ := isSame_at e px py
    exact OpR.le op_isN ⟨rfl, g⟩
  · obtain ⟨b', eb, rfl⟩ := Option.map_eq_some_iff.mp e
    obtain ⟨rfl, rfl⟩ := isSame_at eb px py
    exact OpR.le op_notN ⟨rfl, g⟩
  · cases e
end
end Mx

set_option Elab.async false
set_option linter.all false
set_option maxRecDepth 100000
set_option maxHeartbeats 2000000
/-! Mx, part E: what is made, subscripts, own things written, built-ins by values. -/
namespace Mx
open PySem L2 PySem.Spec PyProof.Rows

section
variable {T : Tbs} {K : PySem.W.Frag} {ro rw : MH} {m : Wd} {H : Hp} {Q : VK} {d : D} {mu : Bool}
/-- what is made is handed on, as an own thing or as a tree -/
def Made (T : Tbs) (K : PySem.W.Frag) (ro rw : MH) (m : Wd) (H : Hp) (mu : Bool) (d : D) (Q : VK) : Prop :=
  Sat T K ro m H (alloc ro mu d rw) fun d' _ m' H' => ∀ v, Rep K m' H' d' v → Q v H'
theorem Made.tree (g : Made T K ro rw m H false d Q) : Got T K ro rw m H d Q := fun m' H' e r v p => g m' H' e r v p
theorem Made.val (g : Made T K ro rw m H mu d Q) (hn : alloc ro true d rw = .err) : Got T K ro rw m H d Q := by
  cases mu with
  | false => exact g.tree
  | true => unfold Made at g; rw [hn] at g; exact g.elim
/-- one more own thing -/
def Wd.push (m : Wd) (p : Addr) : Wd := ⟨m.r ++ [p], m.x⟩
theorem ext_own {m : Wd} {p : Addr} {o : HO} (hp : H p = none) : Ext m H (m.push p) (upd H p o) :=
  have old : ∀ a u, H a = some u → upd H p o a = some u := fun a u hu => by rw [upd_ne (ne_of_none hu hp)]; exact hu
  ⟨⟨⟨[p], rfl⟩, fun a h => by
    rcases h with h | h
    · rcases List.mem_append.mp h with z | z
      · exact .inl (.inl z)
      · rw [List.mem_singleton.mp z]; exact .inr (.inl hp)
    · exact .inl (.inr h), fun a u hu _ _ => ⟨u, old a u hu, rfl⟩⟩, fun a ob u hu => old a _ hu, fun a u hu _ _ => old a u hu, rfl, fun a _ u hu => old a u hu⟩
/-- a new own thing -/
theorem own_new (r : HRel T K m (ro ++ rw) H) {p : Addr} {o : HO} {mo : MO} (hp : H p = none) (orep : ORep K (m.push p) (upd H p o) p mo) : HRel T K (m.push p) (ro ++ (rw ++ [mo])) (upd H p o) ∧ (m.push p).r[ro.length + rw.length]? = some p := by
  have hn := r.notin hp
  have hl : m.r.length = ro.length + rw.length := by rw [r.len, List.length_append]
  have e : Ext m H (m.push p) (upd H p o) := ext_own hp
  refine ⟨⟨(r.new (o := o) hp).tabs, by show (m.r ++ [p]).length = _; simp [r.len, Nat.add_assoc], ?_, fun a ha => ?_, fun l mo' a h1 h2 => ?_⟩, by show (m.r ++ [p])[_]? = _; rw [← hl]; simp⟩
  · show (m.r ++ [p]).Nodup
    rw [List.nodup_append]
    exact ⟨r.nd, by simp, fun a ha b hb => by rw [List.mem_singleton.mp hb]; rintro rfl; exact hn (.inl ha)⟩
  · have ha : a ∈ m.x := ha
    obtain ⟨h1, u, h2, h3⟩ := r.hid a ha
    refine ⟨fun z => ?_, u, by rw [upd_ne (ne_of_none h2 hp)]; exact h2, h3⟩
    rcases List.mem_append.mp z with z | z
    · exact h1 z
    · rw [List.mem_singleton.mp z, hp] at h2; cases h2
  · rw [← List.append_assoc] at h1
    have h2 : (m.r ++ [p])[l]? = some a := h2
    by_cases z : l < (ro ++ rw).length
    · rw [List.getElem?_append_left z] at h1
      rw [List.getElem?_append_left (by rw [r.len]; exact z)] at h2
      refine (r.ob l mo' a h1 h2).ext e.toExtW r.noTup ?_
      obtain ⟨u, hu⟩ := r.here (.inl (List.mem_of_getElem? h2))
      rw [upd_ne (ne_of_none hu hp)]
    · have z' : l = (ro ++ rw).length := by
        have := (List.getElem?_eq_some_iff.mp h1).1
        simp only [List.length_append, List.length_cons, List.length_nil] at this z ⊢
        omega
      subst z'
      rw [List.getElem?_append_right (Nat.le_refl _)] at h1
      rw [← r.len, List.getElem?_append_right (Nat.le_refl _)] at h2
      simp only [Nat.sub_self, List.getElem?_cons_zero, Option.some.injEq] at h1 h2
      subst h1 h2
      exact orep
theorem Made.lst {xs : List D} {vs : List V} (g : Made T K ro rw m H mu (.lst xs) Q) (r : HRel T K m (ro ++ rw) H) (p : Reps K m H xs vs) (q : Addr) (hq : H q = none) : Q (.ref q) (upd H q (.lst vs)) := by
  cases mu with
  | false => exact g.tree.lst r p q hq
  | true =>
    obtain ⟨r2, hl⟩ := own_new (o := .lst vs) (mo := .lst xs) r hq ⟨vs, upd_same, p.ext (ext_own hq).toExtW r.noTup⟩
    exact g _ _ (ext_own hq) r2 _ (.ref hl)
theorem Made.dK {kvs : List (Key × D)} {ws : List (Key × V)} (g : Made T K ro rw m H mu (.dK kvs) Q) (r : HRel T K m (ro ++ rw) H) (hk : kvs.map (·.1) = ws.map (·.1)) (p : Reps K m H (kvs.map (·.2)) (ws.map (·.2))) (q : Addr) (hq : H q = none) : Q (.ref q) (upd H q (.dK ws)) := by
  cases mu with
  | false => exact g.tree m _ (ext_new hq) (r.new hq) _ (.dK (.inl upd_same) (r.notin hq) hk (p.ext (ext_new hq).toExtW r.noTup))
  | true =>
    obtain ⟨r2, hl⟩ := own_new (o := .dK ws) (mo := .dK kvs) r hq ⟨ws, upd_same, hk, p.ext (ext_own hq).toExtW r.noTup⟩
    exact g _ _ (ext_own hq) r2 _ (.ref hl)
theorem Made.dT {kvs : List (List Key × D)} {ws : List (List Key × V)} (g : Made T K ro rw m H mu (.dT kvs) Q) (r : HRel T K m (ro ++ rw) H) (hk : kvs.map (·.1) = ws.map (·.1)) (p : Reps K m H (kvs.map (·.2)) (ws.map (·.2))) (q : Addr) (hq : H q = none) : Q (.ref q) (upd H q (.dT ws)) := by
  cases mu with
  | false => exact g.tree m _ (ext_new hq) (r.new hq) _ (.dT (.inl upd_same) (r.notin hq) hk (p.ext (ext_new hq).toExtW r.noTup))
  | true =>
    obtain ⟨r2, hl⟩ := own_new (o := .dT ws) (mo := .dT kvs) r hq ⟨ws, upd_same, hk, p.ext (ext_own hq).toExtW r.noTup⟩
    exact g _ _ (ext_own hq) r2 _ (.ref hl)

/-! ### an own thing is written -/
/-- the thing number l, rewritten -/
theorem own_set (r : HRel T K m (ro ++ rw) H) {l : Nat} {a : Addr} {o u : HO} {mo : MO} (hl : ¬ l < ro.length) (ha : m.r[l]? = some a) (hu : H a = some u) (hut : isOwn u = true) (orep : Ext m H m (upd H a o) → ORep K m (upd H a o) a mo) :
    Ext m H m (upd H a o) ∧ HRel T K m (ro ++ rw.set (l - ro.length) mo) (upd H a o) := by
  have am : a ∈ m.r := List.mem_of_getElem? ha
  have other : ∀ b w, H b = some w → b ∉ m → upd H a o b = some w := fun b w hw hb => by
    rw [upd_ne (fun z => hb (by rw [z]; exact .inl am))]; exact hw
  have hidn : ∀ b ∈ m.x, b ≠ a := fun b hb z => (r.hid b hb).1 (by rw [z]; exact am)
  have e : Ext m H m (upd H a o) := ⟨⟨⟨[], by simp⟩, fun b h => .inl h, fun b w hw hb _ => ⟨w, other b w hw hb, rfl⟩⟩, fun b ob w hw => by
    have n : b ≠ a := fun z => by rw [z, hu] at hw; cases hw; cases hut
    rw [upd_ne n]; exact hw, fun b w hw hb _ => other b w hw hb, rfl, fun b hb w hw => by rw [upd_ne (hidn b hb)]; exact hw⟩
  have lt : l < (ro ++ rw).length := by rw [← r.len]; exact (List.getElem?_eq_some_iff.mp ha).1
  have he : ro ++ rw.set (l - ro.length) mo = (ro ++ rw).set l mo := by rw [List.set_append_right l mo (Nat.not_lt.mp hl)]
  refine ⟨e, ?_⟩
  rw [he]
  refine ⟨?_, by rw [List.length_set]; exact r.len, r.nd, fun b hb => ⟨(r.hid b hb).1, by rw [upd_ne (hidn b hb)]; exact (r.hid b hb).2⟩, fun j mo' b h1 h2 => ?_⟩
  · intro p hp
    obtain ⟨ps, h1, h2, h3⟩ := r.tabs p hp
    have n1 : p.1 ≠ a := fun z => by rw [z, hu] at h1; cases h1; cases hut
    refine ⟨ps, by rw [upd_ne n1]; exact h1, h2, fun pos cv hcv => ?_⟩
    obtain ⟨c, ec, hc⟩ := h3 pos cv hcv
    refine ⟨c, ec, ?_⟩
    rw [upd_ne fun z => ?_]
    · exact hc
    · rw [z, hu] at hc; cases hc; cases hut
  · by_cases z : j = l
    · subst z
      rw [ha] at h2; cases h2
      rw [List.getElem?_set_self lt] at h1
      cases h1
      exact orep e
    · rw [List.getElem?_set_ne (Ne.symm z)] at h1
      refine (r.ob j mo' b h1 h2).ext e.toExtW r.noTup (upd_ne fun q => z ?_)
      subst q
      exact (List.getElem?_inj (List.getElem?_eq_some_iff.mp h2).1 r.nd).mp (h2.trans ha.symm)
end
/-! ### built-ins by values -/
/-- what is called -/
def valB : BI → Option Value
  | .len => some (.builtin "len")
  | .abs => some (.builtin "abs")
  | .min2 => some (.builtin "min")
  | .max2 => some (.builtin "max")
  | .int1 => some (.type "int")
  | .str1 => some (.type "str")
  | .sum => some (.builtin "sum")
  | .all => some (.builtin "all")
  | .any => some (.builtin "any")
  | .tuple => some (.type "tuple")
  | .list => some (.type "list")
  | .sorted => some (.builtin "sorted")
  | .repr => some (.builtin "repr")
  | .gcd => some (.builtin "math.gcd")
  | _ => none
theorem insertBy_perm {α : Type} (lt : α → α → Bool) (x : α) : ∀ l : List α, (insertBy lt x l).Perm (x :: l)
  | [] => .refl _
  | y :: r => by
    unfold insertBy
    split
    · exact .refl _
    · exact ((insertBy_perm lt x r).cons y).trans (List.Perm.swap x y r)
theorem isort_perm {α : Type} (lt : α → α → Bool) : ∀ l : List α, (isort lt l).Perm l
  | [] => .refl _
  | x :: r => (insertBy_perm _ x _).trans ((isort_perm lt r).cons x)
theorem insertInt (x : Int) : ∀ l : List Int, l.Pairwise (· ≤ ·) → (insertBy (fun a b => !ltInt b a) x l).Pairwise (· ≤ ·)
  | [], _ => by simp [insertBy]
  | y :: r, h => by
    unfold insertBy
    have hy := List.pairwise_cons.mp h
    split
    · rename_i c
      have c' : x ≤ y := by simpa [ltInt] using c
      exact List.pairwise_cons.mpr ⟨fun z hz => by
        rcases List.mem_cons.mp hz with rfl | hz
        · exact c'
        · exact Int.le_trans c' (hy.1 z hz), h⟩
    · rename_i c
      have c' : y < x := by simpa [ltInt] using c
      refine List.pairwise_cons.mpr ⟨fun z hz => ?_, insertInt x r hy.2⟩
      rcases List.mem_cons.mp ((insertBy_perm _ x r).mem_iff.mp hz) with rfl | hz
      · exact Int.le_of_lt c'
      · exact hy.1 z hz
theorem isortInt : ∀ l : List Int, (isort ltInt l).Pairwise (· ≤ ·)
  | [] => .nil
  | x :: r => insertInt x _ (isortInt r)
theorem isortInt_eq {l m : List Int} (p : m.Perm l) (s : m.Pairwise (· ≤ ·)) : m = isort ltInt l :=
  List.Perm.eq_of_pairwise (fun a b _ _ h1 h2 => Int.le_antisymm h1 h2) s (isortInt l) (p.trans (isort_perm ltInt l).symm)
section
variable {T : Tbs} {X : Cx} {k : Nat} {ro rw : MH} {m : Wd} {H : Hp} {Q : VK} {d : D} {mu : Bool}
/-- repr of plain data -/
theorem repr_w (c : Ctx X k) {v : V} {p : PyData} (h : Dp X.K H v p) (hs : p.showable = true) (hd : p.hasDict = false) (hz : p.shown.length ≤ sizeLine) (hp : p.depth ≤ 64) (q : Q (.str p.shown) H) : wC X (.builtin "repr") [v] H Q := by
  intro pins s σ us I rx
  obtain ⟨u, rfl, ru⟩ := vals1 rx
  have hu := c.hu
  cases h with
  | non => cases ru; exact PySem.P.repr_of_none ⟨.str _, H, I.tok _, ⟨_, rfl⟩, q⟩
  | bl b => cases ru; exact PySem.P.repr_of_bool ⟨.str _, H, I.tok _, ⟨_, rfl⟩, by cases b <;> exact q⟩
  | int i => obtain ⟨t, rfl⟩ := ru; exact PySem.P.repr_of_int (of_decide_eq_true hs) ⟨.str _, H, I.tok _, ⟨_, rfl⟩, q⟩
  | str x => obtain ⟨t, rfl⟩ := ru; exact PySem.P.repr_of_str ⟨.str _, H, I.tok _, ⟨_, rfl⟩, q⟩ hz
  | @lst a xs ds h1 h2 =>
    cases ru
    obtain ⟨as, r⟩ := Dp.reads I (.list ds) (.ref a) (.ref a) (.lst h1 h2) rfl
    exact PySem.repr_of_reads' r hs (fun z => by rw [hd] at z; cases z) c.guards (by omega) (fun _ _ e => e) (fun h' u tk hk => ⟨.str _, H, I.kept hk, ⟨_, rfl⟩, q⟩) hz
  | @tup a xs ds h1 h2 =>
    cases ru
    obtain ⟨as, r⟩ := Dp.reads I (.tuple ds) (.ref a) (.ref a) (.tup h1 h2) rfl
    exact PySem.repr_of_reads' r hs (fun z => by rw [hd] at z; cases z) c.guards (by omega) (fun _ _ e => e) (fun h' u tk hk => ⟨.str _, H, I.kept hk, ⟨_, rfl⟩, q⟩) hz
theorem bltop_ok (c : Ctx X k) (hr : HRel T X.K m (ro ++ rw) H) {b : BI} {f : Value} {ds : List D} {vs : List V} (hb : valB b = some f) (ps : Reps X.K m H ds vs) (e : bltop ro rw b ds = some d) (g : Made T X.K ro rw m H mu d Q) : wC X f vs H Q := by
  unfold bltop at e
  split at e
  · -- len of a text
    split at e
    · rename_i z
      cases e; cases hb
      obtain ⟨v, rfl, h⟩ := ps.one'
      cases h
      exact CallR.le call_len_str ⟨_, rfl, line_ok z, (g.val rfl).here hr (.int _)⟩
    · cases e
  · -- len
    rename_i x hx
    cases hb
    obtain ⟨v, rfl, h⟩ := ps.one'
    split at e
    · rename_i kvs ed
      cases e
      obtain ⟨a, rfl, ws, h1, h2, h3⟩ := dic_at hr ed h
      have hl : kvs.length = ws.length := by simpa using congrArg List.length h2
      intro pins s σ us I rx
      obtain ⟨u, rfl, ru⟩ := vals1 rx
      cases ru
      exact d_len I h1 fun t s' I' => ⟨.int _, H, I', ⟨t, rfl⟩, by rw [← hl]; exact (g.val rfl).here hr (.int _)⟩
    · cases e
    · obtain ⟨xs, ex, rfl⟩ := Option.map_eq_some_iff.mp e
      obtain ⟨a, vs, rfl, h1, h2⟩ := hr.seq ex h
      exact CallR.le call_len_seq ⟨a, vs, rfl, h1, by rw [← h2.length]; exact (g.val rfl).here hr (.int _)⟩
  · -- abs
    cases e; cases hb
    obtain ⟨v, rfl, h⟩ := ps.one'
    cases h
    exact CallR.le call_abs ⟨_, rfl, (g.val rfl).here hr (.int _)⟩
  · -- min, max
    cases e; cases hb
    obtain ⟨v, u, rfl, h, h2⟩ := ps.two
    cases h; cases h2
    exact CallR.le (call_min2 c.calm) ⟨_, _, rfl, (g.val rfl).here hr (.int _)⟩
  · cases e; cases hb
    obtain ⟨v, u, rfl, h, h2⟩ := ps.two
    cases h; cases h2
    exact CallR.le (call_max2 c.calm) ⟨_, _, rfl, (g.val rfl).here hr (.int _)⟩
  · -- int
    cases e; cases hb
    obtain ⟨v, rfl, h⟩ := ps.one'
    cases h
    exact CallR.le call_int1 (.inl ⟨_, rfl, (g.val rfl).here hr (.int _)⟩)
  · cases e; cases hb
    obtain ⟨v, rfl, h⟩ := ps.one'
    cases h
    exact CallR.le call_int1 (.inr ⟨_, rfl, (g.val rfl).here hr (.int _)⟩)
  · -- str
    split at e
    · rename_i z
      cases e; cases hb
      obtain ⟨v, rfl, h⟩ := ps.one'
      cases h
      exact CallR.le call_str_int ⟨_, rfl, of_decide_eq_true z, (g.val rfl).here hr (.str _)⟩
    · cases e
  · -- sum
    cases hb
    obtain ⟨ns, en, rfl⟩ := Option.map_eq_some_iff.mp e
    obtain ⟨xs, ex, en⟩ := Option.bind_eq_some_iff.mp en
    obtain ⟨v, rfl, h⟩ := ps.one'
    obtain ⟨a, vs, rfl, h1, h2⟩ := hr.lst ex h
    rw [h2.ints en] at h1
    exact CallR.le (cr_sum c.calm) ⟨a, ns, rfl, SqL.of h1, (g.val rfl).here hr (.int _)⟩
  · -- all, any
    cases hb
    obtain ⟨ns, en, rfl⟩ := Option.map_eq_some_iff.mp e
    obtain ⟨xs, ex, en⟩ := Option.bind_eq_some_iff.mp en
    obtain ⟨v, rfl, h⟩ := ps.one'
    obtain ⟨a, vs, rfl, h1, h2⟩ := hr.lst ex h
    rw [h2.bls en] at h1
    exact CallR.le (cr_all c.calm) ⟨a, ns, rfl, SqL.of h1, (g.val rfl).here hr (.bl _)⟩
  · cases hb
    obtain ⟨ns, en, rfl⟩ := Option.map_eq_some_iff.mp e
    obtain ⟨xs, ex, en⟩ := Option.bind_eq_some_iff.mp en
    obtain ⟨v, rfl, h⟩ := ps.one'
    obtain ⟨a, vs, rfl, h1, h2⟩ := hr.lst ex h
    rw [h2.bls en] at h1
    exact CallR.le (cr_any c.calm) ⟨a, ns, rfl, SqL.of h1, (g.val rfl).here hr (.bl _)⟩
  · -- tuple
    cases e; cases hb
    obtain ⟨v, rfl, h⟩ := ps.one'
    cases h with
    | tup h1 h2 h3 => exact CallR.le call_tuple_of ⟨_, _, rfl, .inr ⟨h1, (g.val rfl).here hr (.tup h1 h2 h3)⟩⟩
  · rename_i x hx
    cases hb
    obtain ⟨xs, ex, rfl⟩ := Option.map_eq_some_iff.mp e
    obtain ⟨v, rfl, h⟩ := ps.one'
    obtain ⟨a, vs, rfl, h1, h2⟩ := hr.seqL hx ex h
    exact CallR.le call_tuple_of ⟨a, vs, rfl, .inl ⟨h1, fun l hl => (g.val rfl).tup hr h2 l hl⟩⟩
  · -- list
    cases hb
    obtain ⟨xs, ex, rfl⟩ := Option.map_eq_some_iff.mp e
    obtain ⟨v, rfl, h⟩ := ps.one'
    obtain ⟨a, vs, rfl, h1, h2⟩ := hr.seq ex h
    exact CallR.le call_list_of ⟨a, vs, rfl, h1, fun l hl => g.lst hr h2 l hl⟩
  · -- sorted
    cases hb
    obtain ⟨xs, ex, rfl⟩ := Option.map_eq_some_iff.mp e
    obtain ⟨ys, ey, es⟩ := Option.bind_eq_some_iff.mp ex
    unfold sortD at es
    split at es
    · rename_i z
      obtain ⟨ns, en, rfl⟩ := Option.map_eq_some_iff.mp es
      obtain ⟨v, rfl, h⟩ := ps.one'
      obtain ⟨a, vs, rfl, h1, h2⟩ := hr.lst ey h
      have hl := h2.length
      rw [h2.ints en] at h1 hl
      have z := of_decide_eq_true z
      rw [hl, List.length_map] at z
      refine CallR.le cr_sorted ⟨a, ns, rfl, SqL.of h1, z, fun ns' p hp hs hq => ?_⟩
      rw [isortInt_eq hp hs]
      exact g.lst hr (Reps.ofInts _) p hq
    · cases es
  · cases hb
  · -- repr
    cases hb
    obtain ⟨v, rfl, h⟩ := ps.one'
    split at e
    · rename_i p ep
      split at e
      · rename_i z
        cases e
        simp only [Bool.and_eq_true, Bool.not_eq_true', decide_eq_true_eq] at z
        exact repr_w c (toPy_dp hr _ _ _ _ h ep) z.1.1.1 z.1.1.2 (line_ok z.1.2) z.2 ((g.val rfl).here hr (.str _))
      · cases e
    · cases e
  · -- gcd
    cases e; cases hb
    obtain ⟨v, u, rfl, h, h2⟩ := ps.two
    cases h; cases h2
    exact CallR.le cr_gcd ⟨_, _, rfl, (g.val rfl).here hr (.int _)⟩
  all_goals first | cases hb | cases e
end
end Mx

set_option Elab.async false
set_option linter.all false
set_option maxRecDepth 100000
set_option maxHeartbeats 2000000
/-! Mx, part F: subscripts, own things that are written, by values. -/
namespace Mx
open PySem L2 PySem.Spec PyProof.Rows

section
variable (X : Cx)
def wX : R2 := fun x y H Q => ∀ (value slice : Expr) (pins : List (Addr × Obj)) (s : Shared) (σ : L2.St) (v u : Value), Inv X pins σ H s → RelV x v → RelV y u →
  subscripted slice false v u = operate [v, u] (getItem v u) → wpAny (model X.prog X.w) X.A (subscriptTail value slice v u) (EP X pins σ Q) X.xe s
def wP : TSet := fun o i v H Q => ∀ (pins : List (Addr × Obj)) (s : Shared) (σ : L2.St) (ov iv u : Value), Inv X pins σ H s → RelV o ov → RelV i iv → RelV v u →
  wpAny (model X.prog X.w) X.A (setItem ov iv u) (fun _ s' => ∃ H', Inv X pins σ H' s' ∧ Q H') X.xe s
def wM (id : String) : V → List V → Hp → VK → Prop := fun x xs H Q => ∀ (pins : List (Addr × Obj)) (s : Shared) (σ : L2.St) (v : Value) (us : List Value), Inv X pins σ H s → RelV x v → Vals xs us →
  wpAny (model X.prog X.w) X.A (call (.builtin id) (v :: us)) (EP X pins σ Q) X.xe s
end
section
variable {X : Cx}
theorem ix_w : IxR X (wX X) := fun value slice pins s σ H x y v u Q I rx ry h hs => h value slice pins s σ v u I rx ry hs
theorem IxR.le {r : R2} (h : IxR X r) {x y : V} {H : Hp} {Q : VK} (q : r x y H Q) : wX X x y H Q := fun value slice pins s σ v u I rx ry hs => h value slice pins s σ H x y v u Q I rx ry q hs
theorem set_w : PSet X (wP X) := fun pins s σ H o i v ov iv u Q I ro ri rv h => h pins s σ ov iv u I ro ri rv
theorem PSet.le {r : TSet} (h : PSet X r) {x y z : V} {H : Hp} {Q : Hp → Prop} (q : r x y z H Q) : wP X x y z H Q := fun pins s σ ov iv u I ro ri rv => h pins s σ H x y z ov iv u Q I ro ri rv q
theorem mt_w {id : String} : MtR X id (wM X id) := fun pins s σ H x xs v us Q I r rs h => h pins s σ v us I r rs
theorem MtR.le {id : String} {r : V → List V → Hp → VK → Prop} (h : MtR X id r) {x : V} {xs : List V} {H : Hp} {Q : VK} (q : r x xs H Q) : wM X id x xs H Q := fun pins s σ v us I rx rs => h pins s σ H x xs v us Q I rx rs q
theorem MtM.le {id : String} {r : V → List V → Hp → VK → Prop} (h : MtM X id r) {x : V} {xs : List V} {H : Hp} {Q : VK} (q : r x xs H Q) : wM X id x xs H Q := fun pins s σ v us I rx rs => h pins s σ H x xs v us Q I rx rs q
end
theorem Reps.atI {K : PySem.W.Frag} {m : Wd} {H : Hp} {xs : List D} {vs : List V} {i : Int} {d : D} (r : Reps K m H xs vs) (e : L2.atI xs i = some d) : ∃ v, L2.atI vs i = some v ∧ Rep K m H d v := by
  unfold L2.atI at e ⊢
  obtain ⟨j, h1, h2⟩ := Option.bind_eq_some_iff.mp e
  obtain ⟨v, h3, h4⟩ := r.get h2
  exact ⟨v, by rw [← r.length, h1]; exact h3, h4⟩
section
variable {T : Tbs} {X : Cx} {k : Nat} {ro rw : MH} {m : Wd} {H : Hp} {Q : VK} {x y d : D} {v u : V}
theorem subD_ok (c : Ctx X k) (hr : HRel T X.K m (ro ++ rw) H) (px : Rep X.K m H x v) (py : Rep X.K m H y u) (e : subD ro rw x y = some d) (g : Got T X.K ro rw m H d Q) : wX X v u H Q := by
  have hu : X.A.units + 1 < cLine := by have := c.hu; omega
  unfold subD at e
  cases ed : dicOf ro rw x with
  | some dc =>
    rw [ed] at e
    obtain ⟨o, eo, e2⟩ := Option.bind_eq_some_iff.mp e
    have e2 : o = some d := e2
    subst e2
    obtain ⟨a, rfl, h⟩ := dic_at hr ed px
    obtain ⟨o', g1, g2⟩ := dget_at h eo py
    cases o' with
    | none => exact g2.elim
    | some v0 =>
      intro value slice pins s σ v' u' I rx ry hs
      cases rx
      exact tail_any (dict_typeIs I g1) PySem.F.slot_dict_getitem.lookup (d_getItem hu I g1 ry fun w' s' I' r => ⟨v0, H, I', r, g.here hr g2⟩) hs
  | none =>
    rw [ed] at e
    cases y with
    | int j =>
      have e : subI ro rw x j = some d := e
      cases py
      unfold subI at e
      split at e
      · split at e
        · rename_i z
          obtain ⟨cc, ec, rfl⟩ := Option.map_eq_some_iff.mp e
          cases px
          exact IxR.le ix_str ⟨_, _, cc, rfl, rfl, line_ok z, ec, g.here hr (.str _)⟩
        · cases e
      · obtain ⟨xs, ex, ea⟩ := Option.bind_eq_some_iff.mp e
        obtain ⟨a, vs, rfl, h1, h2⟩ := hr.seq ex px
        obtain ⟨v0, q1, q2⟩ := Reps.atI h2 ea
        rcases h1 with h1 | h1
        · exact IxR.le ix_list ⟨a, vs, _, v0, rfl, rfl, h1, q1, g.here hr q2⟩
        · exact IxR.le ix_tup ⟨a, vs, _, v0, rfl, rfl, h1, q1, g.here hr q2⟩
    | _ => cases e

/-! ### an own thing, written -/
theorem upO_at {K : PySem.W.Frag} {l : Nat} {f : MO → Option MO} {P : Unit → MH → Wd → Hp → Prop} (h : Sat T K ro m H (upO ro l f rw) P) :
    ∃ o n, ¬ l < ro.length ∧ getO ro rw l = some o ∧ f o = some n ∧ ∀ m' H', Ext m H m' H' → HRel T K m' (ro ++ rw.set (l - ro.length) n) H' → P () (rw.set (l - ro.length) n) m' H' := by
  unfold upO at h
  split at h
  · exact h.elim
  · rename_i hl
    cases e : rw[l - ro.length]? with
    | none => rw [e] at h; exact h.elim
    | some o =>
      rw [e] at h
      simp only at h
      cases e2 : f o with
      | none => rw [e2] at h; exact h.elim
      | some n =>
        rw [e2] at h
        refine ⟨o, n, hl, ?_, e2, h⟩
        unfold getO
        rw [List.getElem?_append_right (Nat.not_lt.mp hl)]
        exact e
theorem khas_any {κ : Type} [DecidableEq κ] (kk : κ) : ∀ {kvs : List (κ × D)} {ws : List (κ × V)}, kvs.map (·.1) = ws.map (·.1) → khas kvs kk = ws.any fun p => decide (p.1 = kk)
  | [], [], _ => rfl
  | [], _ :: _, e => nomatch e
  | _ :: _, [], e => nomatch e
  | p :: kvs, q :: ws, e => by
    simp only [List.map_cons, List.cons.injEq] at e
    have ih := khas_any kk e.2
    unfold khas kget
    rw [List.any_cons]
    by_cases z : p.1 = kk
    · rw [if_pos z, decide_eq_true (e.1.symm.trans z)]; rfl
    · rw [if_neg z, decide_eq_false (fun y => z (e.1.trans y)), Bool.false_or]
      exact ih
theorem kput_put {K : PySem.W.Frag} {κ : Type} [DecidableEq κ] (kk : κ) {d : D} {w : V} {kvs : List (κ × D)} {ws : List (κ × V)} (e : kvs.map (·.1) = ws.map (·.1)) (r : Reps K m H (kvs.map (·.2)) (ws.map (·.2))) (p : Rep K m H d w) :
    (kput kvs kk d).map (·.1) = (putK ws kk w).map (·.1) ∧ Reps K m H ((kput kvs kk d).map (·.2)) ((putK ws kk w).map (·.2)) := by
  unfold kput putK
  rw [khas_any kk e]
  split
  · have go : ∀ {kvs : List (κ × D)} {ws : List (κ × V)}, kvs.map (·.1) = ws.map (·.1) → Reps K m H (kvs.map (·.2)) (ws.map (·.2)) →
        (kvs.map fun p => if p.1 = kk then (p.1, d) else p).map (·.1) = (ws.map fun p => if p.1 = kk then (p.1, w) else p).map (·.1) ∧ Reps K m H ((kvs.map fun p => if p.1 = kk then (p.1, d) else p).map (·.2)) ((ws.map fun p => if p.1 = kk then (p.1, w) else p).map (·.2)) := by
      intro kvs
      induction kvs with
      | nil => intro ws e r; cases ws with | nil => exact ⟨rfl, .nil⟩ | cons _ _ => cases e
      | cons a kvs ih =>
        intro ws e r
        cases ws with
        | nil => cases e
        | cons b ws =>
          simp only [List.map_cons, List.cons.injEq] at e
          simp only [List.map_cons] at r
          cases r with
          | cons h t =>
            obtain ⟨i1, i2⟩ := ih e.2 t
            simp only [List.map_cons]
            by_cases z : a.1 = kk
            · rw [if_pos z, if_pos (e.1.symm.trans z)]
              exact ⟨by rw [i1, e.1], .cons p i2⟩
            · rw [if_neg z, if_neg (fun y => z (e.1.trans y))]
              exact ⟨by rw [i1, e.1], .cons h i2⟩
    exact go e r
  · refine ⟨by simp [e], ?_⟩
    rw [List.map_append, List.map_append]
    exact r.append (.one p)
/-- xs.append(y) -/
theorem append_ok (hr : HRel T X.K m (ro ++ rw) H) {l : Nat} {P : Unit → MH → Wd → Hp → Prop} (px : Rep X.K m H (.ref l) v) (py : Rep X.K m H y u) (h : Sat T X.K ro m H (upO ro l (appO y) rw) P) (q : ∀ rw' m' H', P () rw' m' H' → HRel T X.K m' (ro ++ rw') H' → Q .non H') :
    wM X "list.append" v [u] H Q := by
  obtain ⟨o, n, hl, h2, h3, h4⟩ := upO_at h
  obtain ⟨a, rfl, ha, ho⟩ := hr.of_ref h2 px
  cases o with
  | lst xs =>
    obtain ⟨vs, e1, e2⟩ := ho
    have h3 : (if decide (xs.length < 16777216) then some (MO.lst (xs ++ [y])) else none) = some n := h3
    split at h3
    · rename_i z
      cases h3
      have z := of_decide_eq_true z
      rw [e2.length] at z
      obtain ⟨e, r2⟩ := own_set (o := .lst (vs ++ [u])) (mo := .lst (xs ++ [y])) hr hl ha e1 rfl fun e => ⟨vs ++ [u], upd_same, (e2.ext e.toExtW hr.noTup).append (.one (py.ext e.toExtW hr.noTup))⟩
      exact MtM.le mt_append ⟨a, vs, u, rfl, rfl, e1, by rw [sizeLine_eq]; exact z, q _ _ _ (h4 _ _ e r2) r2⟩
    · cases h3
  | dK _ => cases h3
  | dT _ => cases h3
/-- o[i] = v -/
theorem put_ok (c : Ctx X k) (hr : HRel T X.K m (ro ++ rw) H) {l : Nat} {i w : V} {P : Unit → MH → Wd → Hp → Prop} {Q : Hp → Prop} (px : Rep X.K m H (.ref l) v) (pi : Rep X.K m H x i) (pw : Rep X.K m H d w) (h : Sat T X.K ro m H (upO ro l (putO x d) rw) P) (q : ∀ rw' m' H', P () rw' m' H' → Ext m H m' H' → HRel T X.K m' (ro ++ rw') H' → Q H') :
    wP X v i w H Q := by
  have hu : X.A.units + 1 < cLine := by have := c.hu; omega
  obtain ⟨o, n, hl, h2, h3, h4⟩ := upO_at h
  obtain ⟨a, rfl, ha, ho⟩ := hr.of_ref h2 px
  cases o with
  | lst xs =>
    obtain ⟨vs, e1, e2⟩ := ho
    cases x with
    | int j =>
      have h3 : ((ixN xs.length j).map fun i => MO.lst (xs.set i d)) = some n := h3
      obtain ⟨jj, ej, rfl⟩ := Option.map_eq_some_iff.mp h3
      cases pi
      obtain ⟨e, r2⟩ := own_set (o := .lst (vs.set jj w)) (mo := .lst (xs.set jj d)) hr hl ha e1 rfl fun e => ⟨_, upd_same, (e2.ext e.toExtW hr.noTup).set (pw.ext e.toExtW hr.noTup) jj⟩
      exact PSet.le set_list ⟨a, vs, j, jj, rfl, rfl, e1, by rw [← e2.length]; exact ej, q _ _ _ (h4 _ _ e r2) e r2⟩
    | _ => cases h3
  | dK kvs =>
    obtain ⟨ws, e1, e2, e3⟩ := ho
    have h3 : (if decide (kvs.length < 16777216) then (keyOf x).map fun k => MO.dK (kput kvs k d) else none) = some n := h3
    split at h3
    · rename_i z
      obtain ⟨kk, ek, rfl⟩ := Option.map_eq_some_iff.mp h3
      have z := of_decide_eq_true z
      have hlen : kvs.length = ws.length := by simpa using congrArg List.length e2
      obtain ⟨e, r2⟩ := own_set (o := .dK (putK ws kk w)) (mo := .dK (kput kvs kk d)) hr hl ha e1 rfl fun e => by
        obtain ⟨p1, p2⟩ := kput_put kk e2 (e3.ext e.toExtW hr.noTup) (pw.ext e.toExtW hr.noTup)
        exact ⟨_, upd_same, p1, p2⟩
      intro pins s σ ov iv uv I rx ri rv
      cases rx
      have ik : i = kV kk := by
        cases pi <;> simp only [keyOf, reduceCtorEq, Option.some.injEq] at ek <;> subst ek <;> rfl
      exact d_setItem hu I (.inl ⟨ws, kk, e1, ik, by rw [sizeLine_eq]; omega, rfl⟩) ri rv fun s' I' => ⟨_, I', q _ _ _ (h4 _ _ e r2) e r2⟩
    · cases h3
  | dT kvs =>
    obtain ⟨ws, e1, e2, e3⟩ := ho
    have h3 : (if decide (kvs.length < 16777216) then ((keyTup x).bind keysOf).map fun k => MO.dT (kput kvs k d) else none) = some n := h3
    split at h3
    · rename_i z
      obtain ⟨kk, ek, rfl⟩ := Option.map_eq_some_iff.mp h3
      have z := of_decide_eq_true z
      have hlen : kvs.length = ws.length := by simpa using congrArg List.length e2
      obtain ⟨e, r2⟩ := own_set (o := .dT (putK ws kk w)) (mo := .dT (kput kvs kk d)) hr hl ha e1 rfl fun e => by
        obtain ⟨p1, p2⟩ := kput_put kk e2 (e3.ext e.toExtW hr.noTup) (pw.ext e.toExtW hr.noTup)
        exact ⟨_, upd_same, p1, p2⟩
      obtain ⟨ys, ey, eks⟩ := Option.bind_eq_some_iff.mp ek
      cases pi with
      | @tup cc b zs vs hq ht hs =>
        cases cc with
        | false => cases ey
        | true =>
          have ey : zs = ys := Option.some.inj ey
          subst ey
          have hb : H b = some (.tup (kk.map kV)) := by rw [← hs.keys eks]; exact ht rfl
          intro pins s σ ov iv uv I rx ri rv
          cases rx
          exact d_setItem hu I (.inr ⟨ws, kk, b, e1, rfl, hb, by rw [sizeLine_eq]; omega, rfl⟩) ri rv fun s' I' => ⟨_, I', q _ _ _ (h4 _ _ e r2) e r2⟩
      | _ => cases ey
    · cases h3
end
end Mx

set_option Elab.async false
set_option linter.all false
set_option maxRecDepth 100000
set_option maxHeartbeats 2000000
/-! Mx, part G: expressions: what one means by the core language. -/
namespace Mx
open PySem L2 PySem.Spec PyProof.Rows

/-! ### a module's constants -/
mutual
/-- v stands for d, by the written part alone -/
inductive KRep (K : PySem.W.Frag) : D → V → Prop
  | non : KRep K .non .non
  | bl (b : Bool) : KRep K (.bl b) (.bl b)
  | int (i : Int) : KRep K (.int i) (.int i)
  | str (s : Str) : KRep K (.str s) (.str s)
  | tup {a : Addr} {xs : List D} {vs : List V} {o : Obj} {its : Array Value} {n : Nat} : K.lookup a = some o → o.cls = .type "tuple" → o.dict = none → o.data = .seq its n → its.size ≤ sizeLine → Vals vs its.toList → KReps K xs vs → KRep K (.tup false xs) (.ref a)
inductive KReps (K : PySem.W.Frag) : List D → List V → Prop
  | nil : KReps K [] []
  | cons {d : D} {ds : List D} {v : V} {vs : List V} : KRep K d v → KReps K ds vs → KReps K (d :: ds) (v :: vs)
end
mutual
theorem KRep.rep {K : PySem.W.Frag} {m : Wd} {H : Hp} : ∀ {d : D} {v : V}, KRep K d v → Rep K m H d v
  | _, _, .non => .non
  | _, _, .bl b => .bl b
  | _, _, .int i => .int i
  | _, _, .str s => .str s
  | _, _, .tup h1 h2 h3 h4 h5 h6 r => .tup (.inr ⟨_, _, _, h1, h2, h4, h5, h6⟩) (fun z => nomatch z) (KReps.reps r)
theorem KReps.reps {K : PySem.W.Frag} {m : Wd} {H : Hp} : ∀ {ds : List D} {vs : List V}, KReps K ds vs → Reps K m H ds vs
  | _, _, .nil => .nil
  | _, _, .cons h t => .cons (KRep.rep h) (KReps.reps t)
end

/-! ### defs, and what they promise -/
/-- a call's end; no exception -/
def CRG (outer : List Env) (P : Program) (w : World) (H : Hp) (s : Shared) (Q : VK) (r : Result) (s' : Shared) : Prop :=
  match r with
  | .ok (.ret u) => CE outer P w H s Q u s'
  | _ => False
abbrev SpG := List V → Hp → VK → Prop
structure FnG (P : Program) (w : World) (K : PySem.W.Frag) (mg : Str → Option Value) (base : Heap) (k : Nat) (f : Addr) (fd : FuncData) (ps : List Str) (sp : SpG) : Prop where
  len : ∀ vs H Q, sp vs H Q → vs.length = ps.length
  run : ∀ (A : Around) (outer : List Env) (s : Shared) (H : Hp) (args : Args) (us : List Value) (vs : List V) (Q : VK), Room k A → A.guards = some [] → Env0 P w K mg base A outer s H → BindsTo s fd args (ps.zip us) → Vals vs us → sp vs H Q →
    codeAny (model P w) A (.call (.ref f) args) (CRG outer P w H s Q) s
theorem FnG.mono {P : Program} {w : World} {K : PySem.W.Frag} {mg : Str → Option Value} {base : Heap} {j k : Nat} {f : Addr} {fd : FuncData} {ps : List Str} {sp : SpG} (F : FnG P w K mg base j f fd ps sp) (h : j ≤ k) : FnG P w K mg base k f fd ps sp :=
  ⟨F.len, fun A outer s H args us vs Q hr hg => F.run A outer s H args us vs Q (hr.mono h) hg⟩
/-- what a def's call does, by the core language -/
def spM (T : Tbs) (K : PySem.W.Frag) (C : Calls) (x : Str) (np : Nat) : SpG := fun vs H Q => vs.length = np ∧ ∃ ro rw m ds, HRel T K m (ro ++ rw) H ∧ Reps K m H ds vs ∧ Sat T K ro m H (C ro x ds rw) fun d _ m' H' => ∀ v, Rep K m' H' d v → Q v H'
/-- a call's form: how many values by place, the keywords, the defaults, where each parameter's value stands among all these -/
structure Shp where
  np : Nat
  ks : List Str
  dv : List D
  src : List Nat
structure Glob where
  /-- a module's constants -/
  cst : List (Str × D)
  /-- forms of calls of defs -/
  fn : List (Str × Shp)
  /-- where own things are made; where a dict's keys are walked -/
  mu : List (Nat × Nat)
  dk : List (Nat × Nat)
  /-- gcd of math -/
  gcd : Bool
  /-- lambdas are made -/
  lam : Bool
/-- where a def's lambdas have their code objects -/
def LamAt (T : Tbs) (base : Heap) (mg : Str → Option Value) (cd : Value) (qual : Str) : Prop :=
  ∃ c P, cd = .ref c ∧ LamX.TabB base mg c P ∧ (P, qual ++ "<lambda>") ∈ T ∧ ∀ p ∈ T, p.1 = P → p.2 = qual ++ "<lambda>"
structure CallAt (T : Tbs) (P : Program) (w : World) (K : PySem.W.Frag) (mg : Str → Option Value) (base : Heap) (C : Calls) (k : Nat) (x : Str) (h : Shp) : Prop where
  at_ : ∃ (f : Addr) (fd : FuncData) (ps : List Str) (dus : List Value) (dvs : List V), mg x = some (.ref f) ∧ PySem.W.keepIn K (.ref f) = true ∧ h.src.length = ps.length ∧ FnG P w K mg base k f fd ps (spM T K C x ps.length) ∧ Vals dvs dus ∧ KReps K h.dv dvs ∧
    ∀ (s : Shared) (us ws as : List Value), K.In s.heap → us.length = h.np → ws.length = h.ks.length → as.length = ps.length → h.src.mapM (fun i => ((us ++ ws) ++ dus)[i]?) = some as → BindsTo s fd ⟨us, h.ks.zip ws⟩ (ps.zip as)

theorem Sat.isBl {T : Tbs} {K : PySem.W.Frag} {ro rw : MH} {m : Wd} {H : Hp} {α : Type} {d : D} {g : Bool → M α} {P : α → MH → Wd → Hp → Prop} (h : Sat T K ro m H (M.bind (Mx.isBl d) g rw) P) : ∃ b, d = .bl b ∧ Sat T K ro m H (g b rw) P := by
  cases d <;> first | exact h.elim | exact ⟨_, rfl, h⟩
theorem Sat.isBl1 {T : Tbs} {K : PySem.W.Frag} {ro rw : MH} {m : Wd} {H : Hp} {d : D} {P : Bool → MH → Wd → Hp → Prop} (h : Sat T K ro m H (Mx.isBl d rw) P) : ∃ b, d = .bl b ∧ Sat T K ro m H (M.pure b rw) P := by
  cases d <;> first | exact h.elim | exact ⟨_, rfl, h⟩
/-! ### what stands where the code runs -/
/-- the globals -/
structure GOk (T : Tbs) (P : Program) (w : World) (K : PySem.W.Frag) (mg : Str → Option Value) (base : Heap) (G : Glob) (C : Calls) (k : Nat) : Prop where
  cst : ∀ x d, (x, d) ∈ G.cst → ∃ u v, mg x = some u ∧ RelV v u ∧ KRep K d v
  blt : ∀ x ∈ bltNames, mg x = none
  gcd : G.gcd = true → mg "gcd" = some (.builtin "math.gcd")
  fn : ∀ x h, (x, h) ∈ G.fn → CallAt T P w K mg base C k x h
/-- the frame: its names, its scope -/
structure Here (T : Tbs) (G : Glob) (C : Calls) (k : Nat) (N : List Str) (sc : Scope) (X : Cx) : Prop where
  ctx : Ctx X k
  scope : X.env.scope = sc
  names : X.N = N
  glob : GOk T X.prog X.w X.K X.mg X.base G C k
  lam : G.lam = true → LamAt T X.base X.mg X.env.code X.env.qual
/-- the slots -/
structure SRel (K : PySem.W.Frag) (m : Wd) (H : Hp) (σ : Sig) (s : L2.St) : Prop where
  len : σ.length = s.length
  at_ : ∀ (i : Nat) d, σ[i]? = some (some d) → ∃ v, s[i]? = some (some v) ∧ Rep K m H d v
theorem SRel.ext {K : PySem.W.Frag} {m m' : Wd} {H H' : Hp} {σ : Sig} {s : L2.St} (r : SRel K m H σ s) (e : ExtW m H m' H') (nt : NoTup m H) : SRel K m' H' σ s :=
  ⟨r.len, fun i d h => let ⟨v, h1, h2⟩ := r.at_ i d h; ⟨v, h1, h2.ext e nt⟩⟩
theorem SRel.set {K : PySem.W.Frag} {m : Wd} {H : Hp} {σ : Sig} {s : L2.St} (r : SRel K m H σ s) {i : Nat} {d : D} {v : V} (p : Rep K m H d v) : SRel K m H (σ.set i (some d)) (s.set i (some v)) := by
  refine ⟨by simp [r.len], fun j e h => ?_⟩
  by_cases z : j = i
  · subst z
    have lt : j < σ.length := by
      have := (List.getElem?_eq_some_iff.mp h).1
      simpa using this
    rw [List.getElem?_set_self lt] at h
    cases h
    exact ⟨v, List.getElem?_set_self (by rw [← r.len]; exact lt), p⟩
  · rw [List.getElem?_set_ne (Ne.symm z)] at h ⊢
    exact r.at_ j e h
theorem SRel.unset {K : PySem.W.Frag} {m : Wd} {H : Hp} {σ : Sig} {s : L2.St} (r : SRel K m H σ s) (i : Nat) : SRel K m H (σ.set i none) (s.set i none) := by
  refine ⟨by simp [r.len], fun j e h => ?_⟩
  by_cases z : j = i
  · subst z
    by_cases lt : j < σ.length
    · rw [List.getElem?_set_self lt] at h; cases h
    · rw [List.getElem?_eq_none (by simpa using lt)] at h; cases h
  · rw [List.getElem?_set_ne (Ne.symm z)] at h ⊢
    exact r.at_ j e h
theorem SRel.wipe {K : PySem.W.Frag} {m : Wd} {H : Hp} {σ : Sig} {s : L2.St} (r : SRel K m H σ s) : ∀ vs : List Nat, SRel K m H (wipeD σ vs) (L2.wipe s vs)
  | [] => r
  | v :: vs => (SRel.wipe r vs).unset v

section
variable (T : Tbs) (G : Glob) (C : Calls) (k : Nat) (N : List Str) (sc : Scope)
/-- what an evaluation hands on -/
abbrev VP (K : PySem.W.Frag) (Q : VK) : D → MH → Wd → Hp → Prop := fun d _ m' H' => ∀ v, Rep K m' H' d v → Q v H'
abbrev BP (Q : Bool → Hp → Prop) : D → MH → Wd → Hp → Prop := fun d _ _ H' => ∃ b, d = .bl b ∧ Q b H'
abbrev LP (K : PySem.W.Frag) (Q : List V → Hp → Prop) : List D → MH → Wd → Hp → Prop := fun ds _ m' H' => ∀ vs, Reps K m' H' ds vs → Q vs H'
/-- e does what m says -/
def SE (m : ME) (e : Expr) : Prop := ∀ (X : Cx), Here T G C k N sc X → ∀ (ro rw : MH) (σ : Sig) (s : L2.St) (ma : Wd) (H : Hp) (Q : VK), SRel X.K ma H σ s → HRel T X.K ma (ro ++ rw) H → Sat T X.K ro ma H (evE C ro m σ rw) (VP X.K Q) → wE X e s H Q
/-- e as a test -/
def ST (m : ME) (e : Expr) : Prop := ∀ (X : Cx), Here T G C k N sc X → ∀ (ro rw : MH) (σ : Sig) (s : L2.St) (ma : Wd) (H : Hp) (Q : Bool → Hp → Prop), SRel X.K ma H σ s → HRel T X.K ma (ro ++ rw) H → Sat T X.K ro ma H (evE C ro m σ rw) (BP Q) → wT X e s H Q
/-- es one behind another -/
def SA (ms : List ME) (es : List Expr) : Prop := ∀ (X : Cx), Here T G C k N sc X → ∀ (ro rw : MH) (σ : Sig) (s : L2.St) (ma : Wd) (H : Hp) (Q : List V → Hp → Prop), SRel X.K ma H σ s → HRel T X.K ma (ro ++ rw) H → Sat T X.K ro ma H (evEs C ro ms σ rw) (LP X.K Q) → wA X es s H Q
end

section
variable {T : Tbs} {G : Glob} {C : Calls} {k : Nat} {N : List Str} {sc : Scope} {a b c : ME} {ea eb ec : Expr} {pos : Pos}
/-! ### names, constants -/
def okName (x : Str) : Bool := (x == ("__debug__" : Str)) == false && (x == ("__classdict__" : Str)) == false && decide (x ≠ "__name__")
def visB (sc : Scope) (x : Str) : Bool := match sc.names.lookup x with
  | some .local => true
  | some .cell => true
  | some .free => true
  | _ => false
theorem visB_of {x : Str} (h : visB sc x = true) : Vis sc x := by
  unfold visB at h
  unfold Vis
  split at h <;> simp_all
theorem se_nope {e : Expr} : SE T G C k N sc .nope e := fun X hX ro rw σ s ma H Q rs hr h => h.elim
theorem se_nm {i : Nat} {x : Str} (hN : N[i]? = some x) (hv : visB sc x = true) (hk : okName x = true) : SE T G C k N sc (.nm i) (.Name x pos) := fun X hX ro rw σ s ma H Q rs hr h => by
  unfold okName at hk
  simp only [Bool.and_eq_true, beq_iff_eq] at hk
  refine PE.le (pe_var (by rw [hX.names]; exact hN) (by rw [hX.scope]; exact visB_of hv) hk.1.1 hk.1.2) ?_
  obtain ⟨d, e, q⟩ := Sat.lift h
  obtain ⟨o, e1, e2⟩ := Option.bind_eq_some_iff.mp e
  have e2 : o = some d := e2
  subst e2
  obtain ⟨v, h1, h2⟩ := rs.at_ i d e1
  exact ⟨v, h1, q ma H (.refl _ _) hr v h2⟩
theorem se_cst {d : D} {x : Str} (hg : sc.names.lookup x = some .globalImplicit) (hk : okName x = true) (hc : (x, d) ∈ G.cst) : SE T G C k N sc (.cst d) (.Name x pos) := fun X hX ro rw σ s ma H Q rs hr h => by
  unfold okName at hk
  simp only [Bool.and_eq_true, beq_iff_eq] at hk
  obtain ⟨u, v, h1, h2, h3⟩ := hX.glob.cst x d hc
  exact PE.le (pe_glob (show X.env.kindOf x = _ from by unfold Env.kindOf; rw [hX.scope]; exact hg) h1 h2 hk.1.1) (Sat.ok h hr v h3.rep)
theorem se_int {i : Int} {j : Nat} : SE T G C k N sc (.cst (.int i)) (.Constant (.int i) j pos) := fun X hX ro rw σ s ma H Q rs hr h => PE.le pe_int (Sat.ok h hr _ (.int i))
theorem se_str {i : Str} {j : Nat} : SE T G C k N sc (.cst (.str i)) (.Constant (.str i) j pos) := fun X hX ro rw σ s ma H Q rs hr h => PE.le pe_str (Sat.ok h hr _ (.str i))
theorem se_bl {i : Bool} {j : Nat} : SE T G C k N sc (.cst (.bl i)) (.Constant (.bool i) j pos) := fun X hX ro rw σ s ma H Q rs hr h => PE.le pe_bl (Sat.ok h hr _ (.bl i))
theorem se_non {j : Nat} : SE T G C k N sc (.cst .non) (.Constant .none j pos) := fun X hX ro rw σ s ma H Q rs hr h => PE.le pe_non (Sat.ok h hr _ .non)
/-! ### operators -/
theorem se_bin {op : BO} (ha : SE T G C k N sc a ea) (hb : SE T G C k N sc b eb) : SE T G C k N sc (.bin op a b) (.BinOp ea (opOf op) eb pos) := fun X hX ro rw σ s ma H Q rs hr h => by
  refine PE.le (pe_op op_w pe_w pe_w) (ha X hX ro rw σ s ma H _ rs hr ((Sat.bind h).mono fun x rw1 m1 H1 e1 r1 h1 v hv => ?_))
  refine hb X hX ro rw1 σ s m1 H1 _ (rs.ext e1.toExtW hr.noTup) r1 ((Sat.bind h1).mono fun y rw2 m2 H2 e2 r2 h2 u hu => ?_)
  obtain ⟨d, e, q⟩ := Sat.lift h2
  exact binop_ok r2 (hv.ext e2.toExtW r1.noTup) hu e fun m' H' e' r' w hw => q m' H' e' r' w hw
theorem se_neg (ha : SE T G C k N sc a ea) : SE T G C k N sc (.neg a) (.UnaryOp .USub ea pos) := fun X hX ro rw σ s ma H Q rs hr h => by
  refine PE.le (pe_un un_neg pe_w) (ha X hX ro rw σ s ma H _ rs hr ((Sat.bind h).mono fun x rw1 m1 H1 e1 r1 h1 v hv => ?_))
  obtain ⟨d, e, q⟩ := Sat.lift h1
  cases hv <;> simp only [reduceCtorEq, Option.some.injEq] at e
  subst e
  exact ⟨_, rfl, q m1 H1 (.refl _ _) r1 _ (.int _)⟩
theorem se_cmp {op : CO} (ha : SE T G C k N sc a ea) (hb : SE T G C k N sc b eb) (hm : behindInMarks (cOf op) eb = false) : SE T G C k N sc (.cmp op a b) (.Compare ea [cOf op] [eb] pos) := fun X hX ro rw σ s ma H Q rs hr h => by
  refine PE.le (pe_cmpR op_w pe_w pe_w hm) (ha X hX ro rw σ s ma H _ rs hr ((Sat.bind h).mono fun x rw1 m1 H1 e1 r1 h1 v hv => ?_))
  refine hb X hX ro rw1 σ s m1 H1 _ (rs.ext e1.toExtW hr.noTup) r1 ((Sat.bind h1).mono fun y rw2 m2 H2 e2 r2 h2 u hu => ?_)
  obtain ⟨d, e, q⟩ := Sat.lift h2
  obtain ⟨b', eb', rfl⟩ := Option.map_eq_some_iff.mp e
  exact cmpop_ok hX.ctx r2 (hv.ext e2.toExtW r1.noTup) hu eb' (q m2 H2 (.refl _ _) r2 _ (.bl _))
theorem st_cmp {op : CO} (ha : SE T G C k N sc a ea) (hb : SE T G C k N sc b eb) (hm : behindInMarks (cOf op) eb = false) : ST T G C k N sc (.cmp op a b) (.Compare ea [cOf op] [eb] pos) := fun X hX ro rw σ s ma H Q rs hr h => by
  refine PT.le (pt_cmpR op_w pe_w pe_w hm) (ha X hX ro rw σ s ma H _ rs hr ((Sat.bind h).mono fun x rw1 m1 H1 e1 r1 h1 v hv => ?_))
  refine hb X hX ro rw1 σ s m1 H1 _ (rs.ext e1.toExtW hr.noTup) r1 ((Sat.bind h1).mono fun y rw2 m2 H2 e2 r2 h2 u hu => ?_)
  obtain ⟨d, e, q⟩ := Sat.lift h2
  obtain ⟨b', eb', rfl⟩ := Option.map_eq_some_iff.mp e
  obtain ⟨b2, z, q2⟩ := q m2 H2 (.refl _ _) r2
  cases z
  exact cmpop_ok hX.ctx r2 (hv.ext e2.toExtW r1.noTup) hu eb' ⟨_, rfl, q2⟩
/-- a test by its value -/
theorem st_val {m : ME} {e : Expr} (ha : SE T G C k N sc m e) (he : ∀ (env : Env) whole, isTrue e env whole = (do let v ← whole; standAt e.pos; holding [v] (truthy v))) : ST T G C k N sc m e := fun X hX ro rw σ s ma H Q rs hr h => by
  refine PT.le (pt_val pe_w (he X.env)) (ha X hX ro rw σ s ma H _ rs hr (h.mono fun x rw1 m1 H1 e1 r1 h1 v hv => ?_))
  obtain ⟨b, rfl, q⟩ := h1
  cases hv
  exact ⟨_, rfl, q⟩
theorem st_not (ha : ST T G C k N sc a ea) : ST T G C k N sc (.not a) (.UnaryOp .Not ea pos) := fun X hX ro rw σ s ma H Q rs hr h => by
  refine PT.le (pt_not pt_w) (ha X hX ro rw σ s ma H _ rs hr ((Sat.bind h).mono fun x rw1 m1 H1 e1 r1 h1 => ?_))
  obtain ⟨b, rfl, h2⟩ := Sat.isBl h1
  obtain ⟨b2, z, q2⟩ := Sat.ok h2 r1
  cases z
  exact ⟨b, rfl, q2⟩
theorem se_not (ha : SE T G C k N sc a ea) : SE T G C k N sc (.not a) (.UnaryOp .Not ea pos) := fun X hX ro rw σ s ma H Q rs hr h => by
  refine PE.le (pe_not pe_w) (ha X hX ro rw σ s ma H _ rs hr ((Sat.bind h).mono fun x rw1 m1 H1 e1 r1 h1 v hv => ?_))
  obtain ⟨b, rfl, h2⟩ := Sat.isBl h1
  cases hv
  exact ⟨b, rfl, Sat.ok h2 r1 _ (.bl _)⟩
theorem se_ite (hc : ST T G C k N sc c ec) (ha : SE T G C k N sc a ea) (hb : SE T G C k N sc b eb) : SE T G C k N sc (.ite c a b) (.IfExp ec ea eb pos) := fun X hX ro rw σ s ma H Q rs hr h => by
  refine PE.le (pe_ifExp pt_w pe_w pe_w) (hc X hX ro rw σ s ma H _ rs hr ((Sat.bind h).mono fun x rw1 m1 H1 e1 r1 h1 => ?_))
  obtain ⟨z, rfl, h2⟩ := Sat.isBl h1
  refine ⟨z, rfl, ?_⟩
  cases z with
  | true => exact ha X hX ro rw1 σ s m1 H1 Q (rs.ext e1.toExtW hr.noTup) r1 h2
  | false => exact hb X hX ro rw1 σ s m1 H1 Q (rs.ext e1.toExtW hr.noTup) r1 h2
theorem se_chain {op op' : CO} (ha : SE T G C k N sc a ea) (hb : SE T G C k N sc b eb) (hc : SE T G C k N sc c ec) (hm : lastMarks [cOf op, cOf op'] [eb, ec] = false) : SE T G C k N sc (.chain op op' a b c) (.Compare ea [cOf op, cOf op'] [eb, ec] pos) := fun X hX ro rw σ s ma H Q rs hr h => by
  refine PE.le (pe_chain op_w op_w pe_w pe_w pe_w hm) (ha X hX ro rw σ s ma H _ rs hr ((Sat.bind h).mono fun x rw1 m1 H1 e1 r1 h1 v hv => ?_))
  have rs1 := rs.ext e1.toExtW hr.noTup
  refine hb X hX ro rw1 σ s m1 H1 _ rs1 r1 ((Sat.bind h1).mono fun y rw2 m2 H2 e2 r2 h2 u hu => ?_)
  have rs2 := rs1.ext e2.toExtW r1.noTup
  have h3 := Sat.bind h2
  obtain ⟨b0, e0, q0⟩ := Sat.lift h3
  refine cmpop_ok hX.ctx r2 (hv.ext e2.toExtW r1.noTup) hu e0 ⟨b0, rfl, ?_⟩
  have q1 := q0 m2 H2 (.refl _ _) r2
  cases b0 with
  | false => exact Sat.ok q1 r2 _ (.bl _)
  | true =>
    refine hc X hX ro rw2 σ s m2 H2 _ rs2 r2 ((Sat.bind q1).mono fun z rw3 m3 H3 e3 r3 h4 w hw => ?_)
    obtain ⟨d, e, q⟩ := Sat.lift h4
    obtain ⟨b', eb', rfl⟩ := Option.map_eq_some_iff.mp e
    exact cmpop_ok hX.ctx r3 (hu.ext e3.toExtW r2.noTup) hw eb' (q m3 H3 (.refl _ _) r3 _ (.bl _))
/-! ### and, or: as values, as tests -/
section
variable {ms : List ME} {es : List Expr}
/-- pairwise -/
inductive All2 {α β : Type} (F : α → β → Prop) : List α → List β → Prop
  | nil : All2 F [] []
  | cons {a : α} {b : β} {as : List α} {bs : List β} : F a b → All2 F as bs → All2 F (a :: as) (b :: bs)
theorem and_v {ms : List ME} {es : List Expr} (all : All2 (SE T G C k N sc) ms es) : ∀ (X : Cx), Here T G C k N sc X → ∀ (ro rw : MH) (σ : Sig) (s : L2.St) (ma : Wd) (H : Hp) (Q : VK), SRel X.K ma H σ s → HRel T X.K ma (ro ++ rw) H →
    Sat T X.K ro ma H (evAnd C ro ms σ rw) (fun b _ _ H' => Q (.bl b) H') → wE X (.BoolOp .And es pos) s H Q := by
  induction all with
  | nil => exact fun X hX ro rw σ s ma H Q rs hr h => h.elim
  | @cons m e ms es h1 t ih =>
    intro X hX ro rw σ s ma H Q rs hr h
    cases t with
    | nil =>
      refine PE.le (pe_one pe_w) (h1 X hX ro rw σ s ma H _ rs hr ((Sat.bind h).mono fun x rw1 m1 H1 e1 r1 h1 v hv => ?_))
      obtain ⟨b, rfl, h2⟩ := Sat.isBl1 h1
      cases hv
      exact Sat.ok h2 r1
    | cons h2 t =>
      refine PE.le (pe_and pe_w pe_w) (h1 X hX ro rw σ s ma H _ rs hr ((Sat.bind h).mono fun x rw1 m1 H1 e1 r1 q1 v hv => ?_))
      obtain ⟨b, rfl, q2⟩ := Sat.isBl q1
      cases hv
      refine ⟨b, rfl, ?_⟩
      cases b with
      | true => exact ih X hX ro rw1 σ s m1 H1 Q (rs.ext e1.toExtW hr.noTup) r1 q2
      | false => exact Sat.ok q2 r1
theorem or_v {ms : List ME} {es : List Expr} (all : All2 (SE T G C k N sc) ms es) : ∀ (X : Cx), Here T G C k N sc X → ∀ (ro rw : MH) (σ : Sig) (s : L2.St) (ma : Wd) (H : Hp) (Q : VK), SRel X.K ma H σ s → HRel T X.K ma (ro ++ rw) H →
    Sat T X.K ro ma H (evOr C ro ms σ rw) (fun b _ _ H' => Q (.bl b) H') → wE X (.BoolOp .Or es pos) s H Q := by
  induction all with
  | nil => exact fun X hX ro rw σ s ma H Q rs hr h => h.elim
  | @cons m e ms es h1 t ih =>
    intro X hX ro rw σ s ma H Q rs hr h
    cases t with
    | nil =>
      refine PE.le (pe_one pe_w) (h1 X hX ro rw σ s ma H _ rs hr ((Sat.bind h).mono fun x rw1 m1 H1 e1 r1 h1 v hv => ?_))
      obtain ⟨b, rfl, h2⟩ := Sat.isBl1 h1
      cases hv
      exact Sat.ok h2 r1
    | cons h2 t =>
      refine PE.le (pe_or pe_w pe_w) (h1 X hX ro rw σ s ma H _ rs hr ((Sat.bind h).mono fun x rw1 m1 H1 e1 r1 q1 v hv => ?_))
      obtain ⟨b, rfl, q2⟩ := Sat.isBl q1
      cases hv
      refine ⟨b, rfl, ?_⟩
      cases b with
      | true => exact Sat.ok q2 r1
      | false => exact ih X hX ro rw1 σ s m1 H1 Q (rs.ext e1.toExtW hr.noTup) r1 q2
theorem se_and (h : All2 (SE T G C k N sc) ms es) : SE T G C k N sc (.and ms) (.BoolOp .And es pos) := fun X hX ro rw σ s ma H Q rs hr q =>
  and_v h X hX ro rw σ s ma H Q rs hr ((Sat.bind q).mono fun b rw1 m1 H1 e1 r1 q1 => Sat.ok q1 r1 _ (.bl _))
theorem se_or (h : All2 (SE T G C k N sc) ms es) : SE T G C k N sc (.or ms) (.BoolOp .Or es pos) := fun X hX ro rw σ s ma H Q rs hr q =>
  or_v h X hX ro rw σ s ma H Q rs hr ((Sat.bind q).mono fun b rw1 m1 H1 e1 r1 q1 => Sat.ok q1 r1 _ (.bl _))
def wW (X : Cx) (e : Expr) : TT := fun σ H Q => ∀ (whole : Sem Value) (pins : List (Addr × Obj)) (s : Shared), Inv X pins σ H s → wpAny (model X.prog X.w) X.A (isTrue e X.env whole) (TP X pins σ Q) X.xe s
theorem pw_w {X : Cx} {e : Expr} : PW X e (wW X e) := ⟨fun whole pins s σ H Q I h => h whole pins s I⟩
theorem PW.le {X : Cx} {e : Expr} {t : TT} (h : PW X e t) {σ : L2.St} {H : Hp} {Q : Bool → Hp → Prop} (q : t σ H Q) : wW X e σ H Q := fun whole pins s I => h.run whole pins s σ H Q I q
theorem and_t {ms : List ME} {es : List Expr} (all : All2 (ST T G C k N sc) ms es) : ∀ (X : Cx), Here T G C k N sc X → ∀ (ro rw : MH) (σ : Sig) (s : L2.St) (ma : Wd) (H : Hp) (Q : Bool → Hp → Prop), SRel X.K ma H σ s → HRel T X.K ma (ro ++ rw) H →
    Sat T X.K ro ma H (evAnd C ro ms σ rw) (fun b _ _ H' => Q b H') → wW X (.BoolOp .And es pos) s H Q := by
  induction all with
  | nil => exact fun X hX ro rw σ s ma H Q rs hr h => h.elim
  | @cons m e ms es h1 t ih =>
    intro X hX ro rw σ s ma H Q rs hr h
    cases t with
    | nil =>
      refine PW.le (pw_and1 pt_w) (h1 X hX ro rw σ s ma H _ rs hr ((Sat.bind h).mono fun x rw1 m1 H1 e1 r1 h1 => ?_))
      obtain ⟨b, rfl, h2⟩ := Sat.isBl1 h1
      exact ⟨b, rfl, Sat.ok h2 r1⟩
    | cons h2 t =>
      refine PW.le (pw_and pt_w pw_w) (h1 X hX ro rw σ s ma H _ rs hr ((Sat.bind h).mono fun x rw1 m1 H1 e1 r1 q1 => ?_))
      obtain ⟨b, rfl, q2⟩ := Sat.isBl q1
      refine ⟨b, rfl, ?_⟩
      cases b with
      | true => exact ih X hX ro rw1 σ s m1 H1 Q (rs.ext e1.toExtW hr.noTup) r1 q2
      | false => exact Sat.ok q2 r1
theorem or_t {ms : List ME} {es : List Expr} (all : All2 (ST T G C k N sc) ms es) : ∀ (X : Cx), Here T G C k N sc X → ∀ (ro rw : MH) (σ : Sig) (s : L2.St) (ma : Wd) (H : Hp) (Q : Bool → Hp → Prop), SRel X.K ma H σ s → HRel T X.K ma (ro ++ rw) H →
    Sat T X.K ro ma H (evOr C ro ms σ rw) (fun b _ _ H' => Q b H') → wW X (.BoolOp .Or es pos) s H Q := by
  induction all with
  | nil => exact fun X hX ro rw σ s ma H Q rs hr h => h.elim
  | @cons m e ms es h1 t ih =>
    intro X hX ro rw σ s ma H Q rs hr h
    cases t with
    | nil =>
      refine PW.le (pw_or1 pt_w) (h1 X hX ro rw σ s ma H _ rs hr ((Sat.bind h).mono fun x rw1 m1 H1 e1 r1 h1 => ?_))
      obtain ⟨b, rfl, h2⟩ := Sat.isBl1 h1
      exact ⟨b, rfl, Sat.ok h2 r1⟩
    | cons h2 t =>
      refine PW.le (pw_or pt_w pw_w) (h1 X hX ro rw σ s ma H _ rs hr ((Sat.bind h).mono fun x rw1 m1 H1 e1 r1 q1 => ?_))
      obtain ⟨b, rfl, q2⟩ := Sat.isBl q1
      refine ⟨b, rfl, ?_⟩
      cases b with
      | true => exact Sat.ok q2 r1
      | false => exact ih X hX ro rw1 σ s m1 H1 Q (rs.ext e1.toExtW hr.noTup) r1 q2
theorem st_and (h : All2 (ST T G C k N sc) ms es) : ST T G C k N sc (.and ms) (.BoolOp .And es pos) := fun X hX ro rw σ s ma H Q rs hr q => fun pins s0 I => by
  refine and_t h X hX ro rw σ s ma H Q rs hr ((Sat.bind q).mono fun b rw1 m1 H1 e1 r1 q1 => ?_) _ pins s0 I
  obtain ⟨b', z, q2⟩ := Sat.ok q1 r1
  cases z; exact q2
theorem st_or (h : All2 (ST T G C k N sc) ms es) : ST T G C k N sc (.or ms) (.BoolOp .Or es pos) := fun X hX ro rw σ s ma H Q rs hr q => fun pins s0 I => by
  refine or_t h X hX ro rw σ s ma H Q rs hr ((Sat.bind q).mono fun b rw1 m1 H1 e1 r1 q1 => ?_) _ pins s0 I
  obtain ⟨b', z, q2⟩ := Sat.ok q1 r1
  cases z; exact q2
/-! ### lists of expressions, displays -/
def isStar : Expr → Bool
  | .Starred _ _ => true
  | _ => false
theorem star_each {e : Expr} {es : List Expr} {env : Env} (h : isStar e = false) : starEach (e :: es) env = (false, eval e env) :: starEach es env := by
  cases e <;> first | rfl | cases h
theorem sa_of {ms : List ME} {es : List Expr} (all : All2 (SE T G C k N sc) ms es) : es.all (fun e => !isStar e) = true → SA T G C k N sc ms es := by
  induction all with
  | nil => exact fun _ X hX ro rw σ s ma H Q rs hr h => PA.le pa_nil (Sat.ok h hr _ .nil)
  | @cons m e ms es h1 t ih =>
    intro hs X hX ro rw σ s ma H Q rs hr h
    rw [List.all_cons, Bool.and_eq_true, Bool.not_eq_true'] at hs
    refine PA.le (pa_cons pe_w pa_w (star_each hs.1)) (h1 X hX ro rw σ s ma H _ rs hr ((Sat.bind h).mono fun x rw1 m1 H1 e1 r1 q1 v hv => ?_))
    refine ih hs.2 X hX ro rw1 σ s m1 H1 _ (rs.ext e1.toExtW hr.noTup) r1 ((Sat.bind q1).mono fun xs rw2 m2 H2 e2 r2 q2 vs hvs => ?_)
    exact Sat.ok q2 r2 _ (.cons (hv.ext e2.toExtW r1.noTup) hvs)
theorem se_tup {x1 : Nat} (h : SA T G C k N sc ms es) : SE T G C k N sc (.tup ms) (.Tuple es x1 pos) := fun X hX ro rw σ s ma H Q rs hr q => by
  refine PE.le (pe_tup pa_w) (h X hX ro rw σ s ma H _ rs hr ((Sat.bind q).mono fun xs rw1 m1 H1 e1 r1 q1 vs hvs => ?_))
  split at q1
  · rename_i z
    have z := line_ok z
    rw [hvs.length] at z
    exact ⟨z, fun p hp => Got.tup (fun m' H' e r v hv => q1 m' H' e r v hv) r1 hvs p hp⟩
  · exact q1.elim
theorem se_lst {mu : Bool} (h : SA T G C k N sc ms es) : SE T G C k N sc (.lst mu ms) (.List es pos) := fun X hX ro rw σ s ma H Q rs hr q => by
  refine PE.le (pe_lst pa_w) (h X hX ro rw σ s ma H _ rs hr ((Sat.bind q).mono fun xs rw1 m1 H1 e1 r1 q1 vs hvs => ?_))
  split at q1
  · rename_i z
    have z := line_ok z
    rw [hvs.length] at z
    exact ⟨z, fun p hp => Made.lst q1 r1 hvs p hp⟩
  · exact q1.elim
def isSlice : Expr → Bool
  | .Slice _ _ _ _ => true
  | _ => false
theorem plain_ix {e : Expr} (h : isSlice e = false) : PlainIx e := fun o i => by
  cases e <;> first | rfl | cases h
theorem se_sub (ha : SE T G C k N sc a ea) (hb : SE T G C k N sc b eb) (hs : isSlice eb = false) : SE T G C k N sc (.sub a b) (.Subscript ea eb pos) := fun X hX ro rw σ s ma H Q rs hr h => by
  refine PE.le (pe_ix ix_w pe_w pe_w (plain_ix hs)) (ha X hX ro rw σ s ma H _ rs hr ((Sat.bind h).mono fun x rw1 m1 H1 e1 r1 h1 v hv => ?_))
  refine hb X hX ro rw1 σ s m1 H1 _ (rs.ext e1.toExtW hr.noTup) r1 ((Sat.bind h1).mono fun y rw2 m2 H2 e2 r2 h2 u hu => ?_)
  obtain ⟨d, e, q⟩ := Sat.lift h2
  exact subD_ok hX.ctx r2 (hv.ext e2.toExtW r1.noTup) hu e fun m' H' e' r' w hw => q m' H' e' r' w hw
end
end
end Mx

set_option Elab.async false
set_option linter.all false
set_option maxRecDepth 100000
set_option maxHeartbeats 1000000
/-! Mx, part H: calls. -/
namespace Mx
open PySem L2 PySem.Spec PyProof.Rows

theorem argsBy_len : ∀ {src : List Nat} {ds as : List D}, argsBy src ds = some as → as.length = src.length
  | [], _, _, h => by cases h; rfl
  | i :: r, ds, as, h => by
    unfold argsBy at h
    split at h
    · rename_i d q h1 h2
      cases h
      simp [argsBy_len h2]
    · cases h
theorem argsBy_pick {K : PySem.W.Frag} {m : Wd} {H : Hp} : ∀ {src : List Nat} {ds as : List D} {vs : List V} {us : List Value}, argsBy src ds = some as → Reps K m H ds vs → Vals vs us →
    ∃ vs' us', Reps K m H as vs' ∧ Vals vs' us' ∧ src.mapM (fun i => us[i]?) = some us'
  | [], _, _, _, _, h, _, _ => by cases h; exact ⟨[], [], .nil, .nil, rfl⟩
  | i :: r, ds, as, vs, us, h, p, q => by
    unfold argsBy at h
    split at h
    · rename_i d z h1 h2
      cases h
      obtain ⟨v, e1, e2⟩ := p.get h1
      obtain ⟨u, e3, e4⟩ := q.get e1
      obtain ⟨vs', us', a1, a2, a3⟩ := argsBy_pick h2 p q
      refine ⟨v :: vs', u :: us', .cons e2 a1, .cons e4 a2, ?_⟩
      rw [List.mapM_cons, e3, a3]; rfl
    · cases h
theorem evEs_append (C : Calls) (ro : MH) (σ : Sig) : ∀ (as bs : List ME), evEs C ro (as ++ bs) σ = M.bind (evEs C ro as σ) fun xs => M.bind (evEs C ro bs σ) fun ys => M.pure (xs ++ ys)
  | [], bs => by
    funext h
    show evEs C ro bs σ h = M.bind (M.pure []) _ h
    show _ = M.bind (evEs C ro bs σ) (fun ys => M.pure ([] ++ ys)) h
    unfold M.bind M.pure
    cases evEs C ro bs σ h <;> rfl
  | a :: as, bs => by
    funext h
    show M.bind (evE C ro a σ) (fun d => M.bind (evEs C ro (as ++ bs) σ) fun ds => M.pure (d :: ds)) h = M.bind (M.bind (evE C ro a σ) fun d => M.bind (evEs C ro as σ) fun ds => M.pure (d :: ds)) _ h
    rw [evEs_append C ro σ as bs]
    unfold M.bind M.pure
    cases evE C ro a σ h with
    | ok d h1 =>
      simp only
      cases evEs C ro as σ h1 with
      | ok xs h2 =>
        simp only
        cases evEs C ro bs σ h2 <;> rfl
      | exc c p h2 => rfl
      | err => rfl
    | exc c p h1 => rfl
    | err => rfl
section
variable {T : Tbs} {G : Glob} {C : Calls} {k : Nat} {N : List Str} {sc : Scope}
def wK (X : Cx) (kws : List Keyword) : TA := fun σ H Q => ∀ (pos : Pos) (pins : List (Addr × Obj)) (s : Shared), Inv X pins σ H s → wpAny (model X.prog X.w) X.A (evalAll ((backToKw pos (keywordEach kws X.env)).map (·.2))) (AP X pins σ Q) X.xe s
theorem pk_w {X : Cx} {kws : List Keyword} : PK X kws (wK X kws) := ⟨fun pos pins s σ H Q I h => h pos pins s I⟩
theorem PK.le {X : Cx} {kws : List Keyword} {t : TA} (h : PK X kws t) {σ : L2.St} {H : Hp} {Q : List V → Hp → Prop} (q : t σ H Q) : wK X kws σ H Q := fun pos pins s I => h.run pos pins s σ H Q I q
def kwE : Keyword → Expr
  | ⟨_, e, _⟩ => e
def kwN : Keyword → Option Str
  | ⟨n, _, _⟩ => n
theorem sk_of {ms : List ME} {es : List Expr} (all : All2 (SE T G C k N sc) ms es) : ∀ (kws : List Keyword), kws.map kwE = es → ∀ (X : Cx), Here T G C k N sc X → ∀ (ro rw : MH) (σ : Sig) (s : L2.St) (ma : Wd) (H : Hp) (Q : List V → Hp → Prop), SRel X.K ma H σ s → HRel T X.K ma (ro ++ rw) H →
    Sat T X.K ro ma H (evEs C ro ms σ rw) (LP X.K Q) → wK X kws s H Q := by
  induction all with
  | nil =>
    intro kws hk X hX ro rw σ s ma H Q rs hr h
    cases kws with
    | nil => exact PK.le pk_nil (Sat.ok h hr _ .nil)
    | cons _ _ => cases hk
  | @cons m e ms es h1 t ih =>
    intro kws hk X hX ro rw σ s ma H Q rs hr h
    cases kws with
    | nil => cases hk
    | cons kw kws =>
      obtain ⟨nm, e', kp⟩ := kw
      simp only [List.map_cons, List.cons.injEq] at hk
      obtain ⟨h2, h3⟩ := hk
      have h2 : e' = e := h2
      subst h2
      refine PK.le (pk_cons pe_w pk_w) (h1 X hX ro rw σ s ma H _ rs hr ((Sat.bind h).mono fun x rw1 m1 H1 e1 r1 q1 v hv => ?_))
      refine ih kws h3 X hX ro rw1 σ s m1 H1 _ (rs.ext e1.toExtW hr.noTup) r1 ((Sat.bind q1).mono fun xs rw2 m2 H2 e2 r2 q2 vs hvs => ?_)
      exact Sat.ok q2 r2 _ (.cons (hv.ext e2.toExtW r1.noTup) hvs)
theorem kw_some : ∀ {kws : List Keyword} {env : Env} {pos : Pos} {ks : List Str}, kws.map kwN = ks.map some → (backToKw pos (keywordEach kws env)).all (·.1.isSome) = true ∧ (backToKw pos (keywordEach kws env)).any (·.1.isNone) = false ∧ (backToKw pos (keywordEach kws env)).filterMap (·.1) = ks
  | [], _, _, [], _ => ⟨rfl, rfl, rfl⟩
  | [], _, _, _ :: _, h => nomatch h
  | _ :: _, _, _, [], h => nomatch h
  | ⟨nm, e, kp⟩ :: kws, env, pos, k :: ks, h => by
    simp only [List.map_cons, List.cons.injEq] at h
    obtain ⟨h1, h2⟩ := h
    have h1 : nm = some k := h1
    subst h1
    obtain ⟨i1, i2, i3⟩ := kw_some (env := env) (pos := pos) h2
    refine ⟨?_, ?_, ?_⟩
    · show (Option.isSome (some k) && (backToKw pos (keywordEach kws env)).all (·.1.isSome)) = true
      rw [i1]; rfl
    · show (Option.isNone (some k) || (backToKw pos (keywordEach kws env)).any (·.1.isNone)) = false
      rw [i2]; rfl
    · show k :: (backToKw pos (keywordEach kws env)).filterMap (·.1) = _
      rw [i3]
theorem no_star : ∀ {es : List Expr} {env : Env} {pos : Pos}, es.all (fun e => !isStar e) = true → (backTo pos (starEach es env)).any (·.1) = false
  | [], _, _, _ => rfl
  | e :: es, env, pos, h => by
    rw [List.all_cons, Bool.and_eq_true, Bool.not_eq_true'] at h
    rw [star_each h.1]
    show (false || (backTo pos (starEach es env)).any (·.1)) = false
    rw [no_star h.2]; rfl
/-- the call itself -/
theorem run_call {X : Cx} (hX : Here T G C k N sc X) {x : Str} {h : Shp} (hc : (x, h) ∈ G.fn) : ∃ f, X.mg x = some (.ref f) ∧ PySem.W.keepIn X.K (.ref f) = true ∧
    ∀ (ro rw : MH) (m : Wd) (H : Hp) (ds as : List D) (vs zs : List V) (Q : VK), HRel T X.K m (ro ++ rw) H → Reps X.K m H ds (vs ++ zs) → vs.length = h.np → zs.length = h.ks.length → argsBy h.src (ds ++ h.dv) = some as →
      Sat T X.K ro m H (C ro x as rw) (VP X.K Q) → ∀ (pins : List (Addr × Obj)) (s : Shared) (σ : L2.St) (us ws : List Value), Inv X pins σ H s → Vals vs us → Vals zs ws → wpAny (model X.prog X.w) X.A (call (.ref f) us (h.ks.zip ws)) (EP X pins σ Q) X.xe s := by
  obtain ⟨f, fd, ps, dus, dvs, h1, h2, h3, F, h4, h5, hb⟩ := (hX.glob.fn x h hc).at_
  refine ⟨f, h1, h2, fun ro rw m H ds as vs zs Q hr p l1 l2 ea hs pins s σ us ws I r1 r2 => ?_⟩
  obtain ⟨vs', us', a1, a2, a3⟩ := argsBy_pick ea (p.append (h5.reps (m := m) (H := H))) ((r1.append r2).append h4)
  have hl : as.length = ps.length := (argsBy_len ea).trans h3
  have hl2 : us'.length = ps.length := by rw [← a2.length, ← a1.length]; exact hl
  have sp : spM T X.K C x ps.length vs' H Q := ⟨by rw [← a1.length]; exact hl, ro, rw, m, as, hr, a1, hs⟩
  refine wpAny_call (codeAny_mono (F.run X.A X.stack s H ⟨us, h.ks.zip ws⟩ us' vs' Q hX.ctx.room hX.ctx.guards I.env0 (hb s us ws us' I.kIn (by rw [← r1.length]; exact l1) (by rw [← r2.length]; exact l2) hl2 a3) a2 sp) fun r s' hq => ?_)
  cases r with
  | error e => exact hq.elim
  | ok fl =>
    cases fl with
    | ret u => exact I.after hq
    | next => exact False.elim hq
    | brk => exact False.elim hq
    | cont => exact False.elim hq
theorem gl_of {X : Cx} (hX : Here T G C k N sc X) {x : Str} (hg : sc.names.lookup x = some .globalImplicit) : Gl X x := by
  show X.env.scope.names.lookup x = _
  rw [hX.scope]; exact hg
theorem okName_d {x : Str} (h : okName x = true) : (x == ("__debug__" : Str)) = false := by
  unfold okName at h
  simp only [Bool.and_eq_true, beq_iff_eq] at h
  exact h.1.1
theorem evEs_len {ro : MH} {σ : Sig} : ∀ {ms : List ME} {h h' : MH} {ds : List D}, evEs C ro ms σ h = .ok ds h' → ds.length = ms.length
  | [], h, h', ds, e => by cases e; rfl
  | m :: ms, h, h', ds, e => by
    have e : M.bind (evE C ro m σ) (fun d => M.bind (evEs C ro ms σ) fun ds => M.pure (d :: ds)) h = .ok ds h' := e
    unfold M.bind M.pure at e
    cases e1 : evE C ro m σ h with
    | ok d h1 =>
      rw [e1] at e
      simp only at e
      cases e2 : evEs C ro ms σ h1 with
      | ok xs h2 =>
        rw [e2] at e
        cases e
        simp [evEs_len e2]
      | exc c p h2 => rw [e2] at e; cases e
      | err => rw [e2] at e; cases e
    | exc c p h1 => rw [e1] at e; cases e
    | err => rw [e1] at e; cases e
theorem Sat.len {K : PySem.W.Frag} {ro rw : MH} {m : Wd} {H : Hp} {σ : Sig} {ms : List ME} {P : List D → MH → Wd → Hp → Prop} (h : Sat T K ro m H (evEs C ro ms σ rw) P) : Sat T K ro m H (evEs C ro ms σ rw) fun ds rw' m' H' => ds.length = ms.length ∧ P ds rw' m' H' := by
  cases e : evEs C ro ms σ rw with
  | ok ds rw1 =>
    rw [e] at h
    exact fun m' H' x r => ⟨evEs_len e, h m' H' x r⟩
  | exc c p h1 => rw [e] at h; exact h
  | err => rw [e] at h; exact h
theorem zip_nil {ws : List Value} : ([] : List Str).zip ws = [] := rfl
theorem se_call {x : Str} {h : Shp} {ms1 ms2 : List ME} {es es2 : List Expr} {kws : List Keyword} {p pos : Pos} (hg : sc.names.lookup x = some .globalImplicit) (hk : okName x = true) (hc : (x, h) ∈ G.fn) (ha : All2 (SE T G C k N sc) ms1 es) (hb : All2 (SE T G C k N sc) ms2 es2) (he2 : kws.map kwE = es2)
    (hs : es.all (fun e => !isStar e) = true) (hn : kws.map kwN = h.ks.map some) (l1 : ms1.length = h.np) (l2 : ms2.length = h.ks.length) : SE T G C k N sc (.call x (ms1 ++ ms2) h.dv h.src) (.Call (.Name x p) es kws pos) := fun X hX ro rw σ s ma H Q rs hr q => by
  obtain ⟨f, hm, hkeep, run⟩ := run_call hX hc
  have q := Sat.bind q
  rw [evEs_append] at q
  have q := Sat.len (Sat.bind q)
  have hgl := gl_of hX hg
  have hd := okName_d hk
  obtain ⟨k1, k2, k3⟩ := kw_some (env := X.env) (pos := pos) hn
  -- all values are there
  have fin : ∀ (xs ys : List D) (rw2 : MH) (m2 : Wd) (H2 : Hp), HRel T X.K m2 (ro ++ rw2) H2 → xs.length = ms1.length → ys.length = ms2.length → ∀ vs zs, Reps X.K m2 H2 xs vs → Reps X.K m2 H2 ys zs →
      Sat T X.K ro m2 H2 (M.bind (M.lift (argsBy h.src ((xs ++ ys) ++ h.dv))) (fun as => C ro x as) rw2) (VP X.K Q) → ∀ (pins : List (Addr × Obj)) (s0 : Shared) (us ws : List Value), Inv X pins s H2 s0 → Vals vs us → Vals zs ws → wpAny (model X.prog X.w) X.A (call (.ref f) us (h.ks.zip ws)) (EP X pins s Q) X.xe s0 := by
    intro xs ys rw2 m2 H2 r2 hl hl2 vs zs hvs hzs q2 pins s0 us ws I ru rz
    obtain ⟨as, ea, q3⟩ := Sat.lift (Sat.bind q2)
    exact run ro rw2 m2 H2 (xs ++ ys) as vs zs Q r2 (hvs.append hzs) (by rw [← hvs.length, hl, l1]) (by rw [← hzs.length, hl2, l2]) ea (q3 m2 H2 (.refl _ _) r2) pins s0 s us ws I ru rz
  cases kws with
  | nil =>
    have he2 : es2 = [] := he2.symm
    subst he2
    cases hb
    have hks : h.ks = [] := by cases e : h.ks with | nil => rfl | cons _ _ => rw [e] at hn; cases hn
    rw [hks] at fin
    have tail : wA X es s H fun vs H1 => ∀ (pins : List (Addr × Obj)) (s0 : Shared) (us : List Value), Inv X pins s H1 s0 → Vals vs us → wpAny (model X.prog X.w) X.A (call (.ref f) us) (EP X pins s Q) X.xe s0 :=
      sa_of ha hs X hX ro rw σ s ma H _ rs hr (q.mono fun xs rw1 m1 H1 e1 r1 q1 vs hvs => fun pins s0 us I ru => fin xs [] rw1 m1 H1 r1 q1.1 rfl vs [] hvs .nil (Sat.ok (a := xs ++ []) q1.2 r1) pins s0 us [] I ru .nil)
    intro pins s0 I
    refine wpAny_Call_Name_kw (ld_glob I hgl hm ?_ hd)
    cases es with
    | nil =>
      cases ha
      have q1 := Sat.ok q hr
      exact PySem.W.callWith_K0 I.kIn hkeep (fin [] [] rw ma H hr rfl rfl [] [] .nil .nil (Sat.ok (a := [] ++ []) q1.2 hr) pins s0 [] [] I .nil .nil)
    | cons e es =>
      have hs' := hs
      rw [List.all_cons, Bool.and_eq_true, Bool.not_eq_true'] at hs'
      exact PySem.W.callWith_K (h₀ := X.base) I.ok.mod.kin hkeep (thn (tail pos pins s0 I) fun us s1 ⟨vs, H1, I1, r, q1⟩ => ⟨I1.kIn, q1 pins s1 us I1 r⟩) (star_each hs'.1) (no_star hs'.2)
  | cons kw kws =>
    -- behind the values by place: the keywords' values
    have second : ∀ (xs : List D) (rw1 : MH) (m1 : Wd) (H1 : Hp), Ext ma H m1 H1 → HRel T X.K m1 (ro ++ rw1) H1 → xs.length = ms1.length → ∀ vs, Reps X.K m1 H1 xs vs → Sat T X.K ro m1 H1 (M.bind (evEs C ro ms2 σ) (fun ys => M.pure (xs ++ ys)) rw1) (fun ds rw' m' H' => Sat T X.K ro m' H' (M.bind (M.lift (argsBy h.src (ds ++ h.dv))) (fun as => C ro x as) rw') (VP X.K Q)) →
        wK X (kw :: kws) s H1 fun zs H2 => ∀ (pins : List (Addr × Obj)) (s0 : Shared) (us ws : List Value), Inv X pins s H2 s0 → Vals vs us → Vals zs ws → wpAny (model X.prog X.w) X.A (call (.ref f) us (h.ks.zip ws)) (EP X pins s Q) X.xe s0 := by
      intro xs rw1 m1 H1 e1 r1 hl vs hvs q1
      refine sk_of hb (kw :: kws) he2 X hX ro rw1 σ s m1 H1 _ (rs.ext e1.toExtW hr.noTup) r1 ((Sat.len (Sat.bind q1)).mono fun ys rw2 m2 H2 e2 r2 q2 zs hzs => ?_)
      obtain ⟨hl2, q2⟩ := q2
      exact fun pins s0 us ws I ru rz => fin xs ys rw2 m2 H2 r2 hl hl2 vs zs (hvs.ext e2.toExtW r1.noTup) hzs (Sat.ok q2 r2) pins s0 us ws I ru rz
    have tail : wA X es s H fun vs H1 => wK X (kw :: kws) s H1 fun zs H2 => ∀ (pins : List (Addr × Obj)) (s0 : Shared) (us ws : List Value), Inv X pins s H2 s0 → Vals vs us → Vals zs ws → wpAny (model X.prog X.w) X.A (call (.ref f) us (h.ks.zip ws)) (EP X pins s Q) X.xe s0 :=
      sa_of ha hs X hX ro rw σ s ma H _ rs hr (q.mono fun xs rw1 m1 H1 e1 r1 q1 vs hvs => second xs rw1 m1 H1 e1 r1 q1.1 vs hvs q1.2)
    intro pins s0 I
    refine wpAny_Call_Name_kw (ld_glob I hgl hm ?_ hd)
    cases es with
    | nil =>
      cases ha
      have q1 := Sat.ok q hr
      refine PySem.W.callWith_KW0 (h₀ := X.base) I.ok.mod.kin hkeep k1 (thn (second [] rw ma H (.refl _ _) hr rfl [] .nil q1.2 pos pins s0 I) fun ws s2 ⟨zs, H2, I2, rz, q2⟩ => ⟨I2.kIn, ?_⟩) (by rw [k2]; rfl)
      rw [k3]
      exact q2 pins s2 [] ws I2 .nil rz
    | cons e es =>
      have hs' := hs
      rw [List.all_cons, Bool.and_eq_true, Bool.not_eq_true'] at hs'
      refine PySem.W.callWith_KW (h₀ := X.base) I.ok.mod.kin hkeep k1 (thn (tail pos pins s0 I) fun us s1 ⟨vs, H1, I1, r, q1⟩ => thn (q1 pos pins s1 I1) fun ws s2 ⟨zs, H2, I2, rz, q2⟩ => ⟨I2.kIn, ?_⟩) (by rw [k2, no_star hs]; rfl) (star_each hs'.1)
      rw [k3]
      exact q2 pins s2 us ws I2 r rz
end
end Mx

set_option Elab.async false
set_option linter.all false
set_option maxRecDepth 100000
set_option maxHeartbeats 1000000
/-! Mx, part I: calls of built-ins, by their names; methods. -/
namespace Mx
open PySem L2 PySem.Spec PyProof.Rows

/-- which built-in a name with so many values is -/
def biTab : List (Str × Nat × BI) := [("len", 1, .len), ("abs", 1, .abs), ("min", 2, .min2), ("max", 2, .max2), ("int", 1, .int1), ("str", 1, .str1), ("sum", 1, .sum), ("all", 1, .all), ("any", 1, .any), ("tuple", 1, .tuple), ("list", 1, .list), ("sorted", 1, .sorted), ("repr", 1, .repr)]
def biOf (x : Str) (n : Nat) : Option BI := (biTab.find? fun p => decide (p.1 = x) && decide (p.2.1 = n)).map (·.2.2)
theorem biTab_ok : ∀ p ∈ biTab, p.1 ∈ bltNames ∧ okName p.1 = true ∧ ∃ f, valB p.2.2 = some f ∧ bootBuiltins p.1 = some f ∧ ((∃ id, f = .builtin id) ∨ ∃ t, f = .type t) := by
  intro p hp
  simp only [biTab, List.mem_cons, List.not_mem_nil, or_false] at hp
  rcases hp with rfl | rfl | rfl | rfl | rfl | rfl | rfl | rfl | rfl | rfl | rfl | rfl | rfl <;>
    exact ⟨by decide +kernel, by decide +kernel, _, rfl, by decide +kernel, by first | exact .inl ⟨_, rfl⟩ | exact .inr ⟨_, rfl⟩⟩
theorem biOf_ok {x : Str} {n : Nat} {b : BI} (h : biOf x n = some b) : x ∈ bltNames ∧ okName x = true ∧ ∃ f, valB b = some f ∧ bootBuiltins x = some f ∧ ((∃ id, f = .builtin id) ∨ ∃ t, f = .type t) := by
  unfold biOf at h
  obtain ⟨p, hp, rfl⟩ := Option.map_eq_some_iff.mp h
  have h1 := List.mem_of_find?_eq_some hp
  have h2 := List.find?_some hp
  simp only [Bool.and_eq_true, decide_eq_true_eq] at h2
  obtain ⟨a, b, f, c, d, e⟩ := biTab_ok p h1
  rw [h2.1] at a b d
  exact ⟨a, b, f, c, d, e⟩
theorem okName_n {x : Str} (h : okName x = true) : x ≠ "__name__" := by
  unfold okName at h
  simp only [Bool.and_eq_true, decide_eq_true_eq] at h
  exact h.2
section
variable {T : Tbs} {G : Glob} {C : Calls} {k : Nat} {N : List Str} {sc : Scope}
theorem se_blt {x : Str} {b : BI} {mu : Bool} {ms : List ME} {e : Expr} {es : List Expr} {p pos : Pos} (hg : sc.names.lookup x = some .globalImplicit) (hb : biOf x (e :: es).length = some b) (ha : All2 (SE T G C k N sc) ms (e :: es)) (hs : (e :: es).all (fun e => !isStar e) = true) :
    SE T G C k N sc (.blt mu b ms) (.Call (.Name x p) (e :: es) [] pos) := fun X hX ro rw σ s ma H Q rs hr q => by
  obtain ⟨h1, h2, f, h3, h4, h5⟩ := biOf_ok hb
  have hs' := hs
  rw [List.all_cons, Bool.and_eq_true, Bool.not_eq_true'] at hs'
  have read : wA X (e :: es) s H fun vs H1 => wC X f vs H1 Q := sa_of ha hs X hX ro rw σ s ma H _ rs hr ((Sat.bind q).mono fun ds rw1 m1 H1 e1 r1 q1 vs hvs => by
    obtain ⟨d, ed, g⟩ := Sat.lift (Sat.bind q1)
    exact bltop_ok hX.ctx r1 h3 hvs ed (g m1 H1 (.refl _ _) r1))
  rcases h5 with ⟨id, rfl⟩ | ⟨t, rfl⟩
  · exact PE.le (pe_callB call_w (gl_of hX hg) (hX.glob.blt x h1) h4 pa_w (okName_n h2) (okName_d h2) (star_each hs'.1) (no_star hs'.2)) read
  · exact PE.le (pe_callTy call_w (gl_of hX hg) (hX.glob.blt x h1) h4 pa_w (okName_n h2) (okName_d h2) (star_each hs'.1) (no_star hs'.2)) read
/-- gcd of the module math -/
theorem se_gcd {ms : List ME} {e : Expr} {es : List Expr} {p pos : Pos} (hg : sc.names.lookup ("gcd" : Str) = some .globalImplicit) (hgc : G.gcd = true) (ha : All2 (SE T G C k N sc) ms (e :: es)) (hs : (e :: es).all (fun e => !isStar e) = true) :
    SE T G C k N sc (.blt false .gcd ms) (.Call (.Name "gcd" p) (e :: es) [] pos) := fun X hX ro rw σ s ma H Q rs hr q => by
  have hs' := hs
  rw [List.all_cons, Bool.and_eq_true, Bool.not_eq_true'] at hs'
  have read : wA X (e :: es) s H fun vs H1 => wC X (.builtin "math.gcd") vs H1 Q := sa_of ha hs X hX ro rw σ s ma H _ rs hr ((Sat.bind q).mono fun ds rw1 m1 H1 e1 r1 q1 vs hvs => by
    obtain ⟨d, ed, g⟩ := Sat.lift (Sat.bind q1)
    exact bltop_ok hX.ctx r1 rfl hvs ed (g m1 H1 (.refl _ _) r1))
  exact PE.le (pe_callBfun call_w (gl_of hX hg) (hX.glob.gcd hgc) pa_w (by decide +kernel) (star_each hs'.1) (no_star hs'.2)) read
/-! ### isinstance -/
def tyN : Ty → String
  | .non => "NoneType"
  | .bl => "bool"
  | .int => "int"
  | .str => "str"
  | .tup => "tuple"
  | .lst => "list"
  | .dic => "dict"
def tyS (c : Ty) : Str := tyN c
def clsOf (x : Str) : Option Ty := if x = "bool" then some .bl else if x = "int" then some .int else if x = "str" then some .str else if x = "tuple" then some .tup else if x = "list" then some .lst else if x = "dict" then some .dic else none
theorem clsOf_ok {x : Str} {c : Ty} (h : clsOf x = some c) : x ∈ bltNames ∧ okName x = true ∧ bootBuiltins x = some (.type (tyN c)) ∧ c ≠ .non := by
  unfold clsOf at h
  repeat' (split at h)
  all_goals first
    | (cases h; rename_i z; cases z; exact ⟨by decide +kernel, by decide +kernel, by decide +kernel, by decide⟩)
    | cases h
theorem kitB_ok (t c : Ty) (h : c ≠ .non) : kitB (tyN t) (tyN c) = some (isaB t c) := by
  cases c <;> first | exact absurd rfl h | (cases t <;> decide +kernel)
theorem kitAny_ok {K : PySem.W.Frag} (t : Ty) : ∀ cs : List Ty, (∀ c ∈ cs, c ≠ .non) → PySem.W.kitAny K (.type (tyN t)) (cs.map fun c => .type (tyN c)) = some (cs.any (isaB t))
  | [], _ => kitAny_nil
  | c :: cs, h => by
    rw [List.map_cons]
    refine kitAny_cons (kit_ty (kitB_ok t c (h c List.mem_cons_self))) (fun e => ?_) fun e => ?_
    · rw [kitAny_ok t cs fun c hc => h c (List.mem_cons_of_mem _ hc), List.any_cons, e, Bool.false_or]
    · rw [List.any_cons, e, Bool.true_or]
theorem tyOf_at {K : PySem.W.Frag} {ro rw : MH} {m : Wd} {H : Hp} {d : D} {v : V} {t : Ty} (hr : HRel T K m (ro ++ rw) H) (p : Rep K m H d v) (e : tyOf ro rw d = some t) : TyX K H v (.type (tyN t)) := by
  cases p with
  | non => cases e; exact .base .non
  | bl b => cases e; exact .base (.bl b)
  | int i => cases e; exact .base (.int i)
  | str i => cases e; exact .base (.str i)
  | tup h1 h2 h3 =>
    cases e
    rcases h1 with (h1 | ⟨o, h1⟩) | ⟨o, its, n, h1, hc, _⟩
    · exact .base (.tup h1)
    · exact .fTuple h1
    · exact .kTuple h1 hc
  | lst h1 h2 => cases e; exact .base (.lst h1.1)
  | scr h1 =>
    cases e
    rcases h1 with ⟨o, h1⟩ | ⟨o, its, n, h1, hc, _⟩
    · exact .base (.frz h1)
    · exact .kList h1 hc
  | dK h1 h2 h3 h4 =>
    cases e
    rcases h1 with h1 | ⟨o, h1⟩
    · exact .base (.dK h1)
    · exact .fDict h1
  | dT _ _ _ _ => cases e
  | @ref l a hl =>
    have e : (match getO ro rw l with
      | some (.lst _) => some Ty.lst
      | some _ => some Ty.dic
      | none => none) = some t := e
    cases g : getO ro rw l with
    | none => rw [g] at e; cases e
    | some o =>
      rw [g] at e
      have q := hr.ob l o a g hl
      cases o with
      | lst _ => cases e; obtain ⟨vs, h1, _⟩ := q; exact .base (.lst h1)
      | dK _ => cases e; obtain ⟨vs, h1, _⟩ := q; exact .base (.dK h1)
      | dT _ => cases e; obtain ⟨vs, h1, _⟩ := q; exact .base (.dT h1)
theorem pe_cls {X : Cx} (hX : Here T G C k N sc X) {x : Str} {c : Ty} {p : Pos} (h : clsOf x = some c) (hg : sc.names.lookup x = some .globalImplicit) : PE X (.Name x p) (tC (.ty (tyN c))) := by
  obtain ⟨h1, h2, h3, h4⟩ := clsOf_ok h
  exact pe_bltn (gl_of hX hg) (hX.glob.blt x h1) h3 rfl (okName_n h2) (okName_d h2)
theorem boot_isinstance : bootBuiltins "isinstance" = some (.builtin "isinstance") := by decide +kernel
theorem se_isa1 {m : ME} {e : Expr} {x : Str} {c : Ty} {p p2 pos : Pos} (hg : sc.names.lookup ("isinstance" : Str) = some .globalImplicit) (ha : SE T G C k N sc m e) (hs : isStar e = false) (hc : clsOf x = some c) (hg2 : sc.names.lookup x = some .globalImplicit) :
    SE T G C k N sc (.isa m [c]) (.Call (.Name "isinstance" p) [e, .Name x p2] [] pos) := fun X hX ro rw σ s ma H Q rs hr q => by
  refine PE.le (pe_callB call_isi (gl_of hX hg) (hX.glob.blt _ (by decide +kernel)) boot_isinstance (pa_cons pe_w (pa_cons (pe_cls hX hc hg2) pa_nil rfl) (star_each hs)) (by decide +kernel) (by decide +kernel) (star_each hs) rfl) ?_
  refine ha X hX ro rw σ s ma H _ rs hr ((Sat.bind q).mono fun d rw1 m1 H1 e1 r1 q1 v hv => ?_)
  obtain ⟨r, er, q2⟩ := Sat.lift q1
  obtain ⟨t, et, rfl⟩ := Option.map_eq_some_iff.mp er
  refine ⟨v, .ty (tyN c), .type (tyN t), .type (tyN c), _, rfl, .ty _, tyOf_at r1 hv et, kit_ty (kitB_ok t c (clsOf_ok hc).2.2.2), ?_⟩
  have z := q2 m1 H1 (.refl _ _) r1 _ (.bl _)
  simpa using z
theorem se_isaT {m : ME} {e : Expr} {xs : List (Str × Pos)} {cs : List Ty} {x1 : Nat} {p p2 pos : Pos} (hg : sc.names.lookup ("isinstance" : Str) = some .globalImplicit) (ha : SE T G C k N sc m e) (hs : isStar e = false) (hc : All2 (fun (c : Ty) (y : Str × Pos) => clsOf y.1 = some c ∧ sc.names.lookup y.1 = some .globalImplicit) cs xs) (hl : cs.length ≤ 100) :
    SE T G C k N sc (.isa m cs) (.Call (.Name "isinstance" p) [e, .Tuple (xs.map fun y => .Name y.1 y.2) x1 p2] [] pos) := fun X hX ro rw σ s ma H Q rs hr q => by
  have names : ∀ {cs : List Ty} {xs : List (Str × Pos)}, All2 (fun (c : Ty) (y : Str × Pos) => clsOf y.1 = some c ∧ sc.names.lookup y.1 = some .globalImplicit) cs xs →
      PA X (xs.map fun y => .Name y.1 y.2) (fun σ H Q => Q (cs.map fun c => V.ty (tyN c)) H) ∧ Paired ClsV (cs.map fun c => V.ty (tyN c)) (cs.map fun c => Value.type (tyN c)) ∧ ∀ c ∈ cs, c ≠ .non := by
    intro cs xs h
    induction h with
    | nil => exact ⟨pa_nil, .nil, fun c hc => by simp at hc⟩
    | @cons c y cs xs h t ih =>
      obtain ⟨i1, i2, i3⟩ := ih
      refine ⟨?_, .cons (.ty _) i2, fun c' hc' => ?_⟩
      · have z := pa_cons (pe_cls (p := y.2) hX h.1 h.2) i1 rfl
        exact ⟨fun pos pins s σ H Q I q => z.run pos pins s σ H Q I q⟩
      · rcases List.mem_cons.mp hc' with rfl | hc'
        · exact (clsOf_ok h.1).2.2.2
        · exact i3 c' hc'
  obtain ⟨n1, n2, n3⟩ := names hc
  refine PE.le (pe_callB call_isiT (gl_of hX hg) (hX.glob.blt _ (by decide +kernel)) boot_isinstance (pa_cons pe_w (pa_cons (pe_tup n1) pa_nil rfl) (star_each hs)) (by decide +kernel) (by decide +kernel) (star_each hs) rfl) ?_
  refine ha X hX ro rw σ s ma H _ rs hr ((Sat.bind q).mono fun d rw1 m1 H1 e1 r1 q1 v hv => ?_)
  obtain ⟨r, er, q2⟩ := Sat.lift q1
  obtain ⟨t, et, rfl⟩ := Option.map_eq_some_iff.mp er
  refine ⟨by rw [List.length_map, sizeLine_eq]; omega, fun a ha => ?_⟩
  have e2 : Ext m1 H1 m1 (upd H1 a (.tup (cs.map fun c => V.ty (tyN c)))) := ext_new ha
  have r2 := r1.new (o := .tup (cs.map fun c => V.ty (tyN c))) ha
  exact ⟨v, a, _, .type (tyN t), _, _, rfl, upd_same, n2, tyOf_at r2 (hv.ext e2.toExtW r1.noTup) et, kitAny_ok t cs n3, q2 _ _ e2 r2 _ (.bl _)⟩
end
end Mx

set_option Elab.async false
set_option linter.all false
set_option maxRecDepth 100000
set_option maxHeartbeats 1000000
/-! Mx, part J: targets, what is walked. -/
namespace Mx
open PySem L2 PySem.Spec PyProof.Rows

/-! ### targets -/
def locB (sc : Scope) (x : Str) : Bool := match sc.names.lookup x with
  | some .local => true
  | some .cell => true
  | _ => false
theorem locB_of {sc : Scope} {x : Str} (h : locB sc x = true) : L2.Loc sc x := by
  unfold locB at h
  unfold L2.Loc
  split at h <;> simp_all
/-- several slots set -/
def setV : List Nat → List V → L2.St → L2.St
  | i :: is, v :: vs, s => setV is vs (s.set i (some v))
  | _, _, s => s
section
variable {T : Tbs} {G : Glob} {C : Calls} {k : Nat} {N : List Str} {sc : Scope}
/-- the names that may be stored here -/
def Owns (X : Cx) (own : Str → Bool) : Prop := ∀ x, own x = true → X.fn x = true ∨ X.env.scope.names.lookup x = some .local
variable {own : Str → Bool}
theorem pg_nm {X : Cx} (hX : Here T G C k N sc X) (hO : Owns X own) {x : Str} {i : Nat} {p : Pos} (hN : N[i]? = some x) (h : locB sc x = true) (ho : own x = true) : PG X (.Name x p) (gName i) :=
  pg_name hX.ctx.nd (by rw [hX.names]; exact hN) (by rw [hX.scope]; exact locB_of h) (hO x ho)
/-- names beside each other -/
abbrev NmAt (N : List Str) (sc : Scope) (own : Str → Bool) : Nat → Str × Pos → Prop := fun i y => N[i]? = some y.1 ∧ locB sc y.1 = true ∧ own y.1 = true
def nmE (y : Str × Pos) : Expr := .Name y.1 y.2
theorem pgs_nms {X : Cx} (hX : Here T G C k N sc X) (hO : Owns X own) {is : List Nat} {xs : List (Str × Pos)} (all : All2 (NmAt N sc own) is xs) : PGs X (xs.map nmE) (fun vs σ H Q => vs.length = is.length ∧ Q (setV is vs σ) H) ∧ (assignEach (xs.map nmE) X.env).length = is.length ∧ (assignEach (xs.map nmE) X.env).findIdx? (·.1) = none := by
  induction all with
  | nil =>
    refine ⟨⟨fun pins s σ H vs us Q I r h => ?_⟩, rfl, rfl⟩
    have e : vs = [] := List.length_eq_zero_iff.mp h.1
    subst e
    exact pgs_nil.run pins s σ H [] us Q I r ⟨rfl, h.2⟩
  | @cons i y is xs h1 t ih =>
    obtain ⟨i1, i2, i3⟩ := ih
    refine ⟨⟨fun pins s σ H vs us Q I r h => ?_⟩, by show _ + 1 = _ + 1; rw [i2], ?_⟩
    · cases vs with
      | nil => cases h.1
      | cons v vs =>
        have q := pgs_cons (pg_nm (p := y.2) hX hO h1.1 h1.2.1 h1.2.2) i1 rfl
        exact q.run pins s σ H (v :: vs) us Q I r ⟨v, vs, rfl, by simpa using h.1, h.2⟩
    · show List.findIdx? (·.1) ((false, assign (nmE y) X.env) :: assignEach (xs.map nmE) X.env) = none
      rw [List.findIdx?_cons, i3]
      rfl
theorem pg_tups {X : Cx} (hX : Here T G C k N sc X) (hO : Owns X own) {is : List Nat} {xs : List (Str × Pos)} {x1 : Nat} {p : Pos} (all : All2 (NmAt N sc own) is xs) : PG X (.Tuple (xs.map nmE) x1 p) (fun v σ H Q => ∃ a vs, v = .ref a ∧ SqT X.K H a vs ∧ vs.length = is.length ∧ Q (setV is vs σ) H) := by
  obtain ⟨h1, h2, h3⟩ := pgs_nms hX hO all
  refine ⟨fun pins s σ H v u Q I r h => ?_⟩
  obtain ⟨a, vs, rfl, hT, hl, q⟩ := h
  exact (pg_tup hX.ctx.calm h1 h2 h3).run pins s σ H _ u Q I r ⟨a, vs, rfl, hT, hl, hl, q⟩

/-! ### a target's reading, at the weakest -/
def wG (X : Cx) (tg : Expr) : TG := fun v σ H Q => ∀ (pins : List (Addr × Obj)) (s : Shared) (u : Value), Inv X pins σ H s → RelV v u → wpAny (model X.prog X.w) X.A (assign tg X.env u) (fun _ s' => ∃ σ' H', Inv X pins σ' H' s' ∧ Q σ' H') X.xe s
theorem pg_w {X : Cx} {tg : Expr} : PG X tg (wG X tg) := ⟨fun pins s σ H v u Q I r h => h pins s u I r⟩
theorem PG.le {X : Cx} {tg : Expr} {t : TG} (h : PG X tg t) {v : V} {σ : L2.St} {H : Hp} {Q : L2.St → Hp → Prop} (q : t v σ H Q) : wG X tg v σ H Q := fun pins s u I r => h.run pins s σ H v u Q I r q
/-- the slots of a target -/
def slotsG : MG → List Nat
  | .nm i => [i]
  | .tup gs => gs.filterMap fun g => match g with
    | .nm i => some i
    | .tup _ => none
/-- only the slots of vs may differ -/
structure SameBut (vs : List Nat) (s s' : L2.St) : Prop where
  len : s'.length = s.length
  at_ : ∀ j, j ∉ vs → s'[j]? = s[j]?
theorem SameBut.set {vs : List Nat} {s s' : L2.St} (h : SameBut vs s s') {i : Nat} (hi : i ∈ vs) {o : Option V} : SameBut vs s (s'.set i o) :=
  ⟨by simp [h.len], fun j hj => by rw [List.getElem?_set_ne (fun z => hj (by rw [← z]; exact hi))]; exact h.at_ j hj⟩
theorem SameBut.refl {vs : List Nat} {s : L2.St} : SameBut vs s s := ⟨rfl, fun _ _ => rfl⟩
theorem wipe_get : ∀ {vs : List Nat} {s : L2.St} (j : Nat), (L2.wipe s vs)[j]? = if j ∈ vs ∧ j < s.length then some none else s[j]?
  | [], s, j => by simp [L2.wipe]
  | v :: vs, s, j => by
    show ((L2.wipe s vs).set v none)[j]? = _
    by_cases z : v = j
    · subst z
      by_cases lt : v < s.length
      · rw [List.getElem?_set_self (by rw [L2.wipe_length]; exact lt), if_pos ⟨List.mem_cons_self, lt⟩]
      · rw [if_neg (fun q => lt q.2), List.getElem?_eq_none (by simpa [L2.wipe_length] using lt), List.getElem?_eq_none (by simpa using lt)]
    · rw [List.getElem?_set_ne z, wipe_get j]
      have e : (j ∈ v :: vs ∧ j < s.length) ↔ (j ∈ vs ∧ j < s.length) := by simp [Ne.symm z]
      simp only [e]
theorem SameBut.wipe {vs : List Nat} {s s' : L2.St} (h : SameBut vs s s') : L2.wipe s' vs = L2.wipe s vs := by
  refine List.ext_getElem? fun j => ?_
  rw [wipe_get, wipe_get, h.len]
  by_cases z : j ∈ vs
  · by_cases lt : j < s.length
    · rw [if_pos ⟨z, lt⟩, if_pos ⟨z, lt⟩]
    · rw [if_neg (fun q => lt q.2), if_neg (fun q => lt q.2), List.getElem?_eq_none (by rw [h.len]; simpa using lt), List.getElem?_eq_none (by simpa using lt)]
  · rw [if_neg (fun q => z q.1), if_neg (fun q => z q.1)]
    exact h.at_ j z
theorem sameBut_wipe {vs : List Nat} {s : L2.St} : SameBut vs s (L2.wipe s vs) := ⟨L2.wipe_length s vs, fun j hj => by rw [wipe_get, if_neg fun z => hj z.1]⟩
theorem SameBut.trans {vs : List Nat} {s s' s'' : L2.St} (h : SameBut vs s s') (q : SameBut vs s' s'') : SameBut vs s s'' := ⟨q.len.trans h.len, fun j hj => (q.at_ j hj).trans (h.at_ j hj)⟩
/-- the target g of the core is the target tg -/
inductive TgOk (N : List Str) (sc : Scope) (own : Str → Bool) : MG → Expr → Prop
  | nm {i : Nat} {y : Str × Pos} : NmAt N sc own i y → TgOk N sc own (.nm i) (nmE y)
  | tup {is : List Nat} {xs : List (Str × Pos)} {x1 : Nat} {p : Pos} : All2 (NmAt N sc own) is xs → TgOk N sc own (.tup (is.map .nm)) (.Tuple (xs.map nmE) x1 p)
theorem slots_tup (is : List Nat) : slotsG (.tup (is.map .nm)) = is := by
  unfold slotsG
  induction is with
  | nil => rfl
  | cons i is ih => simpa [List.map_cons, List.filterMap_cons] using ih
theorem asGs_set {K : PySem.W.Frag} {m : Wd} {H : Hp} : ∀ {is : List Nat} {ds : List D} {vs : List V} {σ σ' : Sig} {s : L2.St}, asGs (is.map .nm) ds σ = some σ' → Reps K m H ds vs → SRel K m H σ s → vs.length = is.length ∧ SRel K m H σ' (setV is vs s) ∧ SameBut is s (setV is vs s)
  | [], [], _, σ, σ', s, e, .nil, r => by cases e; exact ⟨rfl, r, .refl⟩
  | [], _ :: _, _, _, _, _, e, _, _ => by cases e
  | i :: is, [], _, _, _, _, e, _, _ => by cases e
  | i :: is, d :: ds, v :: vs, σ, σ', s, e, .cons h t, r => by
    have e : (asG (.nm i) d σ).bind (asGs (is.map .nm) ds) = some σ' := e
    obtain ⟨σ1, e1, e2⟩ := Option.bind_eq_some_iff.mp e
    have e1 : (if i < σ.length then some (σ.set i (some d)) else none) = some σ1 := e1
    split at e1
    · cases e1
      obtain ⟨i1, i2, i3⟩ := asGs_set e2 t (r.set (i := i) h)
      refine ⟨by simp [i1], i2, ?_⟩
      have w : SameBut (i :: is) s (s.set i (some v)) := SameBut.refl.set List.mem_cons_self
      exact ⟨i3.len.trans w.len, fun j hj => (i3.at_ j fun z => hj (List.mem_cons_of_mem _ z)).trans (w.at_ j hj)⟩
    · cases e1
theorem sg_ok {X : Cx} (hX : Here T G C k N sc X) (hO : Owns X own) {g : MG} {tg : Expr} (hg : TgOk N sc own g tg) {m : Wd} {H : Hp} {d : D} {v : V} {σ σ' : Sig} {s : L2.St} (e : asG g d σ = some σ') (p : Rep X.K m H d v) (r : SRel X.K m H σ s) {Q : L2.St → Hp → Prop}
    (q : ∀ s', SRel X.K m H σ' s' → SameBut (slotsG g) s s' → Q s' H) : wG X tg v s H Q := by
  cases hg with
  | @nm i y h =>
    have e : (if i < σ.length then some (σ.set i (some d)) else none) = some σ' := e
    split at e
    · cases e
      exact PG.le (pg_nm hX hO h.1 h.2.1 h.2.2) (q _ (r.set p) (SameBut.refl.set (List.mem_singleton.mpr rfl)))
    · cases e
  | @tup is xs x1 p' h =>
    cases p with
    | @tup c a ds vs h1 h2 h3 =>
      have e : asGs (is.map .nm) ds σ = some σ' := e
      obtain ⟨l, r2, w⟩ := asGs_set e h3 r
      exact PG.le (pg_tups hX hO h) ⟨a, vs, rfl, h1, l, q _ r2 (by rw [slots_tup]; exact w)⟩
    | _ => cases e

/-! ### what is walked -/
structure Walks (K : PySem.W.Frag) (m : Wd) (H : Hp) (J : It) (ds : List D) : Prop where
  ex : ∃ Gd : Wd → Hp → Prop, Gd m H ∧ (∀ m H m' H', Gd m H → NoTup m H → ExtW m H m' H' → (∀ a o u, H a = some (.frz o u) → H' a = some (.frz o u)) → Gd m' H') ∧ (∀ m H i, Gd m H → i < ds.length → J.go i H) ∧ (∀ m H, Gd m H → J.stop ds.length H) ∧
    ∀ m H i x H', Gd m H → NoTup m H → i < ds.length → J.yld i H x H' → ∃ d, ds[i]? = some d ∧ Ext m H m H' ∧ (∀ (T : Tbs) h, HRel T K m h H → HRel T K m h H') ∧ Rep K m H' d x
def wI (X : Cx) (tg iter : Expr) : TI := fun σ H R => ∀ (pins : List (Addr × Obj)) (s : Shared), Inv X pins σ H s → wpAny (model X.prog X.w) X.A (eval iter X.env) (fun v s1 => wpAny (model X.prog X.w) X.A (pyIter v) (PIE X pins σ tg R) X.xe s1) X.xe s
theorem pi_w {X : Cx} {tg iter : Expr} : PI X tg iter (wI X tg iter) := ⟨fun pins s σ H R I h => h pins s I⟩
theorem PI.le {X : Cx} {tg iter : Expr} {t : TI} (h : PI X tg iter t) {σ : L2.St} {H : Hp} {R : It → Hp → Prop} (q : t σ H R) : wI X tg iter σ H R := fun pins s I => h.run pins s σ H R I q
/-- the iterator of a value, by values -/
def wIt (X : Cx) (tg : Expr) : V → L2.St → Hp → (It → Hp → Prop) → Prop := fun x σ H R => ∀ (pins : List (Addr × Obj)) (s : Shared) (v : Value), Inv X pins σ H s → RelV x v → wpAny (model X.prog X.w) X.A (pyIter v) (PIE X pins σ tg R) X.xe s
theorem it_list {X : Cx} {tg : Expr} {a : Addr} {xs : List V} {σ : L2.St} {H : Hp} {R : It → Hp → Prop} (h : SqL X.K H a xs) (q : R (Itl X.K a) H) : wIt X tg (.ref a) σ H R := fun pins s v I r => by
  cases r
  obtain ⟨its, rv, p, hz⟩ := I.list h
  exact wpAny_pyIter_list p.isList (pi_one (tk := s.toks) I _ (turn_list a _) ⟨_, Heap.get?_push_size _ rfl, rfl, rfl⟩ q)
theorem it_tup {X : Cx} {tg : Expr} {a : Addr} {xs : List V} {σ : L2.St} {H : Hp} {R : It → Hp → Prop} (h : SqT X.K H a xs) (q : R (Itt X.K a) H) : wIt X tg (.ref a) σ H R := fun pins s v I r => by
  cases r
  obtain ⟨its, rv, p, hz⟩ := I.tuple h
  exact wpAny_pyIter_tuple (show s.heap.IsTuple a its.toArray from p) (pi_one (tk := s.toks) I _ (turn_tuple a _) ⟨_, Heap.get?_push_size _ rfl, rfl, rfl⟩ q)
/-- a dict that is to be walked is locked -/
def RdyT : MT → L2.St → Hp → Prop
  | .keys i, s, H => ∀ d, s[i]? = some (some (.ref d)) → (∃ kvs, Rd H d (.dK kvs)) ∨ (∃ kvs, Rd H d (.dT kvs)) → ∃ o u, H d = some (.frz o u)
  | _, _, _ => True
variable (T G C k N sc) in
/-- what the source t says -/
def SI (t : MT) (tg iter : Expr) : Prop := ∀ (X : Cx), Here T G C k N sc X → ∀ (ro rw : MH) (σ : Sig) (s : L2.St) (ma : Wd) (H : Hp) (R : It → Hp → Prop), RdyT t s H → SRel X.K ma H σ s → HRel T X.K ma (ro ++ rw) H →
  Sat T X.K ro ma H (evT C ro t σ rw) (fun ds _ m' H' => ∀ J, Walks X.K m' H' J ds → R J H') → wI X tg iter s H R
theorem walks_tup {K : PySem.W.Frag} {m : Wd} {H : Hp} {a : Addr} {ds : List D} {vs : List V} (h : SqT K H a vs) (r : Reps K m H ds vs) : Walks K m H (Itt K a) ds := by
  refine ⟨fun m H => SqT K H a vs ∧ Reps K m H ds vs, ⟨h, r⟩, fun m H m' H' ⟨h, r⟩ nt e _ => ⟨e.sqT nt h, r.ext e nt⟩, fun m H i ⟨h, r⟩ hi => ?_, fun m H ⟨h, r⟩ => ⟨vs, h, by rw [r.length]; exact Nat.le_refl _⟩, fun m H i x H' ⟨h, r⟩ nt hi y => ?_⟩
  · obtain ⟨v, e, _⟩ := r.get (List.getElem?_eq_getElem hi)
    exact ⟨vs, v, h, e⟩
  · obtain ⟨rfl, y⟩ := y
    obtain ⟨v, e, p⟩ := r.get (List.getElem?_eq_getElem hi)
    have z := y vs h
    rw [e] at z
    cases z
    exact ⟨_, List.getElem?_eq_getElem hi, .refl _ _, fun _ _ r => r, p⟩
/-- a tree list, the script: as they stand -/
theorem walks_F {K : PySem.W.Frag} {m : Wd} {H : Hp} {a : Addr} {ds : List D} {vs : List V} (h : SqF m H a vs) (r : Reps K m H ds vs) : Walks K m H (Itl K a) ds := by
  refine ⟨fun m H => SqF m H a vs ∧ Reps K m H ds vs, ⟨h, r⟩, fun m H m' H' ⟨h, r⟩ nt e _ => ⟨e.sqF h, r.ext e nt⟩, fun m H i ⟨h, r⟩ hi => ?_, fun m H ⟨h, r⟩ => ⟨vs, SqL.of h.1, by rw [r.length]; exact Nat.le_refl _⟩, fun m H i x H' ⟨h, r⟩ nt hi y => ?_⟩
  · obtain ⟨v, e, _⟩ := r.get (List.getElem?_eq_getElem hi)
    exact ⟨vs, v, SqL.of h.1, e⟩
  · obtain ⟨rfl, y⟩ := y
    obtain ⟨v, e, p⟩ := r.get (List.getElem?_eq_getElem hi)
    have z := y vs (SqL.of h.1)
    rw [e] at z
    cases z
    exact ⟨_, List.getElem?_eq_getElem hi, .refl _ _, fun _ _ r => r, p⟩
theorem walks_Z {K : PySem.W.Frag} {m : Wd} {H : Hp} {a : Addr} {ns : List Int} (h : SqZ K H a (ns.map .int)) : Walks K m H (Itl K a) (ns.map .int) := by
  refine ⟨fun m H => SqZ K H a (ns.map .int), h, fun m H m' H' h nt e _ => e.sqZ nt h, fun m H i h hi => ?_, fun m H h => ⟨_, h.l, by simp⟩, fun m H i x H' h nt hi y => ?_⟩
  · exact ⟨_, .int (ns[i]'(by simpa using hi)), h.l, by simp [show i < ns.length by simpa using hi]⟩
  · obtain ⟨rfl, y⟩ := y
    have z := y _ h.l
    have hi' : i < ns.length := by simpa using hi
    refine ⟨.int ns[i], by simp [hi'], .refl _ _, fun _ _ r => r, ?_⟩
    simp [hi'] at z
    subst z
    exact .int _
theorem si_seq {m : ME} {tg e : Expr} (h : SE T G C k N sc m e) : SI T G C k N sc (.seq m) tg e := fun X hX ro rw σ s ma H R _ rs hr q => by
  intro pins s0 I
  refine thn (h X hX ro rw σ s ma H (fun v H1 => wIt X tg v s H1 R) rs hr ((Sat.bind q).mono fun d rw1 m1 H1 e1 r1 q1 v hv => ?_) pins s0 I) fun v s1 ⟨x, H1, I1, r1, q1⟩ => q1 pins s1 v I1 r1
  obtain ⟨ds, ed, q2⟩ := Sat.lift q1
  have q3 := q2 m1 H1 (.refl _ _) r1
  cases hv with
  | tup h1 h2 h3 => cases ed; exact it_tup h1 (q3 _ (walks_tup h1 h3))
  | lst h1 h2 => cases ed; exact it_list (SqL.of h1.1) (q3 _ (walks_F h1 h2))
  | scr h1 => cases ed; exact it_list h1.l (q3 _ (walks_Z h1))
  | _ => cases ed
/-! ### ranges -/
theorem walks_range {K : PySem.W.Frag} {m : Wd} {H : Hp} {lo hi : Int} : Walks K m H (Itr lo (hi - lo).toNat) (rangeD lo hi) := by
  have hl : (rangeD lo hi).length = (hi - lo).toNat := by unfold rangeD; simp
  refine ⟨fun _ _ => True, trivial, fun _ _ _ _ _ _ _ _ => trivial, fun m H i _ h => by rw [hl] at h; exact h, fun m H _ => by rw [hl]; exact Nat.le_refl _, fun m H i x H' _ _ h y => ?_⟩
  obtain ⟨rfl, rfl⟩ := y
  rw [hl] at h
  exact ⟨.int (lo + i), by unfold rangeD; simp [h], .refl _ _, fun _ _ r => r, .int _⟩
theorem rangeOk_of {a b : Int} (h : rangeOk a b = true) : -(2 ^ 62) ≤ a ∧ a < 2 ^ 62 ∧ -(2 ^ 62) ≤ b ∧ b < 2 ^ 62 ∧ (b - a).toNat ≤ 2 ^ 24 := by
  unfold rangeOk at h
  simp only [Bool.and_eq_true, decide_eq_true_eq] at h
  exact ⟨h.1.1.1.1, h.1.1.1.2, h.1.1.2, h.1.2, h.2⟩
theorem si_rng1 {a : ME} {tg ea : Expr} {p pos : Pos} (ha : SE T G C k N sc a ea) (hs : isStar ea = false) (hg : sc.names.lookup ("range" : Str) = some .globalImplicit) : SI T G C k N sc (.rng1 a) tg (.Call (.Name "range" p) [ea] [] pos) := fun X hX ro rw σ s ma H R _ rs hr q => by
  refine PI.le (pi_range1 (gl_of hX hg) (hX.glob.blt _ (by decide +kernel)) (pa_cons pe_w pa_nil (star_each hs)) (by rw [star_each hs]; rfl)) ?_
  refine ha X hX ro rw σ s ma H _ rs hr ((Sat.bind q).mono fun x rw1 m1 H1 e1 r1 q1 v hv => ?_)
  obtain ⟨ds, ed, q2⟩ := Sat.lift q1
  cases hv with
  | int j =>
    have ed : (if rangeOk 0 j then some (rangeD 0 j) else none) = some ds := ed
    split at ed
    · rename_i z
      cases ed
      obtain ⟨_, _, h1, h2, _⟩ := rangeOk_of z
      refine ⟨j, rfl, h1, h2, q2 _ _ (.refl _ _) r1 _ ?_⟩
      have w := walks_range (K := X.K) (m := m1) (H := H1) (lo := 0) (hi := j)
      rwa [Int.sub_zero] at w
    · cases ed
  | _ => cases ed
theorem si_rng2 {a b : ME} {tg ea eb : Expr} {p pos : Pos} (ha : SE T G C k N sc a ea) (hb : SE T G C k N sc b eb) (hs : isStar ea = false) (hs2 : isStar eb = false) (hg : sc.names.lookup ("range" : Str) = some .globalImplicit) : SI T G C k N sc (.rng2 a b) tg (.Call (.Name "range" p) [ea, eb] [] pos) := fun X hX ro rw σ s ma H R _ rs hr q => by
  refine PI.le (pi_range2 (gl_of hX hg) (hX.glob.blt _ (by decide +kernel)) (pa_cons pe_w (pa_cons pe_w pa_nil (star_each hs2)) (star_each hs)) (by rw [star_each hs, star_each hs2]; rfl) (by rw [star_each hs2]; rfl)) ?_
  refine ha X hX ro rw σ s ma H _ rs hr ((Sat.bind q).mono fun x rw1 m1 H1 e1 r1 q1 v hv => ?_)
  refine hb X hX ro rw1 σ s m1 H1 _ (rs.ext e1.toExtW hr.noTup) r1 ((Sat.bind q1).mono fun y rw2 m2 H2 e2 r2 q2 u hu => ?_)
  obtain ⟨ds, ed, q3⟩ := Sat.lift q2
  cases hv with
  | int i =>
    cases hu with
    | int j =>
      have ed : (if rangeOk i j then some (rangeD i j) else none) = some ds := ed
      split at ed
      · rename_i z
        cases ed
        obtain ⟨h1, h2, h3, h4, _⟩ := rangeOk_of z
        exact ⟨i, j, rfl, ⟨h1, h2, h3, h4⟩, q3 _ _ (.refl _ _) r2 _ walks_range⟩
      · cases ed
    | _ => cases ed
  | _ => cases ed
/-! ### a dict's keys -/
theorem keys_reps {K : PySem.W.Frag} {m : Wd} {H : Hp} : ∀ (k : List Key), Reps K m H (k.map dKey) (k.map kV)
  | [] => .nil
  | .inl i :: k => .cons (.int i) (keys_reps k)
  | .inr s :: k => .cons (.str s) (keys_reps k)
theorem walks_keysD {K : PySem.W.Frag} {m : Wd} {H : Hp} {d : Addr} {o : Obj} {ws : List (Key × V)} {kvs : List (Key × D)} (h : H d = some (.frz o (.dK ws))) (hk : kvs.map (·.1) = ws.map (·.1)) : Walks K m H (Itk d o ws) (dicKeys (.k kvs)) := by
  have hl : kvs.length = ws.length := by simpa using congrArg List.length hk
  refine ⟨fun _ H => H d = some (.frz o (.dK ws)), h, fun m H m' H' h nt e f => f _ _ _ h, fun m H i h hi => ⟨h, by rw [← hl]; simpa [dicKeys] using hi⟩, fun m H h => ⟨h, by simp [dicKeys, hl]⟩, fun m H i x H' h nt hi y => ?_⟩
  obtain ⟨rfl, kk, v, e, rfl⟩ := y
  have hi' : i < kvs.length := by simpa [dicKeys] using hi
  have ek : (kvs.map (·.1))[i]? = some kk := by rw [hk, List.getElem?_map, e]; rfl
  rw [List.getElem?_map, List.getElem?_eq_getElem hi'] at ek
  have ek := Option.some.inj ek
  refine ⟨dKey kk, by simp [dicKeys, hi', ek], .refl _ _, fun _ _ r => r, ?_⟩
  cases kk
  · exact .int _
  · exact .str _
theorem walks_keysT {K : PySem.W.Frag} {m : Wd} {H : Hp} {d : Addr} {o : Obj} {ws : List (List Key × V)} {kvs : List (List Key × D)} (h : H d = some (.frz o (.dT ws))) (hk : kvs.map (·.1) = ws.map (·.1)) : Walks K m H (Itkt d o ws) (dicKeys (.t kvs)) := by
  have hl : kvs.length = ws.length := by simpa using congrArg List.length hk
  refine ⟨fun _ H => H d = some (.frz o (.dT ws)), h, fun m H m' H' h nt e f => f _ _ _ h, fun m H i h hi => ⟨h, by rw [← hl]; simpa [dicKeys] using hi⟩, fun m H h => ⟨h, by simp [dicKeys, hl]⟩, fun m H i x H' h nt hi y => ?_⟩
  obtain ⟨rfl, kk, v, q, e, rfl, hq⟩ := y
  have hi' : i < kvs.length := by simpa [dicKeys] using hi
  have ek : (kvs.map (·.1))[i]? = some kk := by rw [hk, List.getElem?_map, e]; rfl
  rw [List.getElem?_map, List.getElem?_eq_getElem hi'] at ek
  have ek := Option.some.inj ek
  exact ⟨.tup true (kk.map dKey), by simp [dicKeys, hi', ek], .refl _ _, fun _ _ r => r, .tup (.inl (.inl hq)) (fun _ => hq) (keys_reps kk)⟩
theorem si_keys {i : Nat} {x : Str} {tg : Expr} {p : Pos} (hN : N[i]? = some x) (hv : visB sc x = true) (hk : okName x = true) : SI T G C k N sc (.keys i) tg (.Name x p) := fun X hX ro rw σ s ma H R rdy rs hr q => by
  unfold okName at hk
  simp only [Bool.and_eq_true, beq_iff_eq] at hk
  refine PI.le (pi_keys (pe_var (by rw [hX.names]; exact hN) (by rw [hX.scope]; exact visB_of hv) hk.1.1 hk.1.2)) ?_
  obtain ⟨ds, ed, q2⟩ := Sat.lift q
  obtain ⟨d, e1, e2⟩ := Option.bind_eq_some_iff.mp ed
  obtain ⟨od, e3, e4⟩ := Option.bind_eq_some_iff.mp e1
  have e4 : od = some d := e4
  subst e4
  obtain ⟨v, h1, h2⟩ := rs.at_ i d e3
  refine ⟨v, h1, ?_⟩
  have q3 := q2 _ _ (.refl _ _) hr
  cases h2 with
  | @dK a kvs ws g1 g2 g3 g4 =>
    cases e2
    obtain ⟨o, u, hu⟩ := rdy a h1 (.inl ⟨ws, g1⟩)
    rcases g1 with g1 | ⟨o', g1⟩
    · rw [g1] at hu; cases hu
    · exact ⟨a, o', rfl, .inl ⟨ws, g1, q3 _ (walks_keysD g1 g3)⟩⟩
  | @dT a kvs ws g1 g2 g3 g4 =>
    cases e2
    obtain ⟨o, u, hu⟩ := rdy a h1 (.inr ⟨ws, g1⟩)
    rcases g1 with g1 | ⟨o', g1⟩
    · rw [g1] at hu; cases hu
    · exact ⟨a, o', rfl, .inr ⟨ws, g1, q3 _ (walks_keysT g1 g3)⟩⟩
  | _ => cases e2
/-! ### a dict locked for a walk -/
theorem extW_lock {m : Wd} {H : Hp} {d : Addr} {u : HO} {o : Obj} (h : H d = some u) (hu : isDc u = true) : ExtW m H m (upd H d (.frz o u)) :=
  ⟨⟨[], by simp⟩, fun a ha => .inl ha, fun a w hw _ _ => by
    by_cases z : a = d
    · subst z
      rw [h] at hw; cases hw
      exact ⟨_, upd_same, by rw [core_f, if_pos hu, core_dic hu]⟩
    · exact ⟨w, by rw [upd_ne z]; exact hw, rfl⟩⟩
theorem extW_unlock {m : Wd} {H : Hp} {d : Addr} {u : HO} {o : Obj} (h : H d = some (.frz o u)) (hu : isDc u = true) : ExtW m H m (upd H d u) :=
  ⟨⟨[], by simp⟩, fun a ha => .inl ha, fun a w hw _ _ => by
    by_cases z : a = d
    · subst z
      rw [h] at hw; cases hw
      exact ⟨_, upd_same, by rw [core_f, if_pos hu, core_dic hu]⟩
    · exact ⟨w, by rw [upd_ne z]; exact hw, rfl⟩⟩
theorem HRel.at_d {K : PySem.W.Frag} {m : Wd} {h : MH} {H : Hp} {d : Addr} {w o : HO} (r : HRel T K m h H) (hd : d ∉ m) (hw : H d = some w) (hwt : ∀ ps, w ≠ .tbl ps) (hwc : ∀ c q, w ≠ LamX.CodeO c q) (e : ExtW m H m (upd H d o)) : HRel T K m h (upd H d o) := by
  refine r.same e (fun a ha => upd_ne fun z => hd (by rw [← z]; exact ha)) fun p hp => ?_
  obtain ⟨ps, h1, h2, h3⟩ := r.tabs p hp
  refine ⟨ps, by rw [upd_ne fun z => ?_]; exact h1; rw [z, hw] at h1; exact hwt _ (Option.some.inj h1), h2, fun pos cv hcv => ?_⟩
  obtain ⟨c, ec, hc⟩ := h3 pos cv hcv
  refine ⟨c, ec, ?_⟩
  rw [upd_ne fun z => ?_]
  · exact hc
  · rw [z, hw] at hc; exact hwc _ _ (Option.some.inj hc)
theorem dc_code {u : HO} (hu : isDc u = true) : ∀ c q, u ≠ LamX.CodeO c q := fun c q z => by rw [z] at hu; cases hu
theorem frz_code {o : Obj} {u : HO} : ∀ c q, HO.frz o u ≠ LamX.CodeO c q := fun c q z => by cases z
/-- what holds behind a walk, the dict unlocked -/
theorem Sat.lock {α : Type} {K : PySem.W.Frag} {ro : MH} {m : Wd} {H : Hp} {r : Res α} {P : α → MH → Wd → Hp → Prop} {d : Addr} {u : HO} {o : Obj} (h : Sat T K ro m H r P) (hd : d ∉ m) (hu : H d = some u) (hc : isDc u = true) :
    Sat T K ro m (upd H d (.frz o u)) r fun a rw m' H' => H' d = some (.frz o u) ∧ d ∉ m' ∧ P a rw m' (upd H' d u) := by
  cases r with
  | ok a rw =>
    intro m' H' e hr
    have hl : upd H d (.frz o u) d = some (.frz o u) := upd_same
    have h2 : H' d = some (.frz o u) := e.frz d o u hl
    have hd' : d ∉ m' := e.toExtW.notin hl hd frz_ntbl
    have nd : ∀ a w, H a = some w → a ≠ d → upd H d (.frz o u) a = some w := fun a w hw z => by rw [upd_ne z]; exact hw
    refine ⟨h2, hd', h m' (upd H' d u) ?_ (hr.at_d hd' h2 frz_ntbl frz_code (extW_unlock h2 hc))⟩
    have sm : ∀ a w, H a = some w → a ∉ m → (∀ ps, w ≠ .tbl ps) → upd H' d u a = some w := fun a w hw hm ht => by
      by_cases z : a = d
      · subst z; rw [hu] at hw; cases hw; exact upd_same
      · rw [upd_ne z]; exact e.same a w (nd a w hw z) hm ht
    refine ⟨⟨e.pre, fun a ha => ?_, fun a w hw hm ht => ⟨w, sm a w hw hm ht, rfl⟩⟩, fun a ob w hw => ?_, sm, e.hid, fun a ha w hw => ?_⟩
    · rcases e.fresh a ha with z | z | ⟨ps, z⟩
      · exact .inl z
      · by_cases q : a = d
        · subst q; exact absurd ha hd'
        · rw [upd_ne q] at z; exact .inr (.inl z)
      · by_cases q : a = d
        · subst q; exact absurd ha hd'
        · rw [upd_ne q] at z; exact .inr (.inr ⟨ps, z⟩)
    · have z : a ≠ d := fun z => by rw [z, hu] at hw; cases hw; cases hc
      rw [upd_ne z]; exact e.frz a ob w (nd a _ hw z)
    · have z : a ≠ d := fun z => hd (by rw [← z]; exact .inr ha)
      rw [upd_ne z]; exact e.hsame a ha w (nd a w hw z)
  | exc c p h' => exact h
  | err => exact h
/-- the source is ready, or a dict is there to be locked -/
theorem ready (t : MT) {K : PySem.W.Frag} {ro rw : MH} {σ : Sig} {s : L2.St} {ma : Wd} {H : Hp} {P : List D → MH → Wd → Hp → Prop} (rs : SRel K ma H σ s) (q : Sat T K ro ma H (evT C ro t σ rw) P) :
    RdyT t s H ∨ ∃ d u, H d = some u ∧ isDc u = true ∧ d ∉ ma ∧ ∀ o, RdyT t s (upd H d (.frz o u)) := by
  cases t with
  | keys i =>
    obtain ⟨ds, ed, q2⟩ := Sat.lift q
    obtain ⟨d, e1, e2⟩ := Option.bind_eq_some_iff.mp ed
    obtain ⟨od, e3, e4⟩ := Option.bind_eq_some_iff.mp e1
    have e4 : od = some d := e4
    subst e4
    obtain ⟨v, h1, h2⟩ := rs.at_ i d e3
    cases h2 with
    | @dK a kvs ws g1 g2 g3 g4 =>
      rcases g1 with g1 | ⟨o', g1⟩
      · exact .inr ⟨a, _, g1, rfl, g2, fun o d' hd' _ => by rw [h1] at hd'; cases hd'; exact ⟨o, _, upd_same⟩⟩
      · exact .inl fun d' hd' _ => by rw [h1] at hd'; cases hd'; exact ⟨o', _, g1⟩
    | @dT a kvs ws g1 g2 g3 g4 =>
      rcases g1 with g1 | ⟨o', g1⟩
      · exact .inr ⟨a, _, g1, rfl, g2, fun o d' hd' _ => by rw [h1] at hd'; cases hd'; exact ⟨o, _, upd_same⟩⟩
      · exact .inl fun d' hd' _ => by rw [h1] at hd'; cases hd'; exact ⟨o', _, g1⟩
    | _ => cases e2
  | _ => exact .inl trivial
theorem mut_dc {u : HO} (h : isDc u = true) : Mut (some u) := by cases u <;> first | trivial | cases h
end
end Mx

set_option Elab.async false
set_option linter.all false
set_option maxRecDepth 100000
set_option maxHeartbeats 1000000
/-! Mx, part K: list comprehensions. -/
namespace Mx
open PySem L2 PySem.Spec PyProof.Rows

/-! ### a list that is being filled -/
def Wd.hide (m : Wd) (D : Addr) : Wd := ⟨m.r, D :: m.x⟩
theorem hide_mem {m : Wd} {D a : Addr} (h : a ∈ m) : a ∈ m.hide D := h.elim .inl fun z => .inr (List.mem_cons_of_mem _ z)
theorem hide_self {m : Wd} {D : Addr} : D ∈ m.hide D := .inr List.mem_cons_self
mutual
theorem Rep.unhide {K : PySem.W.Frag} {m : Wd} {D : Addr} {H : Hp} : ∀ {d : Mx.D} {v : V}, Rep K (m.hide D) H d v → Rep K m H d v
  | _, _, .non => .non
  | _, _, .bl b => .bl b
  | _, _, .int i => .int i
  | _, _, .str s => .str s
  | _, _, .tup h t r => .tup h t (Reps.unhide r)
  | _, _, .lst h r => .lst ⟨h.1, fun z => h.2 (hide_mem z)⟩ (Reps.unhide r)
  | _, _, .scr h => .scr h
  | _, _, .dK h hm k r => .dK h (fun z => hm (hide_mem z)) k (Reps.unhide r)
  | _, _, .dT h hm k r => .dT h (fun z => hm (hide_mem z)) k (Reps.unhide r)
  | _, _, .ref h => .ref h
theorem Reps.unhide {K : PySem.W.Frag} {m : Wd} {D : Addr} {H : Hp} : ∀ {ds : List Mx.D} {vs : List V}, Reps K (m.hide D) H ds vs → Reps K m H ds vs
  | _, _, .nil => .nil
  | _, _, .cons h t => .cons (Rep.unhide h) (Reps.unhide t)
end
section
variable {T : Tbs} {K : PySem.W.Frag} {m : Wd} {D : Addr} {H : Hp} {h : MH}
theorem ORep.unhide {a : Addr} {o : MO} (r : ORep K (m.hide D) H a o) : ORep K m H a o := by
  cases o with
  | lst xs => obtain ⟨vs, h1, h2⟩ := r; exact ⟨vs, h1, h2.unhide⟩
  | dK xs => obtain ⟨vs, h1, h2, h3⟩ := r; exact ⟨vs, h1, h2, h3.unhide⟩
  | dT xs => obtain ⟨vs, h1, h2, h3⟩ := r; exact ⟨vs, h1, h2, h3.unhide⟩
theorem HRel.unhide (r : HRel T K (m.hide D) h H) : HRel T K m h H := ⟨r.tabs, r.len, r.nd, fun a ha => r.hid a (List.mem_cons_of_mem _ ha), fun l o a h1 h2 => (r.ob l o a h1 h2).unhide⟩
theorem extW_hide {o : HO} (hD : H D = none) : ExtW m H (m.hide D) (upd H D o) :=
  ⟨⟨[], by show m.r = _; simp⟩, fun a ha => by
    rcases ha with ha | ha
    · exact .inl (.inl ha)
    · rcases List.mem_cons.mp ha with rfl | ha
      · exact .inr (.inl hD)
      · exact .inl (.inr ha), fun a u hu _ _ => ⟨u, by rw [upd_ne (ne_of_none hu hD)]; exact hu, rfl⟩⟩
theorem HRel.hide {o : HO} (r : HRel T K m h H) (hD : H D = none) (ho : isOwn o = true) : HRel T K (m.hide D) h (upd H D o) := by
  refine ⟨(r.new (o := o) hD).tabs, r.len, r.nd, fun a ha => ?_, fun l mo a h1 h2 => ?_⟩
  · have ha : a ∈ D :: m.x := ha
    rcases List.mem_cons.mp ha with rfl | ha
    · exact ⟨fun z => r.notin hD (.inl z), o, upd_same, ho⟩
    · obtain ⟨q1, u, q2, q3⟩ := r.hid a ha
      exact ⟨q1, u, by rw [upd_ne (ne_of_none q2 hD)]; exact q2, q3⟩
  · have h2 : m.r[l]? = some a := h2
    refine (r.ob l mo a h1 h2).ext (extW_hide hD) r.noTup ?_
    obtain ⟨u, hu⟩ := r.here (.inl (List.mem_of_getElem? h2))
    rw [upd_ne (ne_of_none hu hD)]
/-- the hidden list is written -/
theorem extW_fill {o u : HO} (hD : H D = some u) (hm : D ∈ m) : ExtW m H m (upd H D o) :=
  ⟨⟨[], by simp⟩, fun a ha => .inl ha, fun a w hw hb _ => ⟨w, by rw [upd_ne (fun z => hb (by rw [z]; exact hm))]; exact hw, rfl⟩⟩
theorem HRel.fill {o u : HO} (r : HRel T K (m.hide D) h H) (hD : H D = some u) (hu : isOwn u = true) (ho : isOwn o = true) : HRel T K (m.hide D) h (upd H D o) := by
  have hn : D ∉ m.r := (r.hid D List.mem_cons_self).1
  refine ⟨?_, r.len, r.nd, fun a ha => ?_, fun l mo a h1 h2 => ?_⟩
  · intro p hp
    obtain ⟨ps, h1, h2, h3⟩ := r.tabs p hp
    have n1 : p.1 ≠ D := fun z => by rw [z, hD] at h1; cases h1; cases hu
    refine ⟨ps, by rw [upd_ne n1]; exact h1, h2, fun pos cv hcv => ?_⟩
    obtain ⟨c, ec, hc⟩ := h3 pos cv hcv
    refine ⟨c, ec, ?_⟩
    rw [upd_ne fun z => ?_]
    · exact hc
    · rw [z, hD] at hc; cases hc; cases hu
  · obtain ⟨q1, w, q2, q3⟩ := r.hid a ha
    refine ⟨q1, ?_⟩
    by_cases z : a = D
    · subst z; exact ⟨o, upd_same, ho⟩
    · exact ⟨w, by rw [upd_ne z]; exact q2, q3⟩
  · have h2 : m.r[l]? = some a := h2
    exact (r.ob l mo a h1 h2).ext (extW_fill hD hide_self) r.noTup (upd_ne fun z => hn (by rw [← z]; exact List.mem_of_getElem? h2))
/-- a base stays behind, whatever is done while D is hidden -/
theorem Ext.step {m1 m' : Wd} {H1 H' : Hp} (e : Ext m1 H1 m H) (hD : H1 D = none) (f : Ext (m.hide D) H (m'.hide D) H') : Ext m1 H1 m' H' := by
  have nD : ∀ a o, H1 a = some o → a ≠ D := fun a o h z => by rw [z, hD] at h; cases h
  have out : ∀ a o, H1 a = some o → a ∉ m1 → (∀ ps, o ≠ .tbl ps) → a ∉ m.hide D := fun a o h hm ht z => by
    rcases z with z | z
    · exact e.toExtW.notin h hm ht (.inl z)
    · rcases List.mem_cons.mp z with z | z
      · exact nD a o h z
      · exact e.toExtW.notin h hm ht (.inr z)
  have sameH : ∀ a o, H1 a = some o → a ∉ m1 → (∀ ps, o ≠ .tbl ps) → H' a = some o := fun a o h hm ht => f.same a o (e.same a o h hm ht) (out a o h hm ht) ht
  have fx : m'.x = m.x := by
    have z : D :: m'.x = D :: m.x := f.hid
    exact (List.cons.inj z).2
  refine ⟨⟨?_, fun a ha => ?_, fun a o h hm ht => ⟨o, sameH a o h hm ht, rfl⟩⟩, fun a o u h => f.frz a o u (e.frz a o u h), sameH, fx.trans e.hid, fun a ha u hu => ?_⟩
  · obtain ⟨n1, e1⟩ := e.pre
    obtain ⟨n2, e2⟩ := f.pre
    have e2 : m'.r = m.r ++ n2 := e2
    exact ⟨n1 ++ n2, by rw [e2, e1, List.append_assoc]⟩
  · by_cases hm : a ∈ m1
    · exact .inl hm
    · refine .inr ?_
      cases q : H1 a with
      | none => exact .inl rfl
      | some o =>
        by_cases ht : ∃ ps, o = .tbl ps
        · obtain ⟨ps, rfl⟩ := ht; exact .inr ⟨ps, rfl⟩
        · have ht : ∀ ps, o ≠ .tbl ps := fun ps z => ht ⟨ps, z⟩
          exact absurd (hide_mem ha) (f.toExtW.notin (e.same a o q hm ht) (out a o q hm ht) ht)
  · exact f.hsame a (List.mem_cons_of_mem _ (by rw [e.hid]; exact ha)) u (e.hsame a ha u hu)
theorem Ext.filled {m1 : Wd} {H1 : Hp} {o : HO} (e : Ext m1 H1 m H) (hD : H1 D = none) : Ext m1 H1 m (upd H D o) := by
  have nD : ∀ a o, H1 a = some o → a ≠ D := fun a o h z => by rw [z, hD] at h; cases h
  exact ⟨⟨e.pre, e.fresh, fun a o h hm ht => ⟨o, by rw [upd_ne (nD a o h)]; exact e.same a o h hm ht, rfl⟩⟩, fun a o u h => by rw [upd_ne (nD a _ h)]; exact e.frz a o u h, fun a o h hm ht => by rw [upd_ne (nD a o h)]; exact e.same a o h hm ht, e.hid, fun a ha u hu => by rw [upd_ne (nD a u hu)]; exact e.hsame a ha u hu⟩
end
theorem Sat.move {α : Type} {T : Tbs} {K : PySem.W.Frag} {ro : MH} {m m' : Wd} {H H' : Hp} {r : Res α} {P : α → MH → Wd → Hp → Prop} (h : Sat T K ro m H r P) (e : Ext m H m' H') : Sat T K ro m' H' r P := by
  cases r with
  | ok a rw => exact fun m2 H2 e2 r2 => h m2 H2 (e.trans e2) r2
  | exc c p h' => exact h
  | err => exact h
/-- what a turn comes to -/
theorem Sat.turn {α β γ : Type} {T : Tbs} {K : PySem.W.Frag} {ro rw : MH} {m : Wd} {H : Hp} {x : M α} {g : α → M β} {f : β → M γ} {P : γ → MH → Wd → Hp → Prop} (h : Sat T K ro m H (M.bind (M.bind x g) f rw) P) : ∃ a rw2, x rw = .ok a rw2 ∧ Sat T K ro m H (M.bind (g a) f rw2) P := by
  unfold M.bind at h
  cases e : x rw with
  | ok a rw2 => rw [e] at h; exact ⟨a, rw2, rfl, h⟩
  | exc c p h' => rw [e] at h; exact h.elim
  | err => rw [e] at h; exact h.elim
theorem Sat.eq {α : Type} {T : Tbs} {K : PySem.W.Frag} {ro rw2 : MH} {m : Wd} {H : Hp} {r : Res α} {a : α} (h : r = .ok a rw2) : Sat T K ro m H r fun b rw' _ _ => b = a ∧ rw' = rw2 := by
  subst h; exact fun _ _ _ _ => ⟨rfl, rfl⟩

section
variable {T : Tbs} {G : Glob} {C : Calls} {k : Nat} {N : List Str} {sc : Scope} {X : Cx}
/-! ### the block -/
theorem here_blk (hX : Here T G C k N sc X) {s : Shared} {H : Hp} {bsc : Scope} {cl : List (Str × Addr)} {Cc : Addr} {fp : List Addr} : Here T G C k N (relS bsc sc) (X.blk s H bsc (compEnvC bsc cl Cc X.env) fp) :=
  ⟨⟨hX.ctx.nd, hX.ctx.calm, hX.ctx.room, hX.ctx.guards⟩, by show relabel bsc X.env = _; rw [← hX.scope]; rfl, hX.names, hX.glob, hX.lam⟩
def ownB (bsc : Scope) (x : Str) : Bool := match bsc.names.lookup x with
  | some .local => true
  | some .cell => true
  | _ => false
theorem owns_blk {s : Shared} {H : Hp} {bsc : Scope} {cl : List (Str × Addr)} {Cc : Addr} {fp : List Addr} : Owns (X.blk s H bsc (compEnvC bsc cl Cc X.env) fp) (ownB bsc) := fun x h => by
  unfold ownB at h
  cases e : bsc.names.lookup x with
  | none => rw [e] at h; cases h
  | some kd =>
    rw [e] at h
    cases kd with
    | «local» => exact .inr (lookup_relabel_local e)
    | cell => exact .inl (by show (bsc.names.lookup x == some .cell) = true; rw [e]; rfl)
    | _ => cases h
/-- readings that hold in all blocks -/
def aG (X : Cx) (bsc : Scope) (tg : Expr) : TG := fun v σ H Q => ∀ (s0 : Shared) (H0 : Hp) (Cc : Addr) (cl : List (Str × Addr)) (fp : List Addr), wG (X.blk s0 H0 bsc (compEnvC bsc cl Cc X.env) fp) tg v σ H Q
def wTs (X : Cx) (ifs : List Expr) : TT := fun σ H Q => ∀ (pins : List (Addr × Obj)) (s : Shared), Inv X pins σ H s →
  wpAny (model X.prog X.w) X.A (forIn ifs true fun c r => if r = true then do let ok ← isTrue c X.env (eval c X.env); pure (ForInStep.yield ok) else pure (ForInStep.yield r)) (TP X pins σ Q) X.xe s
theorem pts_w {X : Cx} {ifs : List Expr} : PTs X ifs (wTs X ifs) := ⟨fun pins s σ H Q I h => h pins s I⟩
theorem PTs.le {X : Cx} {ifs : List Expr} {t : TT} (h : PTs X ifs t) {σ : L2.St} {H : Hp} {Q : Bool → Hp → Prop} (q : t σ H Q) : wTs X ifs σ H Q := fun pins s I => h.run pins s σ H Q I q
def aTs (X : Cx) (bsc : Scope) (ifs : List Expr) : TT := fun σ H Q => ∀ (s0 : Shared) (H0 : Hp) (Cc : Addr) (cl : List (Str × Addr)) (fp : List Addr), wTs (X.blk s0 H0 bsc (compEnvC bsc cl Cc X.env) fp) ifs σ H Q
def aE (X : Cx) (bsc : Scope) (e : Expr) : TE := fun σ H Q => ∀ (s0 : Shared) (H0 : Hp) (Cc : Addr) (cl : List (Str × Addr)) (fp : List Addr), wE (X.blk s0 H0 bsc (compEnvC bsc cl Cc X.env) fp) e σ H Q
inductive IfsOk (T : Tbs) (G : Glob) (C : Calls) (k : Nat) (N : List Str) (sc : Scope) : Option ME → List Expr → Prop
  | none : IfsOk T G C k N sc .none []
  | one {m : ME} {e : Expr} : ST T G C k N sc m e → IfsOk T G C k N sc (some m) [e]
theorem ifs_ok {mi : Option ME} {ifs : List Expr} (h : IfsOk T G C k N sc mi ifs) (hX : Here T G C k N sc X) {ro rw : MH} {σ : Sig} {s : L2.St} {ma : Wd} {H : Hp} {Q : Bool → Hp → Prop} (rs : SRel X.K ma H σ s) (hr : HRel T X.K ma (ro ++ rw) H) (q : Sat T X.K ro ma H (evIfs C ro mi σ rw) (fun b _ _ H' => Q b H')) : wTs X ifs s H Q := by
  cases h with
  | none => exact PTs.le pts_nil (Sat.ok q hr)
  | one h =>
    refine PTs.le (pts_one pt_w) (h X hX ro rw σ s ma H _ rs hr ((Sat.bind q).mono fun x rw1 m1 H1 e1 r1 h1 => ?_))
    obtain ⟨b, rfl, h2⟩ := Sat.isBl1 h1
    exact ⟨b, rfl, Sat.ok h2 r1⟩
/-! ### the loop -/
theorem lc_ok {bsc : Scope} {g : MG} {tg elt : Expr} {melt : ME} {mi : Option ME} {ifs : List Expr} {vs : List Nat} (hX : Here T G C k N sc X) (hg : TgOk N (relS bsc sc) (ownB bsc) g tg) (hsl : ∀ i ∈ slotsG g, i ∈ vs) (he : SE T G C k N (relS bsc sc) melt elt) (hi : IfsOk T G C k N (relS bsc sc) mi ifs)
    {ro rw1 : MH} {σ : Sig} {s : L2.St} {m1 : Wd} {H1 : Hp} {Q : VK} (rs : SRel X.K m1 H1 σ s) (hr : HRel T X.K m1 (ro ++ rw1) H1) {J : It} {ds : List D} (wk : Walks X.K m1 H1 J ds)
    (hs : Sat T X.K ro m1 H1 (M.bind (loopL (fun d acc => M.bind (M.lift (asG g d (wipeD σ vs))) fun σ2 => M.bind (evIfs C ro mi σ2) fun k => if k then M.bind (evE C ro melt σ2) fun y => stepL acc y else M.pure acc) ds []) (fun acc => M.pure (.lst acc)) rw1) (VP X.K Q)) :
    ∀ D, H1 D = none → ∃ W : Nat → Nat → Hp → Prop, (∃ m, W 0 m (upd H1 D (.lst []))) ∧ ∀ i m H, W i m H →
      (J.stop i H ∧ Q (.ref D) H) ∨ (J.go i H ∧ ∃ Nx : Hp → Prop, (∀ H', Nx H' → ∃ m', m' < m ∧ W (i + 1) m' H') ∧ ∀ x H', J.yld i H x H' → aG X bsc tg x (L2.wipe s vs) H' fun σ2 H2 => L2.wipe σ2 vs = L2.wipe s vs ∧ aTs X bsc ifs σ2 H2 fun b H3 =>
        if b = true then aE X bsc elt σ2 H3 fun y H4 => ∃ acc, H4 D = some (.lst acc) ∧ acc.length < sizeLine ∧ Nx (upd H4 D (.lst (acc ++ [y]))) else Nx H3) := by
  intro D hD
  obtain ⟨Gd, g0, gst, ggo, gstop, gy⟩ := wk.ex
  generalize hf : (fun d acc => M.bind (M.lift (asG g d (wipeD σ vs))) fun σ2 => M.bind (evIfs C ro mi σ2) fun k => if k then M.bind (evE C ro melt σ2) fun y => stepL acc y else M.pure acc) = f at hs
  let W : Nat → Nat → Hp → Prop := fun i n H => n = ds.length - i ∧ i ≤ ds.length ∧ ∃ rw m acc ys, Ext m1 H1 m H ∧ HRel T X.K (m.hide D) (ro ++ rw) H ∧ Gd (m.hide D) H ∧ H D = some (.lst ys) ∧ Reps X.K (m.hide D) H acc ys ∧
    SRel X.K (m.hide D) H σ s ∧ Sat T X.K ro m1 H1 (M.bind (loopL f (ds.drop i) acc) (fun acc => M.pure (.lst acc)) rw) (VP X.K Q)
  have frz0 : ∀ a o u, H1 a = some (.frz o u) → upd H1 D (.lst []) a = some (.frz o u) := fun a o u h => by rw [upd_ne (ne_of_none h hD)]; exact h
  refine ⟨W, ⟨ds.length, by simp, Nat.zero_le _, rw1, m1, [], [], ext_new hD, hr.hide hD rfl, gst _ _ _ _ g0 hr.noTup (extW_hide hD) frz0, upd_same, .nil, rs.ext (extW_hide hD) hr.noTup, by simpa using hs⟩, ?_⟩
  rintro i n H ⟨rfl, hi1, rw, m, acc, ys, e1, hr1, gd, hDl, rys, rs1, sat⟩
  by_cases hlt : i < ds.length
  · refine .inr ⟨ggo _ H i gd hlt, fun H' => W (i + 1) (ds.length - (i + 1)) H', fun H' w => ⟨_, by omega, w⟩, fun x H' y => ?_⟩
    obtain ⟨d, ed, ex, hrp, px⟩ := gy (m.hide D) H i x H' gd hr1.noTup hlt y
    have hr2 := hrp T _ hr1
    have edrop : ds.drop i = d :: ds.drop (i + 1) := by
      rw [List.drop_eq_getElem_cons hlt]
      rw [List.getElem?_eq_getElem hlt] at ed
      rw [Option.some.inj ed]
    rw [edrop] at sat
    obtain ⟨a, rw2, ea, sat2⟩ := Sat.turn (g := loopL f (ds.drop (i + 1))) sat
    have hT : Sat T X.K ro (m.hide D) H' (f d acc rw) fun b rw' _ _ => b = a ∧ rw' = rw2 := Sat.eq ea
    subst hf
    obtain ⟨σ2, es2, hT⟩ := Sat.lift (Sat.bind hT)
    have hT := hT _ _ (.refl _ _) hr2
    have rs2 := (rs1.ext ex.toExtW hr1.noTup).wipe vs
    -- behind a turn
    have world : ∀ {m' : Wd} {H3 : Hp}, Ext (m.hide D) H' m' H3 → ∃ m0 : Wd, m' = m0.hide D ∧ Ext m1 H1 m0 H3 ∧ H3 D = some (.lst ys) ∧ Gd m' H3 ∧ Reps X.K m' H3 acc ys ∧ SRel X.K m' H3 σ s := fun {m' H3} e3 => by
      have ee := ex.trans e3
      refine ⟨⟨m'.r, m.x⟩, ?_, ?_, ee.hsame D List.mem_cons_self _ hDl, gst _ _ _ _ gd hr1.noTup ee.toExtW ee.frz, rys.ext ee.toExtW hr1.noTup, rs1.ext ee.toExtW hr1.noTup⟩
      · obtain ⟨r', x'⟩ := m'
        have z : x' = D :: m.x := e3.hid
        subst z; rfl
      · refine Ext.step e1 hD ?_
        obtain ⟨r', x'⟩ := m'
        have z : x' = D :: m.x := e3.hid
        subst z; exact ee
    intro s0 H0 Cc cl fp
    refine sg_ok (here_blk hX) owns_blk hg es2 px rs2 fun s' rs3 sb => ?_
    have sbv : SameBut vs s s' := sameBut_wipe.trans ⟨sb.len, fun j hj => sb.at_ j fun z => hj (hsl j z)⟩
    refine ⟨sbv.wipe, fun s0 H0 Cc cl fp => ?_⟩
    refine ifs_ok hi (here_blk hX) rs3 hr2 ((Sat.bind hT).mono fun b rw3 m3 H3 e3 r3 q3 => ?_)
    cases b with
    | false =>
      obtain ⟨rfl, rfl⟩ := Sat.ok q3 r3
      obtain ⟨m0, rfl, w1, w2, w3, w4, w5⟩ := world e3
      exact ⟨rfl, hlt, _, m0, _, ys, w1, r3, w3, w2, w4, w5, sat2⟩
    | true =>
      show aE X bsc elt s' H3 _
      intro s0 H0 Cc cl fp
      have rs4 := rs3.ext e3.toExtW hr2.noTup
      refine he _ (here_blk hX) ro rw3 σ2 s' m3 H3 _ rs4 r3 ((Sat.bind q3).mono fun dy rw4 m4 H4 e4 r4 q4 y hy => ?_)
      unfold stepL at q4
      split at q4
      · rename_i z
        obtain ⟨rfl, rfl⟩ := Sat.ok q4 r4
        obtain ⟨m0, rfl, w1, w2, w3, w4, w5⟩ := world (e3.trans e4)
        have z := of_decide_eq_true z
        have hl := w4.length
        have ew : ExtW (m0.hide D) H4 (m0.hide D) (upd H4 D (.lst (ys ++ [y]))) := extW_fill w2 hide_self
        have fz : ∀ a o u, H4 a = some (.frz o u) → upd H4 D (.lst (ys ++ [y])) a = some (.frz o u) := fun a o u h => by
          rw [upd_ne fun z => ?_]
          · exact h
          · subst z; rw [w2] at h; cases h
        exact ⟨ys, w2, by rw [sizeLine_eq]; omega, rfl, hlt, _, m0, _, ys ++ [y], w1.filled hD, r4.fill w2 rfl rfl, gst _ _ _ _ w3 r4.noTup ew fz, upd_same, (w4.append (.one hy)).ext ew r4.noTup, w5.ext ew r4.noTup, sat2⟩
      · exact q4.elim
  · have ei : i = ds.length := by omega
    subst ei
    refine .inl ⟨gstop _ H gd, ?_⟩
    rw [List.drop_length] at sat
    have z := Sat.ok (Sat.move sat e1) hr1.unhide
    refine z _ (.lst ⟨hDl, fun w => ?_⟩ rys.unhide)
    rcases w with w | w
    · exact (hr1.hid D List.mem_cons_self).1 w
    · rw [e1.hid] at w
      obtain ⟨_, u, hu, _⟩ := hr.hid D w
      rw [hD] at hu; cases hu
/-- .. that makes an own thing -/
theorem lc_own {bsc : Scope} {g : MG} {tg elt : Expr} {melt : ME} {mi : Option ME} {ifs : List Expr} {vs : List Nat} (hX : Here T G C k N sc X) (hg : TgOk N (relS bsc sc) (ownB bsc) g tg) (hsl : ∀ i ∈ slotsG g, i ∈ vs) (he : SE T G C k N (relS bsc sc) melt elt) (hi : IfsOk T G C k N (relS bsc sc) mi ifs)
    {ro rw1 : MH} {σ : Sig} {s : L2.St} {m1 : Wd} {H1 : Hp} {Q : VK} (rs : SRel X.K m1 H1 σ s) (hr : HRel T X.K m1 (ro ++ rw1) H1) {J : It} {ds : List D} (wk : Walks X.K m1 H1 J ds)
    (hs : Sat T X.K ro m1 H1 (M.bind (loopL (fun d (_ : Unit) => M.bind (M.lift (asG g d (wipeD σ vs))) fun σ2 => M.bind (evIfs C ro mi σ2) fun k => if k then M.bind (evE C ro melt σ2) fun y => upO ro (ro.length + rw1.length) (appO y) else M.pure ()) ds ()) (fun _ => M.pure (.ref (ro.length + rw1.length))) (rw1 ++ [.lst []])) (VP X.K Q)) :
    ∀ D, H1 D = none → ∃ W : Nat → Nat → Hp → Prop, (∃ m, W 0 m (upd H1 D (.lst []))) ∧ ∀ i m H, W i m H →
      (J.stop i H ∧ Q (.ref D) H) ∨ (J.go i H ∧ ∃ Nx : Hp → Prop, (∀ H', Nx H' → ∃ m', m' < m ∧ W (i + 1) m' H') ∧ ∀ x H', J.yld i H x H' → aG X bsc tg x (L2.wipe s vs) H' fun σ2 H2 => L2.wipe σ2 vs = L2.wipe s vs ∧ aTs X bsc ifs σ2 H2 fun b H3 =>
        if b = true then aE X bsc elt σ2 H3 fun y H4 => ∃ acc, H4 D = some (.lst acc) ∧ acc.length < sizeLine ∧ Nx (upd H4 D (.lst (acc ++ [y]))) else Nx H3) := by
  intro D hD
  obtain ⟨Gd, g0, gst, ggo, gstop, gy⟩ := wk.ex
  generalize hl : ro.length + rw1.length = l at hs
  generalize hf : (fun d (_ : Unit) => M.bind (M.lift (asG g d (wipeD σ vs))) fun σ2 => M.bind (evIfs C ro mi σ2) fun k => if k then M.bind (evE C ro melt σ2) fun y => upO ro l (appO y) else M.pure ()) = f at hs
  have hE : Ext m1 H1 (m1.push D) (upd H1 D (.lst [])) := ext_own hD
  obtain ⟨hr0, hget⟩ := own_new (o := .lst []) (mo := .lst []) hr hD ⟨[], upd_same, .nil⟩
  rw [hl] at hget
  let W : Nat → Nat → Hp → Prop := fun i n H => n = ds.length - i ∧ i ≤ ds.length ∧ ∃ rw m, Ext (m1.push D) (upd H1 D (.lst [])) m H ∧ HRel T X.K m (ro ++ rw) H ∧ Gd m H ∧
    SRel X.K m H σ s ∧ Sat T X.K ro m1 H1 (M.bind (loopL f (ds.drop i) ()) (fun _ => M.pure (.ref l)) rw) (VP X.K Q)
  refine ⟨W, ⟨ds.length, by simp, Nat.zero_le _, rw1 ++ [.lst []], m1.push D, .refl _ _, hr0, gst _ _ _ _ g0 hr.noTup hE.toExtW hE.frz, rs.ext hE.toExtW hr.noTup, by simpa using hs⟩, ?_⟩
  rintro i n H ⟨rfl, hi1, rw, m, e1, hr1, gd, rs1, sat⟩
  by_cases hlt : i < ds.length
  · refine .inr ⟨ggo _ H i gd hlt, fun H' => W (i + 1) (ds.length - (i + 1)) H', fun H' w => ⟨_, by omega, w⟩, fun x H' y => ?_⟩
    obtain ⟨d, ed, ex, hrp, px⟩ := gy m H i x H' gd hr1.noTup hlt y
    have hr2 := hrp T _ hr1
    have edrop : ds.drop i = d :: ds.drop (i + 1) := by
      rw [List.drop_eq_getElem_cons hlt]
      rw [List.getElem?_eq_getElem hlt] at ed
      rw [Option.some.inj ed]
    rw [edrop] at sat
    obtain ⟨a, rw2, ea, sat2⟩ := Sat.turn (g := loopL f (ds.drop (i + 1))) sat
    have hT : Sat T X.K ro m H' (f d () rw) fun b rw' _ _ => b = a ∧ rw' = rw2 := Sat.eq ea
    subst hf
    obtain ⟨σ2, es2, hT⟩ := Sat.lift (Sat.bind hT)
    have hT := hT _ _ (.refl _ _) hr2
    have rs2 := (rs1.ext ex.toExtW hr1.noTup).wipe vs
    -- behind a turn
    have world : ∀ {m' : Wd} {H3 : Hp}, Ext m H' m' H3 → Ext (m1.push D) (upd H1 D (.lst [])) m' H3 ∧ Gd m' H3 ∧ SRel X.K m' H3 σ s := fun {m' H3} e3 => by
      have ee := ex.trans e3
      exact ⟨e1.trans ee, gst _ _ _ _ gd hr1.noTup ee.toExtW ee.frz, rs1.ext ee.toExtW hr1.noTup⟩
    intro s0 H0 Cc cl fp
    refine sg_ok (here_blk hX) owns_blk hg es2 px rs2 fun s' rs3 sb => ?_
    have sbv : SameBut vs s s' := sameBut_wipe.trans ⟨sb.len, fun j hj => sb.at_ j fun z => hj (hsl j z)⟩
    refine ⟨sbv.wipe, fun s0 H0 Cc cl fp => ?_⟩
    refine ifs_ok hi (here_blk hX) rs3 hr2 ((Sat.bind hT).mono fun b rw3 m3 H3 e3 r3 q3 => ?_)
    cases b with
    | false =>
      obtain ⟨_, rfl⟩ := Sat.ok q3 r3
      obtain ⟨w1, w3, w5⟩ := world e3
      exact ⟨rfl, hlt, _, m3, w1, r3, w3, w5, sat2⟩
    | true =>
      show aE X bsc elt s' H3 _
      intro s0 H0 Cc cl fp
      have rs4 := rs3.ext e3.toExtW hr2.noTup
      refine he _ (here_blk hX) ro rw3 σ2 s' m3 H3 _ rs4 r3 ((Sat.bind q3).mono fun dy rw4 m4 H4 e4 r4 q4 y hy => ?_)
      obtain ⟨w1, w3, w5⟩ := world (e3.trans e4)
      obtain ⟨o, nw, hl2, h2, h3, h4⟩ := upO_at q4
      have hD4 : m4.r[l]? = some D := w1.toExtW.get hget
      have ho := r4.ob l o D h2 hD4
      cases o with
      | lst xs =>
        obtain ⟨ys, y1, y2⟩ := ho
        have h3 : (if decide (xs.length < 16777216) then some (MO.lst (xs ++ [dy])) else none) = some nw := h3
        split at h3
        · rename_i z
          cases h3
          have z := of_decide_eq_true z
          rw [y2.length] at z
          obtain ⟨ee, r5⟩ := own_set (o := .lst (ys ++ [y])) (mo := .lst (xs ++ [dy])) r4 hl2 hD4 y1 rfl fun e => ⟨ys ++ [y], upd_same, (y2.ext e.toExtW r4.noTup).append (.one (hy.ext e.toExtW r4.noTup))⟩
          obtain ⟨_, rfl⟩ := h4 _ _ ee r5
          exact ⟨ys, y1, by rw [sizeLine_eq]; exact z, rfl, hlt, _, m4, w1.trans ee, r5, gst _ _ _ _ w3 r4.noTup ee.toExtW ee.frz, w5.ext ee.toExtW r4.noTup, sat2⟩
        · cases h3
      | dK _ => cases h3
      | dT _ => cases h3
  · have ei : i = ds.length := by omega
    subst ei
    refine .inl ⟨gstop _ H gd, ?_⟩
    rw [List.drop_length] at sat
    exact Sat.ok (Sat.move sat (hE.trans e1)) hr1 _ (.ref (e1.toExtW.get hget))
/-- the reading of a comprehension -/
theorem lc_read {bsc : Scope} {g : MG} {tg elt iter : Expr} {melt : ME} {t : MT} {mi : Option ME} {ifs : List Expr} {vs : List Nat} {mu : Bool} (hX : Here T G C k N sc X) (hg : TgOk N (relS bsc sc) (ownB bsc) g tg) (hsl : ∀ i ∈ slotsG g, i ∈ vs) (hit : SI T G C k N sc t tg iter) (he : SE T G C k N (relS bsc sc) melt elt) (hi : IfsOk T G C k N (relS bsc sc) mi ifs)
    {ro rw : MH} {σ : Sig} {s : L2.St} {ma : Wd} {H : Hp} {Q : VK} (rdy : RdyT t s H) (rs : SRel X.K ma H σ s) (hr : HRel T X.K ma (ro ++ rw) H) (hs : Sat T X.K ro ma H (evE C ro (.comp mu melt vs g t mi) σ rw) (VP X.K Q)) : tLc (wI X tg iter) (aG X bsc tg) (aTs X bsc ifs) (aE X bsc elt) vs s H Q := by
  refine hit X hX ro rw σ s ma H _ rdy rs hr ((Sat.bind hs).mono fun ds rw1 m1 H1 e1 r1 q1 J wk => ?_)
  have rs1 := rs.ext e1.toExtW hr.noTup
  cases mu with
  | false => exact lc_ok hX hg hsl he hi rs1 r1 wk q1
  | true => exact lc_own hX hg hsl he hi rs1 r1 wk q1
theorem se_comp {bsc : Scope} {own : List (Str × Nat)} {g : MG} {tg elt iter : Expr} {melt : ME} {t : MT} {mi : Option ME} {ifs : List Expr} {mu : Bool} {pos : Pos} (hb : blkC N sc bsc own = true) (hg : TgOk N (relS bsc sc) (ownB bsc) g tg) (hsl : ∀ i ∈ slotsG g, i ∈ own.map (·.2)) (hit : SI T G C k N sc t tg iter) (he : SE T G C k N (relS bsc sc) melt elt) (hi : IfsOk T G C k N (relS bsc sc) mi ifs)
    (hfold : ∀ (env : Env) x, foldedSetIterable iter env x = pure x) : SE T G C k N sc (.comp mu melt (own.map (·.2)) g t mi) (.ListComp elt [⟨tg, iter, ifs, 0⟩] bsc pos) := fun X hX => by
  have ok : BlkOk X.N X.env.scope bsc own := by rw [hX.names, hX.scope]; exact blkOk_by hb
  have main : ∀ {ro rw : MH} {σ : Sig} {s : L2.St} {ma : Wd} {H : Hp} {Q : VK}, RdyT t s H → SRel X.K ma H σ s → HRel T X.K ma (ro ++ rw) H → Sat T X.K ro ma H (evE C ro (.comp mu melt (own.map (·.2)) g t mi) σ rw) (VP X.K Q) → wE X (.ListComp elt [⟨tg, iter, ifs, 0⟩] bsc pos) s H Q := fun {ro rw σ s ma H Q} rdy rs hr q =>
    PE.le (pe_lc (g := aG X bsc tg) (tt := aTs X bsc ifs) (te := aE X bsc elt) hX.ctx.calm hX.ctx.nd pi_w ok (fun s0 H0 Cc cl fp => ⟨fun pins s σ H v u Q I r h => h s0 H0 Cc cl fp pins s u I r⟩)
      (fun s0 H0 Cc cl fp => ⟨fun pins s σ H Q I h => h s0 H0 Cc cl fp pins s I⟩) (fun s0 H0 Cc cl fp => ⟨fun pins s σ H Q I h => h s0 H0 Cc cl fp pins s I⟩) (hfold X.env)) (lc_read hX hg hsl hit he hi rdy rs hr q)
  intro ro rw σ s ma H Q rs hr q
  rcases ready t rs (Sat.bind (show Sat T X.K ro ma H (M.bind (evT C ro t σ) _ rw) _ from q)) with rdy | ⟨d, u, hu, hc, hd, rdy⟩
  · exact main rdy rs hr q
  · refine PE.le (pe_lock pe_w) ⟨d, u, hu, mut_dc hc, fun od => main (rdy od) (rs.ext (extW_lock hu hc) hr.noTup) (hr.at_d hd hu (dic_ntbl hc) (dc_code hc) (extW_lock hu hc)) ((q.lock hd hu hc).mono fun a rw' m' H' e r ⟨h1, h2, h3⟩ v hv => ⟨h1, h3 v (hv.ext (extW_unlock h1 hc) r.noTup)⟩)⟩
end
end Mx

set_option Elab.async false
set_option linter.all false
set_option maxRecDepth 100000
set_option maxHeartbeats 1000000
/-! Mx, part L: zip of lists and tuples, walked. -/
namespace Mx
open PySem L2 PySem.Spec PyProof.Rows

/-- a list or a tuple -/
inductive SK where
  | l | t
def SK.cls : SK → String
  | .l => "list"
  | .t => "tuple"
def SK.itn : SK → String
  | .l => "list_iterator"
  | .t => "tuple_iterator"
def SK.obj (k : SK) (a : Addr) : Obj := { cls := .type k.itn, data := .fields #[.ref a, .int 0 0] }
def SK.iter : SK → Heap → Addr → Addr → Nat → Prop
  | .l => fun h it a i => h.IsListIter it a i
  | .t => fun h it a i => h.IsTupleIter it a i
def SK.is : SK → Heap → Addr → Array Value → Prop
  | .l => fun h a xs => h.IsList a xs
  | .t => fun h a xs => h.IsTuple a xs
def SK.sq : SK → PySem.W.Frag → Hp → Addr → List V → Prop
  | .l => SqL
  | .t => SqT
theorem SK.draws (k : SK) {prog : Program} {w : World} {A : Around} (hh : A.handled = none) (it a : Addr) (hne : a ≠ it) (items : Array Value) : Draws prog w A it [it, a] items.size (fun i v => items[i]? = some v) (fun i h => k.iter h it a i ∧ k.is h a items) := by
  cases k
  · exact Draws.list hh it a hne items
  · exact Draws.tuple hh it a hne items
theorem SK.begins (k : SK) (a : Addr) (items : Array Value) : Begins (.ref a) (k.obj a) fun h => k.is h a items := by
  cases k
  · exact begins_list a items
  · exact begins_tuple a items
theorem SK.first (k : SK) {h : Heap} {it a : Addr} (e : h.get? it = some (k.obj a)) : k.iter h it a 0 := by
  cases k
  · exact ⟨_, e, rfl, rfl⟩
  · exact ⟨_, e, rfl, rfl⟩
theorem SK.obj_of (k : SK) {h : Heap} {it a : Addr} {i : Nat} (e : k.iter h it a i) : ∃ o, h.get? it = some o ∧ ∀ v, o.data ≠ .cell v := by
  cases k
  · obtain ⟨o, e1, _, d⟩ := e; exact ⟨o, e1, fun v q => by rw [d] at q; cases q⟩
  · obtain ⟨o, e1, _, d⟩ := e; exact ⟨o, e1, fun v q => by rw [d] at q; cases q⟩
theorem SK.at (k : SK) {h h' : Heap} {it a : Addr} {i : Nat} (e : k.iter h it a i) (f : ∀ o, h.get? it = some o → h'.get? it = some o) : k.iter h' it a i := by
  cases k
  · exact Heap.IsListIter.at e f
  · exact Heap.IsTupleIter.at e f
theorem SK.got (k : SK) {X : Cx} {pins : List (Addr × Obj)} {σ : L2.St} {H : Hp} {s : Shared} {a : Addr} {xs : List V} (I : Inv X pins σ H s) (h : k.sq X.K H a xs) : ∃ its : List Value, Vals xs its ∧ k.is s.heap a its.toArray ∧ a < s.heap.objs.size := by
  cases k
  · obtain ⟨its, r, p, _⟩ := I.list h
    exact ⟨its, r, p.isList, p.lt⟩
  · obtain ⟨its, r, p, _⟩ := I.tuple h
    obtain ⟨o, e, _⟩ := id p
    exact ⟨its, r, p, Heap.lt_size e⟩
theorem SK.inj (k : SK) {X : Cx} {pins : List (Addr × Obj)} {σ : L2.St} {H : Hp} {s : Shared} {a : Addr} {xs ys : List V} (I : Inv X pins σ H s) (h : k.sq X.K H a xs) (h' : k.sq X.K H a ys) : xs = ys := by
  cases k
  · exact I.list_inj h h'
  · exact I.tuple_inj h h'
/-- the items of both as they stand at each turn, in new pairs -/
def ItZ2 (K : PySem.W.Frag) (k j : SK) (a b : Addr) : It :=
  ⟨fun i H => ∃ (xs ys : List V) (x y : V), k.sq K H a xs ∧ j.sq K H b ys ∧ xs[i]? = some x ∧ ys[i]? = some y,
    fun i H v H' => ∃ T x y, v = .ref T ∧ H T = none ∧ H' = upd H T (.tup [x, y]) ∧ (∀ xs, k.sq K H a xs → xs[i]? = some x) ∧ ∀ ys, j.sq K H b ys → ys[i]? = some y,
    fun i H => ∃ xs ys : List V, k.sq K H a xs ∧ j.sq K H b ys ∧ i ≤ xs.length ∧ i ≤ ys.length ∧ (i = xs.length ∨ i = ys.length)⟩
/-- the cells of a zip over two lie apart -/
def Sep2 (z TI TO i1 i2 a b : Addr) : Prop := ZipSep2 z TI TO i1 i2 [i1, a] [i2, b] ∧ a ≠ i1 ∧ b ≠ i2
theorem turn_z2 {P : Program} {w : World} {K : PySem.W.Frag} {elts : List Expr} {kk : Nat} {tpos : Pos} {k j : SK} {a b z TI TO i1 i2 : Addr} (D : Sep2 z TI TO i1 i2 a b) :
    Turn P w K (.Tuple elts kk tpos) (ItZ2 K k j a b) [z, TI, TO, i1, i2] z (fun i h => IsZip h z TI TO .none ∧ IsTupOf2 h TI (.ref i1) (.ref i2) ∧ (∃ x y, IsTupOf2 h TO x y) ∧ k.iter h i1 a i ∧ j.iter h i2 b i) where
  mem := by simp
  obj := fun i h st c hc => by
    obtain ⟨hz, hTI, ⟨x, y, hTO⟩, h1, h2⟩ := st
    have e' : c = z ∨ c = TI ∨ c = TO ∨ c = i1 ∨ c = i2 := by simpa using hc
    rcases e' with rfl | rfl | rfl | rfl | rfl
    · exact ⟨_, hz, fun v q => nomatch q⟩
    · exact ⟨_, hTI, fun v q => nomatch q⟩
    · exact ⟨_, hTO, fun v q => nomatch q⟩
    · exact k.obj_of h1
    · exact j.obj_of h2
  keep := fun i h h' st kp => by
    obtain ⟨hz, hTI, ⟨x, y, hTO⟩, h1, h2⟩ := st
    exact ⟨kp z (by simp) _ hz, kp TI (by simp) _ hTI, ⟨x, y, kp TO (by simp) _ hTO⟩, k.at h1 fun o q => kp i1 (by simp) o q, j.at h2 fun o q => kp i2 (by simp) o q⟩
  item := by
    intro X hP hw hK hc i pins s σ H E I hf st hg
    subst hP hw hK
    obtain ⟨hz, hTI, hTO, h1, h2⟩ := st
    obtain ⟨xs, ys, x, y, hqx, hqy, hx, hy⟩ := hg
    obtain ⟨its, rv, p, _⟩ := k.got I hqx
    obtain ⟨its2, rv2, p2, _⟩ := j.got I hqy
    have l1 := (List.getElem?_eq_some_iff.mp hx).1
    have l2 := (List.getElem?_eq_some_iff.mp hy).1
    have hd : X.A.in1.handled = none := I.ok.hd hc
    have W := WalksT.zipD2 (prog := X.prog) (w := X.w) (A := X.A) D.1 (k.draws hd i1 a D.2.1 its.toArray) (j.draws hd i2 b D.2.2 its2.toArray)
    have below : ∀ c ∈ [z, TI, TO, i1, i2], c < s.heap.objs.size := fun c hcm => by
      obtain ⟨x0, y0, hTO⟩ := hTO
      have e' : c = z ∨ c = TI ∨ c = TO ∨ c = i1 ∨ c = i2 := by simpa using hcm
      rcases e' with rfl | rfl | rfl | rfl | rfl
      · exact Heap.lt_size hz
      · exact Heap.lt_size hTI
      · exact Heap.lt_size hTO
      · obtain ⟨_, e, _⟩ := k.obj_of h1; exact Heap.lt_size e
      · obtain ⟨_, e, _⟩ := j.obj_of h2; exact Heap.lt_size e
    refine W.item i s _ _ (by have := rv.length; have := rv2.length; simp; omega) ⟨hz, hTI, hTO, ⟨h1, p⟩, ⟨h2, p2⟩⟩ fun T vals h' tk hp hT hIs mid kp => ?_
    obtain ⟨u, u2, g1, g2, rfl⟩ := hp
    refine ⟨_, rfl, W.go elts kk tpos i T { s with heap := h', toks := tk } _ _ mid fun h'' st'' kp2 => ?_⟩
    have ap : T ∉ [z, TO, i1, i2] := W.apart i T h' mid
    obtain ⟨oT, eT, cT, nT, dT⟩ := hIs
    have hT2 : IsTup h'' T #[u, u2] := ⟨oT, kp2 _ _ ap eT, cT, nT, dT⟩
    have ru : RelV x u := by
      obtain ⟨u', e1, e2⟩ := rv.get hx
      have : its.toArray[i]? = some u' := by simpa using e1
      rw [this] at g1; cases g1; exact e2
    have ru2 : RelV y u2 := by
      obtain ⟨u', e1, e2⟩ := rv2.get hy
      have : its2.toArray[i]? = some u' := by simpa using e1
      rw [this] at g2; cases g2; exact e2
    have new : ObjOk X.prog X.w (upd H T (.tup [x, y])) h'' T (.tup [x, y]) := ⟨by show 2 ≤ sizeLine; decide, [u, u2], .cons ru (.cons ru2 .nil), hT2⟩
    have I1 : Inv X pins σ (upd H T (.tup [x, y])) { s with heap := h'', toks := tk } :=
      I.turnedNew (t' := tk) (ch := [z, TO, i1, i2]) (fun c o hb q => kp2 c o hb (kp c o hb q)) (fun c hcm => hf c (by
        have e' : c = z ∨ c = TO ∨ c = i1 ∨ c = i2 := by simpa using hcm
        rcases e' with rfl | rfl | rfl | rfl <;> simp)) hT new
    obtain ⟨q1, q2, q3, ⟨q4, _⟩, ⟨q5, _⟩⟩ := st''
    refine ⟨.ref T, _, I1, rfl, ⟨T, x, y, rfl, I.hok.fresh hT, rfl, fun l hl => by rw [k.inj I hl hqx]; exact hx, fun l hl => by rw [j.inj I hl hqy]; exact hy⟩, ⟨q1, q2, q3, q4, q5⟩, fun c hcm => ?_⟩
    rw [upd_ne (Nat.ne_of_lt (Nat.lt_of_lt_of_le (below c hcm) hT))]
    exact (hf c hcm).1
  done := by
    intro X hP hw hK hc i pins s σ H E I hf st hg
    subst hP hw hK
    obtain ⟨hz, hTI, hTO, h1, h2⟩ := st
    obtain ⟨xs, ys, hqx, hqy, i1', i2', hend⟩ := hg
    obtain ⟨its, rv, p, _⟩ := k.got I hqx
    obtain ⟨its2, rv2, p2, _⟩ := j.got I hqy
    have l1 := rv.length
    have l2 := rv2.length
    have hd : X.A.in1.handled = none := I.ok.hd hc
    have W := WalksT.zipD2 (prog := X.prog) (w := X.w) (A := X.A) D.1 (k.draws hd i1 a D.2.1 its.toArray) (j.draws hd i2 b D.2.2 its2.toArray)
    have ei : i = min its.toArray.size its2.toArray.size := by simp; omega
    rw [ei] at h1 h2
    refine W.done s _ _ ⟨hz, hTI, hTO, ⟨h1, p⟩, ⟨h2, p2⟩⟩ fun h' tk kp => ⟨rfl, I.turnedL (t' := tk) (ch := [z, TO, i1, i2]) kp fun c hcm => hf c ?_⟩
    have e' : c = z ∨ c = TO ∨ c = i1 ∨ c = i2 := by simpa using hcm
    rcases e' with rfl | rfl | rfl | rfl <;> simp
  self := fun A i s Q E st h => wpAny_pyIter_zip st.1 h
/-! ### three -/
def ItZ3 (K : PySem.W.Frag) (k j l : SK) (a b c : Addr) : It :=
  ⟨fun i H => ∃ (xs ys zs : List V) (x y z : V), k.sq K H a xs ∧ j.sq K H b ys ∧ l.sq K H c zs ∧ xs[i]? = some x ∧ ys[i]? = some y ∧ zs[i]? = some z,
    fun i H v H' => ∃ T x y z, v = .ref T ∧ H T = none ∧ H' = upd H T (.tup [x, y, z]) ∧ (∀ xs, k.sq K H a xs → xs[i]? = some x) ∧ (∀ ys, j.sq K H b ys → ys[i]? = some y) ∧ ∀ zs, l.sq K H c zs → zs[i]? = some z,
    fun i H => ∃ xs ys zs : List V, k.sq K H a xs ∧ j.sq K H b ys ∧ l.sq K H c zs ∧ i ≤ xs.length ∧ i ≤ ys.length ∧ i ≤ zs.length ∧ (i = xs.length ∨ i = ys.length ∨ i = zs.length)⟩
def Sep3 (z TI TO i1 i2 i3 a b c : Addr) : Prop := ZipSep3 z TI TO i1 i2 i3 [i1, a] [i2, b] [i3, c] ∧ a ≠ i1 ∧ b ≠ i2 ∧ c ≠ i3
theorem turn_z3 {P : Program} {w : World} {K : PySem.W.Frag} {elts : List Expr} {kk : Nat} {tpos : Pos} {k j l : SK} {a b c z TI TO i1 i2 i3 : Addr} (D : Sep3 z TI TO i1 i2 i3 a b c) :
    Turn P w K (.Tuple elts kk tpos) (ItZ3 K k j l a b c) [z, TI, TO, i1, i2, i3] z (fun i h => IsZip h z TI TO .none ∧ IsTupOf3 h TI (.ref i1) (.ref i2) (.ref i3) ∧ (∃ x y z, IsTupOf3 h TO x y z) ∧ k.iter h i1 a i ∧ j.iter h i2 b i ∧ l.iter h i3 c i) where
  mem := by simp
  obj := fun i h st e hc => by
    obtain ⟨hz, hTI, ⟨x, y, z0, hTO⟩, h1, h2, h3⟩ := st
    have e' : e = z ∨ e = TI ∨ e = TO ∨ e = i1 ∨ e = i2 ∨ e = i3 := by simpa using hc
    rcases e' with rfl | rfl | rfl | rfl | rfl | rfl
    · exact ⟨_, hz, fun v q => nomatch q⟩
    · exact ⟨_, hTI, fun v q => nomatch q⟩
    · exact ⟨_, hTO, fun v q => nomatch q⟩
    · exact k.obj_of h1
    · exact j.obj_of h2
    · exact l.obj_of h3
  keep := fun i h h' st kp => by
    obtain ⟨hz, hTI, ⟨x, y, z0, hTO⟩, h1, h2, h3⟩ := st
    exact ⟨kp z (by simp) _ hz, kp TI (by simp) _ hTI, ⟨x, y, z0, kp TO (by simp) _ hTO⟩, k.at h1 fun o q => kp i1 (by simp) o q, j.at h2 fun o q => kp i2 (by simp) o q, l.at h3 fun o q => kp i3 (by simp) o q⟩
  item := by
    intro X hP hw hK hc i pins s σ H E I hf st hg
    subst hP hw hK
    obtain ⟨hz, hTI, hTO, h1, h2, h3⟩ := st
    obtain ⟨xs, ys, zs, x, y, y3, hqx, hqy, hqz, hx, hy, hy3⟩ := hg
    obtain ⟨its, rv, p, _⟩ := k.got I hqx
    obtain ⟨its2, rv2, p2, _⟩ := j.got I hqy
    obtain ⟨its3, rv3, p3, _⟩ := l.got I hqz
    have l1 := (List.getElem?_eq_some_iff.mp hx).1
    have l2 := (List.getElem?_eq_some_iff.mp hy).1
    have l3 := (List.getElem?_eq_some_iff.mp hy3).1
    have hd : X.A.in1.handled = none := I.ok.hd hc
    have W := WalksT.zipD3 (prog := X.prog) (w := X.w) (A := X.A) D.1 (k.draws hd i1 a D.2.1 its.toArray) (j.draws hd i2 b D.2.2.1 its2.toArray) (l.draws hd i3 c D.2.2.2 its3.toArray)
    have below : ∀ e ∈ [z, TI, TO, i1, i2, i3], e < s.heap.objs.size := fun e hcm => by
      obtain ⟨x0, y0, z0, hTO⟩ := hTO
      have e' : e = z ∨ e = TI ∨ e = TO ∨ e = i1 ∨ e = i2 ∨ e = i3 := by simpa using hcm
      rcases e' with rfl | rfl | rfl | rfl | rfl | rfl
      · exact Heap.lt_size hz
      · exact Heap.lt_size hTI
      · exact Heap.lt_size hTO
      · obtain ⟨_, e, _⟩ := k.obj_of h1; exact Heap.lt_size e
      · obtain ⟨_, e, _⟩ := j.obj_of h2; exact Heap.lt_size e
      · obtain ⟨_, e, _⟩ := l.obj_of h3; exact Heap.lt_size e
    refine W.item i s _ _ (by have := rv.length; have := rv2.length; have := rv3.length; simp; omega) ⟨hz, hTI, hTO, ⟨h1, p⟩, ⟨h2, p2⟩, ⟨h3, p3⟩⟩ fun T vals h' tk hp hT hIs mid kp => ?_
    obtain ⟨u, u2, u3, g1, g2, g3, rfl⟩ := hp
    refine ⟨_, rfl, W.go elts kk tpos i T { s with heap := h', toks := tk } _ _ mid fun h'' st'' kp2 => ?_⟩
    have ap : T ∉ [z, TO, i1, i2, i3] := W.apart i T h' mid
    obtain ⟨oT, eT, cT, nT, dT⟩ := hIs
    have hT2 : IsTup h'' T #[u, u2, u3] := ⟨oT, kp2 _ _ ap eT, cT, nT, dT⟩
    have rel : ∀ {xs : List V} {its : List Value} {x : V} {u : Value}, Vals xs its → xs[i]? = some x → its.toArray[i]? = some u → RelV x u := fun {xs its x u} rv hx g1 => by
      obtain ⟨u', e1, e2⟩ := rv.get hx
      have : its.toArray[i]? = some u' := by simpa using e1
      rw [this] at g1; cases g1; exact e2
    have new : ObjOk X.prog X.w (upd H T (.tup [x, y, y3])) h'' T (.tup [x, y, y3]) := ⟨by show 3 ≤ sizeLine; decide, [u, u2, u3], .cons (rel rv hx g1) (.cons (rel rv2 hy g2) (.cons (rel rv3 hy3 g3) .nil)), hT2⟩
    have I1 : Inv X pins σ (upd H T (.tup [x, y, y3])) { s with heap := h'', toks := tk } :=
      I.turnedNew (t' := tk) (ch := [z, TO, i1, i2, i3]) (fun e o hb q => kp2 e o hb (kp e o hb q)) (fun e hcm => hf e (by
        have e' : e = z ∨ e = TO ∨ e = i1 ∨ e = i2 ∨ e = i3 := by simpa using hcm
        rcases e' with rfl | rfl | rfl | rfl | rfl <;> simp)) hT new
    obtain ⟨q1, q2, q3, ⟨q4, _⟩, ⟨q5, _⟩, ⟨q6, _⟩⟩ := st''
    refine ⟨.ref T, _, I1, rfl, ⟨T, x, y, y3, rfl, I.hok.fresh hT, rfl, fun l' hl => by rw [k.inj I hl hqx]; exact hx, fun l' hl => by rw [j.inj I hl hqy]; exact hy, fun l' hl => by rw [l.inj I hl hqz]; exact hy3⟩, ⟨q1, q2, q3, q4, q5, q6⟩, fun e hcm => ?_⟩
    rw [upd_ne (Nat.ne_of_lt (Nat.lt_of_lt_of_le (below e hcm) hT))]
    exact (hf e hcm).1
  done := by
    intro X hP hw hK hc i pins s σ H E I hf st hg
    subst hP hw hK
    obtain ⟨hz, hTI, hTO, h1, h2, h3⟩ := st
    obtain ⟨xs, ys, zs, hqx, hqy, hqz, i1', i2', i3', hend⟩ := hg
    obtain ⟨its, rv, p, _⟩ := k.got I hqx
    obtain ⟨its2, rv2, p2, _⟩ := j.got I hqy
    obtain ⟨its3, rv3, p3, _⟩ := l.got I hqz
    have l1 := rv.length
    have l2 := rv2.length
    have l3 := rv3.length
    have hd : X.A.in1.handled = none := I.ok.hd hc
    have W := WalksT.zipD3 (prog := X.prog) (w := X.w) (A := X.A) D.1 (k.draws hd i1 a D.2.1 its.toArray) (j.draws hd i2 b D.2.2.1 its2.toArray) (l.draws hd i3 c D.2.2.2 its3.toArray)
    have ei : i = min (min its.toArray.size its2.toArray.size) its3.toArray.size := by simp; omega
    rw [ei] at h1 h2 h3
    refine W.done s _ _ ⟨hz, hTI, hTO, ⟨h1, p⟩, ⟨h2, p2⟩, ⟨h3, p3⟩⟩ fun h' tk kp => ⟨rfl, I.turnedL (t' := tk) (ch := [z, TO, i1, i2, i3]) kp fun e hcm => hf e ?_⟩
    have e' : e = z ∨ e = TO ∨ e = i1 ∨ e = i2 ∨ e = i3 := by simpa using hcm
    rcases e' with rfl | rfl | rfl | rfl | rfl <;> simp
  self := fun A i s Q E st h => wpAny_pyIter_zip st.1 h

/-! ### the sources -/
/-- a tree, the script: as it stands, whatever is done -/
def Stab (K : PySem.W.Frag) (k : SK) (a : Addr) (vs : List V) (m : Wd) (H : Hp) : Prop := match k with
  | .l => SqF m H a vs ∨ SqZ K H a vs
  | .t => SqT K H a vs
theorem Stab.sq {K : PySem.W.Frag} {k : SK} {a : Addr} {vs : List V} {m : Wd} {H : Hp} (h : Stab K k a vs m H) : k.sq K H a vs := by
  cases k
  · rcases h with h | h
    · exact SqL.of h.1
    · exact h.l
  · exact h
theorem Stab.ext {K : PySem.W.Frag} {k : SK} {a : Addr} {vs : List V} {m m' : Wd} {H H' : Hp} (h : Stab K k a vs m H) (e : ExtW m H m' H') (nt : NoTup m H) : Stab K k a vs m' H' := by
  cases k
  · rcases h with h | h
    · exact .inl (e.sqF h)
    · exact .inr (e.sqZ nt h)
  · exact e.sqT nt h
theorem src_at {K : PySem.W.Frag} {m : Wd} {H : Hp} {d : D} {v : V} {xs : List D} (e : srcOf d = some xs) (p : Rep K m H d v) : ∃ k a vs, v = .ref a ∧ Stab K k a vs m H ∧ Reps K m H xs vs := by
  cases p with
  | tup h1 h2 h3 => cases e; exact ⟨.t, _, _, rfl, h1, h3⟩
  | lst h1 h2 => cases e; exact ⟨.l, _, _, rfl, .inl h1, h2⟩
  | scr h1 => cases e; exact ⟨.l, _, _, rfl, .inr h1, Reps.ofInts _⟩
  | _ => cases e
theorem zipD_len : ∀ (xs ys : List D), (zipD xs ys).length = min xs.length ys.length
  | [], ys => by cases ys <;> simp [zipD]
  | _ :: _, [] => by simp [zipD]
  | x :: xs, y :: ys => by simp [zipD, zipD_len xs ys, Nat.succ_min_succ]
theorem zipD_get : ∀ (xs ys : List D) (i : Nat) (x y : D), xs[i]? = some x → ys[i]? = some y → (zipD xs ys)[i]? = some (.tup true [x, y])
  | [], _, i, _, _, h, _ => by simp at h
  | _ :: _, [], i, _, _, _, h => by simp at h
  | a :: xs, b :: ys, 0, x, y, h1, h2 => by simp at h1 h2; subst h1 h2; rfl
  | a :: xs, b :: ys, i + 1, x, y, h1, h2 => by
    simp only [List.getElem?_cons_succ] at h1 h2
    show (_ :: zipD xs ys)[i + 1]? = _
    rw [List.getElem?_cons_succ]
    exact zipD_get xs ys i x y h1 h2
theorem zipD3_len : ∀ (xs ys zs : List D), (zipD3 xs ys zs).length = min (min xs.length ys.length) zs.length
  | [], ys, zs => by simp [zipD3]
  | _ :: _, [], zs => by simp [zipD3]
  | _ :: _, _ :: _, [] => by simp [zipD3]
  | x :: xs, y :: ys, z :: zs => by simp [zipD3, zipD3_len xs ys zs, Nat.succ_min_succ]
theorem zipD3_get : ∀ (xs ys zs : List D) (i : Nat) (x y z : D), xs[i]? = some x → ys[i]? = some y → zs[i]? = some z → (zipD3 xs ys zs)[i]? = some (.tup true [x, y, z])
  | [], _, _, i, _, _, _, h, _, _ => by simp at h
  | _ :: _, [], _, i, _, _, _, _, h, _ => by simp at h
  | _ :: _, _ :: _, [], i, _, _, _, _, _, h => by simp at h
  | a :: xs, b :: ys, c :: zs, 0, x, y, z, h1, h2, h3 => by simp at h1 h2 h3; subst h1 h2 h3; rfl
  | a :: xs, b :: ys, c :: zs, i + 1, x, y, z, h1, h2, h3 => by
    simp only [List.getElem?_cons_succ] at h1 h2 h3
    show (_ :: zipD3 xs ys zs)[i + 1]? = _
    rw [List.getElem?_cons_succ]
    exact zipD3_get xs ys zs i x y z h1 h2 h3
theorem walks_z2 {K : PySem.W.Frag} {m : Wd} {H : Hp} {k j : SK} {a b : Addr} {xs ys : List D} {vs us : List V} (h1 : Stab K k a vs m H) (h2 : Stab K j b us m H) (r1 : Reps K m H xs vs) (r2 : Reps K m H ys us) : Walks K m H (ItZ2 K k j a b) (zipD xs ys) := by
  have hl := zipD_len xs ys
  refine ⟨fun m H => Stab K k a vs m H ∧ Stab K j b us m H ∧ Reps K m H xs vs ∧ Reps K m H ys us, ⟨h1, h2, r1, r2⟩, fun m H m' H' ⟨h1, h2, r1, r2⟩ nt e _ => ⟨h1.ext e nt, h2.ext e nt, r1.ext e nt, r2.ext e nt⟩, fun m H i ⟨h1, h2, r1, r2⟩ hi => ?_, fun m H ⟨h1, h2, r1, r2⟩ => ?_, fun m H i x H' ⟨h1, h2, r1, r2⟩ nt hi y => ?_⟩
  · rw [hl] at hi
    obtain ⟨v, e1, _⟩ := r1.get (List.getElem?_eq_getElem (show i < xs.length by omega))
    obtain ⟨u, e2, _⟩ := r2.get (List.getElem?_eq_getElem (show i < ys.length by omega))
    exact ⟨vs, us, v, u, h1.sq, h2.sq, e1, e2⟩
  · have q1 := r1.length
    have q2 := r2.length
    exact ⟨vs, us, h1.sq, h2.sq, by omega, by omega, by omega⟩
  · rw [hl] at hi
    obtain ⟨Tp, x1, x2, rfl, hn, rfl, y1, y2⟩ := y
    have g1 := List.getElem?_eq_getElem (show i < xs.length by omega)
    have g2 := List.getElem?_eq_getElem (show i < ys.length by omega)
    obtain ⟨v, e1, p1⟩ := r1.get g1
    obtain ⟨u, e2, p2⟩ := r2.get g2
    rw [y1 vs h1.sq] at e1; cases e1
    rw [y2 us h2.sq] at e2; cases e2
    have ex : Ext m H m (upd H Tp (.tup [x1, x2])) := ext_new hn
    exact ⟨_, zipD_get xs ys i _ _ g1 g2, ex, fun _ _ r => r.new hn, .tup (.inl (.inl upd_same)) (fun _ => upd_same) (.cons (p1.ext ex.toExtW nt) (.one (p2.ext ex.toExtW nt)))⟩
theorem walks_z3 {K : PySem.W.Frag} {m : Wd} {H : Hp} {k j l : SK} {a b c : Addr} {xs ys zs : List D} {vs us ws : List V} (h1 : Stab K k a vs m H) (h2 : Stab K j b us m H) (h3 : Stab K l c ws m H) (r1 : Reps K m H xs vs) (r2 : Reps K m H ys us) (r3 : Reps K m H zs ws) : Walks K m H (ItZ3 K k j l a b c) (zipD3 xs ys zs) := by
  have hl := zipD3_len xs ys zs
  refine ⟨fun m H => Stab K k a vs m H ∧ Stab K j b us m H ∧ Stab K l c ws m H ∧ Reps K m H xs vs ∧ Reps K m H ys us ∧ Reps K m H zs ws, ⟨h1, h2, h3, r1, r2, r3⟩, fun m H m' H' ⟨h1, h2, h3, r1, r2, r3⟩ nt e _ => ⟨h1.ext e nt, h2.ext e nt, h3.ext e nt, r1.ext e nt, r2.ext e nt, r3.ext e nt⟩, fun m H i ⟨h1, h2, h3, r1, r2, r3⟩ hi => ?_, fun m H ⟨h1, h2, h3, r1, r2, r3⟩ => ?_, fun m H i x H' ⟨h1, h2, h3, r1, r2, r3⟩ nt hi y => ?_⟩
  · rw [hl] at hi
    obtain ⟨v, e1, _⟩ := r1.get (List.getElem?_eq_getElem (show i < xs.length by omega))
    obtain ⟨u, e2, _⟩ := r2.get (List.getElem?_eq_getElem (show i < ys.length by omega))
    obtain ⟨t, e3, _⟩ := r3.get (List.getElem?_eq_getElem (show i < zs.length by omega))
    exact ⟨vs, us, ws, v, u, t, h1.sq, h2.sq, h3.sq, e1, e2, e3⟩
  · have q1 := r1.length
    have q2 := r2.length
    have q3 := r3.length
    exact ⟨vs, us, ws, h1.sq, h2.sq, h3.sq, by omega, by omega, by omega, by omega⟩
  · rw [hl] at hi
    obtain ⟨Tp, x1, x2, x3, rfl, hn, rfl, y1, y2, y3⟩ := y
    have g1 := List.getElem?_eq_getElem (show i < xs.length by omega)
    have g2 := List.getElem?_eq_getElem (show i < ys.length by omega)
    have g3 := List.getElem?_eq_getElem (show i < zs.length by omega)
    obtain ⟨v, e1, p1⟩ := r1.get g1
    obtain ⟨u, e2, p2⟩ := r2.get g2
    obtain ⟨t, e3, p3⟩ := r3.get g3
    rw [y1 vs h1.sq] at e1; cases e1
    rw [y2 us h2.sq] at e2; cases e2
    rw [y3 ws h3.sq] at e3; cases e3
    have ex : Ext m H m (upd H Tp (.tup [x1, x2, x3])) := ext_new hn
    exact ⟨_, zipD3_get xs ys zs i _ _ _ g1 g2 g3, ex, fun _ _ r => r.new hn, .tup (.inl (.inl upd_same)) (fun _ => upd_same) (.cons (p1.ext ex.toExtW nt) (.cons (p2.ext ex.toExtW nt) (.one (p3.ext ex.toExtW nt))))⟩
theorem neA {a b : Nat} (h : ¬ a = b) : (show Addr from a) ≠ (show Addr from b) := h
theorem nm2 {x a b : Nat} (h : ¬ x = a) (h2 : ¬ x = b) : (show Addr from x) ∉ ([a, b] : List Addr) := fun z => by
  rcases List.mem_cons.mp z with z | z
  · exact h z
  · exact h2 (List.mem_singleton.mp z)
theorem sep2 (n a b : Nat) (ha : a < n) (hb : b < n) : Sep2 (n + 4) (n + 2) (n + 3) n (n + 1) a b := by
  refine ⟨⟨neA ?_, neA ?_, neA ?_, neA ?_, List.mem_cons_self, nm2 ?_ ?_, nm2 ?_ ?_, neA ?_, List.mem_cons_self, nm2 ?_ ?_, nm2 ?_ ?_, nm2 ?_ ?_, nm2 ?_ ?_⟩, neA ?_, neA ?_⟩ <;> omega
theorem sep3 (n a b c : Nat) (ha : a < n) (hb : b < n) (hc : c < n) : Sep3 (n + 5) (n + 3) (n + 4) n (n + 1) (n + 2) a b c := by
  refine ⟨⟨neA ?_, neA ?_, neA ?_, neA ?_, List.mem_cons_self, nm2 ?_ ?_, nm2 ?_ ?_, neA ?_, List.mem_cons_self, nm2 ?_ ?_, nm2 ?_ ?_, neA ?_, List.mem_cons_self, nm2 ?_ ?_, nm2 ?_ ?_, nm2 ?_ ?_, nm2 ?_ ?_, nm2 ?_ ?_, nm2 ?_ ?_, nm2 ?_ ?_, nm2 ?_ ?_⟩, neA ?_, neA ?_, neA ?_⟩ <;> omega
section
variable {T : Tbs} {G : Glob} {C : Calls} {k : Nat} {N : List Str} {sc : Scope}
theorem si_zip2 {a b : ME} {ea eb : Expr} {elts : List Expr} {kk : Nat} {p pos tpos : Pos} (ha : SE T G C k N sc a ea) (hb : SE T G C k N sc b eb) (hs : isStar ea = false) (hs2 : isStar eb = false) (hg : sc.names.lookup ("zip" : Str) = some .globalImplicit) : SI T G C k N sc (.zip2 a b) (.Tuple elts kk tpos) (.Call (.Name "zip" p) [ea, eb] [] pos) := fun X hX ro rw σ s ma H R _ rs hr q => by
  intro pins s0 I
  have hall : [ea, eb].all (fun e => !isStar e) = true := by simp [hs, hs2]
  have read : wA X [ea, eb] s H fun vs H1 => ∃ kx ky x y xs ys, vs = [.ref x, .ref y] ∧ SK.sq kx X.K H1 x xs ∧ SK.sq ky X.K H1 y ys ∧ R (ItZ2 X.K kx ky x y) H1 := by
    refine PA.le (pa_cons pe_w (pa_cons pe_w pa_nil (star_each hs2)) (star_each hs)) ?_
    refine ha X hX ro rw σ s ma H _ rs hr ((Sat.bind q).mono fun x rw1 m1 H1 e1 r1 q1 v hv => ?_)
    refine hb X hX ro rw1 σ s m1 H1 _ (rs.ext e1.toExtW hr.noTup) r1 ((Sat.bind q1).mono fun y rw2 m2 H2 e2 r2 q2 u hu => ?_)
    obtain ⟨ds, ed, q3⟩ := Sat.lift q2
    cases ex : srcOf x with
    | none => rw [ex] at ed; cases ed
    | some xs =>
      cases ey : srcOf y with
      | none => rw [ex, ey] at ed; cases ed
      | some ys =>
        rw [ex, ey] at ed
        cases ed
        obtain ⟨kx, a1, vs, rfl, st1, p1⟩ := src_at ex (hv.ext e2.toExtW r1.noTup)
        obtain ⟨ky, b1, us, rfl, st2, p2⟩ := src_at ey hu
        exact ⟨kx, ky, a1, b1, vs, us, rfl, st1.sq, st2.sq, q3 _ _ (.refl _ _) r2 _ (walks_z2 st1 st2 p1 p2)⟩
  refine Call_ (ld_blt I (gl_of hX hg) (hX.glob.blt _ (by decide +kernel)) PyProof.Rows.boot_zip (PyProof.Rows.callWith_type1 (thn (read pos pins s0 I) fun us s1 ⟨vs, H1, I1, r1, kx, ky, a1, b1, xs, ys, ex, hq1, hq2, qR⟩ => ?_) (star_each hs) (by rw [star_each hs2]; rfl)))
  subst ex
  cases r1 with
  | cons r rr =>
    cases rr with
    | cons r' rr =>
      cases rr
      cases r
      cases r'
      obtain ⟨its, rv, p1, lt1⟩ := kx.got I1 hq1
      obtain ⟨its2, rv2, p2, lt2⟩ := ky.got I1 hq2
      refine zip_begins2 (kx.begins a1 its.toArray) (ky.begins b1 its2.toArray) p1 p2 fun h' hz hTI hTO g1 g2 hsz hk => wpAny_pyIter_zip hz ?_
      have I2 : Inv X pins s H1 { s1 with heap := h' } := I1.kept (t' := s1.toks) hk
      refine ⟨s1.heap.objs.size + 4, [s1.heap.objs.size + 4, s1.heap.objs.size + 2, s1.heap.objs.size + 3, s1.heap.objs.size, s1.heap.objs.size + 1], _, _, H1, rfl, I2, turn_z2 (sep2 s1.heap.objs.size a1 b1 lt1 lt2), ⟨hz, hTI, ⟨_, _, hTO⟩, kx.first g1, ky.first g2⟩, fun c hcm => ?_, qR⟩
      have hle : s1.heap.objs.size ≤ c := by
        have e' : c = s1.heap.objs.size + 4 ∨ c = s1.heap.objs.size + 2 ∨ c = s1.heap.objs.size + 3 ∨ c = s1.heap.objs.size ∨ c = s1.heap.objs.size + 1 := by simpa using hcm
        rcases e' with z | z | z | z | z <;> rw [z] <;> first | exact Nat.le_refl _ | exact Nat.le_add_right _ _
      exact I1.fpOk hle (I1.hok.fresh hle)
theorem si_zip3 {a b c : ME} {ea eb ec : Expr} {elts : List Expr} {kk : Nat} {p pos tpos : Pos} (ha : SE T G C k N sc a ea) (hb : SE T G C k N sc b eb) (hc : SE T G C k N sc c ec) (hs : isStar ea = false) (hs2 : isStar eb = false) (hs3 : isStar ec = false) (hg : sc.names.lookup ("zip" : Str) = some .globalImplicit) :
    SI T G C k N sc (.zip3 a b c) (.Tuple elts kk tpos) (.Call (.Name "zip" p) [ea, eb, ec] [] pos) := fun X hX ro rw σ s ma H R _ rs hr q => by
  intro pins s0 I
  have read : wA X [ea, eb, ec] s H fun vs H1 => ∃ kx ky kz x y z xs ys zs, vs = [.ref x, .ref y, .ref z] ∧ SK.sq kx X.K H1 x xs ∧ SK.sq ky X.K H1 y ys ∧ SK.sq kz X.K H1 z zs ∧ R (ItZ3 X.K kx ky kz x y z) H1 := by
    refine PA.le (pa_cons pe_w (pa_cons pe_w (pa_cons pe_w pa_nil (star_each hs3)) (star_each hs2)) (star_each hs)) ?_
    refine ha X hX ro rw σ s ma H _ rs hr ((Sat.bind q).mono fun x rw1 m1 H1 e1 r1 q1 v hv => ?_)
    have rs1 := rs.ext e1.toExtW hr.noTup
    refine hb X hX ro rw1 σ s m1 H1 _ rs1 r1 ((Sat.bind q1).mono fun y rw2 m2 H2 e2 r2 q2 u hu => ?_)
    refine hc X hX ro rw2 σ s m2 H2 _ (rs1.ext e2.toExtW r1.noTup) r2 ((Sat.bind q2).mono fun z rw3 m3 H3 e3 r3 q3 t ht => ?_)
    obtain ⟨ds, ed, q4⟩ := Sat.lift q3
    cases ex : srcOf x with
    | none => rw [ex] at ed; cases ed
    | some xs =>
      cases ey : srcOf y with
      | none => rw [ex, ey] at ed; cases ed
      | some ys =>
        cases ez : srcOf z with
        | none => rw [ex, ey, ez] at ed; cases ed
        | some zs =>
          rw [ex, ey, ez] at ed
          cases ed
          obtain ⟨kx, a1, vs, rfl, st1, p1⟩ := src_at ex ((hv.ext e2.toExtW r1.noTup).ext e3.toExtW r2.noTup)
          obtain ⟨ky, b1, us, rfl, st2, p2⟩ := src_at ey (hu.ext e3.toExtW r2.noTup)
          obtain ⟨kz, c1, ws, rfl, st3, p3⟩ := src_at ez ht
          exact ⟨kx, ky, kz, a1, b1, c1, vs, us, ws, rfl, st1.sq, st2.sq, st3.sq, q4 _ _ (.refl _ _) r3 _ (walks_z3 st1 st2 st3 p1 p2 p3)⟩
  refine Call_ (ld_blt I (gl_of hX hg) (hX.glob.blt _ (by decide +kernel)) PyProof.Rows.boot_zip (PyProof.Rows.callWith_type1 (thn (read pos pins s0 I) fun us s1 ⟨vs, H1, I1, r1, kx, ky, kz, a1, b1, c1, xs, ys, zs, ex, hq1, hq2, hq3, qR⟩ => ?_) (star_each hs) (by rw [star_each hs2, star_each hs3]; rfl)))
  subst ex
  cases r1 with
  | cons r rr =>
    cases rr with
    | cons r' rr =>
      cases rr with
      | cons r'' rr =>
        cases rr
        cases r
        cases r'
        cases r''
        obtain ⟨its, rv, p1, lt1⟩ := kx.got I1 hq1
        obtain ⟨its2, rv2, p2, lt2⟩ := ky.got I1 hq2
        obtain ⟨its3, rv3, p3, lt3⟩ := kz.got I1 hq3
        refine zip_begins3 (kx.begins a1 its.toArray) (ky.begins b1 its2.toArray) (kz.begins c1 its3.toArray) p1 p2 p3 fun h' hz hTI hTO g1 g2 g3 hsz hk => wpAny_pyIter_zip hz ?_
        have I2 : Inv X pins s H1 { s1 with heap := h' } := I1.kept (t' := s1.toks) hk
        refine ⟨s1.heap.objs.size + 5, [s1.heap.objs.size + 5, s1.heap.objs.size + 3, s1.heap.objs.size + 4, s1.heap.objs.size, s1.heap.objs.size + 1, s1.heap.objs.size + 2], _, _, H1, rfl, I2, turn_z3 (sep3 s1.heap.objs.size a1 b1 c1 lt1 lt2 lt3), ⟨hz, hTI, ⟨_, _, _, hTO⟩, kx.first g1, ky.first g2, kz.first g3⟩, fun c hcm => ?_, qR⟩
        have hle : s1.heap.objs.size ≤ c := by
          have e' : c = s1.heap.objs.size + 5 ∨ c = s1.heap.objs.size + 3 ∨ c = s1.heap.objs.size + 4 ∨ c = s1.heap.objs.size ∨ c = s1.heap.objs.size + 1 ∨ c = s1.heap.objs.size + 2 := by simpa using hcm
          rcases e' with z | z | z | z | z | z <;> rw [z] <;> first | exact Nat.le_refl _ | exact Nat.le_add_right _ _
        exact I1.fpOk hle (I1.hok.fresh hle)
end
end Mx

set_option Elab.async false
set_option linter.all false
set_option maxRecDepth 100000
set_option maxHeartbeats 1000000
/-! Mx, part M: statements. -/
namespace Mx
open PySem L2 PySem.Spec PyProof.Rows

theorem bind_ok {α β : Type} {x : M α} {f : α → M β} {a : α} {rw rw' : MH} (h : x rw = .ok a rw') : M.bind x f rw = f a rw' := by unfold M.bind; rw [h]
/-- how a statement's end is wanted -/
def FP (K : PySem.W.Frag) (D : Ends) : Fl → MH → Wd → Hp → Prop := fun fl _ m' H' => match fl with
  | .nx σ' => ∀ s', SRel K m' H' σ' s' → D.nx s' H'
  | .bk σ' => ∀ s', SRel K m' H' σ' s' → D.bk s' H'
  | .ct σ' => ∀ s', SRel K m' H' σ' s' → D.ct s' H'
  | .rt d => ∀ v, Rep K m' H' d v → D.rt v H'
section
variable (T : Tbs) (G : Glob) (C : Calls) (k : Nat) (N : List Str) (sc : Scope)
/-- a def's body, or what is in it -/
structure HereS (X : Cx) : Prop where
  here : Here T G C k N sc X
  owns : Owns X fun _ => true
  pass : PassesOwn (model X.prog X.w) X.A X.env X.xe
def SS (m : MS) (st : Stmt) : Prop := ∀ (X : Cx), HereS T G C k N sc X → ∀ (ro rw : MH) (σ : Sig) (s : L2.St) (ma : Wd) (H : Hp) (D : Ends), SRel X.K ma H σ s → HRel T X.K ma (ro ++ rw) H → Sat T X.K ro ma H (exS C ro m σ rw) (FP X.K D) → wS X st D s H
def SSs (ms : List MS) (sts : List Stmt) : Prop := ∀ (X : Cx), HereS T G C k N sc X → ∀ (ro rw : MH) (σ : Sig) (s : L2.St) (ma : Wd) (H : Hp) (D : Ends), SRel X.K ma H σ s → HRel T X.K ma (ro ++ rw) H → Sat T X.K ro ma H (exSs C ro ms σ rw) (FP X.K D) → wSs X sts D s H
end
section
variable {T : Tbs} {G : Glob} {C : Calls} {k : Nat} {N : List Str} {sc : Scope}
theorem ss_nope {st : Stmt} : SS T G C k N sc .nope st := fun X hX ro rw σ s ma H D rs hr h => h.elim
theorem sss_of {ms : List MS} {sts : List Stmt} (all : All2 (SS T G C k N sc) ms sts) : SSs T G C k N sc ms sts := by
  induction all with
  | nil => exact fun X hX ro rw σ s ma H D rs hr h => PSs.le pss_nil (Sat.ok h hr s rs)
  | @cons m st ms sts h1 t ih =>
    intro X hX ro rw σ s ma H D rs hr h
    refine PSs.le (pss_cons ps_w pss_w) (h1 X hX ro rw σ s ma H _ rs hr ((Sat.bind h).mono fun fl rw1 m1 H1 e1 r1 q1 => ?_))
    cases fl with
    | nx σ' => exact fun s' rs' => ih X hX ro rw1 σ' s' m1 H1 D rs' r1 q1
    | rt d => exact Sat.ok q1 r1
    | bk σ' => exact Sat.ok q1 r1
    | ct σ' => exact Sat.ok q1 r1
theorem ss_pass {pos : Pos} : SS T G C k N sc .pass (.Pass pos) := fun X hX ro rw σ s ma H D rs hr h => PS.le ps_pass (Sat.ok h hr s rs)
theorem ss_brk {pos : Pos} : SS T G C k N sc .brk (.Break pos) := fun X hX ro rw σ s ma H D rs hr h => PS.le ps_break (Sat.ok h hr s rs)
theorem ss_cont {pos : Pos} : SS T G C k N sc .cont (.Continue pos) := fun X hX ro rw σ s ma H D rs hr h => PS.le ps_continue (Sat.ok h hr s rs)
theorem ss_doc {x : Str} {j : Nat} {pos pos' : Pos} : SS T G C k N sc .pass (.Expr (.Constant (.str x) j pos) pos') := fun X hX ro rw σ s ma H D rs hr h => PS.le ps_doc (Sat.ok h hr s rs)
theorem ss_retN {pos : Pos} : SS T G C k N sc (.ret none) (.Return none pos) := fun X hX ro rw σ s ma H D rs hr h => PS.le ps_retN (Sat.ok h hr _ .non)
theorem ss_ret {m : ME} {e : Expr} {pos : Pos} (he : SE T G C k N sc m e) : SS T G C k N sc (.ret (some m)) (.Return (some e) pos) := fun X hX ro rw σ s ma H D rs hr h =>
  PS.le (ps_ret pe_w) (he X hX.here ro rw σ s ma H _ rs hr ((Sat.bind h).mono fun d rw1 m1 H1 e1 r1 q1 v hv => Sat.ok q1 r1 v hv))
def isComp : Expr → Bool
  | .ListComp _ _ _ _ => true
  | .SetComp _ _ _ _ => true
  | .DictComp _ _ _ _ _ => true
  | _ => false
theorem no_swap {e : Expr} (h : isComp e = false) (t : Option Expr) (l : Nat) (env : Env) : swapsWith e t l env = pure false := by
  cases e <;> first | rfl | cases h
theorem ss_expr {m : ME} {e : Expr} {pos : Pos} (he : SE T G C k N sc m e) (hc : isComp e = false) : SS T G C k N sc (.ex m) (.Expr e pos) := fun X hX ro rw σ s ma H D rs hr h =>
  PS.le (ps_expr pe_w (no_swap hc _ _ _)) (he X hX.here ro rw σ s ma H _ rs hr ((Sat.bind h).mono fun d rw1 m1 H1 e1 r1 q1 v hv => Sat.ok q1 r1 s (rs.ext e1.toExtW hr.noTup)))
theorem ss_if {c : ME} {ec : Expr} {a b : List MS} {sa sb : List Stmt} {pos : Pos} (hc : ST T G C k N sc c ec) (ha : SSs T G C k N sc a sa) (hb : SSs T G C k N sc b sb) : SS T G C k N sc (.ite c a b) (.If ec sa sb pos) := fun X hX ro rw σ s ma H D rs hr h => by
  refine PS.le (ps_if pt_w pss_w pss_w) (hc X hX.here ro rw σ s ma H _ rs hr ((Sat.bind h).mono fun d rw1 m1 H1 e1 r1 q1 => ?_))
  obtain ⟨z, rfl, h2⟩ := Sat.isBl q1
  have rs1 := rs.ext e1.toExtW hr.noTup
  refine ⟨z, rfl, ?_⟩
  cases z with
  | true => exact ha X hX ro rw1 σ s m1 H1 D rs1 r1 h2
  | false => exact hb X hX ro rw1 σ s m1 H1 D rs1 r1 h2
/-! ### names set -/
theorem ss_set {i : Nat} {x : Str} {m : ME} {e : Expr} {p pos : Pos} (hN : N[i]? = some x) (hl : locB sc x = true) (he : SE T G C k N sc m e) (hs : ∀ (env : Env), env.scope = sc → swapsWith e (some (.Name x p)) pos.line env = pure false) : SS T G C k N sc (.set i m) (.Assign [.Name x p] e pos) := fun X hX ro rw σ s ma H D rs hr h => by
  refine PS.le (ps_set hX.here.ctx.nd (by rw [hX.here.names]; exact hN) (by rw [hX.here.scope]; exact locB_of hl) pe_w (hs X.env hX.here.scope) (hX.owns x rfl)) (he X hX.here ro rw σ s ma H _ rs hr ((Sat.bind h).mono fun d rw1 m1 H1 e1 r1 q1 v hv => ?_))
  split at q1
  · exact Sat.ok q1 r1 _ ((rs.ext e1.toExtW hr.noTup).set hv)
  · exact q1.elim
/-- does the store swap with the comprehension's frame? -/
def swapB (sc : Scope) (x : Str) (p : Pos) (bsc : Scope) (cpos : Pos) : Bool := decide (sc.names.lookup x = some .local) && (p.line == cpos.line) && !(bsc.names.any fun (n, k) => n == x && (k == .local || k == .cell))
theorem ss_setLc {i : Nat} {x : Str} {p pos cpos : Pos} {bsc : Scope} {own : List (Str × Nat)} {g : MG} {tg elt iter : Expr} {melt : ME} {t : MT} {mi : Option ME} {ifs : List Expr} {mu : Bool} (hN : N[i]? = some x) (hsw : swapB sc x p bsc cpos = true)
    (hb : blkC N sc bsc own = true) (hg : TgOk N (relS bsc sc) (ownB bsc) g tg) (hsl : ∀ i ∈ slotsG g, i ∈ own.map (·.2)) (hit : SI T G C k N sc t tg iter) (he : SE T G C k N (relS bsc sc) melt elt) (hi : IfsOk T G C k N (relS bsc sc) mi ifs) (hfold : ∀ (env : Env) x, foldedSetIterable iter env x = pure x) :
    SS T G C k N sc (.set i (.comp mu melt (own.map (·.2)) g t mi)) (.Assign [.Name x p] (.ListComp elt [⟨tg, iter, ifs, 0⟩] bsc cpos) pos) := fun X hX => by
  have ok : BlkOk X.N X.env.scope bsc own := by rw [hX.here.names, hX.here.scope]; exact blkOk_by hb
  unfold swapB at hsw
  simp only [Bool.and_eq_true, decide_eq_true_eq, Bool.not_eq_true'] at hsw
  have hy : X.env.scope.names.lookup x = some .local := by rw [hX.here.scope]; exact hsw.1.1
  have main : ∀ {ro rw : MH} {σ : Sig} {s : L2.St} {ma : Wd} {H : Hp} {D : Ends}, RdyT t s H → SRel X.K ma H σ s → HRel T X.K ma (ro ++ rw) H → Sat T X.K ro ma H (exS C ro (.set i (.comp mu melt (own.map (·.2)) g t mi)) σ rw) (FP X.K D) → wS X (.Assign [.Name x p] (.ListComp elt [⟨tg, iter, ifs, 0⟩] bsc cpos) pos) D s H := fun {ro rw σ s ma H D} rdy rs hr q => fun pins s0 I => by
    refine (ps_setLc (g := aG X bsc tg) (tt := aTs X bsc ifs) (te := aE X bsc elt) hX.here.ctx.calm hX.here.ctx.nd (by rw [hX.here.names]; exact hN) hy (sw_true I.ok.kind hy hsw.1.2 hsw.2) pi_w ok (fun s0 H0 Cc cl fp => ⟨fun pins s σ H v u Q I r h => h s0 H0 Cc cl fp pins s u I r⟩)
      (fun s0 H0 Cc cl fp => ⟨fun pins s σ H Q I h => h s0 H0 Cc cl fp pins s I⟩) (fun s0 H0 Cc cl fp => ⟨fun pins s σ H Q I h => h s0 H0 Cc cl fp pins s I⟩) (hfold X.env)).run pins s0 s H D I ?_
    refine lc_read (Q := fun v H1 => gName i v s H1 D.nx) hX.here hg hsl hit he hi rdy rs hr ((Sat.bind q).mono fun d rw1 m1 H1 e1 r1 q1 v hv => ?_)
    split at q1
    · exact Sat.ok q1 r1 _ ((rs.ext e1.toExtW hr.noTup).set hv)
    · exact q1.elim
  intro ro rw σ s ma H D rs hr q
  have q0 : Sat T X.K ro ma H (M.bind (evE C ro (.comp mu melt (own.map (·.2)) g t mi) σ) (fun d => if i < σ.length then M.pure (Fl.nx (σ.set i (some d))) else M.err) rw) (FP X.K D) := q
  rcases ready t rs (Sat.bind (show Sat T X.K ro ma H (M.bind (evT C ro t σ) _ rw) _ from Sat.bind q0)) with rdy | ⟨d, u, hu, hc, hd, rdy⟩
  · exact main rdy rs hr q
  · refine PS.le (ps_lock ps_w) ⟨d, u, hu, mut_dc hc, fun od => main (rdy od) (rs.ext (extW_lock hu hc) hr.noTup) (hr.at_d hd hu (dic_ntbl hc) (dc_code hc) (extW_lock hu hc)) ((q.lock hd hu hc).mono fun fl rw' m' H' e r ⟨h1, h2, h3⟩ => ?_)⟩
    cases fl with
    | nx σ' => exact fun s' rs' => ⟨h1, h3 s' (rs'.ext (extW_unlock h1 hc) r.noTup)⟩
    | rt dd => exact fun v hv => ⟨h1, h3 v (hv.ext (extW_unlock h1 hc) r.noTup)⟩
    | bk σ' => exact fun s' rs' => ⟨h1, h3 s' (rs'.ext (extW_unlock h1 hc) r.noTup)⟩
    | ct σ' => exact fun s' rs' => ⟨h1, h3 s' (rs'.ext (extW_unlock h1 hc) r.noTup)⟩
/-- a, b = x, y: stored from the right -/
theorem ss_par {i j : Nat} {x y : Str} {a b : ME} {ea eb : Expr} {px py pt pt2 pos : Pos} {kt k2 : Nat} (hi : N[i]? = some x) (hj : N[j]? = some y) (hij : i ≠ j) (hx : sc.names.lookup x = some .local) (hy : sc.names.lookup y = some .local) (ha : SA T G C k N sc [a, b] [ea, eb])
    (hw : ∀ (env : Env), env.scope = sc → env.scope.kind = .function → swappedStores [.Tuple [.Name x px, .Name y py] kt pt] (.Tuple [ea, eb] k2 pt2) env = pure (some [x, y])) : SS T G C k N sc (.par [i, j] [a, b]) (.Assign [.Tuple [.Name x px, .Name y py] kt pt] (.Tuple [ea, eb] k2 pt2) pos) := fun X hX ro rw σ s ma H D rs hr h => fun pins s0 I => by
  refine (ps_par hX.here.ctx.calm hX.here.ctx.nd (by rw [hX.here.names]; exact hi) (by rw [hX.here.names]; exact hj) hij (by rw [hX.here.scope]; exact hx) (by rw [hX.here.scope]; exact hy) pa_w (hw X.env hX.here.scope I.ok.kind)).run pins s0 s H D I ?_
  refine ha X hX.here ro rw σ s ma H _ rs hr ((Sat.bind h).mono fun ds rw1 m1 H1 e1 r1 q1 vs hvs => ?_)
  obtain ⟨σ', es, q2⟩ := Sat.lift (Sat.bind q1)
  have rs1 := rs.ext e1.toExtW hr.noTup
  have q3 := q2 m1 H1 (.refl _ _) r1
  match ds, vs, hvs with
  | [d1, d2], [v, w], .cons h1 (.cons h2 .nil) =>
    have es : (if i < σ.length then (if j < (σ.set i (some d1)).length then some ((σ.set i (some d1)).set j (some d2)) else none) else none) = some σ' := es
    split at es
    · split at es
      · cases es
        exact ⟨v, w, rfl, Sat.ok q3 r1 _ ((rs1.set h1).set h2)⟩
      · cases es
    · cases es
  | [], _, _ => cases es
  | [_], _, _ => exfalso; revert es; show (if i < σ.length then none else none) = some σ' → False; split <;> (intro z; cases z)
  | _ :: _ :: _ :: _, _, _ => exfalso; revert es; show (if i < σ.length then (if j < _ then none else none) else none) = some σ' → False; split <;> (first | (split <;> (intro z; cases z)) | (intro z; cases z))
/-- a target = e -/
theorem ss_unp {g : MG} {tg : Expr} {m : ME} {e : Expr} {pos : Pos} (hg : TgOk N sc (fun _ => true) g tg) (he : SE T G C k N sc m e) (hs : ∀ (env : Env), env.scope = sc → swapsWithSole [tg] e pos.line env = pure false) (hw : ∀ (env : Env), env.scope = sc → swappedStores [tg] e env = pure none) (h1 : ∀ (env : Env), (assignEach [tg] env).map (·.2) = [assign tg env]) :
    SS T G C k N sc (.unp g m) (.Assign [tg] e pos) := fun X hX ro rw σ s ma H D rs hr h => by
  refine PS.le (ps_asg pe_w pg_w (hs X.env hX.here.scope) (hw X.env hX.here.scope) (h1 X.env)) (he X hX.here ro rw σ s ma H _ rs hr ((Sat.bind h).mono fun d rw1 m1 H1 e1 r1 q1 v hv => ?_))
  obtain ⟨σ', es, q2⟩ := Sat.lift (Sat.bind q1)
  exact sg_ok hX.here hX.owns hg es hv (rs.ext e1.toExtW hr.noTup) fun s' rs' _ => Sat.ok (q2 m1 H1 (.refl _ _) r1) r1 s' rs'
/-- o[i] = e -/
theorem ss_put {o i m : ME} {eo ei e : Expr} {pos pos' : Pos} (ho : SE T G C k N sc o eo) (hi : SE T G C k N sc i ei) (he : SE T G C k N sc m e) (hsl : isSlice ei = false) : SS T G C k N sc (.put o i m) (.Assign [.Subscript eo ei pos'] e pos) := fun X hX ro rw σ s ma H D rs hr h => by
  have hsw : ∀ (env : Env), swapsWithSole [.Subscript eo ei pos'] e pos.line env = pure false := fun env => by
    show swapsWith e (some (.Subscript eo ei pos')) pos.line env = pure false
    cases e <;> rfl
  have hst : ∀ (env : Env), swappedStores [.Subscript eo ei pos'] e env = pure none := fun env => rfl
  have has : ∀ v, assign (.Subscript eo ei pos') X.env v = (do let ov ← holding [v] (eval eo X.env); let iv ← holding [v, ov] (eval ei X.env); standAt pos'; holding [v, ov, iv] (setItem ov iv v); release [v, ov, iv] []) := fun v => by
    cases ei <;> first | rfl | cases hsl
  refine PS.le (ps_asg pe_w (pg_sub pe_w pe_w set_w has) (hsw X.env) (hst X.env) rfl) ?_
  refine he X hX.here ro rw σ s ma H _ rs hr ((Sat.bind h).mono fun d rw1 m1 H1 e1 r1 q1 v hv => ?_)
  have rs1 := rs.ext e1.toExtW hr.noTup
  refine ho X hX.here ro rw1 σ s m1 H1 _ rs1 r1 ((Sat.bind q1).mono fun x rw2 m2 H2 e2 r2 q2 u hu => ?_)
  have rs2 := rs1.ext e2.toExtW r1.noTup
  refine hi X hX.here ro rw2 σ s m2 H2 _ rs2 r2 ((Sat.bind q2).mono fun y rw3 m3 H3 e3 r3 q3 t ht => ?_)
  have rs3 := rs2.ext e3.toExtW r2.noTup
  obtain ⟨l, el, q4⟩ := Sat.lift (Sat.bind q3)
  have q5 := q4 m3 H3 (.refl _ _) r3
  cases x with
  | ref l' =>
    cases el
    exact put_ok hX.here.ctx r3 (hu.ext e3.toExtW r2.noTup) ht ((hv.ext e2.toExtW r1.noTup).ext e3.toExtW r2.noTup) (Sat.bind q5) fun rw' m' H' q6 e' r' => Sat.ok q6 r' s (rs3.ext e'.toExtW r3.noTup)
  | _ => cases el
/-! ### loops -/
theorem ss_for {g : MG} {tg iter : Expr} {t : MT} {b : List MS} {sb : List Stmt} {pos : Pos} (hg : TgOk N sc (fun _ => true) g tg) (hit : SI T G C k N sc t tg iter) (hb : SSs T G C k N sc b sb) (hfold : ∀ (env : Env) x, foldedSetIterable iter env x = pure x) : SS T G C k N sc (.loop g t b) (.For tg iter sb [] pos) := fun X hX => by
  have main : ∀ {ro rw : MH} {σ : Sig} {s : L2.St} {ma : Wd} {H : Hp} {D : Ends}, RdyT t s H → SRel X.K ma H σ s → HRel T X.K ma (ro ++ rw) H → Sat T X.K ro ma H (exS C ro (.loop g t b) σ rw) (FP X.K D) → wS X (.For tg iter sb [] pos) D s H := fun {ro rw σ s ma H D} rdy rs hr q => by
    refine PS.le (ps_for hX.pass hX.here.ctx.calm pi_w pg_w pss_w (hfold X.env)) ?_
    refine hit X hX.here ro rw σ s ma H _ rdy rs hr ((Sat.bind q).mono fun ds rw1 m1 H1 e1 r1 q1 J wk => ?_)
    obtain ⟨Gd, g0, gst, ggo, gstop, gy⟩ := wk.ex
    have rs1 := rs.ext e1.toExtW hr.noTup
    generalize hf : (fun d σ => M.bind (M.lift (asG g d σ)) fun σ' => exSs C ro b σ') = f at q1
    have q1 : Sat T X.K ro m1 H1 (M.bind (loopL (turnF f) ds (.nx σ)) (fun r => M.pure (endF r)) rw1) (FP X.K D) := q1
    let W : Nat → Nat → L2.St → Hp → Prop := fun i n s H => n = ds.length - i ∧ i ≤ ds.length ∧ ∃ rw m σ', Ext m1 H1 m H ∧ HRel T X.K m (ro ++ rw) H ∧ Gd m H ∧ SRel X.K m H σ' s ∧
      Sat T X.K ro m1 H1 (M.bind (loopL (turnF f) (ds.drop i) (.nx σ')) (fun r => M.pure (endF r)) rw) (FP X.K D)
    refine ⟨W, ⟨ds.length, by simp, Nat.zero_le _, rw1, m1, σ, .refl _ _, r1, g0, rs1, by simpa using q1⟩, ?_⟩
    rintro i n s2 H2 ⟨rfl, hi1, rw2, m2, σ2, e2, r2, gd, rs2, sat⟩
    by_cases hlt : i < ds.length
    · refine .inr ⟨ggo _ H2 i gd hlt, fun s' H' => W (i + 1) (ds.length - (i + 1)) s' H', fun s' H' w => ⟨_, by omega, w⟩, fun x H' y => ?_⟩
      obtain ⟨d, ed, ex, hrp, px⟩ := gy m2 H2 i x H' gd r2.noTup hlt y
      have hr2 := hrp T _ r2
      have edrop : ds.drop i = d :: ds.drop (i + 1) := by
        rw [List.drop_eq_getElem_cons hlt]
        rw [List.getElem?_eq_getElem hlt] at ed
        rw [Option.some.inj ed]
      rw [edrop] at sat
      obtain ⟨a, rw3, ea, sat2⟩ := Sat.turn (x := turnF f d (.nx σ2)) (g := loopL (turnF f) (ds.drop (i + 1))) sat
      have hT : Sat T X.K ro m2 H' (turnF f d (.nx σ2) rw2) fun b rw' _ _ => b = a ∧ rw' = rw3 := Sat.eq ea
      subst hf
      have hT := Sat.bind hT
      obtain ⟨σ3, es3, hT⟩ := Sat.lift (Sat.bind hT)
      have hT := hT _ _ (.refl _ _) hr2
      have rs3 := rs2.ext ex.toExtW r2.noTup
      refine sg_ok hX.here hX.owns hg es3 px rs3 fun s4 rs4 _ => ?_
      refine hb X hX ro rw2 σ3 s4 m2 H' _ rs4 hr2 (hT.mono fun fl rw5 m5 H5 e5 r5 q5 => ?_)
      have base : Ext m1 H1 m5 H5 := (e2.trans ex).trans e5
      have gd5 : Gd m5 H5 := gst _ _ _ _ gd r2.noTup (ex.trans e5).toExtW (ex.trans e5).frz
      -- the rest of the turns is not walked
      have over : ∀ (r : Fl), (∀ σ', r ≠ .nx σ') → ∀ (ds : List Mx.D) (rw : MH), loopL (turnF (fun d σ => M.bind (M.lift (asG g d σ)) fun σ' => exSs C ro b σ')) ds r rw = .ok r rw := fun r hn ds => by
        induction ds with
        | nil => exact fun rw => rfl
        | cons d ds ih =>
          intro rw
          cases r with
          | nx σ' => exact absurd rfl (hn σ')
          | rt _ => exact ih rw
          | bk _ => exact ih rw
          | ct _ => exact ih rw
      have stopd : ∀ (r : Fl), (∀ σ', r ≠ .nx σ') → r = a → rw5 = rw3 → FP X.K D (endF r) rw5 m5 H5 := fun r hn hr1 hrw => by
        subst hr1 hrw
        have z := Sat.move sat2 base
        rw [bind_ok (over r hn _ _)] at z
        exact Sat.ok z r5
      cases fl with
      | nx σ' =>
        obtain ⟨rfl, rfl⟩ := Sat.ok q5 r5
        exact fun s' rs' => ⟨rfl, hlt, _, m5, σ', base, r5, gd5, rs', sat2⟩
      | ct σ' =>
        obtain ⟨rfl, rfl⟩ := Sat.ok q5 r5
        exact fun s' rs' => ⟨rfl, hlt, _, m5, σ', base, r5, gd5, rs', sat2⟩
      | bk σ' =>
        obtain ⟨h1, h2⟩ := Sat.ok q5 r5
        exact stopd (.bk σ') (fun _ z => nomatch z) h1 h2
      | rt dd =>
        obtain ⟨h1, h2⟩ := Sat.ok q5 r5
        exact stopd (.rt dd) (fun _ z => nomatch z) h1 h2
    · have ei : i = ds.length := by omega
      subst ei
      refine .inl ⟨gstop _ H2 gd, ?_⟩
      rw [List.drop_length] at sat
      exact Sat.ok (Sat.move sat e2) r2 _ rs2
  intro ro rw σ s ma H D rs hr q
  rcases ready t rs (Sat.bind (show Sat T X.K ro ma H (M.bind (evT C ro t σ) _ rw) _ from q)) with rdy | ⟨d, u, hu, hc, hd, rdy⟩
  · exact main rdy rs hr q
  · refine PS.le (ps_lock ps_w) ⟨d, u, hu, mut_dc hc, fun od => main (rdy od) (rs.ext (extW_lock hu hc) hr.noTup) (hr.at_d hd hu (dic_ntbl hc) (dc_code hc) (extW_lock hu hc)) ((q.lock hd hu hc).mono fun fl rw' m' H' e r ⟨h1, h2, h3⟩ => ?_)⟩
    cases fl with
    | nx σ' => exact fun s' rs' => ⟨h1, h3 s' (rs'.ext (extW_unlock h1 hc) r.noTup)⟩
    | rt dd => exact fun v hv => ⟨h1, h3 v (hv.ext (extW_unlock h1 hc) r.noTup)⟩
    | bk σ' => exact fun s' rs' => ⟨h1, h3 s' (rs'.ext (extW_unlock h1 hc) r.noTup)⟩
    | ct σ' => exact fun s' rs' => ⟨h1, h3 s' (rs'.ext (extW_unlock h1 hc) r.noTup)⟩
theorem ss_while {c : ME} {ec : Expr} {b : List MS} {sb : List Stmt} {pos : Pos} (hc : ST T G C k N sc c ec) (hb : SSs T G C k N sc b sb) : SS T G C k N sc (.whl c b) (.While ec sb [] pos) := fun X hX ro rw σ s ma H D rs hr q => by
  have q : Sat T X.K ro ma H (whileF (fun σ => M.bind (evE C ro c σ) isBl) (fun σ => exSs C ro b σ) bigN σ rw) (FP X.K D) := q
  generalize bigN = n at q
  refine PS.le (ps_while hX.pass pt_w pss_w) ?_
  refine ⟨fun n s2 H2 => ∃ rw m σ, HRel T X.K m (ro ++ rw) H2 ∧ SRel X.K m H2 σ s2 ∧ Sat T X.K ro m H2 (whileF (fun σ => M.bind (evE C ro c σ) isBl) (fun σ => exSs C ro b σ) n σ rw) (FP X.K D), ⟨n, rw, ma, σ, hr, rs, q⟩, ?_⟩
  rintro n s2 H2 ⟨rw2, m2, σ2, r2, rs2, sat⟩
  cases n with
  | zero => exact sat.elim
  | succ n =>
    refine hc X hX.here ro rw2 σ2 s2 m2 H2 _ rs2 r2 ((Sat.bind (Sat.bind sat)).mono fun x rw3 m3 H3 e3 r3 q3 => ?_)
    obtain ⟨z, rfl, q4⟩ := Sat.isBl1 q3
    have q5 := Sat.ok q4 r3
    have rs3 := rs2.ext e3.toExtW r2.noTup
    refine ⟨z, rfl, ?_⟩
    cases z with
    | false => exact Sat.ok q5 r3 _ rs3
    | true =>
      refine ⟨fun s' H' => ∃ rw m σ, HRel T X.K m (ro ++ rw) H' ∧ SRel X.K m H' σ s' ∧ Sat T X.K ro m H' (whileF (fun σ => M.bind (evE C ro c σ) isBl) (fun σ => exSs C ro b σ) n σ rw) (FP X.K D), fun s' H' w => ⟨n, Nat.lt_succ_self n, w⟩, ?_⟩
      refine hb X hX ro rw3 σ2 s2 m3 H3 _ rs3 r3 ((Sat.bind q5).mono fun fl rw4 m4 H4 e4 r4 q6 => ?_)
      cases fl with
      | nx σ' => exact fun s' rs' => ⟨rw4, m4, σ', r4, rs', q6⟩
      | ct σ' => exact fun s' rs' => ⟨rw4, m4, σ', r4, rs', q6⟩
      | bk σ' => exact Sat.ok q6 r4
      | rt dd => exact Sat.ok q6 r4
end
end Mx

set_option Elab.async false
set_option linter.all false
set_option maxRecDepth 100000
set_option maxHeartbeats 1000000
/-! Mx, part N: defs. -/
namespace Mx
open PySem L2 PySem.Spec PyProof.Rows

/-! ### behind a def that keeps its things for itself -/
mutual
theorem Rep.less {K : PySem.W.Frag} {m m' : Wd} {H0 H' : Hp} (hp : ∃ new, m'.r = m.r ++ new) (hx : m'.x = m.x) : ∀ {d : D} {v : V}, Rep K m' H' d v → ∀ {v0 : V}, Rep K m H0 d v0 → Rep K m H' d v
  | _, _, .non, _, _ => .non
  | _, _, .bl b, _, _ => .bl b
  | _, _, .int i, _, _ => .int i
  | _, _, .str s, _, _ => .str s
  | _, _, .tup h t r, _, .tup _ _ r0 => .tup h t (Reps.less hp hx r r0)
  | _, _, .lst h r, _, .lst _ r0 => .lst ⟨h.1, fun z => h.2 (wd_sub hp hx z)⟩ (Reps.less hp hx r r0)
  | _, _, .scr h, _, _ => .scr h
  | _, _, .dK h hm k r, _, .dK _ _ _ r0 => .dK h (fun z => hm (wd_sub hp hx z)) k (Reps.less hp hx r r0)
  | _, _, .dT h hm k r, _, .dT _ _ _ r0 => .dT h (fun z => hm (wd_sub hp hx z)) k (Reps.less hp hx r r0)
  | _, _, .ref h, _, .ref h0 => .ref (wd_get hp h h0)
theorem Reps.less {K : PySem.W.Frag} {m m' : Wd} {H0 H' : Hp} (hp : ∃ new, m'.r = m.r ++ new) (hx : m'.x = m.x) : ∀ {ds : List D} {vs : List V}, Reps K m' H' ds vs → ∀ {vs0 : List V}, Reps K m H0 ds vs0 → Reps K m H' ds vs
  | _, _, .nil, _, _ => .nil
  | _, _, .cons h t, _, .cons h0 t0 => .cons (Rep.less hp hx h h0) (Reps.less hp hx t t0)
theorem wd_sub {m m' : Wd} (hp : ∃ new, m'.r = m.r ++ new) (hx : m'.x = m.x) {a : Addr} (h : a ∈ m) : a ∈ m' := by
  obtain ⟨new, e⟩ := hp
  rcases h with h | h
  · exact .inl (by rw [e]; exact List.mem_append_left _ h)
  · exact .inr (by rw [hx]; exact h)
theorem wd_get {m m' : Wd} (hp : ∃ new, m'.r = m.r ++ new) {l : Nat} {a a0 : Addr} (h : m'.r[l]? = some a) (h0 : m.r[l]? = some a0) : m.r[l]? = some a := by
  obtain ⟨new, e⟩ := hp
  rw [e, List.getElem?_append_left (List.getElem?_eq_some_iff.mp h0).1] at h
  exact h
end
section
variable {T : Tbs} {K : PySem.W.Frag} {m m' : Wd} {H H' : Hp} {h rw : MH}
theorem ORep.less (hp : ∃ new, m'.r = m.r ++ new) (hx : m'.x = m.x) {a : Addr} {o : MO} (r : ORep K m' H' a o) (r0 : ORep K m H a o) : ORep K m H' a o := by
  cases o with
  | lst xs =>
    obtain ⟨vs, h1, h2⟩ := r
    obtain ⟨_, _, g2⟩ := r0
    exact ⟨vs, h1, h2.less hp hx g2⟩
  | dK xs =>
    obtain ⟨vs, h1, h2, h3⟩ := r
    obtain ⟨_, _, _, g3⟩ := r0
    exact ⟨vs, h1, h2, h3.less hp hx g3⟩
  | dT xs =>
    obtain ⟨vs, h1, h2, h3⟩ := r
    obtain ⟨_, _, _, g3⟩ := r0
    exact ⟨vs, h1, h2, h3.less hp hx g3⟩
theorem own_back (e : Ext m H m' H') (hr : HRel T K m h H) (r' : HRel T K m' (h ++ rw) H') : Ext m H m H' ∧ HRel T K m h H' := by
  refine ⟨⟨⟨⟨[], by simp⟩, fun a ha => .inl ha, e.keep⟩, e.frz, e.same, rfl, e.hsame⟩, r'.tabs, hr.len, hr.nd, fun a ha => ?_, fun l o a h1 h2 => ?_⟩
  · obtain ⟨q1, u, q2, q3⟩ := hr.hid a ha
    exact ⟨q1, u, e.hsame a ha u q2, q3⟩
  · refine ORep.less e.pre e.hid (r'.ob l o a ?_ (e.toExtW.get h2)) (hr.ob l o a h1 h2)
    rw [List.getElem?_append_left (List.getElem?_eq_some_iff.mp h1).1]
    exact h1
theorem mapM_cons {α β : Type} {f : α → Option β} {a : α} {l : List α} {r : List β} (h : (a :: l).mapM f = some r) : ∃ b bs, f a = some b ∧ l.mapM f = some bs ∧ r = b :: bs := by
  rw [List.mapM_cons] at h
  cases e1 : f a with
  | none => rw [e1] at h; cases h
  | some b =>
    cases e2 : l.mapM f with
    | none => rw [e1, e2] at h; cases h
    | some bs =>
      rw [e1, e2] at h
      have h : some (b :: bs) = some r := h
      cases h
      exact ⟨b, bs, rfl, rfl, rfl⟩
theorem froz_reps {f : D → Option D} (hf : ∀ d d' v, Rep K m' H' d v → f d = some d' → Rep K m H' d' v) : ∀ {xs ys : List D} {vs : List V}, Reps K m' H' xs vs → xs.mapM f = some ys → Reps K m H' ys vs
  | [], ys, _, .nil, e => by
    simp only [List.mapM_nil, Option.pure_def, Option.some.injEq] at e
    subst e; exact .nil
  | x :: xs, ys, _, .cons h t, e => by
    obtain ⟨b, bs, e1, e2, rfl⟩ := mapM_cons e
    exact .cons (hf _ _ _ h e1) (froz_reps hf t e2)
theorem froz_kvs {κ : Type} {f : D → Option D} (hf : ∀ d d' v, Rep K m' H' d v → f d = some d' → Rep K m H' d' v) : ∀ {kvs ys : List (κ × D)} {vs : List V}, Reps K m' H' (kvs.map (·.2)) vs → (kvs.mapM fun p => (f p.2).map fun d => (p.1, d)) = some ys → ys.map (·.1) = kvs.map (·.1) ∧ Reps K m H' (ys.map (·.2)) vs
  | [], ys, _, .nil, e => by
    simp only [List.mapM_nil, Option.pure_def, Option.some.injEq] at e
    subst e; exact ⟨rfl, .nil⟩
  | x :: xs, ys, _, .cons h t, e => by
    obtain ⟨b, bs, e1, e2, rfl⟩ := mapM_cons e
    obtain ⟨d, e3, rfl⟩ := Option.map_eq_some_iff.mp e1
    obtain ⟨i1, i2⟩ := froz_kvs hf t e2
    exact ⟨by simp [i1], .cons (hf _ _ _ h e3) i2⟩
theorem froz_rep (e : Ext m H m' H') (hr : HRel T K m h H) (r' : HRel T K m' (h ++ rw) H') : ∀ (n : Nat) (d d' : D) (v : V), Rep K m' H' d v → froz h.length rw n d = some d' → Rep K m H' d' v := by
  have out : ∀ a, a ∉ m' → a ∉ m := fun a q z => q (wd_sub e.pre e.hid z)
  intro n
  induction n with
  | zero => intro d d' v _ q; cases q
  | succ n ih =>
    intro d d' v p q
    cases p with
    | non => cases q; exact .non
    | bl b => cases q; exact .bl b
    | int i => cases q; exact .int i
    | str s => cases q; exact .str s
    | tup h1 h2 h3 =>
      obtain ⟨ys, e1, rfl⟩ := Option.map_eq_some_iff.mp q
      exact .tup h1 h2 (froz_reps ih h3 e1)
    | lst h1 h2 =>
      obtain ⟨ys, e1, rfl⟩ := Option.map_eq_some_iff.mp q
      exact .lst ⟨h1.1, out _ h1.2⟩ (froz_reps ih h2 e1)
    | scr h1 => cases q; exact .scr h1
    | dK h1 h2 h3 h4 =>
      obtain ⟨ys, e1, rfl⟩ := Option.map_eq_some_iff.mp q
      obtain ⟨i1, i2⟩ := froz_kvs ih h4 e1
      exact .dK h1 (out _ h2) (i1.trans h3) i2
    | dT h1 h2 h3 h4 =>
      obtain ⟨ys, e1, rfl⟩ := Option.map_eq_some_iff.mp q
      obtain ⟨i1, i2⟩ := froz_kvs ih h4 e1
      exact .dT h1 (out _ h2) (i1.trans h3) i2
    | @ref l a hl =>
      have q : (if l < h.length then some (D.ref l) else match rw[l - h.length]? with
        | some (.lst xs) => (xs.mapM (froz h.length rw n)).map D.lst
        | some (.dK kvs) => (kvs.mapM fun p => (froz h.length rw n p.2).map fun d => (p.1, d)).map D.dK
        | some (.dT kvs) => (kvs.mapM fun p => (froz h.length rw n p.2).map fun d => (p.1, d)).map D.dT
        | none => none) = some d' := q
      obtain ⟨new, er⟩ := e.pre
      split at q
      · rename_i lt
        cases q
        refine .ref ?_
        rw [er, List.getElem?_append_left (by rw [hr.len]; exact lt)] at hl
        exact hl
      · rename_i ge
        have am : a ∉ m := fun z => by
          rcases z with z | z
          · obtain ⟨j, hj⟩ := List.mem_iff_getElem?.mp z
            have hj' := e.toExtW.get hj
            have jl := (List.getElem?_eq_some_iff.mp hj).1
            rw [hr.len] at jl
            have : j = l := (List.getElem?_inj (List.getElem?_eq_some_iff.mp hj').1 r'.nd).mp (hj'.trans hl.symm)
            omega
          · exact (r'.hid a (by rw [e.hid]; exact z)).1 (List.mem_of_getElem? hl)
        cases eo : rw[l - h.length]? with
        | none => rw [eo] at q; cases q
        | some o =>
          have ob := r'.ob l o a (by rw [List.getElem?_append_right (Nat.not_lt.mp ge)]; exact eo) hl
          rw [eo] at q
          cases o with
          | lst xs =>
            obtain ⟨ys, e1, rfl⟩ := Option.map_eq_some_iff.mp q
            obtain ⟨vs, g1, g2⟩ := ob
            exact .lst ⟨g1, am⟩ (froz_reps ih g2 e1)
          | dK kvs =>
            obtain ⟨ys, e1, rfl⟩ := Option.map_eq_some_iff.mp q
            obtain ⟨ws, g1, g2, g3⟩ := ob
            obtain ⟨i1, i2⟩ := froz_kvs ih g3 e1
            exact .dK (.inl g1) am (i1.trans g2) i2
          | dT kvs =>
            obtain ⟨ys, e1, rfl⟩ := Option.map_eq_some_iff.mp q
            obtain ⟨ws, g1, g2, g3⟩ := ob
            obtain ⟨i1, i2⟩ := froz_kvs ih g3 e1
            exact .dT (.inl g1) am (i1.trans g2) i2
end

/-! ### a def by its body -/
section
variable {T : Tbs} {G : Glob} {k : Nat} {N : List Str} {sc : Scope}
theorem sat_body {Tb : Tab} {n : Nat} {K : PySem.W.Frag} {x : Str} {mf : MF} (hT : Tb x = some mf) {ro rw : MH} {m : Wd} {H : Hp} {ds : List D} {Q : VK} (hr : HRel T K m (ro ++ rw) H) (hs : Sat T K ro m H (callN Tb (n + 1) ro x ds rw) (VP K Q)) :
    ds.length = mf.np ∧ mf.np ≤ mf.ns ∧ ∃ ro' rw', HRel T K m (ro' ++ rw') H ∧ Sat T K ro' m H (exSs (callN Tb n) ro' mf.body (startD mf.ns ds) rw') (FP K { nx := fun _ H' => Q .non H', rt := Q }) := by
  have e0 : callN Tb (n + 1) ro x ds rw = if ds.length = mf.np ∧ mf.np ≤ mf.ns then (if mf.own then
        match exSs (callN Tb n) (ro ++ rw) mf.body (startD mf.ns ds) [] with
        | .ok fl rw' => match (flD fl).bind (froz (ro ++ rw).length rw' deep) with
          | some d => .ok d rw
          | none => .err
        | .exc c p _ => .exc c p rw
        | .err => .err
      else match exSs (callN Tb n) ro mf.body (startD mf.ns ds) rw with
        | .ok fl rw' => match flD fl with
          | some d => .ok d rw'
          | none => .err
        | .exc c p rw' => .exc c p rw'
        | .err => .err) else .err := by
    show (match Tb x with
      | none => Res.err
      | some mf => _) = _
    rw [hT]
    try rfl
  rw [e0] at hs
  split at hs
  · rename_i hl
    refine ⟨hl.1, hl.2, ?_⟩
    split at hs
    · -- its things are its own
      refine ⟨ro ++ rw, [], by rw [List.append_nil]; exact hr, ?_⟩
      cases e1 : exSs (callN Tb n) (ro ++ rw) mf.body (startD mf.ns ds) [] with
      | exc c p _ => rw [e1] at hs; exact hs.elim
      | err => rw [e1] at hs; exact hs.elim
      | ok fl rw' =>
        rw [e1] at hs
        intro m' H' ex r'
        cases e2 : (flD fl).bind (froz (ro ++ rw).length rw' deep) with
        | none => simp only [e2] at hs; exact hs.elim
        | some d =>
          simp only [e2] at hs
          obtain ⟨d0, e3, e4⟩ := Option.bind_eq_some_iff.mp e2
          obtain ⟨b1, b2⟩ := own_back ex hr r'
          have fin := hs m H' b1 b2
          cases fl with
          | nx σ' => cases e3; cases e4; exact fun s' _ => fin _ .non
          | rt dd => cases e3; exact fun v hv => fin v (froz_rep ex hr r' _ _ _ _ hv e4)
          | bk σ' => cases e3
          | ct σ' => cases e3
    · refine ⟨ro, rw, hr, ?_⟩
      cases e1 : exSs (callN Tb n) ro mf.body (startD mf.ns ds) rw with
      | exc c p _ => rw [e1] at hs; exact hs.elim
      | err => rw [e1] at hs; exact hs.elim
      | ok fl rw' =>
        rw [e1] at hs
        intro m' H' ex r'
        cases fl with
        | nx σ' => exact fun s' _ => hs m' H' ex r' _ .non
        | rt dd => exact fun v hv => hs m' H' ex r' v hv
        | bk σ' => exact hs.elim
        | ct σ' => exact hs.elim
  · exact hs.elim
theorem start_rel {K : PySem.W.Frag} {m : Wd} {H : Hp} {ds : List D} {vs : List V} (r : Reps K m H ds vs) : SRel K m H (startD N.length ds) (L2.start N vs) := by
  have hl := r.length
  refine ⟨by unfold startD L2.start; simp [hl], fun i d e => ?_⟩
  unfold startD at e
  by_cases z : i < ds.length
  · rw [List.getElem?_append_left (by simpa using z), List.getElem?_map] at e
    obtain ⟨d', e1, e2⟩ := Option.map_eq_some_iff.mp e
    cases e2
    obtain ⟨v, h1, h2⟩ := r.get e1
    refine ⟨v, ?_, h2⟩
    unfold L2.start
    rw [List.getElem?_append_left (by rw [List.length_map, ← hl]; exact z), List.getElem?_map, h1]
    rfl
  · rw [List.getElem?_append_right (by simpa using z), List.getElem?_replicate] at e
    split at e <;> cases e
theorem fng_of {Tb : Tab} {n : Nat} {P : Program} {w : World} {K : PySem.W.Frag} {mg : Str → Option Value} {base : Heap} {f : Addr} {name qual x : Str} {params : Arguments} {body : List Stmt} {scope : Scope} {dV kV doc pm cdv ct oc : Value} {an od : Option Addr} {osl : Array (Option Value)} {ps : List Str} {mf : MF}
    (lk : K.lookup f = some ⟨oc, od, .func (PySem.W.fnOf name qual params body scope dV kV doc pm an cdv ct), osl⟩) (hcd : PySem.W.codeIn K cdv qual = true) (S : FnScope N ps scope) (hT : Tb x = some mf) (hns : mf.ns = N.length)
    (hG : GOk T P w K mg base G (callN Tb n) k) (hlam : G.lam = true → LamAt T base mg cdv (qual ++ ".<locals>.")) (hb : SSs T G (callN Tb n) k N scope mf.body body) : FnG P w K mg base (k + 1) f (PySem.W.fnOf name qual params body scope dV kV doc pm an cdv ct) ps (spM T K (callN Tb (n + 1)) x ps.length) := by
  refine ⟨fun vs H Q h => h.1, fun A outer s H args us vs Q hr hg e0 hbd r hsp => ?_⟩
  obtain ⟨hl, ro, rw, m, ds, hrel, reps, hs⟩ := hsp
  have KX : K.In s.heap := e0.mod.kin.keeps fun b o e => (e0.bs b o e).1
  have lim : s.heap.NoLimit := e0.mod.nolimit.keeps fun b o e => (e0.bs b o e).1
  have hkind : ∀ y ∈ ps.zip us, scope.names.lookup y.1 = some .local ∨ (scope.names.lookup y.1 = some .cell ∧ ((cellsFrom (s.heap.objs.size + 1) scope.names []).lookup y.1).isSome = true) := by
    rintro ⟨y, v⟩ hy
    rcases S.par y (List.of_mem_zip hy).1 with q | q
    · exact .inl q
    · exact .inr ⟨q, PySem.W.cellsFrom_some _ _ _ (.inl q)⟩
  refine codeAny_call_function hr.depth (KX _ _ lk) rfl S.co S.gen rfl (PySem.W.codeRec_of KX hcd) (hbd _ _ _ _ ?_)
  refine wpAny_newFunctionEnv_cells S.kind hkind fun env he s1 st => ?_
  subst he
  refine ⟨lim.keeps st.toInCall.keep, codeAny_func ?_⟩
  -- the body's context: no exception leaves it
  let X0 : Cx := cxOf (fun _ _ _ _ _ _ => False) P w K mg base N qual scope f cdv A outer s H fun _ _ _ => False
  have I : Inv X0 [] (L2.start N vs) H s1 := inv_start S hr.hd e0 hl r st
  have I' : Inv X0.nox [] (L2.start N vs) H s1 := I.wish _
  have hX : HereS T G (callN Tb n) k N scope X0.nox := ⟨⟨⟨S.nd, rfl, hr.deeper _, hg⟩, rfl, rfl, hG, hlam⟩, fun _ _ => .inl rfl, .never⟩
  obtain ⟨l1, l2, ro', rw', hr2, hs2⟩ := sat_body hT hrel hs
  rw [hns] at hs2
  have run := hb X0.nox hX ro' rw' _ _ m H { nx := fun _ H' => Q .non H', rt := Q } (start_rel reps) hr2 hs2 [] s1 I'
  refine wpAny_mono run (fun fl s' hs => ?_) fun e s' hs => hs.elim
  have fin : ∀ {σ' : L2.St} {H' : Hp} {v : V} {u : Value}, Inv X0.nox [] σ' H' s' → RelV v u → Q v H' → CE outer P w H s Q u s' := fun {σ' H' v u} J rv q => ⟨v, H', J.os, J.bare, J.base, J.hok, rv, q⟩
  cases fl with
  | ret u =>
    obtain ⟨v, σ', H', J, rv, q⟩ := hs
    exact fin J rv q
  | next =>
    obtain ⟨σ', H', J, q⟩ := hs
    exact fin (v := V.non) (u := Value.none) J rfl q
  | brk =>
    obtain ⟨_, _, _, q⟩ := hs
    exact q.elim
  | cont =>
    obtain ⟨_, _, _, q⟩ := hs
    exact q.elim
end
end Mx

set_option Elab.async false
set_option linter.all false
set_option maxRecDepth 100000
set_option maxHeartbeats 1000000
/-! Mx, part O: list(range), methods of lists, displays of dicts. -/
namespace Mx
open PySem L2 PySem.Spec PyProof.Rows

section
variable {T : Tbs} {G : Glob} {C : Calls} {k : Nat} {N : List Str} {sc : Scope}
/-! ### list(range(..)) -/
theorem rgReps {K : PySem.W.Frag} {m : Wd} {H : Hp} (a b : Int) : Reps K m H (rangeD a b) (rgV a b) := by
  unfold rangeD rgV
  generalize List.range (b - a).toNat = l
  induction l with
  | nil => exact .nil
  | cons i l ih => exact .cons (.int _) ih
theorem se_lrange1 {a : ME} {ea : Expr} {mu : Bool} {p p2 pos2 pos : Pos} (ha : SE T G C k N sc a ea) (hs : isStar ea = false) (hg : sc.names.lookup ("list" : Str) = some .globalImplicit) (hg2 : sc.names.lookup ("range" : Str) = some .globalImplicit) :
    SE T G C k N sc (.blt mu .lrange1 [a]) (.Call (.Name "list" p) [.Call (.Name "range" p2) [ea] [] pos2] [] pos) := fun X hX ro rw σ s ma H Q rs hr q => by
  refine PE.le (pe_listRg hX.ctx.calm (gl_of hX hg) (hX.glob.blt _ (by decide +kernel)) (prg_1 (gl_of hX hg2) (hX.glob.blt _ (by decide +kernel)) pe_w (star_each hs)) rfl) ?_
  have q0 : Sat T X.K ro ma H (M.bind (M.bind (evE C ro a σ) fun d => M.pure [d]) (fun ds => fun rw => M.bind (M.lift (bltop ro rw .lrange1 ds)) (alloc ro mu) rw) rw) (VP X.K Q) := q
  refine ha X hX ro rw σ s ma H _ rs hr ((Sat.bind (Sat.bind q0)).mono fun x rw1 m1 H1 e1 r1 q1 v hv => ?_)
  have q2 := Sat.ok q1 r1
  obtain ⟨d, ed, g⟩ := Sat.lift (Sat.bind q2)
  have g := g m1 H1 (.refl _ _) r1
  cases hv with
  | int n =>
    have ed : (if rangeOk 0 n then some (D.lst (rangeD 0 n)) else none) = some d := ed
    split at ed
    · rename_i z
      cases ed
      exact ⟨n, rfl, rangeOk_of z, fun p hp => Made.lst g r1 (rgReps 0 n) p hp⟩
    · cases ed
  | _ => cases ed
/-! ### methods of lists -/
def isCall : Expr → Bool
  | .Call _ _ _ _ => true
  | _ => false
theorem att_base {o : Expr} (h : isCall o = false) (n : Str) (env : Env) (w : Sem Value) : attributeBase o n env w = w := by
  cases o <;> first | rfl | cases h
theorem few1 {e : Expr} {env : Env} {cpos : Pos} (hs : isStar e = false) : ((backTo cpos (starEach [e] env)).all (fun x => !x.1) && (backToKw cpos (keywordEach [] env)).all (fun x => x.1.isSome) && decide (([e] : List Expr).length + ([] : List Keyword).length + (if ([] : List Keyword).isEmpty then 0 else 1) < 30)) = true := by
  rw [star_each hs]; rfl
theorem chk_at {K : PySem.W.Frag} {ro rw : MH} {m : Wd} {H : Hp} {x : D} {v : V} {α : Type} {f : M α} {P : α → MH → Wd → Hp → Prop} (hr : HRel T K m (ro ++ rw) H) (p : Rep K m H x v) (h : Sat T K ro m H (M.bind (chkL ro x) (fun _ => f) rw) P) : tyV K "list" v H ∧ Sat T K ro m H (f rw) P := by
  unfold M.bind chkL at h
  cases e : lstOf ro rw x with
  | none => rw [e] at h; exact h.elim
  | some xs =>
    rw [e] at h
    obtain ⟨a, vs, rfl, h1, h2⟩ := hr.lst e p
    exact ⟨.inl ⟨rfl, vs, SqL.of h1⟩, h⟩
theorem se_append {o m : ME} {eo e : Expr} {apos cpos : Pos} (ho : SE T G C k N sc o eo) (he : SE T G C k N sc m e) (hs : isStar e = false) (hc : isCall eo = false) (hl : (apos.endLine == cpos.line) = true) : SE T G C k N sc (.append o m) (.Call (.Attribute eo "append" apos) [e] [] cpos) := fun X hX ro rw σ s ma H Q rs hr q => by
  refine PE.le (pe_bm PySem.F.plainAttrs_list PySem.F.slot_list_append PySem.F.type_list_append mt_w pe_w (pa_cons pe_w pa_nil (star_each hs)) (att_base hc _ _ _) (few1 hs) hl (star_each hs) rfl) ?_
  refine ho X hX ro rw σ s ma H _ rs hr ((Sat.bind q).mono fun x rw1 m1 H1 e1 r1 q1 v hv => ?_)
  obtain ⟨ty, q2⟩ := chk_at r1 hv q1
  refine ⟨ty, he X hX ro rw1 σ s m1 H1 _ (rs.ext e1.toExtW hr.noTup) r1 ((Sat.bind q2).mono fun y rw2 m2 H2 e2 r2 q3 u hu => ?_)⟩
  obtain ⟨l, el, q4⟩ := Sat.lift (Sat.bind q3)
  cases x with
  | ref l' =>
    cases el
    exact append_ok r2 (hv.ext e2.toExtW r1.noTup) hu (Sat.bind (q4 m2 H2 (.refl _ _) r2)) fun rw' m' H' q5 r5 => Sat.ok q5 r5 _ .non
  | _ => cases el
theorem se_popAt {o i : ME} {eo ei : Expr} {apos cpos : Pos} (ho : SE T G C k N sc o eo) (hi : SE T G C k N sc i ei) (hs : isStar ei = false) (hc : isCall eo = false) (hl : (apos.endLine == cpos.line) = true) : SE T G C k N sc (.popAt o i) (.Call (.Attribute eo "pop" apos) [ei] [] cpos) := fun X hX ro rw σ s ma H Q rs hr q => by
  refine PE.le (pe_bm PySem.F.plainAttrs_list PySem.F.slot_list_pop PySem.F.type_list_pop mt_w pe_w (pa_cons pe_w pa_nil (star_each hs)) (att_base hc _ _ _) (few1 hs) hl (star_each hs) rfl) ?_
  refine ho X hX ro rw σ s ma H _ rs hr ((Sat.bind q).mono fun x rw1 m1 H1 e1 r1 q1 v hv => ?_)
  obtain ⟨ty, q2⟩ := chk_at r1 hv q1
  refine ⟨ty, hi X hX ro rw1 σ s m1 H1 _ (rs.ext e1.toExtW hr.noTup) r1 ((Sat.bind q2).mono fun y rw2 m2 H2 e2 r2 q3 u hu => ?_)⟩
  obtain ⟨l, el, q4⟩ := Sat.lift (Sat.bind q3)
  obtain ⟨j, ej, q5⟩ := Sat.lift (Sat.bind (q4 m2 H2 (.refl _ _) r2))
  have q6 := q5 m2 H2 (.refl _ _) r2
  cases x with
  | ref l' =>
    cases el
    cases hu with
    | int j' =>
      cases ej
      cases g : getO ro rw2 l with
      | none => simp only [g] at q6; exact q6.elim
      | some ob =>
        cases ob with
        | lst xs =>
          simp only [g] at q6
          split at q6
          · rename_i z
            simp only [Bool.and_eq_true, decide_eq_true_eq] at z
            cases ix : ixN xs.length j with
            | none => simp only [ix] at q6; exact q6.elim
            | some jj =>
              simp only [ix] at q6
              cases gz : xs[jj]? with
              | none => simp only [gz] at q6; exact q6.elim
              | some zd =>
                simp only [gz] at q6
                obtain ⟨o, nw, hl2, h2, h3, h4⟩ := upO_at (Sat.bind q6)
                cases h3
                rw [g] at h2; cases h2
                obtain ⟨a, rfl, ha, ys, y1, y2⟩ := r2.of_ref g (hv.ext e2.toExtW r1.noTup)
                obtain ⟨zv, g1, g2⟩ := y2.get gz
                obtain ⟨ee, r3⟩ := own_set (o := .lst (ys.eraseIdx jj)) (mo := .lst (xs.eraseIdx jj)) r2 hl2 ha y1 rfl fun e => ⟨_, upd_same, (y2.ext e.toExtW r2.noTup).erase jj⟩
                have hix := (ixN_seq ix).1
                rw [y2.length] at hix
                exact MtM.le mt_popAt ⟨a, ys, j, jj, zv, rfl, rfl, y1, z.1, z.2, hix, g1, Sat.ok (h4 _ _ ee r3) r3 _ (g2.ext ee.toExtW r2.noTup)⟩
          · exact q6.elim
        | dK _ => simp only [g] at q6; exact q6.elim
        | dT _ => simp only [g] at q6; exact q6.elim
    | _ => cases ej
  | _ => cases el
/-- a module's tuple of ints: .index -/
theorem mt_tindex {X : Cx} : MtR X "tuple.index" (fun x xs H Q => ∃ (a : Addr) (ns : List Int) (i : Int), x = .ref a ∧ xs = [.int i] ∧ SqT X.K H a (ns.map .int) ∧ i ∈ ns ∧ Q (.int (ns.idxOf i : Nat)) H) := by
  intro pins s σ H x xs v us Q I rx rs h
  obtain ⟨a, ns, i, rfl, rfl, hT, hi, q⟩ := h
  cases rx
  obtain ⟨u, rfl, ru⟩ := vals1 rs
  obtain ⟨t, rfl⟩ := ru
  obtain ⟨its, r, p, _⟩ := I.tuple hT
  exact PySem.SeqAt.tuple_index_ints (show s.heap.IsTuple a its.toArray from p) r.ints hi ⟨.int _, H, I.tok _, ⟨_, rfl⟩, q⟩
theorem kints {K : PySem.W.Frag} : ∀ {ns : List Int} {vs : List V}, KReps K (ns.map .int) vs → vs = ns.map .int
  | [], _, .nil => rfl
  | n :: ns, _, .cons h t => by
    cases h
    rw [kints t]; rfl
theorem se_idx {x : Str} {ns : List Int} {m : ME} {e : Expr} {p apos cpos : Pos} (hg : sc.names.lookup x = some .globalImplicit) (hk : okName x = true) (hc : (x, D.tup false (ns.map .int)) ∈ G.cst) (he : SE T G C k N sc m e) (hs : isStar e = false) (hl : (apos.endLine == cpos.line) = true) :
    SE T G C k N sc (.idx ns m) (.Call (.Attribute (.Name x p) "index" apos) [e] [] cpos) := fun X hX ro rw σ s ma H Q rs hr q => by
  obtain ⟨u, v, h1, h2, h3⟩ := hX.glob.cst x _ hc
  cases h3 with
  | @tup a _ vs o its n g1 g2 g3 g4 g5 g6 g7 =>
    have ev := kints g7
    subst ev
    refine PE.le (pe_bm PySem.F.plainAttrs_tuple PySem.F.slot_tuple_index PySem.F.type_tuple_index mt_tindex (pe_glob (gl_of hX hg) h1 h2 (okName_d hk)) (pa_cons pe_w pa_nil (star_each hs)) (att_base rfl _ _ _) (few1 hs) hl (star_each hs) rfl) ?_
    refine ⟨.inr (.inl ⟨rfl, o, g1, g2, g3⟩), he X hX ro rw σ s ma H _ rs hr ((Sat.bind q).mono fun y rw1 m1 H1 e1 r1 q1 w hw => ?_)⟩
    obtain ⟨r, er, q2⟩ := Sat.lift q1
    obtain ⟨i, ei, er1⟩ := Option.bind_eq_some_iff.mp er
    cases hw with
    | int i' =>
      have ei : i' = i := Option.some.inj ei
      subst ei
      split at er1
      · rename_i z
        cases er1
        exact ⟨a, ns, i', rfl, rfl, .inr ⟨o, its, n, g1, g2, g4, g5, g6⟩, z, q2 m1 H1 (.refl _ _) r1 _ (.int _)⟩
      · cases er1
    | _ => cases ei
/-! ### dict displays -/
def delH (H : Hp) (p : Addr) : Hp := fun a => if a = p then none else H a
theorem delH_ne {H : Hp} {p a : Addr} (h : a ≠ p) : delH H p a = H a := if_neg h
theorem delH_same {H : Hp} {p : Addr} : delH H p p = none := if_pos rfl
theorem upd_delH {H : Hp} {p : Addr} {o : HO} : upd (delH H p) p o = upd H p o := by
  funext a
  unfold upd delH
  split
  · rfl
  · rfl
theorem extW_del {m : Wd} {H : Hp} {p : Addr} : ExtW (m.hide p) H m (delH H p) :=
  ⟨⟨[], by show m.r = m.r ++ []; simp⟩, fun a ha => .inl (hide_mem ha), fun a w hw hb _ => ⟨w, by rw [delH_ne (fun z => hb (by rw [z]; exact hide_self))]; exact hw, rfl⟩⟩
theorem HRel.del {K : PySem.W.Frag} {m : Wd} {h : MH} {H : Hp} {p : Addr} {u : HO} (r : HRel T K (m.hide p) h H) (hp : H p = some u) (hu : isOwn u = true) (hx : p ∉ m.x) : HRel T K m h (delH H p) := by
  have hn : p ∉ m.r := (r.hid p List.mem_cons_self).1
  refine ⟨?_, r.len, r.nd, fun a ha => ?_, fun l mo a h1 h2 => ?_⟩
  · intro q hq
    obtain ⟨ps, h1, h2, h3⟩ := r.tabs q hq
    have n1 : q.1 ≠ p := fun z => by rw [z, hp] at h1; cases h1; cases hu
    refine ⟨ps, by rw [delH_ne n1]; exact h1, h2, fun pos cv hcv => ?_⟩
    obtain ⟨c, ec, hc⟩ := h3 pos cv hcv
    refine ⟨c, ec, ?_⟩
    rw [delH_ne fun z => ?_]
    · exact hc
    · rw [z, hp] at hc; cases hc; cases hu
  · obtain ⟨q1, w, q2, q3⟩ := r.hid a (List.mem_cons_of_mem _ ha)
    exact ⟨q1, w, by rw [delH_ne (fun z => hx (by rw [← z]; exact ha))]; exact q2, q3⟩
  · exact (r.ob l mo a h1 h2).ext extW_del r.noTup (delH_ne fun z => hn (by rw [← z]; exact List.mem_of_getElem? h2))
theorem ext_del {ma m : Wd} {H0 H : Hp} {p : Addr} {o : HO} (hp : H0 p = none) (e : Ext (ma.hide p) (upd H0 p o) (m.hide p) H) : Ext ma H0 m (delH H p) := by
  have n : ∀ a w, H0 a = some w → a ≠ p := fun a w h z => by rw [z, hp] at h; cases h
  have old : ∀ a w, H0 a = some w → upd H0 p o a = some w := fun a w h => by rw [upd_ne (n a w h)]; exact h
  have out : ∀ a w, H0 a = some w → a ∉ ma → a ∉ ma.hide p := fun a w h hm z => by
    rcases z with z | z
    · exact hm (.inl z)
    · rcases List.mem_cons.mp z with z | z
      · exact n a w h z
      · exact hm (.inr z)
  have sm : ∀ a w, H0 a = some w → a ∉ ma → (∀ ps, w ≠ .tbl ps) → delH H p a = some w := fun a w h hm ht => by
    rw [delH_ne (n a w h)]; exact e.same a w (old a w h) (out a w h hm) ht
  have hx : m.x = ma.x := by
    have z : p :: m.x = p :: ma.x := e.hid
    exact (List.cons.inj z).2
  refine ⟨⟨e.pre, fun a ha => ?_, fun a w h hm ht => ⟨w, sm a w h hm ht, rfl⟩⟩, fun a ob w h => by rw [delH_ne (n a _ h)]; exact e.frz a ob w (old a _ h), sm, hx, fun a ha w h => by rw [delH_ne (n a w h)]; exact e.hsame a (List.mem_cons_of_mem _ ha) w (old a w h)⟩
  by_cases z : a = p
  · subst z; exact .inr (.inl hp)
  · rcases e.fresh a (hide_mem ha) with q | q | ⟨ps, q⟩
    · rcases q with q | q
      · exact .inl (.inl q)
      · rcases List.mem_cons.mp q with q | q
        · exact absurd q z
        · exact .inl (.inr q)
    · rw [upd_ne z] at q; exact .inr (.inl q)
    · rw [upd_ne z] at q; exact .inr (.inr ⟨ps, q⟩)
theorem merge_put {K : PySem.W.Frag} {m : Wd} {H : Hp} {κ : Type} [DecidableEq κ] : ∀ {ps : List (κ × D)} {qs : List (κ × V)} {acc : List (κ × D)} {bcc : List (κ × V)}, ps.map (·.1) = qs.map (·.1) → Reps K m H (ps.map (·.2)) (qs.map (·.2)) → acc.map (·.1) = bcc.map (·.1) → Reps K m H (acc.map (·.2)) (bcc.map (·.2)) →
    (mergeD acc ps).map (·.1) = (qs.foldl (fun a p => putK a p.1 p.2) bcc).map (·.1) ∧ Reps K m H ((mergeD acc ps).map (·.2)) ((qs.foldl (fun a p => putK a p.1 p.2) bcc).map (·.2))
  | [], [], _, _, _, _, h1, h2 => ⟨h1, h2⟩
  | [], _ :: _, _, _, e, _, _, _ => nomatch e
  | _ :: _, [], _, _, e, _, _, _ => nomatch e
  | (k, d) :: ps, (k', v) :: qs, acc, bcc, e, r, h1, h2 => by
    simp only [List.map_cons, List.cons.injEq] at e
    obtain ⟨ek, e⟩ := e
    have ek : k = k' := ek
    subst ek
    simp only [List.map_cons] at r
    cases r with
    | cons h t =>
      obtain ⟨i1, i2⟩ := kput_put k h1 h2 h
      have z := merge_put e t i1 i2
      exact z
/-- a display's pairs, from the left -/
def pairE : List (Expr × Expr) → List Expr
  | [] => []
  | (a, b) :: r => a :: b :: pairE r
theorem pairs_at {X : Cx} (hX : Here T G C k N sc X) {pos : Pos} : ∀ (prs : List (Expr × Expr)) {ms : List ME}, All2 (SE T G C k N sc) ms (pairE prs) → ∃ trs, PPs X pos (prs.map fun p => some p.1) (prs.map (·.2)) trs ∧ ∀ {ro rw : MH} {σ : Sig} {s : L2.St} {ma : Wd} {H : Hp} {Q : List (V × V) → Hp → Prop}, SRel X.K ma H σ s → HRel T X.K ma (ro ++ rw) H →
    Sat T X.K ro ma H (evEs C ro ms σ rw) (fun ds _ m' H' => ∀ ps : List (V × V), Reps X.K m' H' ds (ps.flatMap fun p => [p.1, p.2]) → Q ps H') → tPairs trs s H Q
  | [], _, .nil => ⟨[], pps_nil, fun rs hr h => Sat.ok h hr [] .nil⟩
  | (a, b) :: r, _, @All2.cons _ _ _ m1 _ _ _ h1 (@All2.cons _ _ _ m2 _ ms _ h2 t) => by
    obtain ⟨trs, p1, p2⟩ := pairs_at hX r t
    refine ⟨(wE X a, wE X b) :: trs, pps_cons pe_w pe_w p1, fun {ro rw σ s ma H Q} rs hr h => ?_⟩
    refine h1 X hX ro rw σ s ma H _ rs hr ((Sat.bind h).mono fun x rw1 w1 H1 e1 r1 q1 v hv => ?_)
    have rs1 := rs.ext e1.toExtW hr.noTup
    refine h2 X hX ro rw1 σ s w1 H1 _ rs1 r1 ((Sat.bind (Sat.bind q1)).mono fun y rw2 w2 H2 e2 r2 q2 u hu => ?_)
    refine p2 (rs1.ext e2.toExtW r1.noTup) r2 ((Sat.bind q2).mono fun ds rw3 w3 H3 e3 r3 q3 ps hps => ?_)
    have q4 := Sat.ok (Sat.ok q3 r3) r3
    exact q4 ((v, u) :: ps) (.cons ((hv.ext e2.toExtW r1.noTup).ext e3.toExtW r2.noTup) (.cons (hu.ext e3.toExtW r2.noTup) hps))
theorem flat_pairs {K : PySem.W.Frag} {m : Wd} {H : Hp} : ∀ {ps : List (V × V)} {ds : List D} {prs : List (D × D)} {kvs : List (Key × D)}, Reps K m H ds (ps.flatMap fun p => [p.1, p.2]) → pairUp ds = some prs → allK prs = some kvs →
    ∃ ws : List (Key × V), ps = ws.map (fun kv => (kV kv.1, kv.2)) ∧ kvs.map (·.1) = ws.map (·.1) ∧ Reps K m H (kvs.map (·.2)) (ws.map (·.2)) ∧ 2 * ws.length = ds.length
  | [], _, prs, kvs, .nil, e1, e2 => by cases e1; cases e2; exact ⟨[], rfl, rfl, .nil, rfl⟩
  | (v, u) :: ps, _, prs, kvs, .cons (d := d1) h1 (.cons (d := d2) (ds := ds) h2 t), e1, e2 => by
    have e1 : (pairUp ds).map ((d1, d2) :: ·) = some prs := e1
    obtain ⟨r, e3, rfl⟩ := Option.map_eq_some_iff.mp e1
    unfold allK at e2
    split at e2
    · rename_i kk rr g1 g2
      cases e2
      obtain ⟨ws, i1, i2, i3, i4⟩ := flat_pairs t e3 g2
      have ev : v = kV kk := by cases h1 <;> simp only [keyOf, reduceCtorEq, Option.some.injEq] at g1 <;> subst g1 <;> rfl
      exact ⟨(kk, u) :: ws, by simp [i1, ev], by simp [i2], .cons h2 i3, by simp only [List.length_cons]; omega⟩
    · cases e2
theorem se_dct {mu : Bool} {ms : List ME} {prs : List (Expr × Expr)} {pos : Pos} (h : All2 (SE T G C k N sc) ms (pairE prs)) (h0 : prs ≠ []) (h15 : prs.length ≤ 15) : SE T G C k N sc (.dct mu ms) (.Dict (prs.map fun p => some p.1) (prs.map (·.2)) pos) := fun X hX ro rw σ s ma H Q rs hr q => by
  obtain ⟨trs, p1, p2⟩ := pairs_at hX (pos := pos) prs h
  refine PE.le (pe_disp p1 (by simp) (by simp) (by simpa using h0) (by simpa using h15)) fun p hp => ?_
  have q0 : Sat T X.K ro ma H (M.bind (evEs C ro ms σ) (fun ds => if decide (ds.length ≤ 30) then (match (pairUp ds).bind allK with
    | some kvs => alloc ro mu (.dK (mergeD [] kvs))
    | none => M.err) else M.err) rw) (VP X.K Q) := q
  cases e0 : evEs C ro ms σ rw with
  | exc c p' h' => unfold M.bind at q0; rw [e0] at q0; exact q0.elim
  | err => unfold M.bind at q0; rw [e0] at q0; exact q0.elim
  | ok ds rw2 =>
    rw [bind_ok e0] at q0
    have hr1 : HRel T X.K (ma.hide p) (ro ++ rw) (upd H p (.dK [])) := hr.hide hp rfl
    have hpx : p ∉ ma.x := fun z => by
      obtain ⟨_, u, hu, _⟩ := hr.hid p z
      rw [hp] at hu; cases hu
    refine p2 (rs.ext (extW_hide hp) hr.noTup) hr1 ((Sat.eq e0).mono fun ds' rw' m' H' e1 r1 ⟨z1, z2⟩ ps hps => ?_)
    rw [← z1, ← z2] at q0
    have hD : H' p = some (.dK []) := e1.hsame p List.mem_cons_self _ upd_same
    refine ⟨hD, ?_⟩
    have em : m' = (⟨m'.r, ma.x⟩ : Wd).hide p := by
      obtain ⟨r', x'⟩ := m'
      have z : x' = p :: ma.x := e1.hid
      subst z; rfl
    rw [em] at e1 r1 hps
    generalize (⟨m'.r, ma.x⟩ : Wd) = m0 at *
    have hx0 : m0.x = ma.x := by
      have z : p :: m0.x = p :: ma.x := e1.hid
      exact (List.cons.inj z).2
    have b1 : Ext ma H m0 (delH H' p) := ext_del hp e1
    have b2 : HRel T X.K m0 (ro ++ rw') (delH H' p) := r1.del hD rfl (by rw [hx0]; exact hpx)
    have hps2 := hps.ext extW_del r1.noTup
    split at q0
    · rename_i zl
      have zl := of_decide_eq_true zl
      cases eb : (pairUp ds').bind allK with
      | none => rw [eb] at q0; exact q0.elim
      | some kvs =>
        rw [eb] at q0
        obtain ⟨prd, g1, g2⟩ := Option.bind_eq_some_iff.mp eb
        obtain ⟨ws, w1, w2, w3, w4⟩ := flat_pairs hps2 g1 g2
        refine ⟨ws, w1, by omega, ?_⟩
        have mg := merge_put (acc := []) (bcc := []) w2 w3 rfl .nil
        have z := Made.dK (Sat.move q0 b1) b2 mg.1 mg.2 p delH_same
        rw [upd_delH] at z
        exact z
    · exact q0.elim
end
end Mx

set_option Elab.async false
set_option linter.all false
set_option maxRecDepth 100000
set_option maxHeartbeats 1000000
/-! Mx, part P: dicts of pairs, of two sequences. -/
namespace Mx
open PySem L2 PySem.Spec PyProof.Rows

section
variable {T : Tbs} {G : Glob} {C : Calls} {k : Nat} {N : List Str} {sc : Scope}
theorem kt_fold {H : Hp} : ∀ {ps : List (List Key × V)} {qs : List (List Key × Addr × Value)} {acc : List (List Key × V)} {bcc : List (List Key × Addr × Value)}, KT H ps qs → KT H acc bcc → KT H (ps.foldl (fun a p => putK a p.1 p.2) acc) (PySem.storedAllH bcc qs)
  | [], _, _, _, .nil, h => h
  | p :: ps, q :: qs, acc, bcc, .cons r t, h => by
    obtain ⟨e1, e2, e3⟩ := r
    have z := kt_fold t (h.put p.1 e2 e3)
    have w : PySem.storedAllH bcc (q :: qs) = PySem.storedAllH (storedH bcc q.1 q.2.1 q.2.2) qs := rfl
    rw [w, ← e1]
    exact z
theorem fold_len {κ : Type} [DecidableEq κ] : ∀ (ps acc : List (κ × V)), (ps.foldl (fun a p => putK a p.1 p.2) acc).length ≤ acc.length + ps.length
  | [], acc => by simp
  | p :: ps, acc => by
    have h := fold_len ps (putK acc p.1 p.2)
    have h2 := length_putK acc p.1 p.2
    simp only [List.foldl_cons, List.length_cons]
    omega
/-- dict(x), x whatever gives pairs whose keys are tracked tuples -/
theorem dictT_call {X : Cx} (c : Ctx X k) {pins : List (Addr × Obj)} {s : Shared} {σ : L2.St} {H : Hp} (I : Inv X pins σ H s) {Tn : String} {a : Addr} {fp wr : List Addr} {n : Nat} {Rel : Nat → Value → Value → Prop} {OK : Heap → Prop} (P : PairArg X.prog X.w Tn a fp wr n Rel OK) (ok : OK s.heap)
    {prs : List (List Key × V)} {psH : List (List Key × Addr × Value)} (kt : KT H prs psH) (hc : PairsHaveH (tupleKind (mixKind X.prog X.w)) n Rel psH) (hw : ∀ b ∈ wr, FpOk X pins H b) (hz : n ≤ sizeLine) {Q : VK} (q : ∀ p, H p = none → Q (.ref p) (upd H p (.dT (prs.foldl (fun a p => putK a p.1 p.2) [])))) :
    wpAny (model X.prog X.w) X.A (call (.type "dict") [.ref a]) (EP X pins σ Q) X.xe s := by
  have hu := c.hu
  have isk : ∀ {l : List (List Key × V)} {m : List (List Key × Addr × Value)}, KT H l m → ∀ h' : Heap, (∀ b o, b ≠ s.heap.objs.size → b ∉ wr → s.heap.get? b = some o → h'.get? b = some o) → ∀ x ∈ m, (tupleKind (mixKind X.prog X.w)).is h' x.1 x.2.1 := by
    intro l m r h' hk
    induction r with
    | nil => intro x hx; simp at hx
    | @cons p y ps ys hp t ih =>
      intro x hx
      rcases List.mem_cons.mp hx with rfl | hx
      · obtain ⟨e1, e2, _⟩ := hp
        rw [e1] at e2
        obtain ⟨o, its, n', h1, h2, h3, h4⟩ := key_of I.hok e2
        refine ⟨o, its, n', hk _ _ (Nat.ne_of_lt (I.hok.lt e2)) (fun z => ?_) h1, h2, h3, h4⟩
        rw [(hw _ z).1] at e2; cases e2
      · exact ih x hx
  refine PySem.call_dict_pairsH P (I.ok.hd c.calm) (by show X.A.units + 1 + 1 < cLine; omega) ok hc (fun h' hk => isk kt h' hk) hz fun h' tk dd hk => ?_
  obtain ⟨o, es, ep, g1, g2, g3, g4, _, g5⟩ := dd
  have hp : H s.heap.objs.size = none := I.hok.fresh (Nat.le_refl _)
  have fin := kt_fold kt (acc := []) (bcc := []) .nil
  have hlen := fold_len prs []
  have hpl : prs.length = n := by rw [Paired.length kt]; exact hc.1
  have hsys : (s.heap.objs.size == sysModules) = false := by
    have := I.big
    exact beq_eq_false_iff_ne.mpr (Nat.ne_of_gt this)
  have new : ObjOk X.prog X.w (upd H s.heap.objs.size (.dT (prs.foldl (fun a p => putK a p.1 p.2) []))) h' s.heap.objs.size (.dT (prs.foldl (fun a p => putK a p.1 p.2) [])) :=
    ⟨by simp at hlen; omega, hsys, _, fin.keeps fun b ys e => by rw [upd_ne (ne_of_none e hp)]; exact e, o, es, ep, g1, g2, g3, g4, g5⟩
  exact ⟨.ref s.heap.objs.size, _, I.turnedNew (t' := tk) (ch := wr) (fun b o' hb e => hk b o' hb e) hw (Nat.le_refl _) new, rfl, q _ hp⟩
/-! ### a list of pairs -/
theorem pair_at {K : PySem.W.Frag} {m : Wd} {H : Hp} {d : D} {v : V} {x y : D} (e : pairOf d = some (x, y)) (p : Rep K m H d v) : ∃ t a b, v = .ref t ∧ SqT K H t [a, b] ∧ Rep K m H x a ∧ Rep K m H y b := by
  unfold pairOf at e
  split at e
  · cases e
    cases p with
    | tup h1 h2 h3 =>
      obtain ⟨a, b, rfl, g1, g2⟩ := h3.two
      exact ⟨_, a, b, rfl, h1, g1, g2⟩
  · cases e
theorem key_tup {K : PySem.W.Frag} {m : Wd} {H : Hp} {d : D} {v : V} {ks : List Key} (e : (keyTup d).bind keysOf = some ks) (p : Rep K m H d v) : ∃ b, v = .ref b ∧ H b = some (.tup (ks.map kV)) := by
  obtain ⟨xs, e1, e2⟩ := Option.bind_eq_some_iff.mp e
  cases p with
  | @tup c a zs vs h1 h2 h3 =>
    cases c with
    | false => cases e1
    | true =>
      have e1 : zs = xs := Option.some.inj e1
      subst e1
      refine ⟨a, rfl, ?_⟩
      rw [← h3.keys e2]
      exact h2 rfl
  | _ => cases e1
theorem key_k {K : PySem.W.Frag} {m : Wd} {H : Hp} {d : D} {v : V} {kk : Key} (e : keyOf d = some kk) (p : Rep K m H d v) : v = kV kk := by
  cases p <;> simp only [keyOf, reduceCtorEq, Option.some.injEq] at e <;> subst e <;> rfl
theorem tpairs {X : Cx} {pins : List (Addr × Obj)} {s : Shared} {σ : L2.St} {m : Wd} {H : Hp} (I : Inv X pins σ H s) : ∀ {xs : List D} {prd : List (D × D)} {kvs : List (List Key × D)} {vs : List V}, Reps X.K m H xs vs → xs.mapM pairOf = some prd → allT prd = some kvs →
    ∃ (Tl : List Addr) (prs : List (List Key × V)) (psH : List (List Key × Addr × Value)), vs = Tl.map .ref ∧ Tl.length = psH.length ∧ KT H prs psH ∧ kvs.map (·.1) = prs.map (·.1) ∧ Reps X.K m H (kvs.map (·.2)) (prs.map (·.2)) ∧
      ∀ (j : Nat) x, psH[j]? = some x → ∃ t, Tl[j]? = some t ∧ IsTup s.heap t #[.ref x.2.1, x.2.2]
  | [], _, kvs, _, .nil, e1, e2 => by
    simp only [List.mapM_nil, Option.pure_def, Option.some.injEq] at e1
    subst e1
    cases e2
    exact ⟨[], [], [], rfl, rfl, .nil, rfl, .nil, fun j x h => by simp at h⟩
  | x :: xs, _, kvs, _, .cons h t, e1, e2 => by
    obtain ⟨⟨dk, dv⟩, bs, g1, g2, rfl⟩ := mapM_cons e1
    unfold allT at e2
    split at e2
    · rename_i ks rr k1 k2
      cases e2
      obtain ⟨Tl, prs, psH, i1, i2, i3, i4, i5, i6⟩ := tpairs I t g2 k2
      obtain ⟨ta, a, b, rfl, hT, ra, rb⟩ := pair_at g1 h
      obtain ⟨kb, rfl, hk⟩ := key_tup k1 ra
      obtain ⟨its, rv, p, _⟩ := I.tuple hT
      obtain ⟨u1, u2, rfl, r1, r2⟩ := vals2 rv
      cases (show u1 = Value.ref kb from r1)
      refine ⟨ta :: Tl, (ks, b) :: prs, (ks, kb, u2) :: psH, by simp [i1], by simp [i2], .cons ⟨rfl, hk, r2⟩ i3, by simp [i4], .cons rb i5, fun j x hx => ?_⟩
      cases j with
      | zero => cases hx; exact ⟨ta, rfl, p⟩
      | succ j => exact i6 j x hx
    · cases e2
theorem kpairs {K : PySem.W.Frag} {m : Wd} {H : Hp} : ∀ {xs : List D} {prd : List (D × D)} {kvs : List (Key × D)} {vs : List V}, Reps K m H xs vs → xs.mapM pairOf = some prd → allK prd = some kvs →
    ∃ (Tl : List Addr) (prs : List (Key × V)), vs = Tl.map .ref ∧ Paired (fun p kv => SqT K H p [kV kv.1, kv.2]) Tl prs ∧ kvs.map (·.1) = prs.map (·.1) ∧ Reps K m H (kvs.map (·.2)) (prs.map (·.2))
  | [], _, kvs, _, .nil, e1, e2 => by
    simp only [List.mapM_nil, Option.pure_def, Option.some.injEq] at e1
    subst e1
    cases e2
    exact ⟨[], [], rfl, .nil, rfl, .nil⟩
  | x :: xs, _, kvs, _, .cons h t, e1, e2 => by
    obtain ⟨⟨dk, dv⟩, bs, g1, g2, rfl⟩ := mapM_cons e1
    unfold allK at e2
    split at e2
    · rename_i kk rr k1 k2
      cases e2
      obtain ⟨Tl, prs, i1, i3, i4, i5⟩ := kpairs t g2 k2
      obtain ⟨ta, a, b, rfl, hT, ra, rb⟩ := pair_at g1 h
      rw [key_k k1 ra] at hT
      exact ⟨ta :: Tl, (kk, b) :: prs, by simp [i1], .cons hT i3, by simp [i4], .cons rb i5⟩
    · cases e2
theorem dpairs_ok {X : Cx} (c : Ctx X k) {ro rw : MH} {m : Wd} {H : Hp} {Q : VK} {x d : D} {v : V} {mu : Bool} (hr : HRel T X.K m (ro ++ rw) H) (p : Rep X.K m H x v) (e : bltop ro rw .dpairs [x] = some d) (g : Made T X.K ro rw m H mu d Q) : wC X (.type "dict") [v] H Q := by
  have e : ((lstOf ro rw x).bind fun xs => xs.mapM pairOf).bind dictFrom = some d := e
  obtain ⟨prd, e1, e2⟩ := Option.bind_eq_some_iff.mp e
  obtain ⟨xs, e3, e4⟩ := Option.bind_eq_some_iff.mp e1
  obtain ⟨a, vs, rfl, h1, h2⟩ := hr.lst e3 p
  unfold dictFrom at e2
  cases ek : allK prd with
  | some kvs =>
    rw [ek] at e2
    cases e2
    obtain ⟨Tl, prs, rfl, i1, i2, i3⟩ := kpairs h2 e4 ek
    have mg := merge_put (acc := []) (bcc := []) i2 i3 rfl .nil
    exact CallR.le (call_dictP c.calm) ⟨a, Tl, prs, rfl, SqL.of h1, i1, fun p hp => g.dK hr mg.1 mg.2 p hp⟩
  | none =>
    rw [ek] at e2
    obtain ⟨kvs, et, rfl⟩ := Option.map_eq_some_iff.mp e2
    intro pins s σ us I rx
    obtain ⟨u, rfl, ru⟩ := vals1 rx
    cases ru
    obtain ⟨Tl, prs, psH, rfl, i2, i3, i4, i5, i6⟩ := tpairs I h2 e4 et
    have mg := merge_put (acc := []) (bcc := []) i4 i5 rfl .nil
    obtain ⟨its, n0, rv, ho, hz⟩ := I.lst h1
    have eits := refs_at rv
    subst eits
    have hn : (psH.map fun x => (Value.ref x.2.1, x.2.2)).length = psH.length := by simp
    refine dictT_call c I (PairArg.list a (Tl.map Value.ref).toArray (fun j => Tl.getD j 0) (psH.map fun x => (Value.ref x.2.1, x.2.2))) ⟨⟨_, _, ho, rfl, rfl, rfl⟩, by simp [i2], fun j kk vv hj => ?_⟩ i3 ⟨by simp, fun j kk vv hj => ?_⟩ (fun b hb => by simp at hb) (by rw [hn, ← i2]; simpa using hz) fun p hp => g.dT hr mg.1 mg.2 p hp
    · rw [List.getElem?_map] at hj
      obtain ⟨x, hx, ex⟩ := Option.map_eq_some_iff.mp hj
      cases ex
      obtain ⟨t, ht, hT⟩ := i6 j x hx
      have hg : Tl.getD j 0 = t := by simp [ht]
      refine ⟨by simp [ht, hg], .inl ?_⟩
      show s.heap.IsTuple (Tl.getD j 0) _
      rw [hg]; exact hT
    · have hj : (psH.map fun x => (Value.ref x.2.1, x.2.2))[j]? = some (kk, vv) := hj
      rw [List.getElem?_map] at hj
      obtain ⟨x, hx, ex⟩ := Option.map_eq_some_iff.mp hj
      cases ex
      exact ⟨x.1, x.2.1, hx, rfl⟩
theorem boot_dict' : bootBuiltins "dict" = some (.type "dict") := by decide +kernel
theorem se_dpairs {m : ME} {e : Expr} {mu : Bool} {p pos : Pos} (ha : SE T G C k N sc m e) (hs : isStar e = false) (hg : sc.names.lookup ("dict" : Str) = some .globalImplicit) : SE T G C k N sc (.blt mu .dpairs [m]) (.Call (.Name "dict" p) [e] [] pos) := fun X hX ro rw σ s ma H Q rs hr q => by
  refine PE.le (pe_callTy call_w (gl_of hX hg) (hX.glob.blt _ (by decide +kernel)) boot_dict' (pa_cons pe_w pa_nil (star_each hs)) (by decide +kernel) (by decide +kernel) (star_each hs) rfl) ?_
  have q0 : Sat T X.K ro ma H (M.bind (M.bind (evE C ro m σ) fun d => M.pure [d]) (fun ds => fun rw => M.bind (M.lift (bltop ro rw .dpairs ds)) (alloc ro mu) rw) rw) (VP X.K Q) := q
  refine ha X hX ro rw σ s ma H _ rs hr ((Sat.bind (Sat.bind q0)).mono fun x rw1 m1 H1 e1 r1 q1 v hv => ?_)
  obtain ⟨d, ed, g⟩ := Sat.lift (Sat.bind (Sat.ok q1 r1))
  exact dpairs_ok hX.ctx r1 hv ed (g m1 H1 (.refl _ _) r1)
end
end Mx

set_option Elab.async false
set_option linter.all false
set_option maxRecDepth 100000
set_option maxHeartbeats 1000000
/-! Mx, part Q: dict(zip(..)) of lists and tuples. -/
namespace Mx
open PySem L2 PySem.Spec PyProof.Rows
open Builtin.SmallTypes (nextOf ownedTupleIsFree)

/-! ### a zip whose last pair is still held -/
section
variable {prog : Program} {w : World} {A : Around} {E : Value → Shared → Prop} {s : Shared} {z TI TO Tp i1 i2 : Addr} {fp1 fp2 : List Addr} {n1 n2 i : Nat} {P1 P2 : Nat → Value → Prop} {St1 St2 : Nat → Heap → Prop} {f : Bool} {oT : Obj}
theorem held_next (S : ZipSep2 z TI TO i1 i2 fp1 fp2) (D1 : Draws prog w A i1 fp1 n1 P1 St1) (D2 : Draws prog w A i2 fp2 n2 P2 St2) (hz : IsZipHeld s.heap z TI TO Tp f) (hT : s.heap.get? Tp = some oT) (hTI : IsTupOf2 s.heap TI (.ref i1) (.ref i2))
    (st1 : St1 i s.heap) (st2 : St2 i s.heap) (lt1 : i < n1) (lt2 : i < n2) {Q : Value → Shared → Prop}
    (done : ∀ x1 x2 h' tk, P1 i x1 → P2 i x2 → IsZipHeld h' z TI TO Tp true → St1 (i + 1) h' → St2 (i + 1) h' → IsTupOf2 h' s.heap.objs.size x1 x2 → (∀ c o, c ≠ z → c ≠ i1 → c ≠ i2 → s.heap.get? c = some o → h'.get? c = some o) → Q (.ref s.heap.objs.size) { s with heap := h', toks := tk }) :
    wpAny (model prog w) A (Builtin.«zip.__next__» ⟨[.ref z], []⟩) (fun fin s' => ∃ v, fin = .done (.ret v) ∧ Q v s') E s := by
  show wpAny _ _ (field (.ref z) 2 >>= _) _ _ _
  refine wpAny_bind (wpAny_field hz rfl (x := .bool false) rfl ?_)
  show wpAny _ _ (field (.ref z) 3 >>= _) _ _ _
  refine wpAny_bind (wpAny_field hz rfl (x := .ref TI) rfl (wpAny_bind (wpAny_seqItems hTI rfl ?_)))
  show wpAny _ _ (ownedTupleIsFree (.ref z) >>= _) _ _ _
  refine wpAny_bind (wpAny_tupleHeld_zip hz hT fun ha za sa => ?_)
  simp only [Bool.false_eq_true, if_false]
  refine wpAny_bind ?_
  rw [← Array.forIn_toList]
  simp only [List.forIn_cons, List.forIn_nil]
  have a1 := D1.over st1 sa S.zf1
  have a2 := D2.over st2 sa S.zf2
  refine wpAny_bind (wpAny_bind (wpAny_holding ?_))
  show wpAny _ _ (nextOf (.ref i1) >>= _) _ _ _
  refine wpAny_bind (D1.item i { s with heap := ha } _ _ lt1 a1 fun x1 hb tb p1 b1 sb => wpAny_pure ?_)
  refine wpAny_pure (wpAny_bind (wpAny_bind (wpAny_holding ?_)))
  show wpAny _ _ (nextOf (.ref i2) >>= _) _ _ _
  have b2 := D2.over a2 sb S.sep1_2
  refine wpAny_bind (D2.item i { s with heap := hb, toks := tb } _ _ lt2 b2 fun x2 hc tc p2 c2 sc => wpAny_pure ?_)
  refine wpAny_pure (wpAny_pure ?_)
  show wpAny _ _ (newTuple [x1, x2] >>= _) _ _ _
  refine wpAny_bind (wpAny_newTuple (wpAny_pure ⟨_, rfl, ?_⟩))
  have c1 := D1.over b1 sc S.sep2_1
  have size : hc.objs.size = s.heap.objs.size := by rw [sc.1, sb.1, sa.1]
  have zc : IsZipHeld hc z TI TO Tp true := sc.extBut _ _ S.zi2 (sb.extBut _ _ S.zi1 za)
  show Q (.ref hc.objs.size) _
  have pr : IsTupOf2 (hc.push { cls := .type "tuple", data := .seq #[x1, x2] }) hc.objs.size x1 x2 := Heap.get?_push_size _ rfl
  rw [size] at pr ⊢
  exact done x1 x2 _ _ p1 p2 (Heap.get?_push_of_some _ zc) (D1.frame _ _ _ c1 fun b _ o e => Heap.get?_push_of_some _ e) (D2.frame _ _ _ c2 fun b _ o e => Heap.get?_push_of_some _ e) pr
    fun c o nz n1 n2 e => Heap.get?_push_of_some _ (sc.extBut _ _ n2 (sb.extBut _ _ n1 (sa.extBut _ _ nz e)))
theorem held_stop (S : ZipSep2 z TI TO i1 i2 fp1 fp2) (D1 : Draws prog w A i1 fp1 n1 P1 St1) (D2 : Draws prog w A i2 fp2 n2 P2 St2) (hz : IsZipHeld s.heap z TI TO Tp f) (hT : s.heap.get? Tp = some oT) (hTI : IsTupOf2 s.heap TI (.ref i1) (.ref i2))
    (st1 : St1 i s.heap) (st2 : St2 i s.heap) (ei : i = min n1 n2) {Q : Fin → Shared → Prop}
    (stop : ∀ h' tk e, (∀ c o, c ≠ z → c ≠ i1 → c ≠ i2 → s.heap.get? c = some o → h'.get? c = some o) → (∃ o, h'.get? e = some o ∧ o.cls = .type "StopIteration") → E (.ref e) { s with heap := h', toks := tk }) :
    wpAny (model prog w) A (Builtin.«zip.__next__» ⟨[.ref z], []⟩) Q E s := by
  show wpAny _ _ (field (.ref z) 2 >>= _) _ _ _
  refine wpAny_bind (wpAny_field hz rfl (x := .bool false) rfl ?_)
  show wpAny _ _ (field (.ref z) 3 >>= _) _ _ _
  refine wpAny_bind (wpAny_field hz rfl (x := .ref TI) rfl (wpAny_bind (wpAny_seqItems hTI rfl ?_)))
  show wpAny _ _ (ownedTupleIsFree (.ref z) >>= _) _ _ _
  refine wpAny_bind (wpAny_tupleHeld_zip hz hT fun ha za sa => ?_)
  simp only [Bool.false_eq_true, if_false]
  refine wpAny_bind ?_
  rw [← Array.forIn_toList]
  simp only [List.forIn_cons, List.forIn_nil]
  have a1 := D1.over st1 sa S.zf1
  have a2 := D2.over st2 sa S.zf2
  refine wpAny_bind (wpAny_bind (wpAny_holding ?_))
  show wpAny _ _ (nextOf (.ref i1) >>= _) _ _ _
  by_cases first : i = n1
  · subst first
    refine wpAny_bind (D1.done { s with heap := ha } _ _ a1 fun hb e sb he => ?_)
    exact stop hb _ e (fun c o nz n1 _ x => sb _ _ n1 (sa.extBut _ _ nz x)) he
  · have lt1 : i < n1 := by omega
    have e2 : i = n2 := by omega
    refine wpAny_bind (D1.item i { s with heap := ha } _ _ lt1 a1 fun x1 hb tb p1 b1 sb => wpAny_pure ?_)
    refine wpAny_pure (wpAny_bind (wpAny_bind (wpAny_holding ?_)))
    show wpAny _ _ (nextOf (.ref i2) >>= _) _ _ _
    have b2 := D2.over a2 sb S.sep1_2
    subst e2
    refine wpAny_bind (D2.done { s with heap := hb, toks := tb } _ _ b2 fun hc e sc he => ?_)
    exact stop hc _ e (fun c o nz n1 n2 x => sc _ _ n2 (sb.extBut _ _ n1 (sa.extBut _ _ nz x))) he
theorem held_item (S : ZipSep2 z TI TO i1 i2 fp1 fp2) (D1 : Draws prog w A.in1 i1 fp1 n1 P1 St1) (D2 : Draws prog w A.in1 i2 fp2 n2 P2 St2) (hz : IsZipHeld s.heap z TI TO Tp f) (hT : s.heap.get? Tp = some oT) (hTI : IsTupOf2 s.heap TI (.ref i1) (.ref i2))
    (st1 : St1 i s.heap) (st2 : St2 i s.heap) (lt1 : i < n1) (lt2 : i < n2) {Q : Option Value → Shared → Prop}
    (done : ∀ x1 x2 h' tk, P1 i x1 → P2 i x2 → IsZipHeld h' z TI TO Tp true → St1 (i + 1) h' → St2 (i + 1) h' → IsTupOf2 h' s.heap.objs.size x1 x2 → (∀ c o, c ≠ z → c ≠ i1 → c ≠ i2 → s.heap.get? c = some o → h'.get? c = some o) → Q (some (.ref s.heap.objs.size)) { s with heap := h', toks := tk }) :
    wpAny (model prog w) A (pyNext (.ref z)) Q E s := by
  have ty : s.TypeIs (.ref z) "zip" := ⟨_, hz, rfl⟩
  unfold pyNext
  exact wpAny_bind (wpAny_attempt (wpAny_callSpecial?_slot (name := Str.ofString "__next__") ty F.slot_zip_next
    (wpAny_call_entry F.slot_zip_next ty F.entry_zip_next (held_next S D1 D2 hz hT hTI st1 st2 lt1 lt2 fun x1 x2 h' tk g1 g2 g3 g4 g5 g6 g7 => wpAny_pure (done x1 x2 h' tk g1 g2 g3 g4 g5 g6 g7)) (F.args_zip_next_1 _))))
theorem held_end (S : ZipSep2 z TI TO i1 i2 fp1 fp2) (D1 : Draws prog w A.in1 i1 fp1 n1 P1 St1) (D2 : Draws prog w A.in1 i2 fp2 n2 P2 St2) (hz : IsZipHeld s.heap z TI TO Tp f) (hT : s.heap.get? Tp = some oT) (hTI : IsTupOf2 s.heap TI (.ref i1) (.ref i2))
    (st1 : St1 i s.heap) (st2 : St2 i s.heap) (ei : i = min n1 n2) {Q : Option Value → Shared → Prop} (stop : ∀ h' tk, (∀ c o, c ≠ z → c ≠ i1 → c ≠ i2 → s.heap.get? c = some o → h'.get? c = some o) → Q none { s with heap := h', toks := tk }) :
    wpAny (model prog w) A (pyNext (.ref z)) Q E s := by
  have ty : s.TypeIs (.ref z) "zip" := ⟨_, hz, rfl⟩
  unfold pyNext
  refine wpAny_bind (wpAny_attempt (wpAny_callSpecial?_slot (name := Str.ofString "__next__") ty F.slot_zip_next
    (wpAny_call_entry F.slot_zip_next ty F.entry_zip_next (held_stop S D1 D2 hz hT hTI st1 st2 ei fun h' tk e kp he => ?_) (F.args_zip_next_1 _))))
  obtain ⟨o, ho, hc⟩ := he
  refine wpAny_bind (wpAny_isInstance (T := "StopIteration") (b := true) ⟨o, ho, hc⟩ isSubtype_stop ?_)
  exact wpAny_pure (stop _ _ kp)
end
/-- zip of a list or tuple and another, as dict()'s argument -/
theorem pairArgZ {prog : Program} {w : World} (k j : SK) (z TI TO i1 i2 a b : Addr) (D : Sep2 z TI TO i1 i2 a b) (na : a ≠ z ∧ a ≠ TO ∧ a ≠ i2) (nb : b ≠ z ∧ b ≠ TO ∧ b ≠ i1) (xs ys : Array Value) :
    PairArg prog w "zip" z [z, TI, TO, i1, i2, a, b] [z, TO, i1, i2] (min xs.size ys.size) (fun i x y => xs[i]? = some x ∧ ys[i]? = some y)
      (fun h => IsZip h z TI TO .none ∧ IsTupOf2 h TI (.ref i1) (.ref i2) ∧ (∃ x y, IsTupOf2 h TO x y) ∧ (k.iter h i1 a 0 ∧ k.is h a xs) ∧ (j.iter h i2 b 0 ∧ j.is h b ys)) := by
  have dr1 : ∀ A : Around, A.handled = none → Draws prog w A i1 [i1, a] xs.size (fun i v => xs[i]? = some v) (fun i h => k.iter h i1 a i ∧ k.is h a xs) := fun A hA => k.draws hA i1 a D.2.1 xs
  have dr2 : ∀ A : Around, A.handled = none → Draws prog w A i2 [i2, b] ys.size (fun i v => ys[i]? = some v) (fun i h => j.iter h i2 b i ∧ j.is h b ys) := fun A hA => j.draws hA i2 b D.2.2 ys
  have live : ∀ (k : SK) {h : Heap} {c : Addr} {items : Array Value}, k.is h c items → ∃ o, h.get? c = some o := fun k {h c items} e => by
    cases k
    · obtain ⟨o, e, _⟩ := e; exact ⟨o, e⟩
    · obtain ⟨o, e, _⟩ := e; exact ⟨o, e⟩
  have isAt : ∀ (k : SK) {h h' : Heap} {c : Addr} {items : Array Value}, k.is h c items → (∀ o, h.get? c = some o → h'.get? c = some o) → k.is h' c items := fun k {h h' c items} e f => by
    cases k
    · exact Heap.IsList.at e f
    · exact Heap.IsTuple.at e f
  refine { type := fun s ok => ⟨_, ok.1, rfl⟩, notDict := by decide, keep := fun h h' ok hk => ?_, there := fun h ok c hc => ?_, sub := fun c hc => ?_, noKeys := fun A s Q E hA ok h => getAttrOr_miss_zip ok.1 rfl rfl rfl zip_no_keys (by decide +kernel) hA h, iter := fun A s d Q E hA ok hd hdf h => ?_ }
  · obtain ⟨hz, hTI, ⟨x, y, hTO⟩, ⟨g1, g2⟩, ⟨g3, g4⟩⟩ := ok
    exact ⟨hk _ _ hz, hk _ _ hTI, ⟨x, y, hk _ _ hTO⟩, ⟨k.at g1 fun o e => hk _ o e, isAt k g2 fun o e => hk _ o e⟩, ⟨j.at g3 fun o e => hk _ o e, isAt j g4 fun o e => hk _ o e⟩⟩
  · obtain ⟨hz, hTI, ⟨x, y, hTO⟩, ⟨g1, g2⟩, ⟨g3, g4⟩⟩ := ok
    have e' : c = z ∨ c = TI ∨ c = TO ∨ c = i1 ∨ c = i2 ∨ c = a ∨ c = b := by simpa using hc
    rcases e' with rfl | rfl | rfl | rfl | rfl | rfl | rfl
    · exact ⟨_, hz⟩
    · exact ⟨_, hTI⟩
    · exact ⟨_, hTO⟩
    · obtain ⟨o, e, _⟩ := k.obj_of g1; exact ⟨o, e⟩
    · obtain ⟨o, e, _⟩ := j.obj_of g3; exact ⟨o, e⟩
    · exact live k g2
    · exact live j g4
  · have e' : c = z ∨ c = TO ∨ c = i1 ∨ c = i2 := by simpa using hc
    rcases e' with rfl | rfl | rfl | rfl <;> simp
  · obtain ⟨hz, hTI, hTO, st1, st2⟩ := ok
    have S := D.1
    have hA' : A.in1.handled = none := hA
    have nd : z ≠ d ∧ TI ≠ d ∧ TO ≠ d ∧ i1 ≠ d ∧ i2 ≠ d ∧ a ≠ d ∧ b ≠ d := by
      simp only [List.mem_cons, List.not_mem_nil, or_false, not_or] at hdf
      exact ⟨Ne.symm hdf.1, Ne.symm hdf.2.1, Ne.symm hdf.2.2.1, Ne.symm hdf.2.2.2.1, Ne.symm hdf.2.2.2.2.1, Ne.symm hdf.2.2.2.2.2.1, Ne.symm hdf.2.2.2.2.2.2⟩
    obtain ⟨dz, dTI, dTO, d1, d2, da, db⟩ := nd
    have W := WalksT.zipD2 (prog := prog) (w := w) (A := A) S (dr1 A.in1 hA') (dr2 A.in1 hA')
    refine wpAny_pyIter_zip hz (h z [z, TO, i1, i2] (fun i h => IsTupOf2 h TI (.ref i1) (.ref i2) ∧ (k.iter h i1 a i ∧ k.is h a xs) ∧ (j.iter h i2 b i ∧ j.is h b ys) ∧
      ((IsZip h z TI TO .none ∧ ∃ x y, IsTupOf2 h TO x y) ∨ ∃ Tp f oT, IsZipHeld h z TI TO Tp f ∧ h.get? Tp = some oT ∧ Tp ≠ z ∧ Tp ≠ i1 ∧ Tp ≠ i2 ∧ Tp ≠ d)) s.heap s.toks ?_ ⟨hTI, st1, st2, .inl ⟨hz, hTO⟩⟩ (fun _ _ e => e) fun c hc => .inl hc)
    have fr : ∀ {h1 h2 : Heap} {i : Nat}, (∀ c o, c ≠ d → h1.get? c = some o → h2.get? c = some o) → (k.iter h1 i1 a i ∧ k.is h1 a xs) → (j.iter h1 i2 b i ∧ j.is h1 b ys) → (k.iter h2 i1 a i ∧ k.is h2 a xs) ∧ (j.iter h2 i2 b i ∧ j.is h2 b ys) := fun {h1 h2 i} hk st1 st2 =>
      ⟨⟨k.at st1.1 fun o e => hk _ o d1 e, isAt k st1.2 fun o e => hk _ o da e⟩, ⟨j.at st2.1 fun o e => hk _ o d2 e, isAt j st2.2 fun o e => hk _ o db e⟩⟩
    refine { off := fun hm => ?_, frame := fun i h1 h2 st hk => ?_, item := fun i s1 Q1 E1 hi st hds hQ => ?_, done := fun s1 Q1 E1 st hQ => ?_ }
    · have e' : d = z ∨ d = TO ∨ d = i1 ∨ d = i2 := by simpa using hm
      rcases e' with e | e | e | e
      · exact dz e.symm
      · exact dTO e.symm
      · exact d1 e.symm
      · exact d2 e.symm
    · obtain ⟨t1, t2, t3, t4⟩ := st
      obtain ⟨f1, f2⟩ := fr hk t2 t3
      refine ⟨hk _ _ dTI t1, f1, f2, ?_⟩
      rcases t4 with ⟨g1, x, y, g2⟩ | ⟨Tp, f, oT, g1, g2, n1, n2, n3, n4⟩
      · exact .inl ⟨hk _ _ dz g1, x, y, hk _ _ dTO g2⟩
      · exact .inr ⟨Tp, f, oT, hk _ _ dz g1, hk _ _ n4 g2, n1, n2, n3, n4⟩
    · obtain ⟨t1, t2, t3, t4⟩ := st
      have lt : ∀ {c o}, s1.heap.get? c = some o → s1.heap.objs.size ≠ c := fun e => Nat.ne_of_gt (Heap.lt_size e)
      have ne1 : s1.heap.objs.size ≠ i1 := by obtain ⟨_, e, _⟩ := k.obj_of t2.1; exact lt e
      have ne2 : s1.heap.objs.size ≠ i2 := by obtain ⟨_, e, _⟩ := j.obj_of t3.1; exact lt e
      rcases t4 with ⟨g1, x, y, g2⟩ | ⟨Tp, f, oT, g1, g2, n1, n2, n3, n4⟩
      · refine wpAny_pyNext_zipD2_item S (dr1 A.in1 hA') (dr2 A.in1 hA') g1 t1 g2 t2 t3 (by omega) (by omega) fun x1 x2 h' tk p1 p2 q1 q2 q3 q4 q5 q6 q7 => ?_
        exact hQ s1.heap.objs.size x1 x2 h' tk ⟨p1, p2⟩ (.inl ⟨_, q5, rfl, _, rfl⟩) ⟨q7 _ _ S.TIz S.TITO S.TIi1 S.TIi2 t1, q3, q4, .inr ⟨s1.heap.objs.size, false, _, q1, q5, lt g1, ne1, ne2, Nat.ne_of_gt hds⟩⟩
          fun c o hc e => q7 c o (fun x => hc (by simp [x])) (fun x => hc (by simp [x])) (fun x => hc (by simp [x])) (fun x => hc (by simp [x])) e
      · refine held_item S (dr1 A.in1 hA') (dr2 A.in1 hA') g1 g2 t1 t2 t3 (by omega) (by omega) fun x1 x2 h' tk p1 p2 q1 q3 q4 q5 q7 => ?_
        exact hQ s1.heap.objs.size x1 x2 h' tk ⟨p1, p2⟩ (.inl ⟨_, q5, rfl, _, rfl⟩) ⟨q7 _ _ S.TIz S.TIi1 S.TIi2 t1, q3, q4, .inr ⟨Tp, true, oT, q1, q7 _ _ n1 n2 n3 g2, n1, n2, n3, n4⟩⟩
          fun c o hc e => q7 c o (fun x => hc (by simp [x])) (fun x => hc (by simp [x])) (fun x => hc (by simp [x])) e
    · obtain ⟨t1, t2, t3, t4⟩ := st
      rcases t4 with ⟨g1, x, y, g2⟩ | ⟨Tp, f, oT, g1, g2, n1, n2, n3, n4⟩
      · exact wpAny_pyNext_zipD2_end S (dr1 A.in1 hA') (dr2 A.in1 hA') g1 t1 g2 t2 t3 (by omega) (by omega) (by omega) fun h' tk hk => hQ h' tk fun c o hc e => hk c o (fun x => hc (by simp [x])) (fun x => hc (by simp [x])) (fun x => hc (by simp [x])) (fun x => hc (by simp [x])) e
      · exact held_end S (dr1 A.in1 hA') (dr2 A.in1 hA') g1 g2 t1 t2 t3 rfl fun h' tk hk => hQ h' tk fun c o hc e => hk c o (fun x => hc (by simp [x])) (fun x => hc (by simp [x])) (fun x => hc (by simp [x])) e
theorem tzip {K : PySem.W.Frag} {m : Wd} {H : Hp} : ∀ {xs ys : List D} {kvs : List (List Key × D)} {vs us : List V} {its its2 : List Value}, Reps K m H xs vs → Reps K m H ys us → allT (xs.zip ys) = some kvs → Vals vs its → Vals us its2 →
    ∃ (prs : List (List Key × V)) (psH : List (List Key × Addr × Value)), KT H prs psH ∧ kvs.map (·.1) = prs.map (·.1) ∧ Reps K m H (kvs.map (·.2)) (prs.map (·.2)) ∧ psH.length = min its.length its2.length ∧ ∀ (i : Nat) x y, its[i]? = some x → its2[i]? = some y → ∃ kk b, psH[i]? = some (kk, b, y) ∧ x = .ref b
  | [], _, _, _, _, _, _, .nil, _, e, .nil, _ => by
    cases e
    exact ⟨[], [], .nil, rfl, .nil, by simp, fun i x y h => by simp at h⟩
  | _ :: _, [], _, _, _, _, _, .cons _ _, .nil, e, .cons _ _, .nil => by
    cases e
    exact ⟨[], [], .nil, rfl, .nil, by simp, fun i x y _ h => by simp at h⟩
  | x :: xs, y :: ys, _, _, _, _, _, .cons h t, .cons h2 t2, e, .cons (b := u) r rr, .cons (b := u2) r2 rr2 => by
    have e : allT ((x, y) :: xs.zip ys) = some _ := e
    unfold allT at e
    split at e
    · rename_i ks rest k1 k2
      cases e
      obtain ⟨prs, psH, i1, i2, i3, i4, i5⟩ := tzip t t2 k2 rr rr2
      obtain ⟨kb, rfl, hk⟩ := key_tup k1 h
      cases (show u = Value.ref kb from r)
      refine ⟨(ks, _) :: prs, (ks, kb, u2) :: psH, .cons ⟨rfl, hk, r2⟩ i1, by simp [i2], .cons h2 i3, by simp [i4, Nat.succ_min_succ], fun i a b ha hb => ?_⟩
      cases i with
      | zero =>
        simp only [List.getElem?_cons_zero, Option.some.injEq] at ha hb
        subst ha hb
        exact ⟨ks, kb, rfl, rfl⟩
      | succ i => exact i5 i a b ha hb
    · cases e
section
variable {T : Tbs} {G : Glob} {C : Calls} {k : Nat} {N : List Str} {sc : Scope}
theorem se_dzip {a b : ME} {ea eb : Expr} {mu : Bool} {p p2 pos pos2 : Pos} (ha : SE T G C k N sc a ea) (hb : SE T G C k N sc b eb) (hs : isStar ea = false) (hs2 : isStar eb = false) (hg : sc.names.lookup ("dict" : Str) = some .globalImplicit) (hg2 : sc.names.lookup ("zip" : Str) = some .globalImplicit) :
    SE T G C k N sc (.blt mu .dzip [a, b]) (.Call (.Name "dict" p) [.Call (.Name "zip" p2) [ea, eb] [] pos2] [] pos) := fun X hX ro rw σ s ma H Q rs hr q => by
  intro pins s0 I
  have c := hX.ctx
  have read : wA X [ea, eb] s H fun vs H1 => ∃ (kx ky : SK) (x y : Addr) (xs ys : List V), vs = [.ref x, .ref y] ∧ SK.sq kx X.K H1 x xs ∧ SK.sq ky X.K H1 y ys ∧
      ∀ its its2, Vals xs its → Vals ys its2 → ∃ (prs : List (List Key × V)) (psH : List (List Key × Addr × Value)), KT H1 prs psH ∧ psH.length = min its.length its2.length ∧ (∀ (i : Nat) x y, its[i]? = some x → its2[i]? = some y → ∃ kk b, psH[i]? = some (kk, b, y) ∧ x = .ref b) ∧
        ∀ p, H1 p = none → Q (.ref p) (upd H1 p (.dT (prs.foldl (fun a p => putK a p.1 p.2) []))) := by
    refine PA.le (pa_cons pe_w (pa_cons pe_w pa_nil (star_each hs2)) (star_each hs)) ?_
    have q0 : Sat T X.K ro ma H (M.bind (M.bind (evE C ro a σ) fun d => M.bind (M.bind (evE C ro b σ) fun e => M.pure [e]) fun ds => M.pure (d :: ds)) (fun ds => fun rw => M.bind (M.lift (bltop ro rw .dzip ds)) (alloc ro mu) rw) rw) (VP X.K Q) := q
    refine ha X hX ro rw σ s ma H _ rs hr ((Sat.bind (Sat.bind q0)).mono fun x rw1 m1 H1 e1 r1 q1 v hv => ?_)
    refine hb X hX ro rw1 σ s m1 H1 _ (rs.ext e1.toExtW hr.noTup) r1 ((Sat.bind (Sat.bind q1)).mono fun y rw2 m2 H2 e2 r2 q2 u hu => ?_)
    obtain ⟨d, ed, g⟩ := Sat.lift (Sat.bind (Sat.ok (Sat.ok q2 r2) r2))
    have g : Made T X.K ro rw2 m2 H2 mu d Q := g m2 H2 (.refl _ _) r2
    have hv2 := hv.ext e2.toExtW r1.noTup
    have ed : (match seqOf ro rw2 x, seqOf ro rw2 y with
      | some xs, some ys => (allT (xs.zip ys)).map fun kvs => D.dT (mergeD [] kvs)
      | _, _ => none) = some d := ed
    cases ex : seqOf ro rw2 x with
    | none => rw [ex] at ed; cases ed
    | some xs =>
      cases ey : seqOf ro rw2 y with
      | none => rw [ex, ey] at ed; cases ed
      | some ys =>
        rw [ex, ey] at ed
        obtain ⟨kvs, et, rfl⟩ := Option.map_eq_some_iff.mp ed
        obtain ⟨a1, vs, rfl, sq1, p1⟩ := r2.seq ex hv2
        obtain ⟨b1, us, rfl, sq2, p2⟩ := r2.seq ey hu
        have kindOf : ∀ {a : Addr} {vs : List V}, (SqL X.K H2 a vs ∨ SqT X.K H2 a vs) → ∃ kx : SK, kx.sq X.K H2 a vs := fun h => h.elim (fun z => ⟨.l, z⟩) fun z => ⟨.t, z⟩
        obtain ⟨kx, hq1⟩ := kindOf sq1
        obtain ⟨ky, hq2⟩ := kindOf sq2
        refine ⟨kx, ky, a1, b1, vs, us, rfl, hq1, hq2, fun its its2 rv rv2 => ?_⟩
        obtain ⟨prs, psH, i1, i2, i3, i4, i5⟩ := tzip p1 p2 et rv rv2
        have mg := merge_put (acc := []) (bcc := []) i2 i3 rfl .nil
        exact ⟨prs, psH, i1, i4, i5, fun p hp => g.dT r2 mg.1 mg.2 p hp⟩
  refine Call_ (ld_blt I (gl_of hX hg) (hX.glob.blt _ (by decide +kernel)) boot_dict' (PyProof.Rows.callWith_type1 (args_cons (Call_ (ld_blt I (gl_of hX hg2) (hX.glob.blt _ (by decide +kernel)) PyProof.Rows.boot_zip (PyProof.Rows.callWith_type1 (thn (read pos2 pins s0 I) fun us s1 ⟨vs, H1, I1, r1, kx, ky, a1, b1, xs, ys, ex, hq1, hq2, qR⟩ => ?_) (star_each hs) (by rw [star_each hs2]; rfl)))) rfl) rfl))
  subst ex
  cases r1 with
  | cons r rr =>
    cases rr with
    | cons r' rr =>
      cases rr
      cases r
      cases r'
      obtain ⟨its, rv, p1, lt1⟩ := kx.got I1 hq1
      obtain ⟨its2, rv2, p2, lt2⟩ := ky.got I1 hq2
      obtain ⟨prs, psH, kt, hl, hat, fin⟩ := qR its its2 rv rv2
      refine zip_begins2 (kx.begins a1 its.toArray) (ky.begins b1 its2.toArray) p1 p2 fun h' hz hTI hTO g1 g2 hsz hk => args_nil ?_
      have I2 : Inv X pins s H1 { s1 with heap := h' } := I1.kept (t' := s1.toks) hk
      have isAt : ∀ (k : SK) {h h' : Heap} {c : Addr} {items : Array Value}, k.is h c items → (∀ o, h.get? c = some o → h'.get? c = some o) → k.is h' c items := fun k {h h' c items} e f => by
        cases k
        · exact Heap.IsList.at e f
        · exact Heap.IsTuple.at e f
      have na : (a1 ≠ s1.heap.objs.size + 4) ∧ (a1 ≠ s1.heap.objs.size + 3) ∧ (a1 ≠ s1.heap.objs.size + 1) := ⟨Nat.ne_of_lt (Nat.lt_of_lt_of_le lt1 (Nat.le_add_right _ _)), Nat.ne_of_lt (Nat.lt_of_lt_of_le lt1 (Nat.le_add_right _ _)), Nat.ne_of_lt (Nat.lt_of_lt_of_le lt1 (Nat.le_add_right _ _))⟩
      have nb : (b1 ≠ s1.heap.objs.size + 4) ∧ (b1 ≠ s1.heap.objs.size + 3) ∧ (b1 ≠ s1.heap.objs.size) := ⟨Nat.ne_of_lt (Nat.lt_of_lt_of_le lt2 (Nat.le_add_right _ _)), Nat.ne_of_lt (Nat.lt_of_lt_of_le lt2 (Nat.le_add_right _ _)), Nat.ne_of_lt lt2⟩
      refine dictT_call c I2 (pairArgZ kx ky _ _ _ _ _ a1 b1 (sep2 s1.heap.objs.size a1 b1 lt1 lt2) na nb its.toArray its2.toArray) ⟨hz, hTI, ⟨_, _, hTO⟩, ⟨kx.first g1, isAt kx p1 fun o e => hk _ o e⟩, ⟨ky.first g2, isAt ky p2 fun o e => hk _ o e⟩⟩ kt
        ⟨by rw [hl]; simp, fun i x y ⟨h1, h2⟩ => hat i x y (by simpa using h1) (by simpa using h2)⟩ (fun b hb => ?_) ?_ fin
      · have hle : s1.heap.objs.size ≤ b := by
          have e' : b = s1.heap.objs.size + 4 ∨ b = s1.heap.objs.size + 3 ∨ b = s1.heap.objs.size ∨ b = s1.heap.objs.size + 1 := by simpa using hb
          rcases e' with z | z | z | z <;> rw [z] <;> first | exact Nat.le_refl _ | exact Nat.le_add_right _ _
        exact I1.fpOk hle (I1.hok.fresh hle)
      · have hz1 : xs.length ≤ sizeLine := by
          cases kx
          · exact (I1.list hq1).elim fun _ z => z.2.2
          · exact (I1.tuple hq1).elim fun _ z => z.2.2
        have l1 := rv.length
        simp only [List.size_toArray]
        omega
end
end Mx

set_option Elab.async false
set_option linter.all false
set_option maxRecDepth 100000
set_option maxHeartbeats 1000000
/-! Mx, part R: tuples of ints by their count, then by their items; keys that say so. -/
namespace Mx
open PySem L2 PySem.Spec PyProof.Rows

/-! ### the order -/
theorem lexI_asym : ∀ x y : List Int, lexBy ltInt x y = true → lexBy ltInt y x = false
  | [], [], h => by cases h
  | [], _ :: _, _ => rfl
  | _ :: _, [], h => by cases h
  | a :: x, b :: y, h => by
    unfold lexBy at h ⊢
    by_cases e : a = b
    · subst e
      rw [if_pos rfl] at h ⊢
      exact lexI_asym x y h
    · rw [if_neg e] at h
      rw [if_neg (Ne.symm e)]
      unfold ltInt at h ⊢
      rw [decide_eq_true_eq] at h
      rw [decide_eq_false_iff_not]; omega
theorem lexI_tr : ∀ x y z : List Int, lexBy ltInt y x = false → lexBy ltInt z y = false → lexBy ltInt z x = false
  | [], _, [], _, _ => rfl
  | [], _, _ :: _, _, _ => rfl
  | _ :: _, [], [], h, _ => by cases h
  | _ :: _, [], _ :: _, h, _ => by cases h
  | _ :: _, _ :: _, [], _, h => by cases h
  | a :: x, b :: y, c :: z, h1, h2 => by
    unfold lexBy at h1 h2 ⊢
    unfold ltInt at h1 h2 ⊢
    by_cases e1 : b = a
    · subst e1
      rw [if_pos rfl] at h1
      by_cases e2 : c = b
      · subst e2
        rw [if_pos rfl] at h2 ⊢
        exact lexI_tr x y z h1 h2
      · rw [if_neg e2] at h2 ⊢
        exact h2
    · rw [if_neg e1, decide_eq_false_iff_not] at h1
      by_cases e2 : c = b
      · subst e2
        rw [if_neg e1, decide_eq_false_iff_not]; exact h1
      · rw [if_neg e2, decide_eq_false_iff_not] at h2
        rw [if_neg (by omega), decide_eq_false_iff_not]; omega
theorem lexI_anti : ∀ x y : List Int, lexBy ltInt x y = false → lexBy ltInt y x = false → x = y
  | [], [], _, _ => rfl
  | [], _ :: _, h, _ => by cases h
  | _ :: _, [], _, h => by cases h
  | a :: x, b :: y, h1, h2 => by
    unfold lexBy at h1 h2
    unfold ltInt at h1 h2
    by_cases e : a = b
    · subst e
      rw [if_pos rfl] at h1 h2
      rw [lexI_anti x y h1 h2]
    · rw [if_neg e, decide_eq_false_iff_not] at h1
      rw [if_neg (Ne.symm e), decide_eq_false_iff_not] at h2
      omega
abbrev llI (x y : List Int) : Bool := lenLex ltInt x y
theorem ll_swo : SrtO.Swo llI := by
  refine ⟨fun x y h => ?_, fun x y z h1 h2 => ?_⟩
  · unfold llI lenLex at h ⊢
    by_cases e : x.length = y.length
    · rw [if_pos e] at h
      rw [if_pos e.symm]
      exact lexI_asym x y h
    · rw [if_neg e, decide_eq_true_eq] at h
      rw [if_neg (Ne.symm e), decide_eq_false_iff_not]; omega
  · unfold llI lenLex at h1 h2 ⊢
    by_cases e1 : y.length = x.length
    · rw [if_pos e1] at h1
      by_cases e2 : z.length = y.length
      · rw [if_pos e2] at h2
        rw [if_pos (e2.trans e1)]
        exact lexI_tr x y z h1 h2
      · rw [if_neg e2, decide_eq_false_iff_not] at h2
        rw [if_neg (by omega), decide_eq_false_iff_not]; omega
    · rw [if_neg e1, decide_eq_false_iff_not] at h1
      by_cases e2 : z.length = y.length
      · rw [if_neg (by omega), decide_eq_false_iff_not]; omega
      · rw [if_neg e2, decide_eq_false_iff_not] at h2
        rw [if_neg (by omega), decide_eq_false_iff_not]; omega
theorem ll_anti (x y : List Int) (h1 : llI x y = false) (h2 : llI y x = false) : x = y := by
  unfold llI lenLex at h1 h2
  by_cases e : x.length = y.length
  · rw [if_pos e] at h1
    rw [if_pos e.symm] at h2
    exact lexI_anti x y h1 h2
  · rw [if_neg e, decide_eq_false_iff_not] at h1
    rw [if_neg (Ne.symm e), decide_eq_false_iff_not] at h2
    omega
theorem insert_srtd {α : Type} {lt : α → α → Bool} (O : SrtO.Swo lt) (x : α) : ∀ l : List α, SrtO.Srtd lt l → SrtO.Srtd lt (insertBy (fun a b => !lt b a) x l)
  | [], _ => List.pairwise_singleton _ _
  | y :: r, h => by
    unfold insertBy
    by_cases e : lt y x = true
    · rw [if_neg (by rw [e]; decide)]
      have h' := List.pairwise_cons.mp h
      refine List.pairwise_cons.mpr ⟨fun z hz => ?_, insert_srtd O x r h'.2⟩
      rcases List.mem_cons.mp ((insertBy_perm (fun a b => !lt b a) x r).mem_iff.mp hz) with rfl | hz
      · exact O.asym _ _ e
      · exact h'.1 z hz
    · have e := Bool.eq_false_iff.mpr e
      rw [if_pos (by rw [e]; rfl)]
      refine List.pairwise_cons.mpr ⟨fun z hz => ?_, h⟩
      rcases List.mem_cons.mp hz with rfl | hz
      · exact e
      · exact O.tr x y z e ((List.pairwise_cons.mp h).1 z hz)
theorem isort_srtd {α : Type} {lt : α → α → Bool} (O : SrtO.Swo lt) : ∀ l : List α, SrtO.Srtd lt (isort lt l)
  | [] => List.Pairwise.nil
  | x :: r => insert_srtd O x _ (isort_srtd O r)
theorem isortLL_eq {l m : List (List Int)} (p : m.Perm l) (s : SrtO.Srtd llI m) : m = isort (lenLex ltInt) l :=
  List.Perm.eq_of_pairwise (fun a b _ _ h1 h2 => ll_anti a b h2 h1) s (isort_srtd ll_swo l) (p.trans (isort_perm (lenLex ltInt) l).symm)
theorem lexLt_eq : ∀ x y : List Int, HT.lexLt x y = lexBy ltInt x y
  | [], [] => rfl
  | [], _ :: _ => rfl
  | _ :: _, [] => rfl
  | a :: x, b :: y => by
    rw [HT.lexLt_cons]
    unfold lexBy
    rw [lexLt_eq x y]; rfl

/-! ### keys in the heap -/
/-- the ints of a tuple -/
def tupI (h : Heap) : Value → List Int
  | .ref a => match h.get? a with
    | some o => match o.data with
      | .seq its _ => its.toList.map numOf
      | _ => []
    | none => []
  | _ => []
/-- an item: a tuple of ints -/
def ItemOk (h : Heap) (v : Value) : Prop := ∃ a its, v = .ref a ∧ IsTup h a its ∧ IntsAre its.toList (tupI h v)
theorem item_of {h : Heap} {a : Addr} {its : Array Value} {ns : List Int} (ht : IsTup h a its) (hi : IntsAre its.toList ns) : tupI h (.ref a) = ns ∧ ItemOk h (.ref a) := by
  have e : tupI h (.ref a) = ns := by
    obtain ⟨o, ho, hc, n, hd⟩ := id ht
    show (match h.get? a with
      | some o => match o.data with
        | .seq its _ => its.toList.map numOf
        | _ => []
      | none => []) = ns
    rw [ho]
    simp only [hd]
    exact hi.nums
  exact ⟨e, a, its, rfl, ht, by rw [e]; exact hi⟩
/-- its key: its count, then itself -/
def KeyAt (h : Heap) (k v : Value) : Prop := ∃ b o n t u, k = .ref b ∧ h.get? b = some o ∧ o.cls = .type "tuple" ∧ o.data = .seq #[.int (tupI h v).length t, u] n ∧ ItemOk h u ∧ tupI h u = tupI h v
theorem items_are {prog : Program} {w : World} : ∀ {vs : List Value} {ns : List Int}, IntsAre vs ns → ItemsAre (intKind prog w) ns vs
  | _, _, .nil => .nil
  | _, _, .cons n t h => .cons (intKind_is prog w n t) (items_are h)
def KOk (h : Heap) (p : Keyed) : Prop := ItemOk h p.2 ∧ KeyAt h p.1 p.2
theorem key_cmp {prog : Program} {w : World} {A : Around} {s : Shared} (hu : A.units < cLine) : SrtO.Cmp prog w A s (tuples' true) (KOk s.heap) fun p q => llI (tupI s.heap p.2) (tupI s.heap q.2) := by
  intro p q hp hq
  obtain ⟨k, v⟩ := p
  obtain ⟨k', v'⟩ := q
  obtain ⟨-, b, o, n, t, _, rfl, ho, hc, hd, ⟨a, its, rfl, ht, hi⟩, e⟩ := hp
  obtain ⟨-, b', o', n', t', _, rfl, ho', hc', hd', ⟨a', its', rfl, ht', hi'⟩, e'⟩ := hq
  show wpAny (model prog w) A (keyLt' (tuples' true) (.ref b) (.ref b')) (fun r s' => s' = s ∧ r = llI (tupI s.heap v) (tupI s.heap v')) (fun _ _ => False) s
  simp only at hd hd' e e'
  rw [← e] at hd ⊢
  rw [← e'] at hd' ⊢
  generalize tupI s.heap (.ref a) = ns at hi hd ⊢
  generalize tupI s.heap (.ref a') = ms at hi' hd' ⊢
  refine PySem.W.kat_lt ho hd ho' hd' ?_
  show PySem.W.KatLex prog w A true (decide (2 < 2)) _ [(.int ns.length t, .int ms.length t'), (.ref a, .ref a')] 0 s
  refine PySem.W.kat_cons (SeqAt.EqAt.int_int _ t _ t' prog w _ _ ?_)
  refine PySem.W.kat_go (fun e1 => ?_) (fun e1 => ?_)
  · have ex : ns.length = ms.length := by
      have z : ((ns.length : Int)) = (ms.length : Int) := by simpa using e1
      exact Int.ofNat.inj z
    have k1 : IsTupleKey (intKind prog w) s.heap ns a := by
      obtain ⟨o, ho, hc, n, hd⟩ := ht
      exact ⟨o, its, n, ho, hc, hd, items_are hi⟩
    have k2 : IsTupleKey (intKind prog w) s.heap ms a' := by
      obtain ⟨o, ho, hc, n, hd⟩ := ht'
      exact ⟨o, its', n, ho, hc, hd, items_are hi'⟩
    have el : llI ns ms = lexBy ltInt ns ms := if_pos ex
    refine PySem.W.kat_yes (PySem.W.kat_cons (wpAny_eqBool_tuple hu k1 k2 ?_))
    refine PySem.W.kat_go (fun e2 => ?_) (fun e2 => ?_)
    · have ey : ns = ms := of_decide_eq_true e2
      refine PySem.W.kat_yes (PySem.W.kat_nil ⟨rfl, ?_⟩)
      rw [ey]
      exact (ll_swo.refl ms).symm
    · refine PySem.W.kat_no (PySem.W.kat_one _ _ (HT.lt_tupInts ht ht' hi hi' hu ?_))
      exact ⟨rfl, by rw [el, lexLt_eq]⟩
  · have ex : ¬ ns.length = ms.length := fun z => by
      rw [z] at e1
      simp at e1
    have e3 : llI ns ms = decide ((ns.length : Int) < (ms.length : Int)) := by
      unfold llI lenLex
      rw [if_neg ex]
      by_cases z : ns.length < ms.length
      · rw [decide_eq_true z, decide_eq_true (Int.ofNat_lt.mpr z)]
      · rw [decide_eq_false z, decide_eq_false (fun y => z (Int.ofNat_lt.mp y))]
    exact PySem.W.kat_no (oneLt_int ⟨rfl, e3.symm⟩)
/-- the kind of such keys -/
theorem key_kind {prog : Program} {w : World} {A : Around} {E : Value → Shared → Prop} {s : Shared} {ks vs : List Value} {Q : SortKind → Shared → Prop} (hl : ks.length = vs.length) (h0 : 0 < ks.length) (hk : ∀ p ∈ ks.zip vs, KeyAt s.heap p.1 p.2) (h : Q (tuples' true) s) :
    wpAny (model prog w) A (keyKind' ks.toArray) Q E s := by
  have all : ∀ (ks vs : List Value), ks.length = vs.length → (∀ p ∈ ks.zip vs, KeyAt s.heap p.1 p.2) → ∃ fs, PySem.W.KatTups s.heap ks fs ∧ fs.length = ks.length ∧ ∀ f ∈ fs, ∃ i t, f = Value.int i t := by
    intro ks
    induction ks with
    | nil => exact fun vs _ _ => ⟨[], .nil, rfl, fun f hf => nomatch hf⟩
    | cons k ks ih =>
      intro vs hl hk
      cases vs with
      | nil => cases hl
      | cons v vs =>
        obtain ⟨fs, h1, h2, h3⟩ := ih vs (Nat.succ.inj hl) fun p hp => hk p (List.mem_cons_of_mem _ hp)
        obtain ⟨b, o, n, t, u, e, ho, hc, hd, _⟩ := hk (k, v) List.mem_cons_self
        have e : k = .ref b := e
        subst e
        refine ⟨_ :: fs, .cons ho hc hd (f := .int _ t) rfl h1, by simp [h2], fun f hf => ?_⟩
        rcases List.mem_cons.mp hf with rfl | hf
        · exact ⟨_, _, rfl⟩
        · exact h3 f hf
  obtain ⟨fs, h1, h2, h3⟩ := all ks vs hl hk
  refine PySem.W.kat_kind (T := .type "int") h1 (by omega) (fun f hm => ?_) (by rfl) ?_
  · obtain ⟨x, t, rfl⟩ := h3 f hm
    exact PySem.W.Looks.now
  · have e : (Value.type "int" != Value.type "tuple") = true := by first | decide +kernel | rfl | decide
    rw [e]
    exact h
end Mx

set_option Elab.async false
set_option linter.all false
set_option maxRecDepth 100000
set_option maxHeartbeats 1000000
/-! Mx, part S: sorted with a key that is a lambda. -/
namespace Mx
open PySem L2 PySem.Spec PyProof.Rows

/-! ### only tables have grown -/
theorem ext_n {T : Tbs} {K : PySem.W.Frag} {m : Wd} {H H1 : Hp} {h : MH} (e : LamX.ExtN H H1) (t : LamX.Tabs T H1) (r : HRel T K m h H) : Ext m H m H1 ∧ HRel T K m h H1 := by
  have ex : Ext m H m H1 := ⟨⟨⟨[], by simp⟩, fun a ha => .inl ha, fun a o h _ ht => ⟨o, e a o h ht, rfl⟩⟩, fun a ob u h => e a _ h (fun ps z => (nomatch z)), fun a o h _ ht => e a o h ht, rfl, fun a ha u hu => by
    obtain ⟨_, u', h2, h3⟩ := r.hid a ha
    rw [hu] at h2; cases h2
    exact e a _ hu (fun ps z => by rw [z] at h3; cases h3)⟩
  refine ⟨ex, t, r.len, r.nd, fun a ha => ?_, fun l o a h1 h2 => ?_⟩
  · obtain ⟨q1, u, q2, q3⟩ := r.hid a ha
    exact ⟨q1, u, ex.hsame a ha u q2, q3⟩
  · have ob := r.ob l o a h1 h2
    refine ob.ext ex.toExtW r.noTup ?_
    cases o with
    | lst xs => obtain ⟨vs, g, _⟩ := ob; rw [g]; exact e a _ g (fun ps z => nomatch z)
    | dK xs => obtain ⟨vs, g, _⟩ := ob; rw [g]; exact e a _ g (fun ps z => nomatch z)
    | dT xs => obtain ⟨vs, g, _⟩ := ob; rw [g]; exact e a _ g (fun ps z => nomatch z)
theorem clo_nil {cells : List (Str × Addr)} : ∀ {names : List (Str × NameKind)} {acc : List (Str × Addr)}, (∀ y ∈ names, y.2 ≠ .free) → cloFrom cells names acc = acc
  | [], acc, _ => rfl
  | (n, k) :: r, acc, h => by
    have hk : k ≠ .free := h (n, k) List.mem_cons_self
    have e : (k == NameKind.free) = false := by cases k <;> first | rfl | exact absurd rfl hk
    unfold cloFrom
    rw [e]
    exact clo_nil fun y hy => h y (List.mem_cons_of_mem _ hy)

/-! ### a lambda of one name runs -/
/-- what a lambda's body may read: built-ins alone -/
def G0 : Glob := ⟨[], [], [], [], false, false⟩
theorem gok0 {T : Tbs} {P : Program} {w : World} {K : PySem.W.Frag} {mg : Str → Option Value} {base : Heap} {C : Calls} {k : Nat} (h : ∀ x ∈ bltNames, mg x = none) : GOk T P w K mg base G0 C k :=
  ⟨fun x d z => (nomatch z), h, fun z => (nomatch z), fun x f z => (nomatch z)⟩
abbrev klaO (q : Str) (params : Arguments) (body : Expr) (bsc : Scope) (pm : Value) (c' : Addr) (ctv : Value) : Obj := PySem.W.kla_obj "<lambda>" q params body bsc [] pm c' ctv
theorem lam_run {T : Tbs} {G : Glob} {C : Calls} {k : Nat} {N : List Str} {sc : Scope} {X : Cx} (hX : Here T G C (k + 3) N sc X) {q x : Str} {params : Arguments} {body : Expr} {bsc : Scope} {me : ME} {f c' : Addr} {pm ctv : Value} (se : SE T G0 C 0 [x] bsc me body) (S : FnScope [x] [x] bsc)
    (hbind : ∀ (q : Str) (pm cv ctv v : Value), bindArgs (PySem.W.kla_fn "<lambda>" q params body bsc [] pm cv ctv) ⟨[v], []⟩ = pure [(x, v)])
    {pins : List (Addr × Obj)} {σ : L2.St} {H : Hp} {s : Shared} (I : Inv X pins σ H s) (hf : s.heap.get? f = some (klaO q params body bsc pm c' ctv)) (hco : H c' = some (LamX.CodeO c' q)) {ro rw : MH} {m : Wd} {d : D} {v : V} {u : Value} (hr : HRel T X.K m (ro ++ rw) H) (hd : Rep X.K m H d v) (hu : RelV v u)
    {Q : VK} (hs : Sat T X.K ro m H (evE C ro me [some d] rw) (VP X.K Q)) : wpAny (model X.prog X.w) X.A.in1.in1 (call (.ref f) [u]) (fun u' s' => CE X.stack X.prog X.w H s Q u' s') (fun _ _ => False) s := by
  have hr1 : Room 1 X.A.in1.in1 := (hX.ctx.room.mono (show 3 ≤ k + 3 from Nat.le_add_left 3 k)).in1.in1
  have e0 := I.env0.in1.in1
  obtain ⟨⟨oc, vs, t, hoc, hdc, hvc⟩, _, _⟩ := I.hok c' _ hco
  have rc : codeAny (model X.prog X.w) X.A.in1.in1 (.call (.ref f) ⟨[u], []⟩) (CR (fun _ _ _ _ _ _ => False) X.stack X.prog X.w H s Q fun _ _ _ => False) s := by
    refine PySem.W.kla_callFunE hr1.depth hf rfl S.co S.gen rfl ⟨c', oc, vs, t, rfl, hoc, hdc, hvc⟩ ?_
    rw [hbind]
    refine wpAny_pure ?_
    have hkind : ∀ y ∈ [(x, u)], bsc.names.lookup y.1 = some .local ∨ (bsc.names.lookup y.1 = some .cell ∧ ((cellsFrom (s.heap.objs.size + 1) bsc.names []).lookup y.1).isSome = true) := by
      intro y hy
      rw [List.mem_singleton.mp hy]
      rcases S.par x (List.mem_singleton.mpr rfl) with q | q
      · exact .inl q
      · exact .inr ⟨q, PySem.W.cellsFrom_some _ _ _ (.inl q)⟩
    refine wpAny_newFunctionEnv_cells S.kind hkind fun env he s1 st => ?_
    subst he
    refine ⟨I.nolimit.keeps st.toInCall.keep, ?_⟩
    let X0 : Cx := cxOf (fun _ _ _ _ _ _ => False) X.prog X.w X.K X.mg X.base [x] q bsc f (.ref c') X.A.in1.in1 X.stack s H fun _ _ _ => False
    have I0 : Inv X0 [] (L2.start [x] [v]) H s1 := inv_start (ps := [x]) (us := [u]) S hr1.hd e0 rfl (.cons hu .nil) st
    have hX0 : Here T G0 C 0 [x] bsc X0 := ⟨⟨by show [x].Nodup; simp, rfl, hr1.deeper _, hX.ctx.guards⟩, rfl, rfl, gok0 hX.glob.blt, fun z => (nomatch z)⟩
    have sr : SRel X.K m H [some d] (L2.start [x] [v]) := start_rel (N := [x]) (ds := [d]) (.cons hd .nil)
    refine PySem.W.kla_codeExpr (wpAny_mono (se X0 hX0 ro rw [some d] _ m H Q sr hr hs [] s1 I0) (fun v' s' hq => ?_) fun e s' hq => hq)
    obtain ⟨w', H', J, rv, q⟩ := hq
    exact ⟨w', H', J.os, J.bare, J.base, J.hok, rv, q⟩
  refine wpAny_call (codeAny_mono rc fun r s' hq => ?_)
  cases r with
  | error e => exact hq.elim
  | ok fl =>
    cases fl with
    | ret u => exact hq
    | next => exact False.elim hq
    | brk => exact False.elim hq
    | cont => exact False.elim hq
end Mx

set_option Elab.async false
set_option linter.all false
set_option maxRecDepth 100000
set_option maxHeartbeats 1000000
/-! Mx, part T: sorted with a key, by its steps. -/
namespace Mx
open PySem L2 PySem.Spec PyProof.Rows

/-- k is the key of v: its count, and a tuple of the same ints -/
def KeyH (H : Hp) (k v : Value) : Prop := ∃ (b a2 a : Addr) (ns : List Int), k = .ref b ∧ v = .ref a ∧ H b = some (.tup [.int ns.length, .ref a2]) ∧ H a2 = some (.tup (ns.map .int)) ∧ H a = some (.tup (ns.map .int))
theorem KeyH.on {H H' : Hp} (e : ∀ b xs, H b = some (.tup xs) → H' b = some (.tup xs)) {k v : Value} (h : KeyH H k v) : KeyH H' k v := by
  obtain ⟨b, a2, a, ns, e1, e2, e3, e4, e5⟩ := h
  exact ⟨b, a2, a, ns, e1, e2, e _ _ e3, e _ _ e4, e _ _ e5⟩
section
variable {P : Program} {w : World} {H : Hp} {h : Heap}
theorem tup_at {a : Addr} {ns : List Int} (ok : HOk P w H h) (e : H a = some (.tup (ns.map V.int))) : tupI h (.ref a) = ns ∧ ItemOk h (.ref a) := by
  obtain ⟨_, its, r, ht⟩ := ok a _ e
  exact item_of ht (Vals.ints r)
theorem key_at {k v : Value} (ok : HOk P w H h) (q : KeyH H k v) : KeyAt h k v ∧ ItemOk h v := by
  obtain ⟨b, a2, a, ns, rfl, rfl, e3, e4, e5⟩ := q
  obtain ⟨i1, i2⟩ := tup_at ok e5
  obtain ⟨j1, j2⟩ := tup_at ok e4
  obtain ⟨_, its, r, o, ho, hc, n, hd⟩ := ok b _ e3
  obtain ⟨u, u2, rfl, ⟨t, r1⟩, r2⟩ := vals2 r
  obtain rfl : u2 = Value.ref a2 := r2
  subst r1
  exact ⟨⟨b, o, n, t, .ref a2, rfl, ho, hc, by rw [i1]; exact hd, j2, j1.trans i1.symm⟩, i2⟩
end
theorem intsOf_map : ∀ {ns : List Int}, intsOf (ns.map .int) = some ns
  | [] => rfl
  | n :: ns => by
    have e : intsOf ((n :: ns).map .int) = (intsOf (ns.map .int)).map (n :: ·) := rfl
    rw [e, intsOf_map (ns := ns)]; rfl
/-- the key that is asked for -/
def keyM : ME := .tup [.blt false .len [.nm 0], .nm 0]
theorem key_eval {C : Calls} {ro rw : MH} {ns : List Int} : evE C ro keyM [some (.tup true (ns.map .int))] rw = .ok (.tup true [.int ns.length, .tup true (ns.map .int)]) rw := by
  have e : evE C ro keyM [some (.tup true (ns.map .int))] rw = .ok (.tup true [.int (ns.map D.int).length, .tup true (ns.map .int)]) rw := rfl
  rw [e, List.length_map]
structure KeyFn (T : Tbs) (C : Calls) (x : Str) (params : Arguments) (body : Expr) (bsc : Scope) : Prop where
  se : SE T G0 C 0 [x] bsc keyM body
  S : FnScope [x] [x] bsc
  bind : ∀ (q : Str) (pm cv ctv v : Value), bindArgs (PySem.W.kla_fn "<lambda>" q params body bsc [] pm cv ctv) ⟨[v], []⟩ = pure [(x, v)]
section
variable {T : Tbs} {G : Glob} {C : Calls} {k : Nat} {N : List Str} {sc : Scope} {X : Cx} {q x : Str} {params : Arguments} {body : Expr} {bsc : Scope} {f c' : Addr} {pm ctv : Value} {pins : List (Addr × Obj)} {σ : L2.St} {ro rw : MH}
theorem key_turn (hX : Here T G C (k + 3) N sc X) (F : KeyFn T C x params body bsc) {H : Hp} {s : Shared} {m : Wd} (I : Inv X pins σ H s) (hf : s.heap.get? f = some (klaO q params body bsc pm c' ctv)) (hco : H c' = some (LamX.CodeO c' q)) (hr : HRel T X.K m (ro ++ rw) H) {a : Addr} {ns : List Int} (hv : H a = some (.tup (ns.map .int))) :
    wpAny (model X.prog X.w) X.A.in1.in1 (call (.ref f) [.ref a]) (fun u s' => ∃ m' H', Inv X pins σ H' s' ∧ Un (frs X.stack) [] H H' s.heap s'.heap ∧ Ext m H m' H' ∧ HRel T X.K m' (ro ++ rw) H' ∧ KeyH H' u (.ref a)) (fun _ _ => False) s := by
  have rep : Rep X.K m H (.tup true (ns.map .int)) (.ref a) := .tup (.inl (.inl hv)) (fun _ => hv) (Reps.ofInts ns)
  refine wpAny_mono (lam_run hX F.se F.S F.bind I hf hco hr rep rfl (Q := fun kv H' => ∃ m', Ext m H m' H' ∧ HRel T X.K m' (ro ++ rw) H' ∧ ∀ u, RelV kv u → KeyH H' u (.ref a)) ?_) (fun u s' hq => ?_) fun _ _ z => z
  · rw [key_eval]
    intro m' H' e r kv p
    refine ⟨m', e, r, fun u ru => ?_⟩
    cases p with
    | tup h1 h2 h3 =>
      obtain ⟨v1, v2, rfl, p1, p2⟩ := h3.two
      cases p1
      cases p2 with
      | tup g1 g2 g3 =>
        have g2 := g2 rfl
        have h2 := h2 rfl
        rw [g3.ints intsOf_map] at g2
        obtain rfl : u = Value.ref _ := ru
        refine ⟨_, _, a, ns, rfl, rfl, h2, g2, ?_⟩
        have rep' := rep.ext e.toExtW hr.noTup
        cases rep' with
        | tup z1 z2 z3 =>
          have z2 := z2 rfl
          rw [z3.ints intsOf_map] at z2
          exact z2
  · obtain ⟨kv, H', ho, hg, un, ok, ru, m', e, r, kh⟩ := hq
    exact ⟨m', H', I.call' ho un ok hg (fun b z => absurd z (by simp)), un, e, r, kh u ru⟩
/-- while the keys are made: where they are laid, where the items stood -/
structure Keys (T : Tbs) (X : Cx) (pins : List (Addr × Obj)) (σ : L2.St) (h0 : MH) (m : Wd) (H : Hp) (f kS L : Addr) (fo : Obj) (e1 : Nat) (vs : List Value) (m' : Wd) (H' : Hp) (ks : List Value) (e : Nat) (s : Shared) : Prop where
  I : Inv X pins σ H' s
  ext : Ext m H m' H'
  rel : HRel T X.K m' h0 H'
  key : ∀ p ∈ ks.zip vs, KeyH H' p.1 p.2
  its : ∀ v ∈ vs, ∃ (a : Addr) (ns : List Int), v = .ref a ∧ H' a = some (.tup (ns.map .int))
  fn : s.heap.get? f = some fo ∧ H' f = none
  kS : s.heap.get? kS = some (seqObj "list" ks.toArray e) ∧ FpOk X pins H' kS
  L : s.heap.get? L = some (seqObj "list" #[] e1) ∧ FpOk X pins H' L
theorem FpOk.on {H H' : Hp} {b : Addr} (h : FpOk X pins H b) (n : H' b = none) : FpOk X pins H' b := ⟨n, h.2⟩
theorem FpOk.frs {H : Hp} {b : Addr} {s : Shared} (h : FpOk X pins H b) (I : Inv X pins σ H s) : b ∉ frs X.stack := fun z => by
  rcases List.mem_cons.mp (I.stkSub b z) with e | e
  · exact h.2.1 e
  · exact h.2.2.1 e
theorem zip_snoc {α β : Type} {ks : List α} {vs : List β} {k : α} {v : β} (h : vs[ks.length]? = some v) : ∀ p ∈ (ks ++ [k]).zip vs, p ∈ ks.zip vs ∨ p = (k, v) := by
  intro p hp
  obtain ⟨i, hi⟩ := List.mem_iff_getElem?.mp hp
  obtain ⟨h1, h2⟩ := List.getElem?_zip_eq_some.mp hi
  by_cases z : i < ks.length
  · rw [List.getElem?_append_left z] at h1
    exact .inl (List.mem_of_getElem? (List.getElem?_zip_eq_some.mpr ⟨h1, h2⟩))
  · have z2 : i = ks.length := by
      have := (List.getElem?_eq_some_iff.mp h1).1
      simp at this; omega
    subst z2
    rw [h] at h2
    simp at h1
    right
    obtain ⟨p1, p2⟩ := p
    cases h2
    simp at h1
    rw [h1]
theorem Keys.turn (hX : Here T G C (k + 3) N sc X) (F : KeyFn T C x params body bsc) {m m' : Wd} {H H' : Hp} {kS L : Addr} {e1 e : Nat} {vs ks : List Value} {v : Value} {s : Shared} (h64 : vs.length < 64) (hne : kS ≠ L) (hf : f ∉ frs X.stack) (hfk : f ≠ kS) (hco : H c' = some (LamX.CodeO c' q)) (hcm : c' ∉ m)
    (W : Keys T X pins σ (ro ++ rw) m H f kS L (klaO q params body bsc pm c' ctv) e1 vs m' H' ks e s) (hv : vs[ks.length]? = some v) {P : PUnit → Shared → Prop} {E : Value → Shared → Prop} {body2 : Value → Sem PUnit} (hb : body2 = fun u => Builtin.List.listUpdate (.ref kS) (·.push u))
    (h : ∀ m2 H2 u e2 s2, Keys T X pins σ (ro ++ rw) m H f kS L (klaO q params body bsc pm c' ctv) e1 vs m2 H2 (ks ++ [u]) e2 s2 → P ⟨⟩ s2) :
    wpAny (model X.prog X.w) X.A.in1.in1 (call (.ref f) [v]) (fun u s' => wpAny (model X.prog X.w) X.A.in1.in1 (body2 u) P E s') (fun _ _ => False) s := by
  subst hb
  obtain ⟨a, ns, rfl, ha⟩ := W.its v (List.mem_of_getElem? hv)
  have hco' : H' c' = some (LamX.CodeO c' q) := W.ext.same _ _ hco hcm LamX.codeO_ne
  refine wpAny_mono (key_turn hX F W.I W.fn.1 hco' W.rel ha) (fun u s' hq => ?_) fun _ _ z => z
  obtain ⟨m2, H2, I2, un, ex, rel, kh⟩ := hq
  have hl : ks.length < vs.length := (List.getElem?_eq_some_iff.mp hv).1
  have nk : H2 kS = none := un.free _ _ W.kS.1 W.kS.2.1 (by simp)
  have nL : H2 L = none := un.free _ _ W.L.1 W.L.2.1 (by simp)
  have nf : H2 f = none := un.free _ _ W.fn.1 W.fn.2 (by simp)
  have gk := un.keep _ _ W.kS.1 W.kS.2.1 (FpOk.frs W.kS.2 W.I) (by simp)
  have gL := un.keep _ _ W.L.1 W.L.2.1 (FpOk.frs W.L.2 W.I) (by simp)
  have gf := un.keep _ _ W.fn.1 W.fn.2 hf (by simp)
  refine listUpdate_at gk rfl ?_ (by rw [List.size_toArray, sizeLine_eq]; omega) (by rw [Array.size_push, List.size_toArray, sizeLine_eq]; omega)
  have oth : ∀ b o, b ≠ kS → s'.heap.get? b = some o → (s'.heap.update kS (Obj.mapSeq (·.push u))).get? b = some o := fun b o hb e => (Heap.get?_update_other _ _ (Ne.symm hb)).trans e
  have ea : ks.toArray.push u = (ks ++ [u]).toArray := by simp
  have gk2 := get?_update_seq gk (·.push u)
  rw [ea] at gk2
  refine h m2 H2 u _ _ ⟨I2.turnedL (t' := s'.toks) (ch := [kS]) (fun b o hb e => oth b o (fun z => hb (by simp [z])) e) (fun b hb => ?_), W.ext.trans ex, rel, fun p hp => ?_, fun v hv => ?_, ⟨oth _ _ hfk gf, nf⟩, ⟨gk2, FpOk.on W.kS.2 nk⟩, ⟨oth _ _ hne.symm gL, FpOk.on W.L.2 nL⟩⟩
  · rw [List.mem_singleton.mp hb]; exact FpOk.on W.kS.2 nk
  · rcases zip_snoc hv p hp with z | z
    · exact (W.key p z).on un.tups
    · rw [z]; exact kh
  · obtain ⟨a, ns, e1, e2⟩ := W.its v hv
    exact ⟨a, ns, e1, un.tups _ _ e2⟩
end
end Mx

set_option Elab.async false
set_option linter.all false
set_option maxRecDepth 100000
set_option maxHeartbeats 1000000
/-! Mx, part U: sorted with a key, to its end. -/
namespace Mx
open PySem L2 PySem.Spec PyProof.Rows
section
variable {T : Tbs} {G : Glob} {C : Calls} {k : Nat} {N : List Str} {sc : Scope} {X : Cx} {q x : Str} {params : Arguments} {body : Expr} {bsc : Scope} {f c' : Addr} {pm ctv : Value} {pins : List (Addr × Obj)} {σ : L2.St} {ro rw : MH}
variable {m m' : Wd} {H H' : Hp} {kS L : Addr} {e1 e : Nat} {vs ks : List Value} {s : Shared} {P : PySem.Fin → Shared → Prop} {E : Value → Shared → Prop} {fo : Obj}
theorem zip_arr (ks vs : List Value) : (ks.toArray.zip vs.toArray).toList = ks.zip vs := by simp
/-- the list is laid -/
theorem keys_tail {st : SortSt} {A : Around} (W : Keys T X pins σ (ro ++ rw) m H f kS L fo e1 vs m' H' ks e s) (h64 : vs.length < 64) (hl : ks.length = vs.length) (hne : kS ≠ L) (hp : (arrOf st).toList.Perm (ks.zip vs)) (hs : SrtO.Srtd (fun u v : Keyed => llI (tupI s.heap u.2) (tupI s.heap v.2)) (arrOf st).toList) (hfl : failedOf st = none)
    (h : ∀ (out : List Value) (s' : Shared), Inv X pins σ (upd H' L (.lst (out.map backV))) s' → out.Perm vs → SrtO.Srtd (fun u v => llI (tupI s.heap u) (tupI s.heap v)) out → P (.done (.ret .none)) s') :
    wpAny (model X.prog X.w) A (ksk_tail L false e1 (.ref kS) st) P E s := by
  have hpo : ((arrOf st).toList.map (·.2)).Perm vs := by
    have q := hp.map (·.2)
    have e : (ks.zip vs).map (·.2) = vs := List.map_snd_zip (by omega)
    rw [e] at q
    exact q
  have hol := hpo.length_eq
  have hoa : ((arrOf st).map (·.2)) = ((arrOf st).toList.map (·.2)).toArray := by
    apply Array.toList_inj.mp
    simp
  have g1 := W.kS.1
  have g2 := W.L.1
  have o1 : ∀ b o, b ≠ kS → s.heap.get? b = some o → (s.heap.update kS (Obj.mapSeq fun _ => (#[] : Array Value))).get? b = some o := fun b o hb e => (Heap.get?_update_other _ _ (Ne.symm hb)).trans e
  have g3 := o1 L _ hne.symm g2
  have I1 : Inv X pins σ H' { s with heap := s.heap.update kS (Obj.mapSeq fun _ => (#[] : Array Value)), toks := s.toks } := W.I.turnedL (ch := [kS]) (fun b o hb e => o1 b o (fun z => hb (by simp [z])) e) (fun b hb => by rw [List.mem_singleton.mp hb]; exact W.kS.2)
  unfold ksk_tail
  try dsimp only
  refine wpAny_bind (listUpdate_at g1 rfl ?_ (by rw [List.size_toArray, hl, sizeLine_eq]; omega) (Nat.zero_le _))
  refine wpAny_bind (wpAny_letGo ?_)
  refine wpAny_bind (seqEpoch_at g3 rfl ?_)
  refine wpAny_bind (listUpdate_at g3 rfl ?_ (Nat.zero_le _) (by
    simp only [Bool.false_eq_true, if_false]
    rw [hoa, List.size_toArray, hol, sizeLine_eq]; omega))
  rw [hfl]
  simp only [bne_self_eq_false, Bool.false_eq_true, if_false]
  have g4 := get?_update_seq g3 fun _ => (arrOf st).map (·.2)
  have hob : ∀ u ∈ (arrOf st).toList.map (·.2), ∃ a, u = Value.ref a := fun u hu => by
    obtain ⟨a, ns, e, _⟩ := W.its u (hpo.mem_iff.mp hu)
    exact ⟨a, e⟩
  refine wpAny_pure (h ((arrOf st).toList.map (·.2)) _ (I1.take (fun b ob hb e => (Heap.get?_update_other _ _ (Ne.symm hb)).trans e) W.L.2 ?_) hpo (List.pairwise_map.mpr hs))
  have g5 : ∃ n, ((s.heap.update kS (Obj.mapSeq fun _ => (#[] : Array Value))).update L (Obj.mapSeq fun _ => (arrOf st).map (·.2))).get? L = some (seqObj "list" ((arrOf st).toList.map (·.2)).toArray n) := by
    rw [← hoa]; exact ⟨_, g4⟩
  obtain ⟨n, g5⟩ := g5
  exact ⟨by rw [List.length_map, hol, sizeLine_eq]; omega, _, n, vals_back hob, g5⟩
theorem keys_end {A : Around} (hu : A.units < cLine) (W : Keys T X pins σ (ro ++ rw) m H f kS L fo e1 vs m' H' ks e s) (h64 : vs.length < 64) (hl : ks.length = vs.length) (hne : kS ≠ L)
    (h : ∀ (out : List Value) (s' : Shared), Inv X pins σ (upd H' L (.lst (out.map backV))) s' → out.Perm vs → SrtO.Srtd (fun u v => llI (tupI s.heap u) (tupI s.heap v)) out → P (.done (.ret .none)) s') :
    wpAny (model X.prog X.w) A (ksk_end L false vs.toArray e1 (.ref kS) ks.toArray) P E s := by
  have kv : ∀ p ∈ ks.zip vs, KOk s.heap p := fun p hp => by
    obtain ⟨k1, k2⟩ := key_at W.I.hok (W.key p hp)
    exact ⟨k2, k1⟩
  unfold ksk_end
  try dsimp only
  simp only [Bool.false_eq_true, if_false]
  by_cases h2 : vs.toArray.size < 2
  · rw [if_pos h2, if_pos h2]
    refine wpAny_bind (wpAny_pure ?_)
    rw [StateT.run_pure]
    refine wpAny_bind (wpAny_pure ?_)
    try dsimp only
    refine keys_tail (st := SortSt.mk' general' (ks.toArray.zip vs.toArray) #[] 7 none) W h64 hl hne (by rw [show arrOf (SortSt.mk' general' (ks.toArray.zip vs.toArray) #[] 7 none) = ks.toArray.zip vs.toArray from rfl, zip_arr]) ?_ rfl h
    rw [show arrOf (SortSt.mk' general' (ks.toArray.zip vs.toArray) #[] 7 none) = ks.toArray.zip vs.toArray from rfl, zip_arr]
    rw [List.size_toArray] at h2
    have hz : (ks.zip vs).length < 2 := by rw [List.length_zip]; omega
    match ks.zip vs, hz with
    | [], _ => exact List.Pairwise.nil
    | [p], _ => exact List.pairwise_singleton _ _
    | _ :: _ :: l, hz => exact absurd hz (by rw [List.length_cons, List.length_cons]; omega)
  · rw [if_neg h2, if_neg h2]
    rw [List.size_toArray] at h2
    refine wpAny_bind (key_kind hl (by omega) (fun p hp => (kv p hp).2) ?_)
    refine wpAny_bind (wpAny_mono (SrtO.wpS_sortO (st0 := SortSt.mk' (tuples' true) (ks.toArray.zip vs.toArray) #[] 7 none) (P := KOk s.heap) (lt := fun p q => llI (tupI s.heap p.2) (tupI s.heap q.2))
      (Q := fun _ st' => SrtO.Srtd (fun u v : Keyed => llI (tupI s.heap u.2) (tupI s.heap v.2)) (arrOf st').toList ∧ (arrOf st').toList.Perm (ks.zip vs) ∧ failedOf st' = none)
      ⟨fun p q => ll_swo.asym _ _, fun p q r => ll_swo.tr _ _ _⟩ (key_cmp hu) rfl (fun p hp => ?_) rfl rfl fun st' a1 a2 a3 => ⟨a1, ?_, a3⟩) ?_ fun _ _ e => e)
    · have hp : p ∈ (ks.toArray.zip vs.toArray).toList := hp
      rw [zip_arr] at hp
      exact kv p hp
    · have q := a2.perm
      rw [show arrOf (SortSt.mk' (tuples' true) (ks.toArray.zip vs.toArray) #[] 7 none) = ks.toArray.zip vs.toArray from rfl, zip_arr] at q
      exact q
    · rintro ⟨⟨⟩, st'⟩ s' ⟨rfl, hp1, hp2, hf⟩
      try dsimp only
      exact keys_tail W h64 hl hne hp2 hp1 hf h
theorem keys_all (hX : Here T G C (k + 3) N sc X) (F : KeyFn T C x params body bsc) (h64 : vs.length < 64) (hne : kS ≠ L) (hf : f ∉ frs X.stack) (hfk : f ≠ kS) (hco : H c' = some (LamX.CodeO c' q)) (hcm : c' ∉ m)
    (W : Keys T X pins σ (ro ++ rw) m H f kS L (klaO q params body bsc pm c' ctv) e1 vs m' H' [] e s)
    (h : ∀ m' H' ks e s', Keys T X pins σ (ro ++ rw) m H f kS L (klaO q params body bsc pm c' ctv) e1 vs m' H' ks e s' → ks.length = vs.length → wpAny (model X.prog X.w) X.A.in1.in1 (ksk_end L false vs.toArray e1 (.ref kS) ks.toArray) P E s') :
    wpAny (model X.prog X.w) X.A.in1.in1 (ksk_rest L (.ref f) false vs.toArray e1 (.ref kS)) P E s := by
  unfold ksk_rest
  refine wpAny_bind (wpAny_rule ?_)
  rw [List.forIn_toArray]
  refine wpAny_bind (ksk_fold (fun i s' => ∃ m' H' ks e, ks.length = i ∧ Keys T X pins σ (ro ++ rw) m H f kS L (klaO q params body bsc pm c' ctv) e1 vs m' H' ks e s') vs 0 s ⟨m', H', [], e, rfl, W⟩ ?step ?done)
  case step =>
    rintro j y s' hy ⟨m', H', ks, e, hl, W⟩
    simp only [Nat.zero_add] at hl ⊢
    rw [← hl] at hy
    refine wpAny_bind (wpAny_attempt (wpAny_mono (Keys.turn hX F h64 hne hf hfk hco hcm W hy (P := fun _ s2 => ∃ m' H' ks e, ks.length = j + 1 ∧ Keys T X pins σ (ro ++ rw) m H f kS L (klaO q params body bsc pm c' ctv) e1 vs m' H' ks e s2) (E := E) rfl fun m2 H2 u e2 s2 W2 => ⟨m2, H2, _, e2, by simp [hl], W2⟩) (fun u s'' he => ?_) fun _ _ z => z.elim))
    try dsimp only
    exact wpAny_bind (wpAny_mono he (fun _ s2 h2 => wpAny_pure ⟨rfl, h2⟩) fun _ _ z => z)
  case done =>
    rintro s' ⟨m', H', ks, e, hl, W⟩
    try dsimp only
    refine wpAny_bind (listItems_at W.kS.1 rfl ?_)
    exact h m' H' ks e s' W (by omega)
end
end Mx

set_option Elab.async false
set_option linter.all false
set_option maxRecDepth 100000
set_option maxHeartbeats 1000000
/-! Mx, part V: the call of sorted with such a key. -/
namespace Mx
open PySem L2 PySem.Spec PyProof.Rows
section
variable {K : PySem.W.Frag} {m : Wd} {H : Hp}
/-- an item is a tuple of these ints -/
def TupV (H : Hp) (v : Value) (t : List Int) : Prop := ∃ a : Addr, v = .ref a ∧ H a = some (.tup (t.map .int))
theorem tup_items : ∀ {xs : List D} {vs0 : List V} {vs : List Value} {ts : List (List Int)}, Reps K m H xs vs0 → xs.mapM tupInts = some ts → Vals vs0 vs → All2 (TupV H) vs ts
  | [], _, _, ts, .nil, e, .nil => by
    simp only [List.mapM_nil, Option.pure_def, Option.some.injEq] at e
    subst e; exact .nil
  | x :: xs, _, _, ts, .cons h t, e, .cons r rs => by
    obtain ⟨b, bs, e1, e2, rfl⟩ := mapM_cons e
    refine .cons ?_ (tup_items t e2 rs)
    cases x with
    | tup kk ds =>
      cases kk with
      | false => cases e1
      | true =>
        have e1 : intsOf ds = some b := e1
        cases h with
        | tup h1 h2 h3 =>
          have h2 := h2 rfl
          rw [h3.ints e1] at h2
          exact ⟨_, r, h2⟩
    | _ => cases e1
theorem all2_its {vs : List Value} {ts : List (List Int)} (h : All2 (TupV H) vs ts) : ∀ v ∈ vs, ∃ (a : Addr) (ns : List Int), v = .ref a ∧ H a = some (.tup (ns.map .int)) := by
  induction h with
  | nil => exact fun v hv => absurd hv (by simp)
  | cons h1 t ih =>
    intro v hv
    rcases List.mem_cons.mp hv with rfl | hv
    · obtain ⟨a, e1, e2⟩ := h1
      exact ⟨a, _, e1, e2⟩
    · exact ih v hv
theorem all2_tupI {P : Program} {w : World} {hp : Heap} {H' : Hp} (ok : HOk P w H' hp) (up : ∀ a xs, H a = some (.tup xs) → H' a = some (.tup xs)) {vs : List Value} {ts : List (List Int)} (h : All2 (TupV H) vs ts) : vs.map (tupI hp) = ts := by
  induction h with
  | nil => rfl
  | cons h1 t ih =>
    obtain ⟨a, rfl, e⟩ := h1
    rw [List.map_cons, ih, (tup_at ok (up _ _ e)).1]
theorem reps_out {P : Program} {w : World} {hp : Heap} (ok : HOk P w H hp) : ∀ {out : List Value}, (∀ v ∈ out, ∃ (a : Addr) (ns : List Int), v = .ref a ∧ H a = some (.tup (ns.map .int))) → Reps K m H (out.map fun u => .tup true ((tupI hp u).map .int)) (out.map backV)
  | [], _ => .nil
  | u :: out, h => by
    refine .cons ?_ (reps_out ok fun v hv => h v (List.mem_cons_of_mem _ hv))
    obtain ⟨a, ns, rfl, e⟩ := h u List.mem_cons_self
    show Rep K m H (.tup true ((tupI hp (.ref a)).map .int)) (.ref a)
    rw [(tup_at ok e).1]
    exact .tup (.inl (.inl e)) (fun _ => e) (Reps.ofInts ns)
end
section
variable {T : Tbs} {G : Glob} {C : Calls} {k : Nat} {N : List Str} {sc : Scope} {X : Cx} {q x : Str} {params : Arguments} {body : Expr} {bsc : Scope} {f c' : Addr} {pm ctv : Value} {pins : List (Addr × Obj)} {σ : L2.St} {ro rw : MH}
theorem run_sortKey (hX : Here T G C (k + 3) N sc X) (F : KeyFn T C x params body bsc) {m : Wd} {H : Hp} {s : Shared} {d : D} {v : V} {u : Value} {xs ys : List D} {mu : Bool} {Q : VK} (I : Inv X pins σ H s) (hr : HRel T X.K m (ro ++ rw) H) (hf : s.heap.get? f = some (klaO q params body bsc pm c' ctv)) (hn : H f = none) (hfr : f ∉ frs X.stack) (hco : H c' = some (LamX.CodeO c' q)) (hcm : c' ∉ m)
    (hd : lstOf ro rw d = some xs) (p : Rep X.K m H d v) (ru : RelV v u) (hs : sortLenD xs = some ys) (g : Made T X.K ro rw m H mu (.lst ys) Q) :
    wpAny (model X.prog X.w) X.A (call (.builtin "sorted") [u] [(Str.ofString "key", .ref f)]) (EP X pins σ Q) X.xe s := by
  obtain ⟨l, vs0, rfl, hl, reps⟩ := hr.lst hd p
  obtain rfl : u = Value.ref l := ru
  obtain ⟨hz, vs, nl, rv, gl⟩ := I.hok l _ hl
  unfold sortLenD at hs
  split at hs
  case isFalse => cases hs
  rename_i z
  have z := of_decide_eq_true z
  obtain ⟨ts, et, rfl⟩ := Option.map_eq_some_iff.mp hs
  have all := tup_items reps et rv
  have h64 : vs.length < 64 := by rw [← rv.length, ← reps.length]; exact z
  have hil : s.heap.IsList l vs.toArray := ⟨_, gl, rfl, nl, rfl⟩
  refine call_function_entry_kw kind_sorted plain_sorted entry_sorted (ksk_s1 _ _) ?_
  unfold Builtin.«sorted»
  refine wpAny_bind (m := checkCount "sorted" 1 1 _) (wpAny_pure ?_)
  refine wpAny_bind (collect_list hil ?_ (by rw [sizeLine_eq]; omega))
  refine wpAny_bind (wpAny_newList ?_ (by rw [sizeLine_eq]; omega))
  have hsz : ((s.heap.push (seqObj "list" #[] 0)).update s.heap.objs.size (Obj.mapSeq (· ++ vs.toArray))).objs.size = s.heap.objs.size + 1 := by
    rw [Heap.size_update, size_push']
  generalize eh2 : (((s.heap.push (seqObj "list" #[] 0)).update s.heap.objs.size (Obj.mapSeq (· ++ vs.toArray))).push (seqObj "list" vs.toArray 0)) = h2
  have hoL : h2.get? (s.heap.objs.size + 1) = some (seqObj "list" vs.toArray 0) := by
    rw [← eh2, ← hsz]; exact Heap.get?_push_size _ rfl
  have keep : ∀ b o, s.heap.get? b = some o → h2.get? b = some o := fun b o q => by
    have hlt : b < s.heap.objs.size := Heap.lt_size q
    rw [← eh2, Heap.get?_push_ne _ _ _ (by rw [hsz]; exact Nat.ne_of_lt (Nat.lt_succ_of_lt hlt)), Heap.get?_update_ne _ _ _ _ (Nat.ne_of_lt hlt), Heap.get?_push_ne _ _ _ (Nat.ne_of_lt hlt)]
    exact q
  have hs2 : h2.objs.size = s.heap.objs.size + 2 := by rw [← eh2, size_push', hsz]
  show wpAny _ _ _ _ _ { s with heap := h2 }
  rw [hsz]
  refine wpAny_bind (wpAny_holding (wpAny_call_entry_kw slot_list_sort ⟨_, hoL, rfl⟩ entry_list_sort ?body (ksk_l1 _ _)))
  show wpAny (model X.prog X.w) X.A.in1.in1 (Builtin.«list.sort» ⟨[.ref (s.heap.objs.size + 1)], [(Str.ofString "key", .ref f)]⟩) _ _ _
  rw [ksk_t1]
  unfold ksk_tree
  have s1 := Heap.SameBut.update h2 (s.heap.objs.size + 1) (Obj.mapSeq fun _ => (#[] : Array Value))
  obtain ⟨e1, ho1⟩ : ∃ e1, (h2.update (s.heap.objs.size + 1) (Obj.mapSeq fun _ => (#[] : Array Value))).get? (s.heap.objs.size + 1) = some (seqObj "list" #[] e1) := ⟨_, get?_update_seq hoL fun _ => #[]⟩
  refine wpAny_bind (listItems_at hoL rfl ?_)
  refine wpAny_bind (listUpdate_at hoL rfl ?_ (by rw [List.size_toArray, sizeLine_eq]; omega) (Nat.zero_le _))
  refine wpAny_bind (seqEpoch_at ho1 rfl ?_)
  refine wpAny_bind (wpAny_newTuple ?_ (by show vs.length ≤ _; rw [sizeLine_eq]; omega))
  refine wpAny_bind (wpAny_newList ?_ (Nat.zero_le _))
  refine wpAny_holding ?_
  have hkS : ((h2.update (s.heap.objs.size + 1) (Obj.mapSeq fun _ => (#[] : Array Value))).push (seqObj "tuple" vs.toArray 0)).objs.size = s.heap.objs.size + 3 := by rw [size_push', Heap.size_update, hs2]
  generalize eh3 : ((h2.update (s.heap.objs.size + 1) (Obj.mapSeq fun _ => (#[] : Array Value))).push (seqObj "tuple" vs.toArray 0)) = h3 at hkS ⊢
  have k3 : ∀ b o, b < s.heap.objs.size + 1 → h2.get? b = some o → (h3.push (seqObj "list" #[] 0)).get? b = some o := fun b o hb e => by
    refine Heap.get?_push_of_some _ ?_
    rw [← eh3]
    exact Heap.get?_push_of_some _ ((s1.2 b (Nat.ne_of_lt hb)).trans e)
  have kp : ∀ b o, s.heap.get? b = some o → (h3.push (seqObj "list" #[] 0)).get? b = some o := fun b o e => k3 b o (Nat.lt_succ_of_lt (Heap.lt_size e)) (keep b o e)
  have gL : (h3.push (seqObj "list" #[] 0)).get? (s.heap.objs.size + 1) = some (seqObj "list" #[] e1) := by
    refine Heap.get?_push_of_some _ ?_
    rw [← eh3]
    exact Heap.get?_push_of_some _ ho1
  have gk : (h3.push (seqObj "list" #[] 0)).get? (s.heap.objs.size + 3) = some (seqObj "list" #[] 0) := by
    rw [← hkS]; exact Heap.get?_push_size _ rfl
  rw [show (({ s with heap := h3 } : Shared).heap.objs.size) = s.heap.objs.size + 3 from hkS]
  have W : Keys T X pins σ (ro ++ rw) m H f (s.heap.objs.size + 3) (s.heap.objs.size + 1) (klaO q params body bsc pm c' ctv) e1 vs m H [] 0 { s with heap := h3.push (seqObj "list" #[] 0) } :=
    ⟨I.kept (t' := s.toks) kp, .refl m H, hr, fun p hp => absurd hp (by simp), all2_its all, ⟨kp _ _ hf, hn⟩, ⟨gk, I.fpOk (Nat.le_add_right _ _) (I.hok.fresh (Nat.le_add_right _ _))⟩, ⟨gL, I.fpOk (Nat.le_add_right _ _) (I.hok.fresh (Nat.le_add_right _ _))⟩⟩
  refine keys_all hX F h64 (Nat.ne_of_gt (Nat.lt_of_lt_of_le (Nat.lt_succ_self _) (Nat.le_succ _))) hfr (Nat.ne_of_lt (Nat.lt_of_lt_of_le (Heap.lt_size hf) (Nat.le_add_right _ _))) hco hcm W fun m' H' ks e s' W' hkl => ?_
  have hu : X.A.in1.in1.units < cLine := by
    have := hX.ctx.hu
    show X.A.units + 1 + 1 < cLine
    omega
  refine keys_end hu W' h64 hkl (Nat.ne_of_gt (Nat.lt_of_lt_of_le (Nat.lt_succ_self _) (Nat.le_succ _))) fun out s2 I2 hp hso => ⟨_, rfl, wpAny_pure ⟨_, rfl, .ref (s.heap.objs.size + 1), _, I2, rfl, ?_⟩⟩
  have up : ∀ a xs, H a = some (.tup xs) → H' a = some (.tup xs) := fun a xs h => W'.ext.same a _ h (fun z => (hr.noTup a z _ h).1 xs rfl) (fun ps z => nomatch z)
  have e2 := all2_tupI W'.I.hok up all
  have e3 : out.map (tupI s'.heap) = isort (lenLex ltInt) ts := isortLL_eq (by rw [← e2]; exact hp.map _) (List.pairwise_map.mpr hso)
  have rep : Reps X.K m' H' ((isort (lenLex ltInt) ts).map fun t => .tup true (t.map .int)) (out.map backV) := by
    rw [← e3, List.map_map]
    exact reps_out W'.I.hok fun v hv => W'.its v (hp.mem_iff.mp hv)
  exact Made.lst (Sat.move g W'.ext) W'.rel rep _ W'.L.2.1
end
end Mx

set_option Elab.async false
set_option linter.all false
set_option maxRecDepth 100000
set_option maxHeartbeats 1000000
/-! Mx, part W: the expression sorted(.., key=lambda ..). -/
namespace Mx
open PySem L2 PySem.Spec PyProof.Rows
theorem HRel.owned {T : Tbs} {K : PySem.W.Frag} {m : Wd} {H : Hp} {h : MH} (r : HRel T K m h H) {a : Addr} (ha : a ∈ m) {u : HO} (hu : H a = some u) : isOwn u = true := by
  rcases ha with ha | ha
  · obtain ⟨l, hl⟩ := List.mem_iff_getElem?.mp ha
    have hlt : l < h.length := by rw [← r.len]; exact (List.getElem?_eq_some_iff.mp hl).1
    have q := r.ob l h[l] a (List.getElem?_eq_getElem hlt) hl
    cases ho : h[l] <;> rw [ho] at q
    · obtain ⟨vs, e, _⟩ := q; rw [e] at hu; cases hu; rfl
    · obtain ⟨vs, e, _⟩ := q; rw [e] at hu; cases hu; rfl
    · obtain ⟨vs, e, _⟩ := q; rw [e] at hu; cases hu; rfl
  · obtain ⟨_, w, e, z⟩ := r.hid a ha
    rw [e] at hu; cases hu
    exact z
section
variable {T : Tbs} {G : Glob} {C : Calls} {k : Nat} {N : List Str} {sc : Scope}
theorem se_sortedLen {mu : Bool} {a : ME} {ea : Expr} {x : Str} {params : Arguments} {body : Expr} {bsc : Scope} {lpos kp p pos : Pos} (hg : sc.names.lookup ("sorted" : Str) = some .globalImplicit) (hl : G.lam = true) (F : KeyFn T C x params body bsc) (hdef : ∀ env, defaultsOf params env = ([], [])) (hs : isStar ea = false)
    (ha : SE T G C (k + 3) N sc a ea) : SE T G C (k + 3) N sc (.blt mu .sortedLen [a]) (.Call (.Name "sorted" p) [ea] [⟨some (Str.ofString "key"), .Lambda params body bsc lpos, kp⟩] pos) := fun X hX ro rw σ s ma H Q rs hr q => by
  have hsl : [ea].all (fun e => !isStar e) = true := by simp [hs]
  obtain ⟨c, P, hcode, TB, hmT, huT⟩ := hX.lam hl
  have read : wA X [ea] s H fun vs H1 => ∃ (rw1 : MH) (m1 : Wd) (d : D) (v : V) (xs ys : List D), vs = [v] ∧ HRel T X.K m1 (ro ++ rw1) H1 ∧ Rep X.K m1 H1 d v ∧ lstOf ro rw1 d = some xs ∧ sortLenD xs = some ys ∧ Made T X.K ro rw1 m1 H1 mu (.lst ys) Q :=
    sa_of (.cons ha .nil) hsl X hX ro rw σ s ma H _ rs hr ((Sat.len (Sat.bind q)).mono fun ds rw1 m1 H1 e1 r1 q1 vs hvs => by
      obtain ⟨hlen, q1⟩ := q1
      obtain ⟨d', ed, g⟩ := Sat.lift (Sat.bind q1)
      have g := g m1 H1 (.refl _ _) r1
      obtain ⟨d, rfl⟩ : ∃ d, ds = [d] := List.length_eq_one_iff.mp hlen
      have ed : ((lstOf ro rw1 d).bind sortLenD).map D.lst = some d' := ed
      obtain ⟨xs0, ex, rfl⟩ := Option.map_eq_some_iff.mp ed
      obtain ⟨xs, e2, e3⟩ := Option.bind_eq_some_iff.mp ex
      obtain ⟨v, rfl, h⟩ := hvs.one'
      exact ⟨rw1, m1, _, v, xs, xs0, rfl, r1, h, e2, e3, g⟩)
  intro pins s0 I
  refine wpAny_Call_Name_kw (ld_blt I (gl_of hX hg) (hX.glob.blt "sorted" (by decide +kernel)) (u := .builtin "sorted") (by decide +kernel) ?_ (by decide +kernel) (by decide +kernel))
  refine PyProof.Rows.callWith_kw (thn (read pos pins s0 I) fun us s1 ⟨vs, H1, I1, r1, rw1, m1, d, v, xs, ys, ev, rel, rep, h1, h2, g⟩ => ?_) (by rw [star_each hs]; rfl) (no_star hsl) rfl rfl
  subst ev
  obtain ⟨u, rfl, ru⟩ := vals1 r1
  show wpAny _ _ (evalAll [do let v ← eval (.Lambda params body bsc lpos) X.env; standAt pos; pure v]) (fun kvs s2 => wpAny (model X.prog X.w) X.A (call (.builtin "sorted") [u] ([Str.ofString "key"].zip kvs)) (EP X pins s Q) X.xe s2) X.xe s1
  refine wpAny_evalAll_cons (wpAny_bind (LamX.lam_make2 I1 TB hcode hmT huT rel.tabs (hdef X.env) (fun y hy e => absurd e (F.S.nofree y hy)) fun f c' pm ctv H2 s2 I2 eN tb hf hn hfr hco => wpAny_bind (wpAny_standAt (wpAny_pure (wpAny_evalAll_nil ?_)))))
  rw [clo_nil F.S.nofree] at hf
  obtain ⟨ex, rel2⟩ := ext_n eN tb rel
  have hcm : c' ∉ m1 := fun z => by
    have := rel2.owned z hco
    cases this
  exact run_sortKey hX F I2 rel2 hf hn hfr hco hcm h1 (rep.ext ex.toExtW rel.noTup) ru h2 (Sat.move g ex)
end
end Mx

set_option Elab.async false
set_option linter.all false
set_option maxRecDepth 100000
set_option maxHeartbeats 1000000
/-! Mx, part X: dict comprehensions whose keys are tuples. -/
namespace Mx
open PySem L2 PySem.Spec PyProof.Rows
theorem d_dictSetT {X : Cx} {pins : List (Addr × Obj)} {σ : L2.St} {H : Hp} {s : Shared} {E : Value → Shared → Prop} {D b : Addr} {kvs : List (List Key × V)} {k : List Key} {v : V} {r : Value} {Q : Unit → Shared → Prop} (hu : X.A.units + 1 < cLine) (I : Inv X pins σ H s) (e : H D = some (.dT kvs)) (l : kvs.length < sizeLine)
    (eb : H b = some (.tup (k.map kV))) (rv : RelV v r) (h : ∀ s', Inv X pins σ (upd H D (.dT (putK kvs k v))) s' → Q () s') : wpAny (model X.prog X.w) X.A (dictSet D (.ref b) r) Q E s := by
  obtain ⟨z, hd, xs, rel, dd⟩ := dt_of I.hok e
  have hz : xs.length ≤ sizeLine := by rw [← Paired.length rel]; exact z
  have hl : (putK kvs k v).length ≤ sizeLine := by have := length_putK kvs k v; omega
  refine wpAny_dictSet_heap (hsz := hz) (show X.A.units < cLine from by omega) (key_of I.hok eb) dd fun h' dd' hs => h _ ?_
  obtain ⟨q, es, ep, hq, h2, h3, h4, _, h5⟩ := dd'
  refine d_write I (by rw [e]; exact True.intro) hs ⟨q, hq⟩ ⟨hl, hd, _, (rel.put k eb rv).keeps fun c ys ec => ?_, q, es, ep, hq, h2, h3, h4, h5⟩
  rw [upd_ne (ne_of ec e (fun z => nomatch z))]
  exact ec
section
variable {X : Cx}
def tDcT (wi : TI) (g : TG) (tt : TT) (tk tv : TE) (vs : List Nat) : TE := fun σ H Q => wi σ H fun J H1 => ∀ D, H1 D = none → ∃ W : Nat → Nat → Hp → Prop, (∃ m, W 0 m (upd H1 D (.dT []))) ∧ ∀ i m H, W i m H →
  (J.stop i H ∧ Q (.ref D) H) ∨ (J.go i H ∧ ∃ Nx : Hp → Prop, (∀ H', Nx H' → ∃ m', m' < m ∧ W (i + 1) m' H') ∧ ∀ x H', J.yld i H x H' → g x (L2.wipe σ vs) H' fun σ2 H2 => L2.wipe σ2 vs = L2.wipe σ vs ∧ tt σ2 H2 fun b H3 =>
    if b = true then tk σ2 H3 fun y H4 => tv σ2 H4 fun z H5 => ∃ (kvs : List (List Key × V)) (k : List Key) (b : Addr), y = .ref b ∧ H5 b = some (.tup (k.map kV)) ∧ H5 D = some (.dT kvs) ∧ kvs.length < sizeLine ∧ Nx (upd H5 D (.dT (putK kvs k z))) else Nx H3)
theorem dcT_core {pins : List (Addr × Obj)} {s : Shared} {σ : L2.St} {H : Hp} {Q : VK} {kx vx tg iter : Expr} {ifs : List Expr} {bsc : Scope} {ow : List (Str × Nat)} {pos pos' : Pos} {wi : TI} {g : TG} {tt : TT} {tk tv : TE} {use : Option (Value → Sem Unit)} {Qf : Value → Shared → Prop}
    (hu : X.A.units + 1 < cLine) (hc : X.calm = true) (hN : X.N.Nodup) (I : Inv X pins σ H s) (hi : PI X tg iter wi) (ok : BlkOk X.N X.env.scope bsc ow)
    (hg : ∀ (s : Shared) (H : Hp) (C : Addr) (cl : List (Str × Addr)) (fp : List Addr), PG (X.blk s H bsc (compEnvC bsc cl C X.env) fp) tg g) (ht : ∀ (s : Shared) (H : Hp) (C : Addr) (cl : List (Str × Addr)) (fp : List Addr), PTs (X.blk s H bsc (compEnvC bsc cl C X.env) fp) ifs tt)
    (hk : ∀ (s : Shared) (H : Hp) (C : Addr) (cl : List (Str × Addr)) (fp : List Addr), PE (X.blk s H bsc (compEnvC bsc cl C X.env) fp) kx tk)
    (he : ∀ (s : Shared) (H : Hp) (C : Addr) (cl : List (Str × Addr)) (fp : List Addr), PE (X.blk s H bsc (compEnvC bsc cl C X.env) fp) vx tv) (hs : ∀ x, foldedSetIterable iter X.env x = pure x)
    (h : tDcT wi g tt tk tv (ow.map (·.2)) σ H Q)
    (hRR : ∀ D C s' m H', Inv X pins σ H' s' → Q (.ref D) H' → s'.heap.Ns C m → FpOk X pins H' C → compPost (model X.prog X.w) X.A X.xe use Qf (.ref D) C (.ok .next) s') :
    wpAny (model X.prog X.w) X.A (comprehension (.DictComp kx vx [⟨tg, iter, ifs, 0⟩] bsc pos) bsc X.env pos' newDict false (eval iter X.env) use) Qf X.xe s := by
  have hfr : ∀ y ∈ bsc.names, y.2 = .free → ∃ c, X.env.cells.lookup y.1 = some c := fun y hy e => by
    rcases ok.free y hy e with k | k
    · exact I.ok.has _ (.inl k)
    · exact I.ok.has _ (.inr k)
  refine wpAny_comprehension_free (use := use) rfl hs (closure_ok hfr) ok.kind (fun y hy e => by rw [ok.uniq y hy, e])
    (thn (hi.run pins s σ H _ I h) fun xv s1 hx => thn hx fun itv s2 h2 => ?_)
  obtain ⟨it, fp, tn, J, H2, e, I2, T, st2, f2, q⟩ := h2
  subst e
  refine wpAny_newObj_type (newEnv_comp ?_)
  generalize hD : s2.heap.objs.size = D
  have nD : H2 D = none := I2.hok.fresh (Nat.le_of_eq hD)
  obtain ⟨W, ⟨mz, wz⟩, tn1⟩ := q D nD
  -- the new list
  generalize es3 : ({ s2 with heap := s2.heap.push { cls := .type "dict", data := .dict #[] } } : Shared) = s3
  have I3 : Inv X pins σ (upd H2 D (.dT [])) s3 := by
    rw [← es3]
    refine I2.laid (t' := s2.toks) (fun b o e => Heap.get?_push_of_some _ e) (Nat.le_of_eq hD) ?_
    rw [← hD]
    exact dt_empty s2.heap I2.big
  have h3 : s3.heap = s2.heap.push { cls := .type "dict", data := .dict #[] } := by rw [← es3]
  have sz : ∀ b ∈ fp, b < s2.heap.objs.size := fun b hb => by
    obtain ⟨o, e, _⟩ := T.obj _ _ st2 b hb
    exact Heap.lt_size e
  have f3 : ∀ b ∈ fp, FpOk X pins (upd H2 D (.dT [])) b ∧ b < s3.heap.objs.size := fun b hb => by
    have hlt := sz b hb
    refine ⟨⟨?_, (f2 b hb).2⟩, by rw [h3, Heap.size_push]; exact Nat.lt_succ_of_lt hlt⟩
    rw [upd_ne (by rw [← hD]; exact Nat.ne_of_lt hlt)]
    exact (f2 b hb).1
  have st3 : tn 0 s3.heap := T.keep _ _ _ st2 fun b _ o e => by rw [h3]; exact Heap.get?_push_of_some _ e
  have I4 := block_start I3 ok hN f3
  have pgT := hg s3 (upd H2 D (.dT [])) s3.heap.objs.size (cellsFrom (s3.heap.objs.size + 1) bsc.names (cloFrom X.env.cells bsc.names [])) fp
  have ptT := ht s3 (upd H2 D (.dT [])) s3.heap.objs.size (cellsFrom (s3.heap.objs.size + 1) bsc.names (cloFrom X.env.cells bsc.names [])) fp
  have pkT := hk s3 (upd H2 D (.dT [])) s3.heap.objs.size (cellsFrom (s3.heap.objs.size + 1) bsc.names (cloFrom X.env.cells bsc.names [])) fp
  have pe := he s3 (upd H2 D (.dT [])) s3.heap.objs.size (cellsFrom (s3.heap.objs.size + 1) bsc.names (cloFrom X.env.cells bsc.names [])) fp
  show codeAny _ _ (.compStart (.DictComp kx vx [⟨tg, iter, ifs, 0⟩] bsc pos) 0 (.ref it) (.ref D) (compEnvC bsc (cellsFrom (s3.heap.objs.size + 1) bsc.names (cloFrom X.env.cells bsc.names [])) s3.heap.objs.size X.env)) (compPost (model X.prog X.w) X.A X.xe use Qf (.ref D) s3.heap.objs.size) { s3 with heap := pushCells (s3.heap.push { cls := .type "dict", data := .dict #[] }) bsc.names }
  have nfp0 : ∀ b ∈ fp, (upd H2 D (.dT [])) b = none := fun b hb => (f3 b hb).1.1
  generalize ece : compEnvC bsc (cellsFrom (s3.heap.objs.size + 1) bsc.names (cloFrom X.env.cells bsc.names [])) s3.heap.objs.size X.env = ce at I4 pgT ptT pkT pe ⊢
  have cL : ce.locals = s3.heap.objs.size := by subst ece; rfl
  generalize eH3 : upd H2 D (.dT []) = H3 at I3 I4 pgT ptT pkT pe wz nfp0 f3
  generalize es4 : ({ s3 with heap := pushCells (s3.heap.push { cls := .type "dict", data := .dict #[] }) bsc.names } : Shared) = s4 at I4 ⊢
  have st4 : tn 0 s4.heap := T.keep _ _ _ st3 fun b _ o e => by rw [← es4]; exact pushCells_keeps _ _ _ _ (Heap.get?_push_of_some _ e)
  have sta : ∀ {σ' : L2.St} {H' : Hp} {s' : Shared}, Inv (X.blk s3 H3 bsc ce fp) [] σ' H' s' → (∀ b ∈ fp, H' b = none) → ∀ b ∈ fp, FpOk (X.blk s3 H3 bsc ce fp) [] H' b := fun {σ' H' s'} I' hn b hb =>
    ⟨hn b hb, (I'.ok.exf b hb).1, I'.ok.exfs b hb, .inl hb, fun x c e => (I'.ok.exf b hb).2 x c e, fun p hp => absurd (show p ∈ ([] : List (Addr × Obj)) ++ [] from hp) (by simp)⟩
  have lp0 : codeAny (model X.prog X.w) X.A (.compLoop (.DictComp kx vx [⟨tg, iter, ifs, 0⟩] bsc pos) 0 (.ref it) (.ref D) ce) (compPost (model X.prog X.w) X.A X.xe use Qf (.ref D) s3.heap.objs.size) s4 := by
    refine compLoop_anyD (fun n s' => ∃ i H', Inv (X.blk s3 H3 bsc ce fp) [] (wipe σ (ow.map (·.2))) H' s' ∧ tn i s'.heap ∧ (∀ b ∈ fp, H' b = none) ∧ W i n H') ?_ mz ⟨0, H3, I4, st4, nfp0, wz⟩
    rintro n sq ⟨i, Hq, Iq, stq, nq, wq⟩
    rcases tn1 i n Hq wq with ⟨stop, qq⟩ | ⟨go, Nx, hNx, step⟩
    · have td := T.done (X.blk s3 H3 bsc ce fp) rfl rfl rfl hc i [] sq _ Hq (fun _ _ => False) Iq (sta Iq nq) stq stop
      refine thnF td fun r sr ⟨hr, Ir⟩ => ?_
      subst hr
      -- back in the def's context
      have Is : Inv X pins σ Hq sr := I3.call' (ch := fp) Ir.os Ir.base Ir.hok Ir.bare fun b hb => ⟨(f3 b hb).1.2.2.2.1, (f3 b hb).1.2.1, (f3 b hb).1.2.2.2.2.1, (f3 b hb).1.2.2.2.2.2⟩
      have nC : Hq s3.heap.objs.size = none := by
        have z : Hq ce.locals = none := Ir.free
        rw [cL] at z
        exact z
      obtain ⟨m, hn, _⟩ := Ir.loc
      have hn : sr.heap.Ns ce.locals m := hn
      rw [cL] at hn
      exact hRR D s3.heap.objs.size sr m Hq Is qq hn (I3.fpOk (Nat.le_refl _) nC)
    · have ti := T.item (X.blk s3 H3 bsc ce fp) rfl rfl rfl hc i [] sq _ Hq (fun _ _ => False) Iq (sta Iq nq) stq go
      refine thnF ti fun r sr ⟨u, hr, h6⟩ => ?_
      subst hr
      refine thnF h6 fun _ ss7 ⟨x, Hs, Is, r7, y7, st7, n7⟩ => ?_
      have I7' := Is.pinned (sta Is n7) (T.obj _ _ st7)
      refine thnF (pgT.run _ ss7 _ Hs x u _ I7' r7 (step x Hs y7)) fun _ s8 ⟨σ8, H8, I8, hw8, q8⟩ => ?_
      refine thnF (ptT.run _ s8 σ8 H8 _ I8 q8) fun b s9 ⟨H9, I9, q9⟩ => ?_
      -- the turn's end
      have fin1 : ∀ {s' : Shared} {H' : Hp}, Inv (X.blk s3 H3 bsc ce fp) ([] ++ pinsAt fp ss7.heap) σ8 H' s' → Nx H' → ∃ m, m < n ∧ ∃ i H', Inv (X.blk s3 H3 bsc ce fp) [] (wipe σ (ow.map (·.2))) H' s' ∧ tn i s'.heap ∧ (∀ b ∈ fp, H' b = none) ∧ W i m H' := fun {s' H'} I' nx => by
        obtain ⟨m', hm, w'⟩ := hNx H' nx
        have pin' : ∀ b ∈ fp, ∀ o, ss7.heap.get? b = some o → s'.heap.get? b = some o ∧ H' b = none := fun b hb o e =>
          let z := I'.pin (b, o) (List.mem_append_right _ (List.mem_append_right _ (mem_pinsAt hb e)))
          ⟨z.1, z.2.1⟩
        have hl : (wipe σ (ow.map (·.2))).length = σ8.length := by rw [← hw8, wipe_length]
        refine ⟨m', hm, i + 1, H', (I'.unpinned (pins := [])).weak hl (fun j v e => ?_), T.keep _ _ _ st7 fun b hb o e => (pin' b hb o e).1, fun b hb => ?_, w'⟩
        · rw [← hw8] at e
          exact (wipe_some e).1
        · obtain ⟨o, e, _⟩ := T.obj _ _ st7 b hb
          exact (pin' b hb o e).2
      cases b with
      | false =>
        simp only [Bool.false_eq_true, if_false] at q9 ⊢
        exact fin1 I9 q9
      | true =>
        simp only [if_true] at q9 ⊢
        refine thnF (pkT.run _ s9 σ8 H9 _ I9 q9) fun z s10 ⟨yk, H10, I10, r10, q10⟩ => ?_
        refine thnF (pe.run _ s10 σ8 H10 _ I10 q10) fun z2 s11 ⟨yv, H11, I11, r11, kvs, k, b, ek, hkb, hD11, hz11, nx⟩ => ?_
        subst ek
        cases (show z = Value.ref b from r10)
        exact d_dictSetT (X := X.blk s3 H3 bsc ce fp) hu I11 hD11 hz11 hkb r11 fun s12 I12 => fin1 I12 nx
  exact codeAny_compStart_dict lp0 (T.self X.A 0 _ _ _ st4 lp0)
/-- as a value -/
theorem pe_dcT {kx vx tg iter : Expr} {ifs : List Expr} {bsc : Scope} {ow : List (Str × Nat)} {pos : Pos} {wi : TI} {g : TG} {tt : TT} {tk tv : TE} (hu : X.A.units + 1 < cLine) (hc : X.calm = true) (hN : X.N.Nodup) (hi : PI X tg iter wi) (ok : BlkOk X.N X.env.scope bsc ow)
    (hg : ∀ (s : Shared) (H : Hp) (C : Addr) (cl : List (Str × Addr)) (fp : List Addr), PG (X.blk s H bsc (compEnvC bsc cl C X.env) fp) tg g) (ht : ∀ (s : Shared) (H : Hp) (C : Addr) (cl : List (Str × Addr)) (fp : List Addr), PTs (X.blk s H bsc (compEnvC bsc cl C X.env) fp) ifs tt)
    (hk : ∀ (s : Shared) (H : Hp) (C : Addr) (cl : List (Str × Addr)) (fp : List Addr), PE (X.blk s H bsc (compEnvC bsc cl C X.env) fp) kx tk)
    (he : ∀ (s : Shared) (H : Hp) (C : Addr) (cl : List (Str × Addr)) (fp : List Addr), PE (X.blk s H bsc (compEnvC bsc cl C X.env) fp) vx tv) (hs : ∀ x, foldedSetIterable iter X.env x = pure x := by intro _; rfl) :
    PE X (.DictComp kx vx [⟨tg, iter, ifs, 0⟩] bsc pos) (tDcT wi g tt tk tv (ow.map (·.2))) := by
  refine ⟨fun pins s σ H Q I h => ?_⟩
  rw [arm_eval_DictComp]
  refine dcT_core hu hc hN I hi ok hg ht hk he hs h fun D C s' m H' I' q hn f => ⟨m, hn, fun h'' sb => ?_⟩
  obtain ⟨f0, f1, f2, f3, f4, f5⟩ := f
  exact ⟨.ref D, H', I'.turned (t' := s'.toks) (fun b o hb e => (sb.2 b hb).trans e) f0 f1 f3 f4 f5, rfl, q⟩
end
end Mx

set_option Elab.async false
set_option linter.all false
set_option maxRecDepth 100000
set_option maxHeartbeats 1000000
/-! Mx, part Y: dict comprehensions that make own things. -/
namespace Mx
open PySem L2 PySem.Spec PyProof.Rows
section
variable {T : Tbs} {G : Glob} {C : Calls} {k : Nat} {N : List Str} {sc : Scope} {X : Cx}
/-- .. that makes an own thing -/
theorem dc_own {bsc : Scope} {g : MG} {tg ek ev : Expr} {mk mv : ME} {mi : Option ME} {ifs : List Expr} {vs : List Nat} (hX : Here T G C k N sc X) (hg : TgOk N (relS bsc sc) (ownB bsc) g tg) (hsl : ∀ i ∈ slotsG g, i ∈ vs) (hk : SE T G C k N (relS bsc sc) mk ek) (he : SE T G C k N (relS bsc sc) mv ev) (hi : IfsOk T G C k N (relS bsc sc) mi ifs)
    {ro rw1 : MH} {σ : Sig} {s : L2.St} {m1 : Wd} {H1 : Hp} {Q : VK} (rs : SRel X.K m1 H1 σ s) (hr : HRel T X.K m1 (ro ++ rw1) H1) {J : It} {ds : List D} (wk : Walks X.K m1 H1 J ds)
    (hs : Sat T X.K ro m1 H1 (M.bind (loopL (fun d (_ : Unit) => M.bind (M.lift (asG g d (wipeD σ vs))) fun σ2 => M.bind (evIfs C ro mi σ2) fun k => if k then M.bind (evE C ro mk σ2) fun x => M.bind (evE C ro mv σ2) fun y => upO ro (ro.length + rw1.length) (putT x y) else M.pure ()) ds ()) (fun _ => M.pure (.ref (ro.length + rw1.length))) (rw1 ++ [.dT []])) (VP X.K Q)) :
    ∀ D, H1 D = none → ∃ W : Nat → Nat → Hp → Prop, (∃ m, W 0 m (upd H1 D (.dT []))) ∧ ∀ i m H, W i m H →
      (J.stop i H ∧ Q (.ref D) H) ∨ (J.go i H ∧ ∃ Nx : Hp → Prop, (∀ H', Nx H' → ∃ m', m' < m ∧ W (i + 1) m' H') ∧ ∀ x H', J.yld i H x H' → aG X bsc tg x (L2.wipe s vs) H' fun σ2 H2 => L2.wipe σ2 vs = L2.wipe s vs ∧ aTs X bsc ifs σ2 H2 fun b H3 =>
        if b = true then aE X bsc ek σ2 H3 fun y H4 => aE X bsc ev σ2 H4 fun z H5 => ∃ (kvs : List (List Key × V)) (k : List Key) (b : Addr), y = .ref b ∧ H5 b = some (.tup (k.map kV)) ∧ H5 D = some (.dT kvs) ∧ kvs.length < sizeLine ∧ Nx (upd H5 D (.dT (putK kvs k z))) else Nx H3) := by
  intro D hD
  obtain ⟨Gd, g0, gst, ggo, gstop, gy⟩ := wk.ex
  generalize hl : ro.length + rw1.length = l at hs
  generalize hf : (fun d (_ : Unit) => M.bind (M.lift (asG g d (wipeD σ vs))) fun σ2 => M.bind (evIfs C ro mi σ2) fun k => if k then M.bind (evE C ro mk σ2) fun x => M.bind (evE C ro mv σ2) fun y => upO ro l (putT x y) else M.pure ()) = f at hs
  have hE : Ext m1 H1 (m1.push D) (upd H1 D (.dT [])) := ext_own hD
  obtain ⟨hr0, hget⟩ := own_new (o := .dT []) (mo := .dT []) hr hD ⟨[], upd_same, rfl, .nil⟩
  rw [hl] at hget
  let W : Nat → Nat → Hp → Prop := fun i n H => n = ds.length - i ∧ i ≤ ds.length ∧ ∃ rw m, Ext (m1.push D) (upd H1 D (.dT [])) m H ∧ HRel T X.K m (ro ++ rw) H ∧ Gd m H ∧
    SRel X.K m H σ s ∧ Sat T X.K ro m1 H1 (M.bind (loopL f (ds.drop i) ()) (fun _ => M.pure (.ref l)) rw) (VP X.K Q)
  refine ⟨W, ⟨ds.length, by simp, Nat.zero_le _, rw1 ++ [.dT []], m1.push D, .refl _ _, hr0, gst _ _ _ _ g0 hr.noTup hE.toExtW hE.frz, rs.ext hE.toExtW hr.noTup, by simpa using hs⟩, ?_⟩
  rintro i n H ⟨rfl, hi1, rw, m, e1, hr1, gd, rs1, sat⟩
  by_cases hlt : i < ds.length
  · refine .inr ⟨ggo _ H i gd hlt, fun H' => W (i + 1) (ds.length - (i + 1)) H', fun H' w => ⟨_, by omega, w⟩, fun x H' y => ?_⟩
    obtain ⟨d, ed, ex, hrp, px⟩ := gy m H i x H' gd hr1.noTup hlt y
    have hr2 := hrp T _ hr1
    have edrop : ds.drop i = d :: ds.drop (i + 1) := by
      rw [List.drop_eq_getElem_cons hlt]
      rw [List.getElem?_eq_getElem hlt] at ed
      rw [Option.some.inj ed]
    rw [edrop] at sat
    obtain ⟨a, rw2, ea, sat2⟩ := Sat.turn (g := loopL f (ds.drop (i + 1))) sat
    have hT : Sat T X.K ro m H' (f d () rw) fun b rw' _ _ => b = a ∧ rw' = rw2 := Sat.eq ea
    subst hf
    obtain ⟨σ2, es2, hT⟩ := Sat.lift (Sat.bind hT)
    have hT := hT _ _ (.refl _ _) hr2
    have rs2 := (rs1.ext ex.toExtW hr1.noTup).wipe vs
    -- behind a turn
    have world : ∀ {m' : Wd} {H3 : Hp}, Ext m H' m' H3 → Ext (m1.push D) (upd H1 D (.dT [])) m' H3 ∧ Gd m' H3 ∧ SRel X.K m' H3 σ s := fun {m' H3} e3 => by
      have ee := ex.trans e3
      exact ⟨e1.trans ee, gst _ _ _ _ gd hr1.noTup ee.toExtW ee.frz, rs1.ext ee.toExtW hr1.noTup⟩
    intro s0 H0 Cc cl fp
    refine sg_ok (here_blk hX) owns_blk hg es2 px rs2 fun s' rs3 sb => ?_
    have sbv : SameBut vs s s' := sameBut_wipe.trans ⟨sb.len, fun j hj => sb.at_ j fun z => hj (hsl j z)⟩
    refine ⟨sbv.wipe, fun s0 H0 Cc cl fp => ?_⟩
    refine ifs_ok hi (here_blk hX) rs3 hr2 ((Sat.bind hT).mono fun b rw3 m3 H3 e3 r3 q3 => ?_)
    cases b with
    | false =>
      obtain ⟨_, rfl⟩ := Sat.ok q3 r3
      obtain ⟨w1, w3, w5⟩ := world e3
      exact ⟨rfl, hlt, _, m3, w1, r3, w3, w5, sat2⟩
    | true =>
      show aE X bsc ek s' H3 _
      intro s0 H0 Cc cl fp
      have rs4 := rs3.ext e3.toExtW hr2.noTup
      refine hk _ (here_blk hX) ro rw3 σ2 s' m3 H3 _ rs4 r3 ((Sat.bind q3).mono fun kd rw5 m5 H5 e5 r5 q5 kv hkv => ?_)
      intro s0 H0 Cc cl fp
      have rs5 := rs4.ext e5.toExtW r3.noTup
      refine he _ (here_blk hX) ro rw5 σ2 s' m5 H5 _ rs5 r5 ((Sat.bind q5).mono fun dy rw4 m4 H4 e4 r4 q4 y hy => ?_)
      have hkv4 := hkv.ext e4.toExtW r5.noTup
      obtain ⟨w1, w3, w5⟩ := world (e3.trans (e5.trans e4))
      obtain ⟨o, nw, hl2, h2, h3, h4⟩ := upO_at q4
      have hD4 : m4.r[l]? = some D := w1.toExtW.get hget
      have ho := r4.ob l o D h2 hD4
      cases o with
      | dT kvs =>
        obtain ⟨ws, z1, z2, z3⟩ := ho
        have h3 : (if decide (kvs.length < 16777216) then ((keyTup kd).bind keysOf).map fun k => MO.dT (kput kvs k dy) else none) = some nw := h3
        split at h3
        · rename_i z
          obtain ⟨kk, ek2, rfl⟩ := Option.map_eq_some_iff.mp h3
          have z := of_decide_eq_true z
          have hlen : kvs.length = ws.length := by simpa using congrArg List.length z2
          obtain ⟨ee, r6⟩ := own_set (o := .dT (putK ws kk y)) (mo := .dT (kput kvs kk dy)) r4 hl2 hD4 z1 rfl fun e => by
            obtain ⟨p1, p2⟩ := kput_put kk z2 (z3.ext e.toExtW r4.noTup) (hy.ext e.toExtW r4.noTup)
            exact ⟨_, upd_same, p1, p2⟩
          obtain ⟨ys, ey, eks⟩ := Option.bind_eq_some_iff.mp ek2
          cases hkv4 with
          | @tup cc b zs vs hq ht hs =>
            cases cc with
            | false => cases ey
            | true =>
              have ey : zs = ys := Option.some.inj ey
              subst ey
              have hb : H4 b = some (.tup (kk.map kV)) := by rw [← hs.keys eks]; exact ht rfl
              obtain ⟨_, rfl⟩ := h4 _ _ ee r6
              exact ⟨ws, kk, b, rfl, hb, z1, by rw [sizeLine_eq]; omega, rfl, hlt, _, m4, w1.trans ee, r6, gst _ _ _ _ w3 r4.noTup ee.toExtW ee.frz, w5.ext ee.toExtW r4.noTup, sat2⟩
          | _ => cases ey
        · cases h3
      | lst _ => cases h3
      | dK _ => cases h3
  · have ei : i = ds.length := by omega
    subst ei
    refine .inl ⟨gstop _ H gd, ?_⟩
    rw [List.drop_length] at sat
    exact Sat.ok (Sat.move sat (hE.trans e1)) hr1 _ (.ref (e1.toExtW.get hget))
/-- the reading of a dict comprehension -/
theorem dc_read {bsc : Scope} {g : MG} {tg ek ev iter : Expr} {mk mv : ME} {t : MT} {mi : Option ME} {ifs : List Expr} {vs : List Nat} (hX : Here T G C k N sc X) (hg : TgOk N (relS bsc sc) (ownB bsc) g tg) (hsl : ∀ i ∈ slotsG g, i ∈ vs) (hit : SI T G C k N sc t tg iter) (hk : SE T G C k N (relS bsc sc) mk ek) (he : SE T G C k N (relS bsc sc) mv ev) (hi : IfsOk T G C k N (relS bsc sc) mi ifs)
    {ro rw : MH} {σ : Sig} {s : L2.St} {ma : Wd} {H : Hp} {Q : VK} (rdy : RdyT t s H) (rs : SRel X.K ma H σ s) (hr : HRel T X.K ma (ro ++ rw) H) (hs : Sat T X.K ro ma H (evE C ro (.dcomp true mk mv vs g t mi) σ rw) (VP X.K Q)) : tDcT (wI X tg iter) (aG X bsc tg) (aTs X bsc ifs) (aE X bsc ek) (aE X bsc ev) vs s H Q := by
  refine hit X hX ro rw σ s ma H _ rdy rs hr ((Sat.bind hs).mono fun ds rw1 m1 H1 e1 r1 q1 J wk => ?_)
  exact dc_own hX hg hsl hk he hi (rs.ext e1.toExtW hr.noTup) r1 wk q1
theorem se_dcomp {bsc : Scope} {own : List (Str × Nat)} {g : MG} {tg ek ev iter : Expr} {mk mv : ME} {t : MT} {mi : Option ME} {ifs : List Expr} {pos : Pos} (hb : blkC N sc bsc own = true) (hg : TgOk N (relS bsc sc) (ownB bsc) g tg) (hsl : ∀ i ∈ slotsG g, i ∈ own.map (·.2)) (hit : SI T G C k N sc t tg iter) (hk : SE T G C k N (relS bsc sc) mk ek) (he : SE T G C k N (relS bsc sc) mv ev) (hi : IfsOk T G C k N (relS bsc sc) mi ifs)
    (hfold : ∀ (env : Env) x, foldedSetIterable iter env x = pure x) : SE T G C k N sc (.dcomp true mk mv (own.map (·.2)) g t mi) (.DictComp ek ev [⟨tg, iter, ifs, 0⟩] bsc pos) := fun X hX => by
  have ok : BlkOk X.N X.env.scope bsc own := by rw [hX.names, hX.scope]; exact blkOk_by hb
  have main : ∀ {ro rw : MH} {σ : Sig} {s : L2.St} {ma : Wd} {H : Hp} {Q : VK}, RdyT t s H → SRel X.K ma H σ s → HRel T X.K ma (ro ++ rw) H → Sat T X.K ro ma H (evE C ro (.dcomp true mk mv (own.map (·.2)) g t mi) σ rw) (VP X.K Q) → wE X (.DictComp ek ev [⟨tg, iter, ifs, 0⟩] bsc pos) s H Q := fun {ro rw σ s ma H Q} rdy rs hr q =>
    PE.le (pe_dcT (g := aG X bsc tg) (tt := aTs X bsc ifs) (tk := aE X bsc ek) (tv := aE X bsc ev) (by have := hX.ctx.hu; omega) hX.ctx.calm hX.ctx.nd pi_w ok (fun s0 H0 Cc cl fp => ⟨fun pins s σ H v u Q I r h => h s0 H0 Cc cl fp pins s u I r⟩)
      (fun s0 H0 Cc cl fp => ⟨fun pins s σ H Q I h => h s0 H0 Cc cl fp pins s I⟩) (fun s0 H0 Cc cl fp => ⟨fun pins s σ H Q I h => h s0 H0 Cc cl fp pins s I⟩) (fun s0 H0 Cc cl fp => ⟨fun pins s σ H Q I h => h s0 H0 Cc cl fp pins s I⟩) (hfold X.env)) (dc_read hX hg hsl hit hk he hi rdy rs hr q)
  intro ro rw σ s ma H Q rs hr q
  rcases ready t rs (Sat.bind (show Sat T X.K ro ma H (M.bind (evT C ro t σ) _ rw) _ from q)) with rdy | ⟨d, u, hu, hc, hd, rdy⟩
  · exact main rdy rs hr q
  · refine PE.le (pe_lock pe_w) ⟨d, u, hu, mut_dc hc, fun od => main (rdy od) (rs.ext (extW_lock hu hc) hr.noTup) (hr.at_d hd hu (dic_ntbl hc) (dc_code hc) (extW_lock hu hc)) ((q.lock hd hu hc).mono fun a rw' m' H' e r ⟨h1, h2, h3⟩ v hv => ⟨h1, h3 v (hv.ext (extW_unlock h1 hc) r.noTup)⟩)⟩
end
end Mx

set_option Elab.async false
set_option linter.all false
set_option maxRecDepth 100000
set_option maxHeartbeats 1000000
/-! Mx, part Z: names set to dict comprehensions; three names set at once. -/
namespace Mx
open PySem L2 PySem.Spec PyProof.Rows
section
variable {X : Cx}
theorem sw_trueD {ek ev : Expr} {gs : List Comprehension} {bsc : Scope} {pos py : Pos} {y : Str} {l : Nat} {env : Env} (hkind : env.scope.kind = .function) (hyl : env.scope.names.lookup y = some .local) (hline : (py.line == pos.line) = true)
    (hany : (bsc.names.any fun (n, k) => n == y && (k == .local || k == .cell)) = false) : swapsWith (.DictComp ek ev gs bsc pos) (some (.Name y py)) l env = pure true := by
  have kyl : env.kindOf y = some .local := hyl
  have hbk : env.blockKind = .function := by
    unfold Env.blockKind
    rw [hkind]; rfl
  unfold swapsWith
  simp only [hbk, kyl, hany, Expr.pos, hline]
  rfl
/-- x = {k: v for ..} -/
theorem ps_setDcT {i : Nat} {y : Str} {py : Pos} {kx vx tg iter : Expr} {ifs : List Expr} {bsc : Scope} {ow : List (Str × Nat)} {pos spos : Pos} {wi : TI} {g : TG} {tt : TT} {tk tv : TE} (hu : X.A.units + 1 < cLine) (hc : X.calm = true) (hnd : X.N.Nodup) (hyi : X.N[i]? = some y) (hyl : X.env.scope.names.lookup y = some .local)
    (hsw : swapsWith (.DictComp kx vx [⟨tg, iter, ifs, 0⟩] bsc pos) (some (.Name y py)) spos.line X.env = pure true) (hi : PI X tg iter wi) (ok : BlkOk X.N X.env.scope bsc ow)
    (hg : ∀ (s : Shared) (H : Hp) (C : Addr) (cl : List (Str × Addr)) (fp : List Addr), PG (X.blk s H bsc (compEnvC bsc cl C X.env) fp) tg g) (ht : ∀ (s : Shared) (H : Hp) (C : Addr) (cl : List (Str × Addr)) (fp : List Addr), PTs (X.blk s H bsc (compEnvC bsc cl C X.env) fp) ifs tt)
    (hk : ∀ (s : Shared) (H : Hp) (C : Addr) (cl : List (Str × Addr)) (fp : List Addr), PE (X.blk s H bsc (compEnvC bsc cl C X.env) fp) kx tk)
    (he : ∀ (s : Shared) (H : Hp) (C : Addr) (cl : List (Str × Addr)) (fp : List Addr), PE (X.blk s H bsc (compEnvC bsc cl C X.env) fp) vx tv) (hs : ∀ x, foldedSetIterable iter X.env x = pure x) :
    PS X (.Assign [.Name y py] (.DictComp kx vx [⟨tg, iter, ifs, 0⟩] bsc pos) spos) (tAsg (tDcT wi g tt tk tv (ow.map (·.2))) (gName i)) := by
  refine ⟨fun pins s σ H D I h => ?_⟩
  rw [exec_Assign_Name_used _ _ _ _ hsw]
  refine wpAny_bind (wpAny_standAt (wpAny_bind ?_))
  show wpAny _ X.A (do let _ ← comprehension (.DictComp kx vx [⟨tg, iter, ifs, 0⟩] bsc pos) bsc X.env (firstIterPos [⟨tg, iter, ifs, 0⟩] pos) newDict false (eval iter X.env) (some (assign (.Name y py) X.env))) _ _ s
  have h : tDcT wi g tt tk tv (ow.map (·.2)) σ H (fun x H1 => gName i x σ H1 D.nx) := h
  refine wpAny_bind (thn (dcT_core (Qf := fun _ s' => SP X pins D .next s') hu hc hnd I hi ok hg ht hk he hs h fun L Cf s' m H' I' q hn f => ?_) fun _ s' hq => wpAny_pure (wpAny_pure hq))
  show wpAny _ _ (assign (.Name y py) X.env (.ref L)) _ _ _
  refine wpAny_assign_Name (store_ok2 (v := V.ref L) I' hnd hyi (.inl hyl) rfl (fun s2 I2 ⟨a, sb, ha⟩ => ?_) (.inr hyl))
  obtain ⟨f0, f1, f2, f3, f4, f5⟩ := f
  have hne : Cf ≠ a := by
    rcases ha with z | z
    · rw [z]; exact f1
    · exact fun e => f4 y a z e.symm
  refine ⟨m, hn.sameBut sb hne, fun h3 sb3 => ?_⟩
  exact ⟨_, H', I2.turned (t' := s2.toks) (fun b o hb e => (sb3.2 b hb).trans e) f0 f1 f3 f4 f5, q⟩
/-- a, b, c = x, y, z: stored from the right -/
def tPar3 (i j l : Nat) (ta : TA) : TS := fun D σ H => ta σ H fun vs H1 => ∃ v w u, vs = [v, w, u] ∧ D.nx (((σ.set i (some v)).set j (some w)).set l (some u)) H1
theorem ps_par3 {i j l : Nat} {x y z : Str} {a b c : Expr} {ta : TA} {px py pz pt : Pos} {kt k2 pt2} (hcalm : X.calm = true) (hnd : X.N.Nodup) (hi : X.N[i]? = some x) (hj : X.N[j]? = some y) (hl : X.N[l]? = some z) (hij : i ≠ j) (hil : i ≠ l) (hjl : j ≠ l)
    (hx : X.env.scope.names.lookup x = some .local) (hy : X.env.scope.names.lookup y = some .local) (hz : X.env.scope.names.lookup z = some .local) (ha : PA X [a, b, c] ta)
    (hw : swappedStores [.Tuple [.Name x px, .Name y py, .Name z pz] kt pt] (.Tuple [a, b, c] k2 pt2) X.env = pure (some [x, y, z])) {pos : Pos} :
    PS X (.Assign [.Tuple [.Name x px, .Name y py, .Name z pz] kt pt] (.Tuple [a, b, c] k2 pt2) pos) (tPar3 i j l ta) := by
  have hsole : swapsWithSole [.Tuple [.Name x px, .Name y py, .Name z pz] kt pt] (.Tuple [a, b, c] k2 pt2) pos.line X.env = pure false := rfl
  refine ⟨fun pins s σ H D I h => ?_⟩
  rw [exec_Assign_arm]
  refine wpAny_bind (wpAny_standAt ?_)
  rw [hsole]
  refine wpAny_bind (wpAny_pure ?_)
  rw [if_neg (by decide)]
  refine wpAny_bind (Tuple_ (thn (ha.run _ pins s σ H _ I h) fun us s1 ⟨vs, H1, I1, r1, q1⟩ => ?_))
  obtain ⟨v, w, u, e1, q1⟩ := q1
  subst e1
  obtain ⟨u1, u2, u3, rfl, rv, rw', ru⟩ : ∃ u1 u2 u3, us = [u1, u2, u3] ∧ RelV v u1 ∧ RelV w u2 ∧ RelV u u3 := by
    cases r1 with
    | cons p q =>
      cases q with
      | cons p' q' =>
        cases q' with
        | cons p2 q2 =>
          cases q2
          exact ⟨_, _, _, rfl, p, p', p2⟩
  refine wpAny_newObj_type ?_ (by show 3 ≤ sizeLine; decide)
  have I2 : Inv X pins σ H1 { s1 with heap := s1.heap.push { cls := .type "tuple", data := .seq [u1, u2, u3].toArray } } := I1.kept (t' := s1.toks) fun b o e => Heap.get?_push_of_some _ e
  rw [hw]
  refine wpAny_bind (wpAny_pure ?_)
  show wpAny (model X.prog X.w) X.A (do rule "assign.swapped-stores"; let items ← unpackItems (.ref s1.heap.objs.size) 3 none; assignInOrder [fun v => bindName X.env z v, fun v => bindName X.env y v, fun v => bindName X.env x v] items.reverse; pure Flow.next) _ _ _
  refine wpAny_bind (wpAny_rule (wpAny_bind (unpackItems_tuple (items := #[u1, u2, u3]) (I.ok.hd hcalm) (IsTup.new s1.heap _) fun h' hx' => ?_)))
  have I3 := I2.kept (h' := h') (t' := s1.toks) fun b o e => hx' b o (Nat.ne_of_lt (Heap.lt_size e)) e
  show wpAny _ _ (assignInOrder [fun v => bindName X.env z v, fun v => bindName X.env y v, fun v => bindName X.env x v] [u3, u2, u1] >>= fun _ => pure Flow.next) _ _ _
  refine wpAny_bind (assignInOrder_cons (wpAny_bindName (store_ok I3 hnd hl (.inl hz) ru (fun s2 I4 => ?_) (.inr hz))))
  refine assignInOrder_cons (wpAny_bindName (store_ok I4 hnd hj (.inl hy) rw' (fun s3 I5 => ?_) (.inr hy)))
  refine assignInOrder_cons (wpAny_bindName (store_ok I5 hnd hi (.inl hx) rv (fun s4 I6 => assignInOrder_nil (wpAny_pure ?_)) (.inr hx)))
  rw [List.set_comm _ _ (Ne.symm hij), List.set_comm _ _ (Ne.symm hil), List.set_comm _ _ (Ne.symm hjl)] at I6
  exact ⟨_, H1, I6, q1⟩
end
section
variable {T : Tbs} {G : Glob} {C : Calls} {k : Nat} {N : List Str} {sc : Scope}
theorem ss_setDc {i : Nat} {x : Str} {p pos cpos : Pos} {bsc : Scope} {own : List (Str × Nat)} {g : MG} {tg ek ev iter : Expr} {mk mv : ME} {t : MT} {mi : Option ME} {ifs : List Expr} (hN : N[i]? = some x) (hsw : swapB sc x p bsc cpos = true)
    (hb : blkC N sc bsc own = true) (hg : TgOk N (relS bsc sc) (ownB bsc) g tg) (hsl : ∀ i ∈ slotsG g, i ∈ own.map (·.2)) (hit : SI T G C k N sc t tg iter) (hk : SE T G C k N (relS bsc sc) mk ek) (he : SE T G C k N (relS bsc sc) mv ev) (hi : IfsOk T G C k N (relS bsc sc) mi ifs) (hfold : ∀ (env : Env) x, foldedSetIterable iter env x = pure x) :
    SS T G C k N sc (.set i (.dcomp true mk mv (own.map (·.2)) g t mi)) (.Assign [.Name x p] (.DictComp ek ev [⟨tg, iter, ifs, 0⟩] bsc cpos) pos) := fun X hX => by
  have ok : BlkOk X.N X.env.scope bsc own := by rw [hX.here.names, hX.here.scope]; exact blkOk_by hb
  unfold swapB at hsw
  simp only [Bool.and_eq_true, decide_eq_true_eq, Bool.not_eq_true'] at hsw
  have hy : X.env.scope.names.lookup x = some .local := by rw [hX.here.scope]; exact hsw.1.1
  have main : ∀ {ro rw : MH} {σ : Sig} {s : L2.St} {ma : Wd} {H : Hp} {D : Ends}, RdyT t s H → SRel X.K ma H σ s → HRel T X.K ma (ro ++ rw) H → Sat T X.K ro ma H (exS C ro (.set i (.dcomp true mk mv (own.map (·.2)) g t mi)) σ rw) (FP X.K D) → wS X (.Assign [.Name x p] (.DictComp ek ev [⟨tg, iter, ifs, 0⟩] bsc cpos) pos) D s H := fun {ro rw σ s ma H D} rdy rs hr q => fun pins s0 I => by
    refine (ps_setDcT (g := aG X bsc tg) (tt := aTs X bsc ifs) (tk := aE X bsc ek) (tv := aE X bsc ev) (by have := hX.here.ctx.hu; omega) hX.here.ctx.calm hX.here.ctx.nd (by rw [hX.here.names]; exact hN) hy (sw_trueD I.ok.kind hy hsw.1.2 hsw.2) pi_w ok (fun s0 H0 Cc cl fp => ⟨fun pins s σ H v u Q I r h => h s0 H0 Cc cl fp pins s u I r⟩)
      (fun s0 H0 Cc cl fp => ⟨fun pins s σ H Q I h => h s0 H0 Cc cl fp pins s I⟩) (fun s0 H0 Cc cl fp => ⟨fun pins s σ H Q I h => h s0 H0 Cc cl fp pins s I⟩) (fun s0 H0 Cc cl fp => ⟨fun pins s σ H Q I h => h s0 H0 Cc cl fp pins s I⟩) (hfold X.env)).run pins s0 s H D I ?_
    refine dc_read (Q := fun v H1 => gName i v s H1 D.nx) hX.here hg hsl hit hk he hi rdy rs hr ((Sat.bind q).mono fun d rw1 m1 H1 e1 r1 q1 v hv => ?_)
    split at q1
    · exact Sat.ok q1 r1 _ ((rs.ext e1.toExtW hr.noTup).set hv)
    · exact q1.elim
  intro ro rw σ s ma H D rs hr q
  have q0 : Sat T X.K ro ma H (M.bind (evE C ro (.dcomp true mk mv (own.map (·.2)) g t mi) σ) (fun d => if i < σ.length then M.pure (Fl.nx (σ.set i (some d))) else M.err) rw) (FP X.K D) := q
  rcases ready t rs (Sat.bind (show Sat T X.K ro ma H (M.bind (evT C ro t σ) _ rw) _ from Sat.bind q0)) with rdy | ⟨d, u, hu, hc, hd, rdy⟩
  · exact main rdy rs hr q
  · refine PS.le (ps_lock ps_w) ⟨d, u, hu, mut_dc hc, fun od => main (rdy od) (rs.ext (extW_lock hu hc) hr.noTup) (hr.at_d hd hu (dic_ntbl hc) (dc_code hc) (extW_lock hu hc)) ((q.lock hd hu hc).mono fun fl rw' m' H' e r ⟨h1, h2, h3⟩ => ?_)⟩
    cases fl with
    | nx σ' => exact fun s' rs' => ⟨h1, h3 s' (rs'.ext (extW_unlock h1 hc) r.noTup)⟩
    | rt dd => exact fun v hv => ⟨h1, h3 v (hv.ext (extW_unlock h1 hc) r.noTup)⟩
    | bk σ' => exact fun s' rs' => ⟨h1, h3 s' (rs'.ext (extW_unlock h1 hc) r.noTup)⟩
    | ct σ' => exact fun s' rs' => ⟨h1, h3 s' (rs'.ext (extW_unlock h1 hc) r.noTup)⟩
theorem ss_par3 {i j l : Nat} {x y z : Str} {a b c : ME} {ea eb ec : Expr} {px py pz pt pt2 pos : Pos} {kt k2 : Nat} (hi : N[i]? = some x) (hj : N[j]? = some y) (hl : N[l]? = some z) (hij : i ≠ j) (hil : i ≠ l) (hjl : j ≠ l) (hx : sc.names.lookup x = some .local) (hy : sc.names.lookup y = some .local) (hz : sc.names.lookup z = some .local) (ha : SA T G C k N sc [a, b, c] [ea, eb, ec])
    (hw : ∀ (env : Env), env.scope = sc → env.scope.kind = .function → swappedStores [.Tuple [.Name x px, .Name y py, .Name z pz] kt pt] (.Tuple [ea, eb, ec] k2 pt2) env = pure (some [x, y, z])) : SS T G C k N sc (.par [i, j, l] [a, b, c]) (.Assign [.Tuple [.Name x px, .Name y py, .Name z pz] kt pt] (.Tuple [ea, eb, ec] k2 pt2) pos) := fun X hX ro rw σ s ma H D rs hr h => fun pins s0 I => by
  refine (ps_par3 hX.here.ctx.calm hX.here.ctx.nd (by rw [hX.here.names]; exact hi) (by rw [hX.here.names]; exact hj) (by rw [hX.here.names]; exact hl) hij hil hjl (by rw [hX.here.scope]; exact hx) (by rw [hX.here.scope]; exact hy) (by rw [hX.here.scope]; exact hz) pa_w (hw X.env hX.here.scope I.ok.kind)).run pins s0 s H D I ?_
  have ha2 : Sat T X.K ro ma H (evEs C ro [a, b, c] σ rw) _ := Sat.len (Sat.bind h)
  refine ha X hX.here ro rw σ s ma H _ rs hr (ha2.mono fun ds rw1 m1 H1 e1 r1 q1 vs hvs => ?_)
  obtain ⟨hlen, q1⟩ := q1
  obtain ⟨σ', es, q2⟩ := Sat.lift (Sat.bind q1)
  have rs1 := rs.ext e1.toExtW hr.noTup
  have q3 := q2 m1 H1 (.refl _ _) r1
  match ds, vs, hvs, hlen with
  | [d1, d2, d3], [v, w, u], .cons h1 (.cons h2 (.cons h3 .nil)), _ =>
    have es : (if i < σ.length then (if j < (σ.set i (some d1)).length then (if l < ((σ.set i (some d1)).set j (some d2)).length then some (((σ.set i (some d1)).set j (some d2)).set l (some d3)) else none) else none) else none) = some σ' := es
    split at es
    · split at es
      · split at es
        · cases es
          exact ⟨v, w, u, rfl, Sat.ok q3 r1 _ (((rs1.set h1).set h2).set h3)⟩
        · cases es
      · cases es
    · cases es
end
end Mx

set_option Elab.async false
set_option linter.all false
set_option maxRecDepth 100000
set_option maxHeartbeats 1000000
/-! Mx, part Za: list(zip(..)) of lists and tuples. -/
namespace Mx
open PySem L2 PySem.Spec PyProof.Rows
theorem zip_noLen : typeLookup (.type "zip") "__len__" = pure none := by rw [typeLookup_type, builtinLookup_eq_fast]; kernel_rfl
theorem zip_noHint : typeLookup (.type "zip") "__length_hint__" = pure none := by rw [typeLookup_type, builtinLookup_eq_fast]; kernel_rfl
/-- a zip on its way, a list beside it -/
def LzSt (k j : SK) (z TI TO i1 i2 a b S : Addr) (xs ys : Array Value) (i : Nat) (h : Heap) : Prop :=
  IsTupOf2 h TI (.ref i1) (.ref i2) ∧ (k.iter h i1 a i ∧ k.is h a xs) ∧ (j.iter h i2 b i ∧ j.is h b ys) ∧
    ((IsZip h z TI TO .none ∧ ∃ x y, IsTupOf2 h TO x y) ∨ ∃ Tp f oT, IsZipHeld h z TI TO Tp f ∧ h.get? Tp = some oT ∧ Tp ≠ z ∧ Tp ≠ i1 ∧ Tp ≠ i2 ∧ Tp ≠ S)
theorem SK.isAt (k : SK) {h h' : Heap} {c : Addr} {items : Array Value} (e : k.is h c items) (f : ∀ o, h.get? c = some o → h'.get? c = some o) : k.is h' c items := by
  cases k
  · exact Heap.IsList.at e f
  · exact Heap.IsTuple.at e f
section
variable {prog : Program} {w : World} {A : Around} {k j : SK} {z TI TO i1 i2 a b S : Addr} {xs ys : Array Value}
theorem LzSt.frame {h h' : Heap} {i : Nat} (st : LzSt k j z TI TO i1 i2 a b S xs ys i h) (hd : S ∉ [z, TI, TO, i1, i2, a, b]) (hk : ∀ c o, c ≠ S → h.get? c = some o → h'.get? c = some o) : LzSt k j z TI TO i1 i2 a b S xs ys i h' := by
  simp only [List.mem_cons, List.not_mem_nil, or_false, not_or] at hd
  obtain ⟨dz, dTI, dTO, d1, d2, da, db⟩ := hd
  obtain ⟨t1, t2, t3, t4⟩ := st
  refine ⟨hk _ _ (Ne.symm dTI) t1, ⟨k.at t2.1 fun o e => hk _ o (Ne.symm d1) e, k.isAt t2.2 fun o e => hk _ o (Ne.symm da) e⟩, ⟨j.at t3.1 fun o e => hk _ o (Ne.symm d2) e, j.isAt t3.2 fun o e => hk _ o (Ne.symm db) e⟩, ?_⟩
  rcases t4 with ⟨g1, x, y, g2⟩ | ⟨Tp, f, oT, g1, g2, n1, n2, n3, n4⟩
  · exact .inl ⟨hk _ _ (Ne.symm dz) g1, x, y, hk _ _ (Ne.symm dTO) g2⟩
  · exact .inr ⟨Tp, f, oT, hk _ _ (Ne.symm dz) g1, hk _ _ n4 g2, n1, n2, n3, n4⟩
theorem lz_item (D : Sep2 z TI TO i1 i2 a b) (hA : A.handled = none) {s : Shared} {i : Nat} (hi : i < min xs.size ys.size) (st : LzSt k j z TI TO i1 i2 a b S xs ys i s.heap) (hS : S < s.heap.objs.size) {Q : Option Value → Shared → Prop} {E : Value → Shared → Prop}
    (hQ : ∀ x1 x2 h' tk, xs[i]? = some x1 → ys[i]? = some x2 → LzSt k j z TI TO i1 i2 a b S xs ys (i + 1) h' → IsTupOf2 h' s.heap.objs.size x1 x2 → (∀ c o, c ∉ [z, TO, i1, i2] → s.heap.get? c = some o → h'.get? c = some o) → Q (some (.ref s.heap.objs.size)) { s with heap := h', toks := tk }) :
    wpAny (model prog w) A (pyNext (.ref z)) Q E s := by
  have dr1 : Draws prog w A.in1 i1 [i1, a] xs.size (fun i v => xs[i]? = some v) (fun i h => k.iter h i1 a i ∧ k.is h a xs) := k.draws (show A.in1.handled = none from hA) i1 a D.2.1 xs
  have dr2 : Draws prog w A.in1 i2 [i2, b] ys.size (fun i v => ys[i]? = some v) (fun i h => j.iter h i2 b i ∧ j.is h b ys) := j.draws (show A.in1.handled = none from hA) i2 b D.2.2 ys
  obtain ⟨t1, t2, t3, t4⟩ := st
  have lt : ∀ {c o}, s.heap.get? c = some o → s.heap.objs.size ≠ c := fun e => Nat.ne_of_gt (Heap.lt_size e)
  have ne1 : s.heap.objs.size ≠ i1 := by obtain ⟨_, e, _⟩ := k.obj_of t2.1; exact lt e
  have ne2 : s.heap.objs.size ≠ i2 := by obtain ⟨_, e, _⟩ := j.obj_of t3.1; exact lt e
  have U := D.1
  rcases t4 with ⟨g1, x, y, g2⟩ | ⟨Tp, f, oT, g1, g2, n1, n2, n3, n4⟩
  · refine wpAny_pyNext_zipD2_item U dr1 dr2 g1 t1 g2 t2 t3 (by omega) (by omega) fun x1 x2 h' tk p1 p2 q1 q2 q3 q4 q5 q6 q7 => ?_
    exact hQ x1 x2 h' tk p1 p2 ⟨q7 _ _ U.TIz U.TITO U.TIi1 U.TIi2 t1, q3, q4, .inr ⟨s.heap.objs.size, false, _, q1, q5, lt g1, ne1, ne2, Nat.ne_of_gt hS⟩⟩ q5
      fun c o hc e => q7 c o (fun x => hc (by simp [x])) (fun x => hc (by simp [x])) (fun x => hc (by simp [x])) (fun x => hc (by simp [x])) e
  · refine held_item U dr1 dr2 g1 g2 t1 t2 t3 (by omega) (by omega) fun x1 x2 h' tk p1 p2 q1 q3 q4 q5 q7 => ?_
    exact hQ x1 x2 h' tk p1 p2 ⟨q7 _ _ U.TIz U.TIi1 U.TIi2 t1, q3, q4, .inr ⟨Tp, true, oT, q1, q7 _ _ n1 n2 n3 g2, n1, n2, n3, n4⟩⟩ q5
      fun c o hc e => q7 c o (fun x => hc (by simp [x])) (fun x => hc (by simp [x])) (fun x => hc (by simp [x])) e
theorem lz_done (D : Sep2 z TI TO i1 i2 a b) (hA : A.handled = none) {s : Shared} (st : LzSt k j z TI TO i1 i2 a b S xs ys (min xs.size ys.size) s.heap) {Q : Option Value → Shared → Prop} {E : Value → Shared → Prop}
    (hQ : ∀ h' tk, (∀ c o, c ∉ [z, TO, i1, i2] → s.heap.get? c = some o → h'.get? c = some o) → Q none { s with heap := h', toks := tk }) : wpAny (model prog w) A (pyNext (.ref z)) Q E s := by
  have dr1 : Draws prog w A.in1 i1 [i1, a] xs.size (fun i v => xs[i]? = some v) (fun i h => k.iter h i1 a i ∧ k.is h a xs) := k.draws (show A.in1.handled = none from hA) i1 a D.2.1 xs
  have dr2 : Draws prog w A.in1 i2 [i2, b] ys.size (fun i v => ys[i]? = some v) (fun i h => j.iter h i2 b i ∧ j.is h b ys) := j.draws (show A.in1.handled = none from hA) i2 b D.2.2 ys
  have U := D.1
  obtain ⟨t1, t2, t3, t4⟩ := st
  rcases t4 with ⟨g1, x, y, g2⟩ | ⟨Tp, f, oT, g1, g2, n1, n2, n3, n4⟩
  · exact wpAny_pyNext_zipD2_end U dr1 dr2 g1 t1 g2 t2 t3 (by omega) (by omega) (by omega) fun h' tk hk => hQ h' tk fun c o hc e => hk c o (fun x => hc (by simp [x])) (fun x => hc (by simp [x])) (fun x => hc (by simp [x])) (fun x => hc (by simp [x])) e
  · exact held_end U dr1 dr2 g1 g2 t1 t2 t3 rfl fun h' tk hk => hQ h' tk fun c o hc e => hk c o (fun x => hc (by simp [x])) (fun x => hc (by simp [x])) (fun x => hc (by simp [x])) e
/-- the pairs laid, one behind another -/
structure LzG (xs ys : Array Value) (lo : Addr) (h : Heap) (as : List Addr) : Prop where
  rise : as.Pairwise (· < ·)
  above : ∀ a ∈ as, lo < a
  pairs : ∀ (i : Nat) (c : Addr), as[i]? = some c → ∃ x y, xs[i]? = some x ∧ ys[i]? = some y ∧ IsTupOf2 h c x y
theorem LzG.there {lo : Addr} {h : Heap} {as : List Addr} (g : LzG xs ys lo h as) {c : Addr} (hc : c ∈ as) : c < h.objs.size := by
  obtain ⟨i, hi⟩ := List.mem_iff_getElem?.mp hc
  obtain ⟨_, _, _, _, e⟩ := g.pairs i c hi
  exact Heap.lt_size e
theorem LzG.low {lo lo' : Addr} {h : Heap} {as : List Addr} (g : LzG xs ys lo h as) (hl : lo' ≤ lo) : LzG xs ys lo' h as := ⟨g.rise, fun a ha => Nat.lt_of_le_of_lt hl (g.above a ha), g.pairs⟩
theorem lz_loop (D : Sep2 z TI TO i1 i2 a b) {s : Shared} {R : Result → Shared → Prop} {lo : Addr} (hA : A.handled = none) (hd : S ∉ [z, TI, TO, i1, i2, a, b]) (hlo : ∀ c ∈ [z, TO, i1, i2], c ≤ lo) (hSlo : S ≤ lo) (hn : min xs.size ys.size ≤ sizeLine) (res : Value) {h₁ : Heap}
    (hR : ∀ h' tk acc c as, (∀ b o, b ∉ [S, z, TO, i1, i2] → h₁.get? b = some o → h'.get? b = some o) → h'.get? S = some { cls := .type "list", dict := none, data := .seq acc c, slots := #[] } → as.length = min xs.size ys.size → LzG xs ys lo h' as →
      acc.toList = as.map Value.ref → R (.ok (.ret res)) { s with heap := h', toks := tk }) :
    ∀ (n i : Nat) (h : Heap) (tk c : Nat) (acc : Array Value) (as : List Addr), min xs.size ys.size - i = n → i ≤ min xs.size ys.size → LzSt k j z TI TO i1 i2 a b S xs ys i h → (∀ b o, b ∉ [S, z, TO, i1, i2] → h₁.get? b = some o → h.get? b = some o) →
      h.get? S = some { cls := .type "list", dict := none, data := .seq acc c, slots := #[] } → acc.toList = as.map Value.ref → as.length = i → LzG xs ys lo h as → lo < h.objs.size →
      codeAny (model prog w) A (.builtin "list.extend.loop" ⟨[.ref S, .ref z, res], []⟩) R { s with heap := h, toks := tk } := by
  have hSw : S ∉ [z, TO, i1, i2] := fun q => hd (by
    simp only [List.mem_cons, List.not_mem_nil, or_false] at q ⊢
    rcases q with q | q | q | q <;> simp [q])
  have hA' : A.in1.handled = none := hA
  have ap : ∀ {c : Addr}, c ∉ [S, z, TO, i1, i2] → c ≠ S ∧ c ∉ [z, TO, i1, i2] := fun hc => ⟨fun q => hc (by simp [q]), fun q => hc (List.mem_cons_of_mem _ q)⟩
  intro n
  induction n with
  | zero =>
    intro i h tk c acc as hk hi hst hkeep hS hacc hal hG hlo'
    have hin : i = min xs.size ys.size := by omega
    subst hin
    refine codeAny_builtin PySem.F.entry_extend_loop ?_
    rw [Around.under_plainId PySem.F.plain_extend_loop _]
    show wpAny _ A.in1 (pyNext (.ref z) >>= _) _ _ _
    refine wpAny_bind (lz_done (S := S) (s := { s with heap := h, toks := tk }) D hA' hst fun h' tk' he => ?_)
    refine wpAny_pure (hR h' tk' acc c as (fun b o hb e => he b o (ap hb).2 (hkeep b o hb e)) (he S _ hSw hS) hal ⟨hG.rise, hG.above, fun i c hi => ?_⟩ hacc)
    obtain ⟨x, y, e1, e2, e3⟩ := hG.pairs i c hi
    exact ⟨x, y, e1, e2, he c _ (fun q => absurd (hlo c q) (Nat.not_le.mpr (hG.above c (List.mem_of_getElem? hi)))) e3⟩
  | succ n ih =>
    intro i h tk c acc as hk hi hst hkeep hS hacc hal hG hlo'
    have hlt : i < min xs.size ys.size := by omega
    have hsz : acc.size = i := by rw [← Array.length_toList, hacc, List.length_map, hal]
    refine codeAny_builtin PySem.F.entry_extend_loop ?_
    rw [Around.under_plainId PySem.F.plain_extend_loop _]
    show wpAny _ A.in1 (pyNext (.ref z) >>= _) _ _ _
    refine wpAny_bind (lz_item (s := { s with heap := h, toks := tk }) D hA' hlt hst (Heap.lt_size hS) fun x1 x2 h' tk' p1 p2 hst' ht hkp => ?_)
    dsimp only at ht hkp ⊢
    have hS' := hkp S _ hSw hS
    have up : ∀ b o, b ≠ S → h'.get? b = some o → (h'.update S (Obj.mapSeq (·.push (Value.ref h.objs.size)))).get? b = some o := fun b o hb e => (Heap.get?_update_other _ _ (Ne.symm hb)).trans e
    have hSl : S < h.objs.size := Heap.lt_size hS
    have new : h.objs.size ∉ [z, TO, i1, i2] := fun q => absurd (hlo _ q) (Nat.not_le.mpr hlo')
    show wpAny _ A.in1 (updateSeq S (·.push (Value.ref h.objs.size)) >>= _) _ _ _
    refine wpAny_bind ?_
    refine wpAny_updateSeq hS' rfl (wpAny_pure ⟨plainId_quiet PySem.F.plain_extend_loop _, ih (i + 1) _ tk' _ (acc.push (Value.ref h.objs.size)) (as ++ [h.objs.size]) (by omega) hlt (hst'.frame hd fun c o hc e => up c o hc e)
      (fun b o hb e => up b o (ap hb).1 (hkp b o (ap hb).2 (hkeep b o hb e))) (Heap.get?_update_self _ hS' rfl) (by rw [Array.toList_push, hacc, List.map_append]; rfl) (by rw [List.length_append, hal]; rfl) ⟨?_, ?_, ?_⟩ ?_⟩) (by rw [hsz]; omega) (by show (acc.push (Value.ref h.objs.size)).size ≤ sizeLine + 1; rw [Array.size_push, hsz]; omega)
    · refine List.pairwise_append.mpr ⟨hG.rise, List.pairwise_singleton _ _, fun a ha b hb => ?_⟩
      rw [List.mem_singleton.mp hb]
      exact hG.there ha
    · intro c hc
      rcases List.mem_append.mp hc with hc | hc
      · exact hG.above c hc
      · rw [List.mem_singleton.mp hc]; exact hlo'
    · intro q c hq
      rcases Nat.lt_trichotomy q as.length with h1 | h1 | h1
      · rw [List.getElem?_append_left h1] at hq
        obtain ⟨x, y, e1, e2, e3⟩ := hG.pairs q c hq
        have hb := hG.above c (List.mem_of_getElem? hq)
        exact ⟨x, y, e1, e2, up c _ (Nat.ne_of_gt (Nat.lt_of_le_of_lt hSlo hb)) (hkp c _ (fun q => absurd (hlo c q) (Nat.not_le.mpr hb)) e3)⟩
      · subst h1
        have hb : h.objs.size = c := by simpa using hq
        subst hb
        exact ⟨x1, x2, by rw [hal]; exact p1, by rw [hal]; exact p2, up _ _ (Nat.ne_of_gt hSl) ht⟩
      · have hnone : (as ++ [h.objs.size])[q]? = none := List.getElem?_eq_none (by rw [List.length_append, List.length_singleton]; omega)
        rw [hnone] at hq; cases hq
    · have e : (h'.update S (Obj.mapSeq (·.push (Value.ref h.objs.size)))).get? h.objs.size = _ := up _ _ (Nat.ne_of_gt hSl) ht
      exact Nat.lt_trans hlo' (Heap.lt_size e)
theorem lz_extend (D : Sep2 z TI TO i1 i2 a b) {s : Shared} {R : Result → Shared → Prop} (hA : A.handled = none) (hd : S ∉ [z, TI, TO, i1, i2, a, b]) (hlo : ∀ c ∈ [z, TO, i1, i2], c ≤ S) (hn : min xs.size ys.size ≤ sizeLine) (res : Value) (c₀ : Nat) (hz : IsZip s.heap z TI TO .none) (hst : LzSt k j z TI TO i1 i2 a b S xs ys 0 s.heap) (hS : s.heap.get? S = some { cls := .type "list", data := .seq #[] c₀ })
    (hR : ∀ h' tk acc c as, (∀ b o, b ∉ [S, z, TO, i1, i2] → s.heap.get? b = some o → h'.get? b = some o) → h'.get? S = some { cls := .type "list", dict := none, data := .seq acc c, slots := #[] } → as.length = min xs.size ys.size → LzG xs ys S h' as →
      acc.toList = as.map Value.ref → R (.ok (.ret res)) { s with heap := h', toks := tk }) :
    wpAny (model prog w) A.in1 (Builtin.List.listExtendWith (.ref S) (.ref z) res)
      (fun fin s' => match fin with | .done f => R (.ok f) s' | .again c' => c'.quiet = true ∧ codeAny (model prog w) A c' R s') (fun e s' => R (.error e) s') s := by
  have hty : s.TypeIs (.ref z) "zip" := ⟨_, hz, rfl⟩
  have hSz : S ≠ z := fun q => hd (by simp [q])
  have hSl : S < s.heap.objs.size := Heap.lt_size hS
  have key : ∀ (h : Heap) (c₁ tk : Nat), (∀ b o, b ≠ S → s.heap.get? b = some o → h.get? b = some o) → h.get? S = some { cls := .type "list", data := .seq #[] c₁ } →
      codeAny (model prog w) A (.builtin "list.extend.loop" ⟨[.ref S, .ref z, res], []⟩) R { s with heap := h, toks := tk } := fun h c₁ tk hk hS₁ =>
    lz_loop (lo := S) D hA hd hlo (Nat.le_refl _) hn res hR (min xs.size ys.size) 0 h tk c₁ #[] [] (Nat.sub_zero _) (Nat.zero_le _) (hst.frame hd hk) (fun b o hb e => hk b o (fun q => hb (by simp [q])) e) hS₁ rfl rfl
      ⟨List.Pairwise.nil, (fun _ ha => nomatch ha), (fun j a hj => by simp at hj)⟩ (Heap.lt_size hS₁)
  unfold Builtin.List.listExtendWith
  refine wpAny_bind (wpAny_typeOf hty ?_)
  have h1 : Builtin.List.listSameRef (.ref S) (.ref z) = false := by simp [Builtin.List.listSameRef, hSz]
  have h2 : (Value.type "zip" == Value.type "list") = false := by decide
  have h3 : (Value.type "zip" == Value.type "tuple") = false := by decide
  simp only [h1, h2, h3, Bool.or_false, Bool.false_eq_true, if_false]
  refine wpAny_bind (wpAny_pyIter_zip hz ?_)
  refine wpAny_bind (wpAny_holding ?_)
  unfold Builtin.List.listLengthHint
  refine wpAny_bind (wpAny_specialOf hty zip_noLen ?_)
  show wpAny _ A.in1 (specialOf (Value.ref z) (Str.ofString "__length_hint__") >>= _) _ _ _
  refine wpAny_bind (wpAny_specialOf hty zip_noHint ?_)
  refine wpAny_pure ?_
  refine wpAny_ite_split (fun _ => ?_) (fun _ => wpAny_pure ⟨plainId_quiet PySem.F.plain_extend_loop _, key _ c₀ _ (fun b o _ e => e) hS⟩)
  refine wpAny_bind (wpAny_rule ?_)
  refine wpAny_bind ?_
  show wpAny _ _ (updateSeq S (·.push .none) >>= fun _ => updateSeq S (·.pop)) _ _ _
  refine wpAny_bind (wpAny_updateSeq hS rfl ?_)
  have hS₂ := Heap.get?_update_self (Obj.mapSeq (·.push Value.none)) hS rfl
  refine wpAny_updateSeq (hz := by seq_fits) hS₂ rfl ?_
  have hS₃ := Heap.get?_update_self (Obj.mapSeq (·.pop)) hS₂ rfl
  refine wpAny_pure ⟨plainId_quiet PySem.F.plain_extend_loop _, key _ _ _ (fun b o hb e => ?_) hS₃⟩
  exact (Heap.get?_update_other _ _ (Ne.symm hb)).trans ((Heap.get?_update_other _ _ (Ne.symm hb)).trans e)
theorem lz_init (D : Sep2 z TI TO i1 i2 a b) {s : Shared} {R : Result → Shared → Prop} (hA : A.handled = none) (hd : S ∉ [z, TI, TO, i1, i2, a, b]) (hlo : ∀ c ∈ [z, TO, i1, i2], c ≤ S) (hn : min xs.size ys.size ≤ sizeLine) (hz : IsZip s.heap z TI TO .none) (hst : LzSt k j z TI TO i1 i2 a b S xs ys 0 s.heap) (hS : s.heap.get? S = some { cls := .type "list", data := .seq #[] })
    (hR : ∀ h' tk acc c as, (∀ b o, b ∉ [S, z, TO, i1, i2] → s.heap.get? b = some o → h'.get? b = some o) → h'.get? S = some { cls := .type "list", dict := none, data := .seq acc c, slots := #[] } → as.length = min xs.size ys.size → LzG xs ys S h' as →
      acc.toList = as.map Value.ref → R (.ok (.ret .none)) { s with heap := h', toks := tk }) :
    wpAny (model prog w) A.in1 (Builtin.«list.__init__» ⟨[.ref S, .ref z], []⟩)
      (fun fin s' => match fin with | .done f => R (.ok f) s' | .again c' => c'.quiet = true ∧ codeAny (model prog w) A c' R s') (fun e s' => R (.error e) s') s := by
  show wpAny _ _ (do let old ← Builtin.List.listItems (.ref S); Builtin.List.listUpdate (.ref S) (fun _ => #[]); letGo old.toList.reverse; Builtin.List.listExtendWith (.ref S) (.ref z) .none) _ _ s
  refine wpAny_bind ?_
  unfold Builtin.List.listItems
  refine wpAny_bind (wpAny_seqItems hS rfl (wpAny_pure ?_))
  show wpAny _ _ (updateSeq S (fun _ => #[]) >>= fun _ => letGo (#[] : Array Value).toList.reverse >>= fun _ => Builtin.List.listExtendWith (.ref S) (.ref z) .none) _ _ s
  refine wpAny_bind (wpAny_updateSeq hS rfl ?_)
  have hS₂ := Heap.get?_update_self (Obj.mapSeq (fun _ => (#[] : Array Value))) hS rfl
  have oth : ∀ b o, b ≠ S → s.heap.get? b = some o → (s.heap.update S (Obj.mapSeq (fun _ => (#[] : Array Value)))).get? b = some o :=
    fun b o hb e => (Heap.get?_update_other _ _ (Ne.symm hb)).trans e
  refine wpAny_bind (wpAny_letGo ?_)
  have hSz : z ≠ S := fun q => hd (by simp [q])
  refine lz_extend D hA hd hlo hn .none _ (oth _ _ hSz hz) (hst.frame hd oth) hS₂ fun h' tk acc c as hk hS' hl hG hacc => ?_
  exact hR h' tk acc c as (fun b o hb e => hk b o hb (oth b o (fun q => hb (by simp [q])) e)) hS' hl hG hacc
theorem lz_call (D : Sep2 z TI TO i1 i2 a b) {s : Shared} {Q : Value → Shared → Prop} {E : Value → Shared → Prop} (hA : A.handled = none) (hn : min xs.size ys.size ≤ sizeLine) (hz : IsZip s.heap z TI TO .none) (hTI : IsTupOf2 s.heap TI (.ref i1) (.ref i2)) (hTO : ∃ x y, IsTupOf2 s.heap TO x y) (h1 : k.iter s.heap i1 a 0 ∧ k.is s.heap a xs) (h2 : j.iter s.heap i2 b 0 ∧ j.is s.heap b ys)
    (hQ : ∀ h' tk acc c as, (∀ b o, b ∉ [z, TO, i1, i2] → s.heap.get? b = some o → h'.get? b = some o) → h'.get? s.heap.objs.size = some { cls := .type "list", dict := none, data := .seq acc c, slots := #[] } → as.length = min xs.size ys.size → LzG xs ys s.heap.objs.size h' as →
      acc.toList = as.map Value.ref → Q (.ref s.heap.objs.size) { s with heap := h', toks := tk }) :
    wpAny (model prog w) A (call (.type "list") [.ref z]) Q E s := by
  refine callType_codes (Q₁ := fun obj s₁ => obj = .ref s.heap.objs.size ∧ s₁ = { s with heap := s.heap.push { cls := .type "list", data := .seq #[] } }) PySem.F.called_list (PySem.F.typeCall_list_1 _) PySem.F.entry_list_init
    (code_list_new _ ⟨rfl, rfl⟩) fun obj s₁ h₁ => ?_
  obtain ⟨rfl, rfl⟩ := h₁
  have hS : (s.heap.push { cls := .type "list", data := .seq #[] }).get? s.heap.objs.size = some { cls := .type "list", data := .seq #[] } := Heap.get?_push_size _ rfl
  have pu : ∀ c o, s.heap.get? c = some o → (s.heap.push { cls := .type "list", data := .seq #[] }).get? c = some o := fun c o e => Heap.get?_push_of_some _ e
  obtain ⟨x, y, hTO⟩ := hTO
  have l1 := Heap.lt_size hz
  have l2 := Heap.lt_size hTI
  have l3 := Heap.lt_size hTO
  have l4 : i1 < s.heap.objs.size := by obtain ⟨_, e, _⟩ := k.obj_of h1.1; exact Heap.lt_size e
  have l5 : i2 < s.heap.objs.size := by obtain ⟨_, e, _⟩ := j.obj_of h2.1; exact Heap.lt_size e
  have live : ∀ (k : SK) {h : Heap} {c : Addr} {items : Array Value}, k.is h c items → c < h.objs.size := fun k {h c items} e => by
    cases k
    · obtain ⟨o, e, _⟩ := e; exact Heap.lt_size e
    · obtain ⟨o, e, _⟩ := e; exact Heap.lt_size e
  have l6 := live k h1.2
  have l7 := live j h2.2
  have off : s.heap.objs.size ∉ [z, TI, TO, i1, i2, a, b] := fun q => by
    simp only [List.mem_cons, List.not_mem_nil, or_false] at q
    rcases q with q | q | q | q | q | q | q
    · exact absurd q (Nat.ne_of_gt l1)
    · exact absurd q (Nat.ne_of_gt l2)
    · exact absurd q (Nat.ne_of_gt l3)
    · exact absurd q (Nat.ne_of_gt l4)
    · exact absurd q (Nat.ne_of_gt l5)
    · exact absurd q (Nat.ne_of_gt l6)
    · exact absurd q (Nat.ne_of_gt l7)
  refine ⟨⟨_, hS, rfl⟩, PySem.F.args_list_init_2 _ _, lz_init (k := k) (j := j) (A := A.in1) D hA off (fun c q => ?_) hn (pu _ _ hz) ⟨pu _ _ hTI, ⟨k.at h1.1 fun o e => pu _ o e, k.isAt h1.2 fun o e => pu _ o e⟩, ⟨j.at h2.1 fun o e => pu _ o e, j.isAt h2.2 fun o e => pu _ o e⟩, .inl ⟨pu _ _ hz, x, y, pu _ _ hTO⟩⟩ hS fun h' tk acc c as hk hS' hl hG hacc => ?_⟩
  · simp only [List.mem_cons, List.not_mem_nil, or_false] at q
    rcases q with q | q | q | q <;> rw [q] <;> first | exact Nat.le_of_lt l1 | exact Nat.le_of_lt l3 | exact Nat.le_of_lt l4 | exact Nat.le_of_lt l5
  · exact ⟨rfl, hQ h' tk acc c as (fun b o hb e => hk b o (fun q => by
      rcases List.mem_cons.mp q with q | q
      · rw [q] at e; exact absurd (Heap.lt_size e) (Nat.lt_irrefl _)
      · exact hb q) (pu b o e)) hS' hl hG hacc⟩
end
/-! ### the pairs, tracked -/
def putP : Hp → List Addr → List (V × V) → Hp
  | H, c :: as, p :: ps => putP (upd H c (.tup [p.1, p.2])) as ps
  | H, _, _ => H
theorem putP_off {c : Addr} : ∀ (as : List Addr) (ps : List (V × V)) (H : Hp), c ∉ as → putP H as ps c = H c
  | [], _, _, _ => rfl
  | _ :: _, [], _, _ => rfl
  | a :: as, p :: ps, H, h => by
    show putP (upd H a (.tup [p.1, p.2])) as ps c = H c
    rw [putP_off as ps _ (fun z => h (List.mem_cons_of_mem _ z)), upd_ne (fun z => h (by rw [z]; exact List.mem_cons_self))]
theorem putP_at : ∀ (as : List Addr) (ps : List (V × V)) (H : Hp), as.length = ps.length → as.Nodup → Paired (fun (t : Addr) (p : V × V) => putP H as ps t = some (.tup [p.1, p.2])) as ps
  | [], [], _, _, _ => .nil
  | [], _ :: _, _, h, _ => by cases h
  | _ :: _, [], _, h, _ => by cases h
  | a :: as, p :: ps, H, h, hn => by
    have hn' := List.nodup_cons.mp hn
    have ih := putP_at as ps (upd H a (.tup [p.1, p.2])) (Nat.succ.inj h) hn'.2
    refine .cons ?_ ih
    show putP (upd H a (.tup [p.1, p.2])) as ps a = some (.tup [p.1, p.2])
    rw [putP_off as ps _ hn'.1, upd_same]
theorem putP_rel {T : Tbs} {K : PySem.W.Frag} {m : Wd} {h : MH} : ∀ (as : List Addr) (ps : List (V × V)) (H : Hp), HRel T K m h H → (∀ a ∈ as, H a = none) → as.Nodup → Ext m H m (putP H as ps) ∧ HRel T K m h (putP H as ps)
  | [], _, _, r, _, _ => ⟨.refl _ _, r⟩
  | _ :: _, [], _, r, _, _ => ⟨.refl _ _, r⟩
  | a :: as, p :: ps, H, r, hn, nd => by
    have nd' := List.nodup_cons.mp nd
    have h0 := hn a List.mem_cons_self
    obtain ⟨e, r'⟩ := putP_rel as ps (upd H a (.tup [p.1, p.2])) (r.new h0) (fun b hb => by rw [upd_ne (fun z => nd'.1 (by rw [← z]; exact hb))]; exact hn b (List.mem_cons_of_mem _ hb)) nd'.2
    exact ⟨(ext_new h0).trans e, r'⟩
theorem putP_reps {K : PySem.W.Frag} {m : Wd} {H : Hp} : ∀ {xs ys : List D} {vs us : List V} {as : List Addr}, Reps K m H xs vs → Reps K m H ys us → Paired (fun (t : Addr) (p : V × V) => H t = some (.tup [p.1, p.2])) as (vs.zip us) → Reps K m H (zipD xs ys) (as.map V.ref)
  | [], _, _, _, _, .nil, _, p => by cases p; exact .nil
  | _ :: _, [], _, _, _, .cons _ _, .nil, p => by cases p; exact .nil
  | x :: xs, y :: ys, _, _, _, .cons h t, .cons h2 t2, p => by
    cases p with
    | cons e p => exact .cons (.tup (.inl (.inl e)) (fun _ => e) (.cons h (.one h2))) (putP_reps t t2 p)
section
variable {X : Cx} {pins : List (Addr × Obj)} {σ : L2.St} {H : Hp} {s : Shared} {h' : Heap} {tk : Nat} {xs ys : List V} {its its2 : List Value} {acc : Array Value} {c : Nat} {as : List Addr} {L : Addr}
theorem zip_laid (I : Inv X pins σ H s) (hz : (xs.zip ys).length ≤ sizeLine) (rv : Vals xs its) (rv2 : Vals ys its2) (hk : ∀ b o, s.heap.get? b = some o → h'.get? b = some o) (hL : s.heap.objs.size ≤ L) (hS : h'.get? L = some { cls := .type "list", dict := none, data := .seq acc c, slots := #[] })
    (hl : as.length = (xs.zip ys).length) (hG : LzG its.toArray its2.toArray L h' as) (hacc : acc.toList = as.map Value.ref) :
    H L = none ∧ (∀ t ∈ as, H t = none) ∧ L ∉ as ∧ as.Nodup ∧ putP H as (xs.zip ys) L = none ∧ Inv X pins σ (upd (putP H as (xs.zip ys)) L (.lst (as.map V.ref))) { s with heap := h', toks := tk } := by
  have hSn : L ∉ as := fun z => Nat.lt_irrefl _ (hG.above _ z)
  have nd : as.Nodup := List.Pairwise.imp (fun {a b} (h : a < b) => Nat.ne_of_lt h) hG.rise
  have new : ∀ t ∈ as, H t = none := fun t ht => I.hok.fresh (Nat.le_trans hL (Nat.le_of_lt (hG.above t ht)))
  have newS : H L = none := I.hok.fresh hL
  have nL : putP H as (xs.zip ys) L = none := by rw [putP_off as _ _ hSn]; exact newS
  have atP := putP_at as (xs.zip ys) H hl nd
  have off : ∀ b, b ∉ as → b ≠ L → upd (putP H as (xs.zip ys)) L (.lst (as.map V.ref)) b = H b := fun b h1 h2 => by rw [upd_ne h2, putP_off as _ _ h1]
  have low : ∀ b o, s.heap.get? b = some o → b ∉ as ∧ b ≠ L := fun b o e => ⟨fun z => absurd (Heap.lt_size e) (Nat.not_lt.mpr (Nat.le_trans hL (Nat.le_of_lt (hG.above b z)))), Nat.ne_of_lt (Nat.lt_of_lt_of_le (Heap.lt_size e) hL)⟩
  have kp : ∀ b u, H b = some u → upd (putP H as (xs.zip ys)) L (.lst (as.map V.ref)) b = some u := fun b u e => by
    rw [off b (fun z => by rw [new b z] at e; cases e) (fun z => by rw [z, newS] at e; cases e)]
    exact e
  refine ⟨newS, new, hSn, nd, nL, ?_⟩
  refine I.call' (ch := []) rfl ⟨fun b o q _ _ _ => hk b o q, fun b o q _ _ _ => ⟨o.slots, hk b o q⟩, fun b o q n _ => ?_, fun b o q _ => ⟨o, hk b o q⟩, fun b xs q => kp b _ q, fun b o u q => kp b _ q, fun b ps q => ⟨#[], by rw [kp b _ q]; simp⟩⟩ (fun b u q => ?_) I.bare fun b z => by simp at z
  · obtain ⟨z1, z2⟩ := low b o q
    rw [off b z1 z2]
    exact n
  · by_cases hb : b ∈ as
    · have hbL : b ≠ L := fun z => hSn (by rw [← z]; exact hb)
      obtain ⟨i, pk, e1, e2, e3⟩ := LiI.paired_ix atP hb
      rw [upd_ne hbL, e3] at q
      cases q
      obtain ⟨u1, u2, f1, f2, f3⟩ := hG.pairs i b e1
      obtain ⟨z1, z2⟩ : xs[i]? = some pk.1 ∧ ys[i]? = some pk.2 := List.getElem?_zip_eq_some.mp e2
      obtain ⟨w1, g1, g2⟩ := rv.get z1
      obtain ⟨w2, g3, g4⟩ := rv2.get z2
      rw [List.getElem?_toArray, g1] at f1
      rw [List.getElem?_toArray, g3] at f2
      cases f1
      cases f2
      exact ⟨by show 2 ≤ sizeLine; decide, [u1, u2], .cons g2 (.cons g4 .nil), ⟨_, f3, rfl, _, rfl⟩⟩
    · by_cases hb2 : b = L
      · rw [hb2] at q ⊢
        rw [upd_same] at q
        cases q
        refine ⟨by rw [List.length_map]; omega, acc.toList, c, by rw [hacc]; exact LiI.vals_refs as, ?_⟩
        rw [Array.toArray_toList]
        exact hS
      · rw [off b hb hb2] at q
        exact (I.hok b u q).stay (fun d v _ y => hk d v y) (fun d y => kp d _ y) fun d xs y => kp d _ y
end
section
variable {T : Tbs} {G : Glob} {C : Calls} {k : Nat} {N : List Str} {sc : Scope}
theorem se_lzip {a b : ME} {ea eb : Expr} {mu : Bool} {p p2 pos pos2 : Pos} (ha : SE T G C k N sc a ea) (hb : SE T G C k N sc b eb) (hs : isStar ea = false) (hs2 : isStar eb = false) (hg : sc.names.lookup ("list" : Str) = some .globalImplicit) (hg2 : sc.names.lookup ("zip" : Str) = some .globalImplicit) :
    SE T G C k N sc (.blt mu .lzip [a, b]) (.Call (.Name "list" p) [.Call (.Name "zip" p2) [ea, eb] [] pos2] [] pos) := fun X hX ro rw σ s ma H Q rs hr q => by
  intro pins s0 I
  have c := hX.ctx
  have read : wA X [ea, eb] s H fun vs H1 => ∃ (kx ky : SK) (x y : Addr) (xs ys : List V), vs = [.ref x, .ref y] ∧ SK.sq kx X.K H1 x xs ∧ SK.sq ky X.K H1 y ys ∧
      ∀ (as : List Addr) (p : Addr), as.length = (xs.zip ys).length → (∀ a ∈ as, H1 a = none) → as.Nodup → putP H1 as (xs.zip ys) p = none → Q (.ref p) (upd (putP H1 as (xs.zip ys)) p (.lst (as.map V.ref))) := by
    refine PA.le (pa_cons pe_w (pa_cons pe_w pa_nil (star_each hs2)) (star_each hs)) ?_
    have q0 : Sat T X.K ro ma H (M.bind (M.bind (evE C ro a σ) fun d => M.bind (M.bind (evE C ro b σ) fun e => M.pure [e]) fun ds => M.pure (d :: ds)) (fun ds => fun rw => M.bind (M.lift (bltop ro rw .lzip ds)) (alloc ro mu) rw) rw) (VP X.K Q) := q
    refine ha X hX ro rw σ s ma H _ rs hr ((Sat.bind (Sat.bind q0)).mono fun x rw1 m1 H1 e1 r1 q1 v hv => ?_)
    refine hb X hX ro rw1 σ s m1 H1 _ (rs.ext e1.toExtW hr.noTup) r1 ((Sat.bind (Sat.bind q1)).mono fun y rw2 m2 H2 e2 r2 q2 u hu => ?_)
    obtain ⟨d, ed, g⟩ := Sat.lift (Sat.bind (Sat.ok (Sat.ok q2 r2) r2))
    have hv2 := hv.ext e2.toExtW r1.noTup
    have ed : (match seqOf ro rw2 x, seqOf ro rw2 y with
      | some xs, some ys => some (D.lst (zipD xs ys))
      | _, _ => none) = some d := ed
    cases ex : seqOf ro rw2 x with
    | none => rw [ex] at ed; cases ed
    | some xs =>
      cases ey : seqOf ro rw2 y with
      | none => rw [ex, ey] at ed; cases ed
      | some ys =>
        rw [ex, ey] at ed
        cases ed
        obtain ⟨a1, vs, rfl, sq1, p1⟩ := r2.seq ex hv2
        obtain ⟨b1, us, rfl, sq2, p2⟩ := r2.seq ey hu
        have kindOf : ∀ {a : Addr} {vs : List V}, (SqL X.K H2 a vs ∨ SqT X.K H2 a vs) → ∃ kx : SK, kx.sq X.K H2 a vs := fun h => h.elim (fun z => ⟨.l, z⟩) fun z => ⟨.t, z⟩
        obtain ⟨kx, hq1⟩ := kindOf sq1
        obtain ⟨ky, hq2⟩ := kindOf sq2
        refine ⟨kx, ky, a1, b1, vs, us, rfl, hq1, hq2, fun as p hl hn nd hp => ?_⟩
        obtain ⟨e3, r3⟩ := putP_rel as (vs.zip us) H2 r2 hn nd
        have atP := putP_at as (vs.zip us) H2 hl nd
        have g : Made T X.K ro rw2 m2 (putP H2 as (vs.zip us)) mu (.lst (zipD xs ys)) Q := g m2 _ e3 r3
        exact g.lst r3 (putP_reps (p1.ext e3.toExtW r2.noTup) (p2.ext e3.toExtW r2.noTup) atP) p hp
  refine Call_ (ld_blt I (gl_of hX hg) (hX.glob.blt _ (by decide +kernel)) boot_list (PyProof.Rows.callWith_type1 (args_cons (Call_ (ld_blt I (gl_of hX hg2) (hX.glob.blt _ (by decide +kernel)) PyProof.Rows.boot_zip (PyProof.Rows.callWith_type1 (thn (read pos2 pins s0 I) fun us s1 ⟨vs, H1, I1, r1, kx, ky, a1, b1, xs, ys, ex, hq1, hq2, qR⟩ => ?_) (star_each hs) (by rw [star_each hs2]; rfl)))) rfl) rfl))
  subst ex
  cases r1 with
  | cons r rr =>
    cases rr with
    | cons r' rr =>
      cases rr
      cases r
      cases r'
      obtain ⟨its, rv, p1, lt1⟩ := kx.got I1 hq1
      obtain ⟨its2, rv2, p2, lt2⟩ := ky.got I1 hq2
      have hz1 : xs.length ≤ sizeLine := by
        cases kx
        · exact (I1.list hq1).elim fun _ z => z.2.2
        · exact (I1.tuple hq1).elim fun _ z => z.2.2
      have lv1 := rv.length
      have lv2 := rv2.length
      have hmin : min its.toArray.size its2.toArray.size = (xs.zip ys).length := by
        rw [List.length_zip, List.size_toArray, List.size_toArray, lv1, lv2]
      have hz : (xs.zip ys).length ≤ sizeLine := by rw [List.length_zip]; omega
      refine zip_begins2 (kx.begins a1 its.toArray) (ky.begins b1 its2.toArray) p1 p2 fun h' hz0 hTI hTO g1 g2 hsz hk => args_nil ?_
      have hA : X.A.handled = none := I1.ok.hd c.calm
      refine lz_call (k := kx) (j := ky) (sep2 s1.heap.objs.size a1 b1 lt1 lt2) hA (by rw [hmin]; exact hz) hz0 hTI ⟨_, _, hTO⟩ ⟨kx.first g1, kx.isAt p1 fun o e => hk _ o e⟩ ⟨ky.first g2, ky.isAt p2 fun o e => hk _ o e⟩ fun h2 tk acc c' as kp hS hl hG hacc => ?_
      have le1 : s1.heap.objs.size ≤ h'.objs.size := by
        have := Heap.lt_size hz0
        exact Nat.le_of_lt (Nat.lt_of_le_of_lt (Nat.le_add_right _ _) this)
      obtain ⟨y1, y2, y3, y4, y5, J⟩ := zip_laid (tk := tk) I1 hz rv rv2 (fun b o e => kp b o (fun q => absurd (Heap.lt_size e) (Nat.not_lt.mpr (by
        have e' : b = s1.heap.objs.size + 4 ∨ b = s1.heap.objs.size + 3 ∨ b = s1.heap.objs.size ∨ b = s1.heap.objs.size + 1 := by simpa using q
        rcases e' with z | z | z | z <;> rw [z] <;> first | exact Nat.le_refl _ | exact Nat.le_add_right _ _))) (hk b o e)) le1 hS (by rw [hl, hmin]) hG hacc
      exact ⟨.ref _, _, J, rfl, qR as _ (by rw [hl, hmin]) y2 y4 y5⟩
end
end Mx

set_option Elab.async false
set_option linter.all false
set_option maxRecDepth 100000
set_option maxHeartbeats 1000000
/-! Mx, part Zb: a name that holds a zip, walked once in what is handed back. -/
namespace Mx
open PySem L2 PySem.Spec PyProof.Rows
/-! ### things told by their one object -/
def oX (a : Addr) (o : Obj) : HO := .ext fun h => h.get? a = some o
theorem oX_ok {P : Program} {w : World} {H : Hp} {h : Heap} {a : Addr} {o : Obj} (e : h.get? a = some o) : ObjOk P w H h a (oX a o) := ⟨e, ⟨o, e⟩, fun h1 h2 p k => k _ p⟩
def putX : Hp → List (Addr × Obj) → Hp
  | H, [] => H
  | H, p :: ps => upd (putX H ps) p.1 (oX p.1 p.2)
theorem putX_off {c : Addr} {H : Hp} : ∀ {ps : List (Addr × Obj)}, c ∉ ps.map (·.1) → putX H ps c = H c
  | [], _ => rfl
  | p :: ps, h => by
    show upd (putX H ps) p.1 (oX p.1 p.2) c = H c
    rw [upd_ne (fun z => h (by rw [z]; exact List.mem_cons_self)), putX_off fun z => h (List.mem_cons_of_mem _ z)]
theorem putX_at {H : Hp} : ∀ {ps : List (Addr × Obj)}, (ps.map (·.1)).Nodup → ∀ p ∈ ps, putX H ps p.1 = some (oX p.1 p.2)
  | [], _, p, hp => by cases hp
  | q :: ps, nd, p, hp => by
    have nd' := List.nodup_cons.mp nd
    show upd (putX H ps) q.1 (oX q.1 q.2) p.1 = _
    rcases List.mem_cons.mp hp with rfl | hp
    · rw [upd_same]
    · rw [upd_ne (fun z => nd'.1 (List.mem_map.mpr ⟨p, hp, z⟩)), putX_at nd'.2 p hp]
section
variable {X : Cx} {pins : List (Addr × Obj)} {σ : L2.St} {H : Hp} {s : Shared} {h' : Heap} {tk : Nat}
theorem inv_putX (I : Inv X pins σ H s) {ps : List (Addr × Obj)} (hk : ∀ b o, s.heap.get? b = some o → h'.get? b = some o) (hge : ∀ p ∈ ps, s.heap.objs.size ≤ p.1) (nd : (ps.map (·.1)).Nodup) (hob : ∀ p ∈ ps, h'.get? p.1 = some p.2) : Inv X pins σ (putX H ps) { s with heap := h', toks := tk } := by
  have new : ∀ b ∈ ps.map (·.1), H b = none := fun b hb => by
    obtain ⟨p, hp, rfl⟩ := List.mem_map.mp hb
    exact I.hok.fresh (hge p hp)
  have low : ∀ b o, s.heap.get? b = some o → b ∉ ps.map (·.1) := fun b o e z => by
    obtain ⟨p, hp, rfl⟩ := List.mem_map.mp z
    exact absurd (Heap.lt_size e) (Nat.not_lt.mpr (hge p hp))
  have kp : ∀ b u, H b = some u → putX H ps b = some u := fun b u e => by
    rw [putX_off (fun z => by rw [new b z] at e; cases e)]
    exact e
  refine I.call' (ch := []) rfl ⟨fun b o q _ _ _ => hk b o q, fun b o q _ _ _ => ⟨o.slots, hk b o q⟩, fun b o q n _ => by rw [putX_off (low b o q)]; exact n, fun b o q _ => ⟨o, hk b o q⟩, fun b xs q => kp b _ q, fun b o u q => kp b _ q, fun b ps q => ⟨#[], by rw [kp b _ q]; simp⟩⟩ (fun b u q => ?_) I.bare fun b z => by simp at z
  by_cases hb : b ∈ ps.map (·.1)
  · obtain ⟨p, hp, rfl⟩ := List.mem_map.mp hb
    rw [putX_at nd p hp] at q
    cases q
    exact oX_ok (hob p hp)
  · rw [putX_off hb] at q
    exact (I.hok b u q).stay (fun d v _ y => hk d v y) (fun d y => kp d _ y) fun d xs y => kp d _ y
theorem inv_dropX : ∀ {ps : List (Addr × Obj)}, Inv X pins σ (putX H ps) s → (∀ p ∈ ps, H p.1 = none) → (ps.map (·.1)).Nodup → Inv X pins σ H s
  | [], I, _, _ => I
  | p :: ps, I, hn, nd => by
    have nd' := List.nodup_cons.mp nd
    have q := ItX.inv_drop I (a := p.1) (show putX H (p :: ps) p.1 = some (.ext _) from upd_same)
    have e : ItX.dropH (putX H (p :: ps)) p.1 = putX H ps := ItX.dropH_upd (by rw [putX_off nd'.1]; exact hn p List.mem_cons_self)
    rw [e] at q
    exact inv_dropX q (fun r hr => hn r (List.mem_cons_of_mem _ hr)) nd'.2
end
/-! ### a zip made -/
def zTI (p : Addr) : Obj := { cls := .type "tuple", data := .seq #[.ref p, .ref (p + 1)] }
def zTO : Obj := { cls := .type "tuple", data := .seq #[.none, .none] }
def zZ (p : Addr) : Obj := { cls := .type "zip", dict := none, data := .fields #[.none, .bool false, .bool false, .ref (p + 2), .ref (p + 3)], slots := #[] }
def cells (p : Addr) (kx ky : SK) (x y : Addr) : List (Addr × Obj) := [(p + 4, zZ p), (p + 2, zTI p), (p + 3, zTO), (p, kx.obj x), (p + 1, ky.obj y)]
theorem cells_nd (p : Nat) (kx ky : SK) (x y : Addr) : ((cells p kx ky x y).map (·.1)).Nodup := by
  have e : (cells p kx ky x y).map (·.1) = [p + 4, p + 2, p + 3, p, p + 1] := rfl
  rw [e]
  have ne : ∀ {a b : Nat}, a < b ∨ b < a → a ≠ b := fun h => by omega
  refine List.nodup_cons.mpr ⟨fun z => ?_, List.nodup_cons.mpr ⟨fun z => ?_, List.nodup_cons.mpr ⟨fun z => ?_, List.nodup_cons.mpr ⟨fun z => ?_, List.nodup_cons.mpr ⟨fun z => ?_, List.nodup_nil⟩⟩⟩⟩⟩
  · simp only [List.mem_cons, List.not_mem_nil, or_false] at z
    have z : p + 4 = p + 2 ∨ p + 4 = p + 3 ∨ p + 4 = p ∨ p + 4 = p + 1 := z
    omega
  · simp only [List.mem_cons, List.not_mem_nil, or_false] at z
    have z : p + 2 = p + 3 ∨ p + 2 = p ∨ p + 2 = p + 1 := z
    omega
  · simp only [List.mem_cons, List.not_mem_nil, or_false] at z
    have z : p + 3 = p ∨ p + 3 = p + 1 := z
    omega
  · simp only [List.mem_cons, List.not_mem_nil, or_false] at z
    have z : p = p + 1 := z
    omega
  · simp at z
def tZip (X : Cx) (ea eb : Expr) : TE := fun σ H Q => wA X [ea, eb] σ H fun vs H1 => ∃ (kx ky : SK) (x y : Addr) (xs ys : List V), vs = [.ref x, .ref y] ∧ kx.sq X.K H1 x xs ∧ ky.sq X.K H1 y ys ∧
  ∀ p : Addr, X.s_0.heap.objs.size ≤ p → x < p → y < p → (∀ c ∈ cells p kx ky x y, H1 c.1 = none) → Q (.ref (p + 4)) (putX H1 (cells p kx ky x y))
theorem pe_zipv {X : Cx} {ea eb : Expr} {p pos : Pos} (hg : Gl X "zip") (hm : X.mg "zip" = none) (hs : isStar ea = false) (hs2 : isStar eb = false) : PE X (.Call (.Name "zip" p) [ea, eb] [] pos) (tZip X ea eb) := by
  refine ⟨fun pins s0 σ H Q I h => ?_⟩
  refine Call_ (ld_blt I hg hm PyProof.Rows.boot_zip (PyProof.Rows.callWith_type1 (thn (h pos pins s0 I) fun us s1 ⟨vs, H1, I1, r1, kx, ky, a1, b1, xs, ys, ex, hq1, hq2, qR⟩ => ?_) (star_each hs) (by rw [star_each hs2]; rfl)))
  subst ex
  cases r1 with
  | cons r rr =>
    cases rr with
    | cons r' rr =>
      cases rr
      cases r
      cases r'
      obtain ⟨its, rv, p1, lt1⟩ := kx.got I1 hq1
      obtain ⟨its2, rv2, p2, lt2⟩ := ky.got I1 hq2
      refine zip_begins2 (kx.begins a1 its.toArray) (ky.begins b1 its2.toArray) p1 p2 fun h' hz hTI hTO g1 g2 hsz hk => ?_
      have ge : ∀ c ∈ cells s1.heap.objs.size kx ky a1 b1, s1.heap.objs.size ≤ c.1 := fun c hc => by
        simp only [cells, List.mem_cons, List.not_mem_nil, or_false] at hc
        rcases hc with rfl | rfl | rfl | rfl | rfl <;> first | exact Nat.le_refl _ | exact Nat.le_add_right _ _
      have J : Inv X pins σ (putX H1 (cells s1.heap.objs.size kx ky a1 b1)) { s1 with heap := h', toks := s1.toks } := inv_putX I1 hk ge (cells_nd _ _ _ _ _) fun c hc => by
        simp only [cells, List.mem_cons, List.not_mem_nil, or_false] at hc
        rcases hc with rfl | rfl | rfl | rfl | rfl
        · exact hz
        · exact hTI
        · exact hTO
        · exact g1
        · exact g2
      exact ⟨.ref (s1.heap.objs.size + 4), _, J, rfl, qR _ I1.sz lt1 lt2 fun c hc => I1.hok.fresh (ge c hc)⟩
/-! ### .. and walked -/
theorem wI_zipv {X : Cx} {elts : List Expr} {kk : Nat} {tpos pos : Pos} {i : Nat} {x : Str} (hN : X.N[i]? = some x) (hv : Vis X.env.scope x) (hd : (x == ("__debug__" : Str)) = false) (hcd : (x == ("__classdict__" : Str)) = false) {s : L2.St} {H1 : Hp} {R : It → Hp → Prop} {p a1 b1 : Addr} {kx ky : SK}
    (hs : s[i]? = some (some (.ref (p + 4)))) (hge : X.s_0.heap.objs.size ≤ p) (l1 : a1 < p) (l2 : b1 < p) (hn : ∀ c ∈ cells p kx ky a1 b1, H1 c.1 = none) (q : R (ItZ2 X.K kx ky a1 b1) H1) : wI X (.Tuple elts kk tpos) (.Name x pos) s (putX H1 (cells p kx ky a1 b1)) R := by
  intro pins s0 I
  refine thn ((pe_var (pos := pos) (i := i) hN hv hd hcd).run pins s0 s _ (fun v H2 => v = .ref (p + 4) ∧ H2 = putX H1 (cells p kx ky a1 b1)) I ⟨.ref (p + 4), hs, rfl, rfl⟩) fun u s1 ⟨v, H2, I1, r1, ev, eH⟩ => ?_
  subst ev
  rw [eH] at I1
  cases r1
  have nd := cells_nd p kx ky a1 b1
  have get : ∀ c ∈ cells p kx ky a1 b1, s1.heap.get? c.1 = some c.2 := fun c hc => (I1.hok c.1 _ (putX_at nd c hc)).1
  have g1 : s1.heap.get? (p + 4) = some (zZ p) := get (p + 4, zZ p) (by simp [cells])
  have g2 : s1.heap.get? (p + 2) = some (zTI p) := get (p + 2, zTI p) (by simp [cells])
  have g3 : s1.heap.get? (p + 3) = some zTO := get (p + 3, zTO) (by simp [cells])
  have g4 : s1.heap.get? p = some (kx.obj a1) := get (p, kx.obj a1) (by simp [cells])
  have g5 : s1.heap.get? (p + 1) = some (ky.obj b1) := get (p + 1, ky.obj b1) (by simp [cells])
  have D := sep2 p a1 b1 l1 l2
  have st : IsZip s1.heap (p + 4) (p + 2) (p + 3) .none ∧ IsTupOf2 s1.heap (p + 2) (.ref p) (.ref (p + 1)) ∧ (∃ x y, IsTupOf2 s1.heap (p + 3) x y) ∧ kx.iter s1.heap p a1 0 ∧ ky.iter s1.heap (p + 1) b1 0 := ⟨g1, g2, ⟨_, _, g3⟩, kx.first g4, ky.first g5⟩
  refine (turn_z2 (P := X.prog) (w := X.w) (K := X.K) (elts := elts) (kk := kk) (tpos := tpos) (k := kx) (j := ky) D).self X.A 0 s1 _ _ st ?_
  refine ⟨p + 4, [p + 4, p + 2, p + 3, p, p + 1], _, _, H1, rfl, inv_dropX I1 hn nd, turn_z2 D, st, fun c hc => ?_, q⟩
  have hc' : ∃ o, (c, o) ∈ cells p kx ky a1 b1 := by
    simp only [List.mem_cons, List.not_mem_nil, or_false] at hc
    rcases hc with rfl | rfl | rfl | rfl | rfl
    · exact ⟨zZ p, by simp [cells]⟩
    · exact ⟨zTI p, by simp [cells]⟩
    · exact ⟨zTO, by simp [cells]⟩
    · exact ⟨kx.obj a1, by simp [cells]⟩
    · exact ⟨ky.obj b1, by simp [cells]⟩
  obtain ⟨o, ho⟩ := hc'
  have hge' : X.s_0.heap.objs.size ≤ c := by
    simp only [List.mem_cons, List.not_mem_nil, or_false] at hc
    rcases hc with rfl | rfl | rfl | rfl | rfl <;> first | exact hge | exact Nat.le_trans hge (Nat.le_add_right _ _)
  exact ⟨hn _ ho, (ItX.inv_fp I1 (putX_at nd _ ho) hge').2⟩
end Mx

set_option Elab.async false
set_option linter.all false
set_option maxRecDepth 100000
set_option maxHeartbeats 1000000
/-! Mx, part Zc: pairs = zip(a, b); return f([.. for .., .. in pairs]). -/
namespace Mx
open PySem L2 PySem.Spec PyProof.Rows
section
variable {T : Tbs} {G : Glob} {C : Calls} {k : Nat} {N : List Str} {sc : Scope}
theorem SRel.wiped {K : PySem.W.Frag} {m : Wd} {H : Hp} {σ : Sig} {s : L2.St} (r : SRel K m H σ s) (i : Nat) : SRel K m H (wipeD σ [i]) s := by
  refine ⟨by simp [wipeD, r.len], fun j d h => ?_⟩
  simp only [wipeD] at h
  by_cases z : j = i
  · subst z
    by_cases hj : j < σ.length
    · rw [List.getElem?_set_self hj] at h; cases h
    · rw [List.getElem?_eq_none (by simp; omega)] at h; cases h
  · rw [List.getElem?_set_ne (Ne.symm z)] at h
    exact r.at_ j d h
theorem SRel.hide {K : PySem.W.Frag} {m : Wd} {H : Hp} {σ : Sig} {s : L2.St} {i : Nat} (r : SRel K m H (wipeD σ [i]) s) (v : V) : SRel K m H (wipeD σ [i]) (s.set i (some v)) := by
  refine ⟨by rw [List.length_set]; exact r.len, fun j d h => ?_⟩
  by_cases z : j = i
  · subst z
    simp only [wipeD] at h
    by_cases hj : j < σ.length
    · rw [List.getElem?_set_self hj] at h; cases h
    · rw [List.getElem?_eq_none (by simp; omega)] at h; cases h
  · rw [List.getElem?_set_ne (Ne.symm z)]
    exact r.at_ j d h
theorem sss_zret {i : Nat} {x : Str} {b : BI} {mu : Bool} {F : Str} {ma mb melt : ME} {own : List (Str × Nat)} {g : MG} {mi : Option ME} {elt ea eb : Expr} {elts : List Expr} {kk : Nat} {tp p p2 p3 p4 pos pos2 pos3 pos4 cpos : Pos} {ifs : List Expr} {bsc : Scope} {rest : List Stmt}
    (hN : N[i]? = some x) (hl : locB sc x = true) (hv : visB sc x = true) (hk : okName x = true) (hgz : sc.names.lookup ("zip" : Str) = some .globalImplicit) (ha : SE T G C k N sc ma ea) (hb : SE T G C k N sc mb eb) (hs : isStar ea = false) (hs2 : isStar eb = false)
    (hgF : sc.names.lookup F = some .globalImplicit) (hbF : biOf F 1 = some b) (hbk : blkC N sc bsc own = true) (hg : TgOk N (relS bsc sc) (ownB bsc) g (.Tuple elts kk tp)) (hsl : ∀ i ∈ slotsG g, i ∈ own.map (·.2)) (he : SE T G C k N (relS bsc sc) melt elt) (hi : IfsOk T G C k N (relS bsc sc) mi ifs) :
    SSs T G C k N sc [.zret i (.blt mu b [.comp false melt (own.map (·.2)) g (.zip2 ma mb) mi])] (.Assign [.Name x p] (.Call (.Name "zip" p2) [ea, eb] [] pos2) pos :: .Return (some (.Call (.Name F p3) [.ListComp elt [⟨.Tuple elts kk tp, .Name x p4, ifs, 0⟩] bsc cpos] [] pos3)) pos4 :: rest) := fun X hXS ro rw σ s w0 H D rs hr q => by
  have hX := hXS.here
  have ok : BlkOk X.N X.env.scope bsc own := by rw [hX.names, hX.scope]; exact blkOk_by hbk
  obtain ⟨f1, f2, f, f3, f4, f5⟩ := biOf_ok hbF
  have q : Sat T X.K ro w0 H (M.bind (if i < σ.length then M.bind (evE C ro (.blt mu b [.comp false melt (own.map (·.2)) g (.zip2 ma mb) mi]) (wipeD σ [i])) fun d => M.pure (Fl.rt d) else M.err) (fun (r : Fl) => match r with | Fl.nx σ' => exSs C ro [] σ' | r => M.pure r) rw) (FP X.K D) := q
  have hlen : i < σ.length := by
    by_cases h : i < σ.length
    · exact h
    · rw [if_neg h] at q; exact q.elim
  rw [if_pos hlen] at q
  have q0 : Sat T X.K ro w0 H (M.bind (M.bind (M.bind (M.bind (M.bind (M.bind (evE C ro ma (wipeD σ [i])) fun x => M.bind (evE C ro mb (wipeD σ [i])) fun y => M.lift (match srcOf x, srcOf y with | some xs, some ys => some (zipD xs ys) | _, _ => none))
      (fun ds => M.bind (loopF ds (fun d acc => M.bind (M.lift (asG g d (wipeD (wipeD σ [i]) (own.map (·.2))))) fun σ2 => M.bind (evIfs C ro mi σ2) fun k => if k then M.bind (evE C ro melt σ2) fun y => stepL acc y else M.pure acc) []) fun acc => M.pure (.lst acc)))
      (fun d => M.bind (M.pure []) fun ds => M.pure (d :: ds))) (fun ds => fun rw => M.bind (M.lift (bltop ro rw b ds)) (alloc ro mu) rw)) fun d => M.pure (Fl.rt d)) (fun (r : Fl) => match r with | Fl.nx σ' => exSs C ro [] σ' | r => M.pure r) rw) (FP X.K D) := q
  have q5 := Sat.bind (Sat.bind (Sat.bind (Sat.bind (Sat.bind (Sat.bind q0)))))
  have rs0 := rs.wiped i
  refine PSs.le (pss_cons (ps_set (e := .Call (.Name "zip" p2) [ea, eb] [] pos2) hX.ctx.nd (by rw [hX.names]; exact hN) (by rw [hX.scope]; exact locB_of hl) (pe_zipv (gl_of hX hgz) (hX.glob.blt _ (by decide +kernel)) hs hs2) rfl (hXS.owns x rfl)) pss_w) ?_
  show tZip X ea eb s H fun v H' => wSs X (.Return (some (.Call (.Name F p3) [.ListComp elt [⟨.Tuple elts kk tp, .Name x p4, ifs, 0⟩] bsc cpos] [] pos3)) pos4 :: rest) D (s.set i (some v)) H'
  unfold tZip
  refine PA.le (pa_cons pe_w (pa_cons pe_w pa_nil (star_each hs2)) (star_each hs)) ?_
  refine ha X hX ro rw (wipeD σ [i]) s w0 H _ rs0 hr (q5.mono fun xd rw1 m1 H1 e1 r1 q6 v hv1 => ?_)
  have rs1 := rs0.ext e1.toExtW hr.noTup
  refine hb X hX ro rw1 (wipeD σ [i]) s m1 H1 _ rs1 r1 ((Sat.bind q6).mono fun yd rw2 m2 H2 e2 r2 q7 u hu => ?_)
  have rs2 := rs1.ext e2.toExtW r1.noTup
  obtain ⟨ds, ed, q8⟩ := Sat.lift q7
  cases ex : srcOf xd with
  | none => rw [ex] at ed; cases ed
  | some xs =>
    cases ey : srcOf yd with
    | none => rw [ex, ey] at ed; cases ed
    | some ys =>
      rw [ex, ey] at ed
      cases ed
      obtain ⟨kx, a1, vs, rfl, st1, p1⟩ := src_at ex (hv1.ext e2.toExtW r1.noTup)
      obtain ⟨ky, b1, us, rfl, st2, p2⟩ := src_at ey hu
      have q9 := q8 m2 H2 (.refl _ _) r2
      refine ⟨kx, ky, a1, b1, vs, us, rfl, st1.sq, st2.sq, fun pp hge l1 l2 hn => ?_⟩
      have len : i < s.length := by rw [← rs.len]; exact hlen
      have main : wE X (.ListComp elt [⟨.Tuple elts kk tp, .Name x p4, ifs, 0⟩] bsc cpos) (s.set i (some (.ref (pp + 4)))) (putX H2 (cells pp kx ky a1 b1)) fun v H3 => wC X f [v] H3 D.rt := by
        refine PE.le (pe_lc (g := aG X bsc (.Tuple elts kk tp)) (tt := aTs X bsc ifs) (te := aE X bsc elt) hX.ctx.calm hX.ctx.nd pi_w ok (fun s0 H0 Cc cl fp => ⟨fun pins s σ H v u Q I r h => h s0 H0 Cc cl fp pins s u I r⟩)
          (fun s0 H0 Cc cl fp => ⟨fun pins s σ H Q I h => h s0 H0 Cc cl fp pins s I⟩) (fun s0 H0 Cc cl fp => ⟨fun pins s σ H Q I h => h s0 H0 Cc cl fp pins s I⟩) (fun _ => rfl)) ?_
        refine wI_zipv (i := i) (by rw [hX.names]; exact hN) (by rw [hX.scope]; exact visB_of hv) (by unfold okName at hk; simp only [Bool.and_eq_true] at hk; exact eq_of_beq hk.1.1) (by unfold okName at hk; simp only [Bool.and_eq_true] at hk; exact eq_of_beq hk.1.2) (by rw [List.getElem?_set_self len]) hge l1 l2 hn ?_
        refine lc_ok (Q := fun v H3 => wC X f [v] H3 D.rt) hX hg hsl he hi (rs2.hide (.ref (pp + 4))) r2 (walks_z2 st1 st2 p1 p2) (q9.mono fun d rw3 m3 H3 e3 r3 q10 v hv3 => ?_)
        have q11 := Sat.ok (Sat.bind q10) r3
        have q12 := Sat.ok q11 r3
        obtain ⟨dd, ed, g9⟩ := Sat.lift (Sat.bind q12)
        exact bltop_ok hX.ctx r3 f3 (.one hv3) ed ((g9 m3 H3 (.refl _ _) r3).mono fun d4 rw4 m4 H4 e4 r4 q13 v4 hv4 => Sat.ok (Sat.ok q13 r4) r4 v4 hv4)
      refine PSs.le (pss_cons (ps_ret pe_w) pss_w) ?_
      show wE X (.Call (.Name F p3) [.ListComp elt [⟨.Tuple elts kk tp, .Name x p4, ifs, 0⟩] bsc cpos] [] pos3) _ _ D.rt
      have read : wA X [.ListComp elt [⟨.Tuple elts kk tp, .Name x p4, ifs, 0⟩] bsc cpos] (s.set i (some (.ref (pp + 4)))) (putX H2 (cells pp kx ky a1 b1)) fun vs H3 => wC X f vs H3 D.rt := PA.le (pa_cons pe_w pa_nil (star_each rfl)) main
      have nst : isStar (.ListComp elt [⟨.Tuple elts kk tp, .Name x p4, ifs, 0⟩] bsc cpos) = false := rfl
      rcases f5 with ⟨id, rfl⟩ | ⟨t, rfl⟩
      · exact PE.le (pe_callB call_w (gl_of hX hgF) (hX.glob.blt F f1) f4 pa_w (okName_n f2) (okName_d f2) (star_each nst) (no_star rfl)) read
      · exact PE.le (pe_callTy call_w (gl_of hX hgF) (hX.glob.blt F f1) f4 pa_w (okName_n f2) (okName_d f2) (star_each nst) (no_star rfl)) read
end
end Mx

set_option Elab.async false
set_option linter.all false
set_option maxRecDepth 100000
set_option maxHeartbeats 1000000
/-! My, part A: expressions are read into the core language; what is not read is no promise (nope). -/
namespace Mx
open PySem L2 PySem.Spec PyProof.Rows

/-! ### names -/
def slotOf : List Str → Str → Option Nat
  | [], _ => none
  | y :: r, x => if y = x then some 0 else (slotOf r x).map (· + 1)
theorem slotOf_ok : ∀ {N : List Str} {x : Str} {i : Nat}, slotOf N x = some i → N[i]? = some x
  | [], _, _, h => by cases h
  | y :: r, x, i, h => by
    unfold slotOf at h
    split at h
    · cases h; rename_i e; subst e; rfl
    · obtain ⟨j, h1, rfl⟩ := Option.map_eq_some_iff.mp h
      simpa using slotOf_ok h1
def glB (sc : Scope) (x : Str) : Bool := decide (sc.names.lookup x = some .globalImplicit)
theorem glB_ok {sc : Scope} {x : Str} (h : glB sc x = true) : sc.names.lookup x = some .globalImplicit := of_decide_eq_true h
def boOf : Operator → Option BO
  | .Add => some .add
  | .Sub => some .sub
  | .Mult => some .mul
  | .FloorDiv => some .fdiv
  | .Mod => some .mod
  | .Pow => some .pow
  | _ => none
theorem boOf_ok {o : Operator} {b : BO} (h : boOf o = some b) : opOf b = o := by cases o <;> cases h <;> rfl
def coOf : CmpOp → CO
  | .Eq => .eq
  | .NotEq => .ne
  | .Lt => .lt
  | .LtE => .le
  | .Gt => .gt
  | .GtE => .ge
  | .In => .isin
  | .NotIn => .notin
  | .Is => .is_
  | .IsNot => .isnot
theorem coOf_ok (o : CmpOp) : cOf (coOf o) = o := by cases o <;> rfl
section
variable (G : Glob) (N : List Str)
def muAt (p : Pos) : Bool := G.mu.contains (p.line, p.col)
def dkAt (p : Pos) : Bool := G.dk.contains (p.line, p.col)
def cNm (sc : Scope) (x : Str) : ME :=
  if okName x then
    if visB sc x then (match slotOf N x with
      | some i => .nm i
      | none => .nope)
    else if glB sc x then (match G.cst.find? fun p => decide (p.1 = x) with
      | some p => .cst p.2
      | none => .nope)
    else .nope
  else .nope
def cCst : Const → ME
  | .none => .cst .non
  | .bool b => .cst (.bl b)
  | .int i => .cst (.int i)
  | .str s => .cst (.str s)
  | _ => .nope
def noStar (es : List Expr) : Bool := es.all fun e => !isStar e
def isSetD : Expr → Bool
  | .Set _ _ _ => true
  | _ => false
theorem fold_pure {e : Expr} (h : isSetD e = false) (env : Env) (x : Value) : foldedSetIterable e env x = pure x := by
  cases e <;> first | rfl | cases h
/-! ### targets -/
def cNms (sc : Scope) (own : Str → Bool) : List Expr → Option (List Nat)
  | [] => some []
  | .Name x _ :: r => match slotOf N x, cNms sc own r with
    | some i, some is => if locB sc x && own x then some (i :: is) else none
    | _, _ => none
  | _ => none
def cTg (sc : Scope) (own : Str → Bool) : Expr → Option MG
  | .Name x _ => match slotOf N x with
    | some i => if locB sc x && own x then some (.nm i) else none
    | none => none
  | .Tuple es _ _ => (cNms N sc own es).map fun is => .tup (is.map .nm)
  | _ => none
variable {N}
theorem cNms_ok {sc : Scope} {own : Str → Bool} : ∀ {es : List Expr} {is : List Nat}, cNms N sc own es = some is → ∃ xs : List (Str × Pos), es = xs.map nmE ∧ All2 (NmAt N sc own) is xs
  | [], is, h => by cases h; exact ⟨[], rfl, .nil⟩
  | e :: r, is, h => by
    cases e with
    | Name x p =>
      unfold cNms at h
      split at h
      · rename_i i is' h1 h2
        split at h
        · rename_i c
          cases h
          obtain ⟨xs, rfl, a⟩ := cNms_ok h2
          have c := Bool.and_eq_true_iff.mp c
          exact ⟨(x, p) :: xs, rfl, .cons ⟨slotOf_ok h1, c.1, c.2⟩ a⟩
        · cases h
      · cases h
    | _ => cases h
theorem cTg_ok {sc : Scope} {own : Str → Bool} {e : Expr} {g : MG} (h : cTg N sc own e = some g) : TgOk N sc own g e := by
  cases e with
  | Name x p =>
    have h : (match slotOf N x with
      | some i => if locB sc x && own x then some (MG.nm i) else none
      | none => none) = some g := h
    split at h
    · rename_i i h1
      split at h
      · rename_i c
        cases h
        have c := Bool.and_eq_true_iff.mp c
        exact .nm (y := (x, p)) ⟨slotOf_ok h1, c.1, c.2⟩
      · cases h
    · cases h
  | Tuple es kk p =>
    obtain ⟨is, h1, rfl⟩ := Option.map_eq_some_iff.mp h
    obtain ⟨xs, rfl, a⟩ := cNms_ok h1
    exact .tup a
  | _ => cases h
variable (N)
/-! ### what a loop walks -/
def isTupE : Expr → Bool
  | .Tuple _ _ _ => true
  | _ => false
def cI (f : Scope → Expr → ME) (sc : Scope) (tg : Expr) (iter : Expr) : MT := match iter with
  | .Call (.Name x _) [a] [] _ => if x = "range" && glB sc x && !isStar a then .rng1 (f sc a) else .seq (f sc iter)
  | .Call (.Name x _) [a, b] [] _ =>
    if x = "range" && glB sc x && !isStar a && !isStar b then .rng2 (f sc a) (f sc b)
    else if x = "zip" && glB sc x && !isStar a && !isStar b && isTupE tg then .zip2 (f sc a) (f sc b) else .seq (f sc iter)
  | .Call (.Name x _) [a, b, c] [] _ => if x = "zip" && glB sc x && !isStar a && !isStar b && !isStar c && isTupE tg then .zip3 (f sc a) (f sc b) (f sc c) else .seq (f sc iter)
  | .Name x p => if dkAt G p && okName x && visB sc x then (match slotOf N x with
    | some i => .keys i
    | none => .seq (f sc iter)) else .seq (f sc iter)
  | _ => .seq (f sc iter)
/-! ### comprehensions -/
def ownOf (bsc : Scope) : List (Str × Nat) := bsc.names.filterMap fun y => match y.2 with
  | .local => (slotOf N y.1).map fun i => (y.1, i)
  | .cell => (slotOf N y.1).map fun i => (y.1, i)
  | _ => none
/-- a block's frame: its own names, its target -/
def cBlk (sc bsc : Scope) (tg iter : Expr) : Option MG :=
  if blkC N sc bsc (ownOf N bsc) && !isSetD iter then (match cTg N (relS bsc sc) (ownB bsc) tg with
    | some g => if (slotsG g).all fun i => ((ownOf N bsc).map (·.2)).contains i then some g else none
    | none => none) else none
def cIfs (c : Scope → Expr → ME) (sc : Scope) : List Expr → Option (Option ME)
  | [] => some none
  | [t] => some (some (c sc t))
  | _ => none
def cLc (f c : Scope → Expr → ME) (sc : Scope) (mu : Bool) (elt tg iter : Expr) (ifs : List Expr) (bsc : Scope) : ME := match cBlk N sc bsc tg iter, cIfs c (relS bsc sc) ifs with
  | some g, some mi => .comp mu (f (relS bsc sc) elt) ((ownOf N bsc).map (·.2)) g (cI G N f sc tg iter) mi
  | _, _ => .nope
def cDc (f c : Scope → Expr → ME) (sc : Scope) (ek ev tg iter : Expr) (ifs : List Expr) (bsc : Scope) : ME := match cBlk N sc bsc tg iter, cIfs c (relS bsc sc) ifs with
  | some g, some mi => .dcomp true (f (relS bsc sc) ek) (f (relS bsc sc) ev) ((ownOf N bsc).map (·.2)) g (cI G N f sc tg iter) mi
  | _, _ => .nope
end
section
variable {T : Tbs} {G : Glob} {C : Calls} {k : Nat} {N : List Str} {sc : Scope} {f c : Scope → Expr → ME}
theorem cNm_ok {x : Str} {pos : Pos} : SE T G C k N sc (cNm G N sc x) (.Name x pos) := by
  unfold cNm
  split
  · rename_i hk
    split
    · rename_i hv
      split
      · rename_i i hi
        exact se_nm (slotOf_ok hi) hv hk
      · exact se_nope
    · split
      · rename_i hg
        split
        · rename_i p hp
          have h1 := List.mem_of_find?_eq_some hp
          have h2 := List.find?_some hp
          simp only [decide_eq_true_eq] at h2
          refine se_cst (glB_ok hg) hk ?_
          rw [← h2]
          exact h1
        · exact se_nope
      · exact se_nope
  · exact se_nope
theorem cCst_ok {v : Const} {j : Nat} {pos : Pos} : SE T G C k N sc (cCst v) (.Constant v j pos) := by
  cases v with
  | none => exact se_non
  | bool b => exact se_bl
  | int i => exact se_int
  | str s => exact se_str
  | _ => exact se_nope
theorem nostar {e : Expr} (h : (!isStar e) = true) : isStar e = false := by simpa using h
theorem si_of {tg iter : Expr} (hf : ∀ sc e, SE T G C k N sc (f sc e) e) : SI T G C k N sc (cI G N f sc tg iter) tg iter := by
  unfold cI
  split
  · rename_i x p a pos
    split
    · rename_i h
      simp only [Bool.and_eq_true, decide_eq_true_eq] at h
      obtain ⟨⟨rfl, h2⟩, h3⟩ := h
      exact si_rng1 (hf _ _) (nostar h3) (glB_ok h2)
    · exact si_seq (hf _ _)
  · rename_i x p a b pos
    split
    · rename_i h
      simp only [Bool.and_eq_true, decide_eq_true_eq] at h
      obtain ⟨⟨⟨rfl, h2⟩, h3⟩, h4⟩ := h
      exact si_rng2 (hf _ _) (hf _ _) (nostar h3) (nostar h4) (glB_ok h2)
    · split
      · rename_i h
        simp only [Bool.and_eq_true, decide_eq_true_eq] at h
        obtain ⟨⟨⟨⟨rfl, h2⟩, h3⟩, h4⟩, h5⟩ := h
        cases tg with
        | Tuple es kk tp => exact si_zip2 (hf _ _) (hf _ _) (nostar h3) (nostar h4) (glB_ok h2)
        | _ => cases h5
      · exact si_seq (hf _ _)
  · rename_i x p a b d pos
    split
    · rename_i h
      simp only [Bool.and_eq_true, decide_eq_true_eq] at h
      obtain ⟨⟨⟨⟨⟨rfl, h2⟩, h3⟩, h4⟩, h5⟩, h6⟩ := h
      cases tg with
      | Tuple es kk tp => exact si_zip3 (hf _ _) (hf _ _) (hf _ _) (nostar h3) (nostar h4) (nostar h5) (glB_ok h2)
      | _ => cases h6
    · exact si_seq (hf _ _)
  · rename_i x p
    split
    · rename_i h
      simp only [Bool.and_eq_true] at h
      split
      · rename_i i hi
        exact si_keys (slotOf_ok hi) h.2 h.1.2
      · exact si_seq (hf _ _)
    · exact si_seq (hf _ _)
  · exact si_seq (hf _ _)
theorem cBlk_ok {bsc : Scope} {tg iter : Expr} {g : MG} (h : cBlk N sc bsc tg iter = some g) : blkC N sc bsc (ownOf N bsc) = true ∧ isSetD iter = false ∧ TgOk N (relS bsc sc) (ownB bsc) g tg ∧ ∀ i ∈ slotsG g, i ∈ (ownOf N bsc).map (·.2) := by
  unfold cBlk at h
  split at h
  · rename_i hb
    split at h
    · rename_i g' hg
      split at h
      · rename_i hs
        cases h
        simp only [Bool.and_eq_true, Bool.not_eq_true'] at hb
        refine ⟨hb.1, hb.2, cTg_ok hg, fun i hi => ?_⟩
        simpa using List.all_eq_true.mp hs i hi
      · cases h
    · cases h
  · cases h
theorem cIfs_ok (hc : ∀ sc e, ST T G C k N sc (c sc e) e) {ifs : List Expr} {mi : Option ME} (h : cIfs c sc ifs = some mi) : IfsOk T G C k N sc mi ifs := by
  unfold cIfs at h
  split at h
  · cases h; exact .none
  · cases h; exact .one (hc _ _)
  · cases h
theorem cLc_ok (hf : ∀ sc e, SE T G C k N sc (f sc e) e) (hc : ∀ sc e, ST T G C k N sc (c sc e) e) {mu : Bool} {elt tg iter : Expr} {ifs : List Expr} {bsc : Scope} {pos : Pos} : SE T G C k N sc (cLc G N f c sc mu elt tg iter ifs bsc) (.ListComp elt [⟨tg, iter, ifs, 0⟩] bsc pos) := by
  unfold cLc
  split
  · rename_i g mi h1 h2
    obtain ⟨b1, b2, b3, b4⟩ := cBlk_ok h1
    exact se_comp b1 b3 b4 (si_of hf) (hf _ _) (cIfs_ok hc h2) (fold_pure b2)
  · exact se_nope
theorem cDc_ok (hf : ∀ sc e, SE T G C k N sc (f sc e) e) (hc : ∀ sc e, ST T G C k N sc (c sc e) e) {ek ev tg iter : Expr} {ifs : List Expr} {bsc : Scope} {pos : Pos} : SE T G C k N sc (cDc G N f c sc ek ev tg iter ifs bsc) (.DictComp ek ev [⟨tg, iter, ifs, 0⟩] bsc pos) := by
  unfold cDc
  split
  · rename_i g mi h1 h2
    obtain ⟨b1, b2, b3, b4⟩ := cBlk_ok h1
    exact se_dcomp b1 b3 b4 (si_of hf) (hf _ _) (hf _ _) (cIfs_ok hc h2) (fold_pure b2)
  · exact se_nope
end
end Mx

set_option Elab.async false
set_option linter.all false
set_option maxRecDepth 100000
set_option maxHeartbeats 1000000
/-! My, part B: calls, displays; the reading of expressions and tests. -/
namespace Mx
open PySem L2 PySem.Spec PyProof.Rows
section
variable (G : Glob) (N : List Str)
def tyNms (sc : Scope) : List Expr → Option (List Ty)
  | [] => some []
  | .Name y _ :: r => match clsOf y, tyNms sc r with
    | some c, some cs => if glB sc y then some (c :: cs) else none
    | _, _ => none
  | _ => none
def dPairs : List (Option Expr) → List Expr → Option (List (Expr × Expr))
  | [], [] => some []
  | some a :: ks, b :: vs => (dPairs ks vs).map fun r => (a, b) :: r
  | _, _ => none
def cDef (f : Scope → Expr → ME) (sc : Scope) (x : Str) (es : List Expr) (kws : List Keyword) : Option ME :=
  match G.fn.find? fun p => decide (p.1 = x) && decide (p.2.np = es.length) && decide (kws.map kwN = p.2.ks.map some) with
  | some p => if noStar es then some (.call x (es.map (f sc) ++ (kws.map kwE).map (f sc)) p.2.dv p.2.src) else none
  | none => none
def cB0 (f : Scope → Expr → ME) (sc : Scope) (x : Str) (es : List Expr) (pos : Pos) : ME := match es with
  | [] => .nope
  | e :: r =>
    if x = "dict" && r.isEmpty then .blt (muAt G pos) .dpairs [f sc e]
    else if x = "gcd" && G.gcd then .blt false .gcd ((e :: r).map (f sc))
    else match biOf x (e :: r).length with
      | some b => .blt (muAt G pos) b ((e :: r).map (f sc))
      | none => .nope
def cB (f : Scope → Expr → ME) (sc : Scope) (x : Str) (es : List Expr) (pos : Pos) : ME :=
  if glB sc x && noStar es then match es with
    | [.Call (.Name y _) [a] [] _] => if x = "list" && y = "range" && glB sc y && !isStar a then .blt (muAt G pos) .lrange1 [f sc a] else cB0 G f sc x es pos
    | [.Call (.Name y _) [a, b] [] _] => if x = "dict" && y = "zip" && glB sc y && !isStar a && !isStar b then .blt (muAt G pos) .dzip [f sc a, f sc b]
      else if x = "list" && y = "zip" && glB sc y && !isStar a && !isStar b then .blt (muAt G pos) .lzip [f sc a, f sc b] else cB0 G f sc x es pos
    | [e, .Name y _] => if x = "isinstance" && glB sc y then (match clsOf y with
      | some c => .isa (f sc e) [c]
      | none => .nope) else cB0 G f sc x es pos
    | [e, .Tuple ts _ _] => if x = "isinstance" then (match tyNms sc ts with
      | some cs => if decide (cs.length ≤ 100) then .isa (f sc e) cs else .nope
      | none => .nope) else cB0 G f sc x es pos
    | _ => cB0 G f sc x es pos
  else .nope
def isGlob : Scope → Expr → Bool
  | sc, .Name y _ => glB sc y
  | _, _ => false
/-- lambda x: (len(x), x) -/
def lamB (params : Arguments) (body : Expr) (bsc : Scope) : Option Str := match params, body with
  | ⟨[], [⟨x, none, _⟩], none, [], [], none, []⟩, .Tuple [.Call (.Name y _) [.Name u _] [] _, .Name v _] _ _ =>
    if y = "len" && u = x && v = x && glB bsc y && visB bsc x && okName x && decide (bsc.kind = .function) && !bsc.isCoroutine && !bsc.isGenerator && (decide (bsc.names.lookup x = some .local) || decide (bsc.names.lookup x = some .cell)) && (bsc.names.all fun y => !decide (y.2 = .free)) then some x else none
  | _, _ => none
def cCall (f : Scope → Expr → ME) (sc : Scope) (x : Str) (es : List Expr) (kws : List Keyword) (pos : Pos) : ME :=
  if glB sc x && okName x then (match cDef G f sc x es kws with
    | some m => m
    | none => match kws with
      | [] => cB G f sc x es pos
      | [⟨some kw, .Lambda params body bsc _, _⟩] => (match es with
        | [e] => if x = "sorted" && kw = Str.ofString "key" && G.lam && !isStar e && (lamB params body bsc).isSome then .blt (muAt G pos) .sortedLen [f sc e] else .nope
        | _ => .nope)
      | _ => .nope)
  else .nope
def cAt (f : Scope → Expr → ME) (sc : Scope) (o : Expr) (m : Str) (e : Expr) (ap cp : Pos) : ME :=
  if !isStar e && (ap.endLine == cp.line) then
    if m = "append" && !isCall o then .append (f sc o) (f sc e)
    else if m = "pop" && !isCall o then .popAt (f sc o) (f sc e)
    else if m = "index" then (match o with
      | .Name x _ => if glB sc x && okName x then (match G.cst.find? fun p => decide (p.1 = x) with
        | some (_, .tup false ds) => (match intsOf ds with
          | some ns => .idx ns (f sc e)
          | none => .nope)
        | _ => .nope) else .nope
      | _ => .nope)
    else .nope
  else .nope
def stepE (f c : Scope → Expr → ME) (sc : Scope) : Expr → ME
  | .Name x _ => cNm G N sc x
  | .Constant v _ _ => cCst v
  | .BinOp a o b _ => match boOf o with
    | some q => .bin q (f sc a) (f sc b)
    | none => .nope
  | .UnaryOp .USub a _ => .neg (f sc a)
  | .UnaryOp .Not a _ => .not (f sc a)
  | .Compare a [o] [b] _ => if behindInMarks o b then .nope else .cmp (coOf o) (f sc a) (f sc b)
  | .Compare a [o, o'] [b, d] _ => if lastMarks [o, o'] [b, d] then .nope else .chain (coOf o) (coOf o') (f sc a) (f sc b) (f sc d)
  | .BoolOp .And es _ => .and (es.map (f sc))
  | .BoolOp .Or es _ => .or (es.map (f sc))
  | .IfExp t a b _ => .ite (c sc t) (f sc a) (f sc b)
  | .Tuple es _ _ => if noStar es then .tup (es.map (f sc)) else .nope
  | .List es p => if noStar es then .lst (muAt G p) (es.map (f sc)) else .nope
  | .Dict ks vs p => match dPairs ks vs with
    | some prs => if decide (prs ≠ []) && decide (prs.length ≤ 15) then .dct (muAt G p) ((pairE prs).map (f sc)) else .nope
    | none => .nope
  | .Subscript a i _ => if isSlice i then .nope else .sub (f sc a) (f sc i)
  | .ListComp elt [⟨tg, iter, ifs, 0⟩] bsc p => cLc G N f c sc (muAt G p) elt tg iter ifs bsc
  | .DictComp ek ev [⟨tg, iter, ifs, 0⟩] bsc _ => cDc G N f c sc ek ev tg iter ifs bsc
  | .Call (.Name x _) es kws pos => cCall G f sc x es kws pos
  | .Call (.Attribute o m ap) [e] [] cp => cAt G f sc o m e ap cp
  | _ => .nope
def stepC (f c : Scope → Expr → ME) (sc : Scope) (e : Expr) : ME := match e with
  | .UnaryOp .Not a _ => .not (c sc a)
  | .BoolOp .And es _ => .and (es.map (c sc))
  | .BoolOp .Or es _ => .or (es.map (c sc))
  | .IfExp _ _ _ _ => .nope
  | .Compare a [o] [b] _ => if behindInMarks o b then .nope else .cmp (coOf o) (f sc a) (f sc b)
  | .Compare _ _ _ _ => .nope
  | e => f sc e
def cEC : Nat → (Scope → Expr → ME) × (Scope → Expr → ME)
  | 0 => (fun _ _ => .nope, fun _ _ => .nope)
  | n + 1 => (stepE G N (cEC n).1 (cEC n).2, stepC (cEC n).1 (cEC n).2)
end
section
variable {T : Tbs} {G : Glob} {C : Calls} {k : Nat} {N : List Str} {sc : Scope} {f c : Scope → Expr → ME}
theorem all2_map {F : ME → Expr → Prop} {g : Expr → ME} (h : ∀ e, F (g e) e) : ∀ es : List Expr, All2 F (es.map g) es
  | [] => .nil
  | e :: es => .cons (h e) (all2_map h es)
theorem st_nope {e : Expr} : ST T G C k N sc .nope e := fun X hX ro rw σ s ma H Q rs hr h => h.elim
theorem intsOf_back : ∀ {ds : List D} {ns : List Int}, intsOf ds = some ns → ds = ns.map .int
  | [], _, h => by cases h; rfl
  | d :: ds, ns, h => by
    cases d with
    | int i =>
      have h : (intsOf ds).map (i :: ·) = some ns := h
      obtain ⟨ms, h1, rfl⟩ := Option.map_eq_some_iff.mp h
      rw [intsOf_back h1]; rfl
    | _ => cases h
theorem dPairs_ok : ∀ {ks : List (Option Expr)} {vs : List Expr} {prs : List (Expr × Expr)}, dPairs ks vs = some prs → ks = prs.map (fun p => some p.1) ∧ vs = prs.map (·.2)
  | [], [], _, h => by cases h; exact ⟨rfl, rfl⟩
  | [], _ :: _, _, h => by cases h
  | none :: _, _, _, h => by cases h
  | some _ :: _, [], _, h => by cases h
  | some a :: ks, b :: vs, prs, h => by
    have h : (dPairs ks vs).map (fun r => (a, b) :: r) = some prs := h
    obtain ⟨r, h1, rfl⟩ := Option.map_eq_some_iff.mp h
    obtain ⟨i1, i2⟩ := dPairs_ok h1
    exact ⟨by rw [i1]; rfl, by rw [i2]; rfl⟩
theorem tyNms_ok : ∀ {ts : List Expr} {cs : List Ty}, tyNms sc ts = some cs → ∃ xs : List (Str × Pos), ts = (xs.map fun y => .Name y.1 y.2) ∧ All2 (fun (c : Ty) (y : Str × Pos) => clsOf y.1 = some c ∧ sc.names.lookup y.1 = some .globalImplicit) cs xs
  | [], _, h => by cases h; exact ⟨[], rfl, .nil⟩
  | t :: ts, cs, h => by
    cases t with
    | Name y p =>
      unfold tyNms at h
      split at h
      · rename_i c1 cs1 h1 h2
        split at h
        · rename_i hg
          cases h
          obtain ⟨xs, rfl, a⟩ := tyNms_ok h2
          exact ⟨(y, p) :: xs, rfl, .cons ⟨h1, glB_ok hg⟩ a⟩
        · cases h
      · cases h
    | _ => cases h
variable (hf : ∀ sc e, SE T G C k N sc (f sc e) e)
include hf
theorem cB0_ok {x : Str} {es : List Expr} {p pos : Pos} (hg : glB sc x = true) (hs : noStar es = true) : SE T G C k N sc (cB0 G f sc x es pos) (.Call (.Name x p) es [] pos) := by
  unfold cB0
  split
  · exact se_nope
  · rename_i e r
    split
    · rename_i h
      simp only [Bool.and_eq_true, decide_eq_true_eq] at h
      obtain ⟨rfl, h2⟩ := h
      cases r with
      | nil =>
        have hs : ([e].all fun e => !isStar e) = true := hs
        exact se_dpairs (hf _ _) (by simpa using hs) (glB_ok hg)
      | cons _ _ => cases h2
    · split
      · rename_i h
        simp only [Bool.and_eq_true, decide_eq_true_eq] at h
        obtain ⟨rfl, h2⟩ := h
        exact se_gcd (glB_ok hg) h2 (all2_map (hf sc) _) hs
      · split
        · rename_i b hb
          exact se_blt (glB_ok hg) hb (all2_map (hf sc) _) hs
        · exact se_nope
theorem cB_ok {x : Str} {es : List Expr} {p pos : Pos} : SE T G C k N sc (cB G f sc x es pos) (.Call (.Name x p) es [] pos) := by
  unfold cB
  split
  · rename_i h
    obtain ⟨hg, hs⟩ := Bool.and_eq_true_iff.mp h
    split
    · split
      · rename_i h
        simp only [Bool.and_eq_true, decide_eq_true_eq] at h
        obtain ⟨⟨⟨rfl, rfl⟩, h2⟩, h3⟩ := h
        exact se_lrange1 (hf _ _) (nostar h3) (glB_ok hg) (glB_ok h2)
      · exact cB0_ok hf hg hs
    · split
      · rename_i h
        simp only [Bool.and_eq_true, decide_eq_true_eq] at h
        obtain ⟨⟨⟨⟨rfl, rfl⟩, h2⟩, h3⟩, h4⟩ := h
        exact se_dzip (hf _ _) (hf _ _) (nostar h3) (nostar h4) (glB_ok hg) (glB_ok h2)
      · split
        · rename_i h
          simp only [Bool.and_eq_true, decide_eq_true_eq] at h
          obtain ⟨⟨⟨⟨rfl, rfl⟩, h2⟩, h3⟩, h4⟩ := h
          exact se_lzip (hf _ _) (hf _ _) (nostar h3) (nostar h4) (glB_ok hg) (glB_ok h2)
        · exact cB0_ok hf hg hs
    · rename_i e y p2
      split
      · rename_i h
        simp only [Bool.and_eq_true, decide_eq_true_eq] at h
        obtain ⟨rfl, h2⟩ := h
        have hs : ([e, .Name y p2].all fun e => !isStar e) = true := hs
        simp only [List.all_cons, Bool.and_eq_true] at hs
        split
        · rename_i c hc
          exact se_isa1 (glB_ok hg) (hf _ _) (nostar hs.1) hc (glB_ok h2)
        · exact se_nope
      · exact cB0_ok hf hg hs
    · rename_i e ts x1 p2
      split
      · rename_i h
        subst h
        have hs : ([e, .Tuple ts x1 p2].all fun e => !isStar e) = true := hs
        simp only [List.all_cons, Bool.and_eq_true] at hs
        split
        · rename_i cs hc
          split
          · rename_i hl
            obtain ⟨xs, rfl, a⟩ := tyNms_ok hc
            exact se_isaT (glB_ok hg) (hf _ _) (nostar hs.1) a (of_decide_eq_true hl)
          · exact se_nope
        · exact se_nope
      · exact cB0_ok hf hg hs
    · exact cB0_ok hf hg hs
  · exact se_nope
theorem cDef_ok {x : Str} {es : List Expr} {kws : List Keyword} {p pos : Pos} {m : ME} (hg : glB sc x = true) (hk : okName x = true) (h : cDef G f sc x es kws = some m) : SE T G C k N sc m (.Call (.Name x p) es kws pos) := by
  unfold cDef at h
  split at h
  · rename_i q hq
    split at h
    · rename_i hs
      cases h
      have h1 := List.mem_of_find?_eq_some hq
      have h2 := List.find?_some hq
      simp only [Bool.and_eq_true, decide_eq_true_eq] at h2
      obtain ⟨⟨rfl, h3⟩, h4⟩ := h2
      exact se_call (glB_ok hg) hk h1 (all2_map (hf sc) _) (all2_map (hf sc) _) rfl hs h4 (by rw [List.length_map, h3]) (by
        have := congrArg List.length h4
        simpa using this)
    · cases h
  · cases h
theorem cAt_ok {o e : Expr} {m : Str} {ap cp : Pos} : SE T G C k N sc (cAt G f sc o m e ap cp) (.Call (.Attribute o m ap) [e] [] cp) := by
  unfold cAt
  split
  · rename_i h
    obtain ⟨h1, h2⟩ := Bool.and_eq_true_iff.mp h
    split
    · rename_i h
      simp only [Bool.and_eq_true, decide_eq_true_eq, Bool.not_eq_true'] at h
      obtain ⟨rfl, h3⟩ := h
      exact se_append (hf _ _) (hf _ _) (nostar h1) h3 h2
    · split
      · rename_i h
        simp only [Bool.and_eq_true, decide_eq_true_eq, Bool.not_eq_true'] at h
        obtain ⟨rfl, h3⟩ := h
        exact se_popAt (hf _ _) (hf _ _) (nostar h1) h3 h2
      · split
        · rename_i h
          subst h
          split
          · rename_i x p
            split
            · rename_i h
              obtain ⟨h3, h4⟩ := Bool.and_eq_true_iff.mp h
              split
              · rename_i y ds hq
                split
                · rename_i ns hn
                  have h5 := List.mem_of_find?_eq_some hq
                  have h6 := List.find?_some hq
                  simp only [decide_eq_true_eq] at h6
                  subst h6
                  rw [intsOf_back hn] at h5
                  exact se_idx (glB_ok h3) h4 h5 (hf _ _) (nostar h1) h2
                · exact se_nope
              · exact se_nope
            · exact se_nope
          · exact se_nope
        · exact se_nope
  · exact se_nope
end
end Mx

set_option Elab.async false
set_option linter.all false
set_option maxRecDepth 100000
set_option maxHeartbeats 1000000
/-! My, part C: the reading of expressions is right. -/
namespace Mx
open PySem L2 PySem.Spec PyProof.Rows
section
variable {T : Tbs} {G : Glob} {C : Calls} {k : Nat} {N : List Str} {sc : Scope} {f c : Scope → Expr → ME}
theorem bind_one {x q : Str} {p : Pos} {body : Expr} {bsc : Scope} {pm cv ctv v : Value} : bindArgs (PySem.W.kla_fn "<lambda>" q ⟨[], [⟨x, none, p⟩], none, [], [], none, []⟩ body bsc [] pm cv ctv) ⟨[v], []⟩ = pure [(x, v)] := by
  unfold bindArgs
  simp [seqItems?, notAStandIn]
theorem lamB_ok {params : Arguments} {body : Expr} {bsc : Scope} {x : Str} (h : lamB params body bsc = some x) : KeyFn T C x params body bsc ∧ ∀ env, defaultsOf params env = ([], []) := by
  unfold lamB at h
  split at h
  · rename_i y p1 z p2 u p3 p4 v p5 j p6
    split at h
    · rename_i hh
      have h := Option.some.inj h
      simp only [Bool.and_eq_true, Bool.or_eq_true, decide_eq_true_eq, Bool.not_eq_true', List.all_eq_true, decide_eq_false_iff_not] at hh
      obtain ⟨⟨⟨⟨⟨⟨⟨⟨⟨⟨a1, a2⟩, a3⟩, h1⟩, h2⟩, h3⟩, h4⟩, h5⟩, h6⟩, h7⟩, h8⟩ := hh
      rw [h] at a2 a3 h2 h3 h7
      rw [h, a2, a3, a1]
      rw [a1] at h1
      refine ⟨⟨?_, ⟨h4, h5, h6, by simp, rfl, fun y hy => ?_, fun y hy => h8 y hy⟩, fun q pm cv ctv v => bind_one⟩, fun env => rfl⟩
      · have nm : ∀ {p : Pos}, SE T G0 C 0 [x] bsc (.nm 0) (.Name x p) := se_nm rfl h2 h3
        exact se_tup (sa_of (.cons (se_blt (mu := false) (glB_ok h1) rfl (.cons nm .nil) rfl) (.cons nm .nil)) rfl)
      · rw [List.mem_singleton.mp hy]; exact h7
    · cases h
  · cases h
theorem cCall_ok (hf : ∀ sc e, SE T G C (k + 3) N sc (f sc e) e) {x : Str} {es : List Expr} {kws : List Keyword} {p pos : Pos} : SE T G C (k + 3) N sc (cCall G f sc x es kws pos) (.Call (.Name x p) es kws pos) := by
  unfold cCall
  split
  · rename_i h
    obtain ⟨hg, hk⟩ := Bool.and_eq_true_iff.mp h
    split
    · rename_i m hm
      exact cDef_ok hf hg hk hm
    · split
      · exact cB_ok hf
      · rename_i kw params body bsc lpos kp
        split
        · rename_i e
          split
          · rename_i hh
            simp only [Bool.and_eq_true, decide_eq_true_eq] at hh
            obtain ⟨⟨⟨⟨rfl, rfl⟩, h2⟩, h3⟩, h4⟩ := hh
            obtain ⟨y, hy⟩ := Option.isSome_iff_exists.mp h4
            obtain ⟨F, hd⟩ := lamB_ok (T := T) (C := C) hy
            exact se_sortedLen (glB_ok hg) h2 F hd (nostar h3) (hf _ _)
          · exact se_nope
        · exact se_nope
      · exact se_nope
  · exact se_nope
theorem marks_no {o : CmpOp} {b : Expr} (h : ¬ behindInMarks o b = true) : behindInMarks (cOf (coOf o)) b = false := by
  rw [coOf_ok]; simpa using h
theorem stepE_ok (hf : ∀ sc e, SE T G C (k + 3) N sc (f sc e) e) (hc : ∀ sc e, ST T G C (k + 3) N sc (c sc e) e) (sc : Scope) (e : Expr) : SE T G C (k + 3) N sc (stepE G N f c sc e) e := by
  unfold stepE
  split
  · exact cNm_ok
  · exact cCst_ok
  · split
    · rename_i o _ _ _ hq
      rw [← boOf_ok hq]
      exact se_bin (hf _ _) (hf _ _)
    · exact se_nope
  · exact se_neg (hf _ _)
  · exact se_not (hf _ _)
  · rename_i a o b pos
    split
    · exact se_nope
    · rename_i h
      have := se_cmp (pos := pos) (hf sc a) (hf sc b) (marks_no h)
      rw [coOf_ok] at this
      exact this
  · rename_i a o o' b d pos
    split
    · exact se_nope
    · rename_i h
      have := se_chain (pos := pos) (op := coOf o) (op' := coOf o') (hf sc a) (hf sc b) (hf sc d) (by rw [coOf_ok, coOf_ok]; simpa using h)
      rw [coOf_ok, coOf_ok] at this
      exact this
  · exact se_and (all2_map (hf sc) _)
  · exact se_or (all2_map (hf sc) _)
  · exact se_ite (hc _ _) (hf _ _) (hf _ _)
  · split
    · rename_i h
      exact se_tup (sa_of (all2_map (hf sc) _) h)
    · exact se_nope
  · split
    · rename_i h
      exact se_lst (sa_of (all2_map (hf sc) _) h)
    · exact se_nope
  · split
    · rename_i prs hp
      split
      · rename_i h
        simp only [Bool.and_eq_true, decide_eq_true_eq] at h
        obtain ⟨rfl, rfl⟩ := dPairs_ok hp
        exact se_dct (all2_map (hf sc) _) h.1 h.2
      · exact se_nope
    · exact se_nope
  · split
    · exact se_nope
    · rename_i h
      exact se_sub (hf _ _) (hf _ _) (by simpa using h)
  · exact cLc_ok hf hc
  · exact cDc_ok hf hc
  · exact cCall_ok hf
  · exact cAt_ok hf
  · exact se_nope
theorem stepC_ok (hf : ∀ sc e, SE T G C (k + 3) N sc (f sc e) e) (hc : ∀ sc e, ST T G C (k + 3) N sc (c sc e) e) (sc : Scope) (e : Expr) : ST T G C (k + 3) N sc (stepC f c sc e) e := by
  cases e with
  | UnaryOp op a p =>
    cases op with
    | Not => exact st_not (hc _ _)
    | _ => exact st_val (hf _ _) fun env whole => rfl
  | BoolOp op es p =>
    cases op with
    | And => exact st_and (all2_map (hc sc) _)
    | Or => exact st_or (all2_map (hc sc) _)
  | IfExp a b d p => exact st_nope
  | Compare a ops bs p =>
    match ops, bs with
    | [o], [b] =>
      show ST T G C (k + 3) N sc (if behindInMarks o b then .nope else .cmp (coOf o) (f sc a) (f sc b)) _
      split
      · exact st_nope
      · rename_i h
        have := st_cmp (pos := p) (hf sc a) (hf sc b) (marks_no h)
        rw [coOf_ok] at this
        exact this
    | [], _ => exact st_nope
    | [_], [] => exact st_nope
    | [_], _ :: _ :: _ => exact st_nope
    | _ :: _ :: _, _ => exact st_nope
  | _ => exact st_val (hf _ _) fun env whole => rfl
/-- the reading is right -/
theorem cEC_ok : ∀ n : Nat, (∀ sc e, SE T G C (k + 3) N sc ((cEC G N n).1 sc e) e) ∧ ∀ sc e, ST T G C (k + 3) N sc ((cEC G N n).2 sc e) e
  | 0 => ⟨fun _ _ => se_nope, fun _ _ => st_nope⟩
  | n + 1 => ⟨stepE_ok (cEC_ok n).1 (cEC_ok n).2, stepC_ok (cEC_ok n).1 (cEC_ok n).2⟩
end
end Mx

set_option Elab.async false
set_option linter.all false
set_option maxRecDepth 100000
set_option maxHeartbeats 1000000
/-! My, part D: statements are read. -/
namespace Mx
open PySem L2 PySem.Spec PyProof.Rows
section
variable (G : Glob) (N : List Str)
/-- names that are stored from the right at once -/
def parB (vs : List Expr) : Bool := noStar vs && !vs.all (foldedForSure 8) && !vs.all (constantsAlone 8)
def lcl (sc : Scope) (x : Str) : Bool := decide (sc.names.lookup x = some .local)
def cPar2 (f : Scope → Expr → ME) (sc : Scope) (x y : Str) (px py : Pos) (a b : Expr) : MS := match slotOf N x, slotOf N y with
  | some i, some j => if decide (x ≠ y) && decide (i ≠ j) && lcl sc x && lcl sc y && (py.line == px.line) && parB [a, b] then .par [i, j] [f sc a, f sc b] else .nope
  | _, _ => .nope
def cPar3 (f : Scope → Expr → ME) (sc : Scope) (x y z : Str) (px py pz : Pos) (a b d : Expr) : MS := match slotOf N x, slotOf N y, slotOf N z with
  | some i, some j, some l => if decide (x ≠ y) && decide (x ≠ z) && decide (y ≠ z) && decide (i ≠ j) && decide (i ≠ l) && decide (j ≠ l) && lcl sc x && lcl sc y && lcl sc z && (py.line == px.line) && (pz.line == px.line) && parB [a, b, d] then .par [i, j, l] [f sc a, f sc b, f sc d] else .nope
  | _, _, _ => .nope
/-- a pair of names and a constant pair, or a value -/
def cUnp (f : Scope → Expr → ME) (sc : Scope) (tg e : Expr) : MS := match cTg N sc (fun _ => true) tg with
  | some g => .unp g (f sc e)
  | none => .nope
def cAsg (f c : Scope → Expr → ME) (sc : Scope) (tg e : Expr) (pos : Pos) : MS := match tg with
  | .Name x p => match slotOf N x with
    | some i => (match e with
      | .ListComp elt [⟨tg, iter, ifs, 0⟩] bsc cpos => if swapB sc x p bsc cpos || (locB sc x && !lcl sc x) then .set i (cLc G N f c sc (muAt G cpos) elt tg iter ifs bsc) else .nope
      | .DictComp ek ev [⟨tg, iter, ifs, 0⟩] bsc cpos => if swapB sc x p bsc cpos || (locB sc x && !lcl sc x) then .set i (cDc G N f c sc ek ev tg iter ifs bsc) else .nope
      | e => if locB sc x && !isComp e then .set i (f sc e) else .nope)
    | none => .nope
  | .Subscript o i _ => if isSlice i then .nope else .put (f sc o) (f sc i) (f sc e)
  | .Tuple ts kt pt => match e with
    | .Tuple es k2 p2 => if es.all (foldedForSure 8) && noStar es && decide (es.length = ts.length) then cUnp N f sc tg e else (match ts, es with
      | [.Name x px, .Name y py], [a, b] => cPar2 N f sc x y px py a b
      | [.Name x px, .Name y py, .Name z pz], [a, b, d] => cPar3 N f sc x y z px py pz a b d
      | _, _ => .nope)
    | e => cUnp N f sc tg e
  | _ => .nope
def stepS (f c : Scope → Expr → ME) (g : Stmt → MS) (sc : Scope) : Stmt → MS
  | .Return none _ => .ret none
  | .Return (some e) _ => .ret (some (f sc e))
  | .Expr (.Constant (.str _) _ _) _ => .pass
  | .Expr e _ => if isComp e then .nope else .ex (f sc e)
  | .If t a b _ => .ite (c sc t) (a.map g) (b.map g)
  | .Assign [tg] e pos => cAsg G N f c sc tg e pos
  | .For tg iter body [] _ => if isSetD iter then .nope else match cTg N sc (fun _ => true) tg with
    | some q => .loop q (cI G N f sc tg iter) (body.map g)
    | none => .nope
  | .While t body [] _ => .whl (c sc t) (body.map g)
  | .Pass _ => .pass
  | .Break _ => .brk
  | .Continue _ => .cont
  | _ => .nope
/-- x = zip(a, b), then return g([.. for .., .. in x]) -/
def cZr (f c : Scope → Expr → ME) (sc : Scope) (st1 st2 : Stmt) : Option MS := match st1, st2 with
  | .Assign [.Name x _] (.Call (.Name z _) [ea, eb] [] _) _, .Return (some (.Call (.Name F _) [.ListComp elt [⟨.Tuple elts kk tp, .Name y p4, ifs, 0⟩] bsc cpos] [] pos3)) _ =>
    (match slotOf N x, biOf F 1, cBlk N sc bsc (.Tuple elts kk tp) (.Name y p4), cIfs c (relS bsc sc) ifs with
    | some i, some b, some g, some mi => if z = "zip" && y = x && locB sc x && visB sc x && okName x && glB sc z && glB sc F && !isStar ea && !isStar eb && !muAt G cpos then some (.zret i (.blt (muAt G pos3) b [.comp false (f (relS bsc sc) elt) ((ownOf N bsc).map (·.2)) g (.zip2 (f sc ea) (f sc eb)) mi])) else none
    | _, _, _, _ => none)
  | _, _ => none
def cTop (f c : Scope → Expr → ME) (s : Stmt → MS) (sc : Scope) : List Stmt → List MS
  | [] => []
  | st :: r => match r with
    | [] => [s st]
    | st2 :: _ => match cZr G N f c sc st st2 with
      | some m => [m]
      | none => s st :: cTop f c s sc r
def cS (f c : Scope → Expr → ME) (sc : Scope) : Nat → Stmt → MS
  | 0 => fun _ => .nope
  | n + 1 => stepS G N f c (cS f c sc n) sc
end
section
variable {T : Tbs} {G : Glob} {C : Calls} {k : Nat} {N : List Str} {sc : Scope} {f c : Scope → Expr → ME}
theorem lcl_ok {x : Str} (h : lcl sc x = true) : sc.names.lookup x = some .local := of_decide_eq_true h
theorem star_m {e : Expr} (h : isStar e = false) : (match e with
    | .Starred _ _ => true
    | _ => false) = false := by
  cases e <;> first | rfl | cases h
theorem noStar_cons {e : Expr} {es : List Expr} (h : noStar (e :: es) = true) : isStar e = false ∧ noStar es = true := by
  have h : ((!isStar e) && noStar es) = true := h
  obtain ⟨h1, h2⟩ := Bool.and_eq_true_iff.mp h
  exact ⟨nostar h1, h2⟩
theorem blk_fun {env : Env} (hk : env.scope.kind = .function) : (env.blockKind != .function) = false := by
  have h : env.blockKind = .function := by unfold Env.blockKind; rw [hk]; rfl
  rw [h]; rfl
theorem kind_loc {env : Env} {x : Str} (he : env.scope = sc) (h : lcl sc x = true) : (env.kindOf x == some .local) = true := by
  have q : env.kindOf x = some .local := by unfold Env.kindOf; rw [he]; exact lcl_ok h
  rw [q]; rfl
theorem sw_2 {x y : Str} {px py pt pt2 : Pos} {a b : Expr} {kt k2 : Nat} (hxy : x ≠ y) (hx : lcl sc x = true) (hy : lcl sc y = true) (hl : (py.line == px.line) = true) (hp : parB [a, b] = true) (env : Env) (he : env.scope = sc) (hk : env.scope.kind = .function) :
    swappedStores [.Tuple [.Name x px, .Name y py] kt pt] (.Tuple [a, b] k2 pt2) env = pure (some [x, y]) := by
  unfold parB at hp
  simp only [Bool.and_eq_true, Bool.not_eq_true'] at hp
  obtain ⟨⟨h1, h2⟩, h3⟩ := hp
  have s1 := noStar_cons h1
  have s2 := noStar_cons s1.2
  have kx : env.kindOf x = some .local := by unfold Env.kindOf; rw [he]; exact lcl_ok hx
  have ky : env.kindOf y = some .local := by unfold Env.kindOf; rw [he]; exact lcl_ok hy
  have hl : py.line = px.line := by simpa using hl
  have hyx : ¬ y = x := fun z => hxy z.symm
  have hb : env.blockKind = .function := by unfold Env.blockKind; rw [hk]; rfl
  unfold swappedStores
  simp [hb, kx, ky, hl, Expr.pos, h2, h3, List.eraseDups_cons, hyx]
  intro q
  exfalso
  have t1 := s1.1
  have t2 := s2.1
  rcases q with q | q
  · cases a <;> first | (cases q; done) | cases t1
  · cases b <;> first | (cases q; done) | cases t2
theorem sw_3 {x y z : Str} {px py pz pt pt2 : Pos} {a b d : Expr} {kt k2 : Nat} (hxy : x ≠ y) (hxz : x ≠ z) (hyz : y ≠ z) (hx : lcl sc x = true) (hy : lcl sc y = true) (hz : lcl sc z = true) (hl : (py.line == px.line) = true) (hlz : (pz.line == px.line) = true) (hp : parB [a, b, d] = true) (env : Env) (he : env.scope = sc) (hk : env.scope.kind = .function) :
    swappedStores [.Tuple [.Name x px, .Name y py, .Name z pz] kt pt] (.Tuple [a, b, d] k2 pt2) env = pure (some [x, y, z]) := by
  unfold parB at hp
  simp only [Bool.and_eq_true, Bool.not_eq_true'] at hp
  obtain ⟨⟨h1, h2⟩, h3⟩ := hp
  have s1 := noStar_cons h1
  have s2 := noStar_cons s1.2
  have s3 := noStar_cons s2.2
  have kx : env.kindOf x = some .local := by unfold Env.kindOf; rw [he]; exact lcl_ok hx
  have ky : env.kindOf y = some .local := by unfold Env.kindOf; rw [he]; exact lcl_ok hy
  have kz : env.kindOf z = some .local := by unfold Env.kindOf; rw [he]; exact lcl_ok hz
  have hl : py.line = px.line := by simpa using hl
  have hlz : pz.line = px.line := by simpa using hlz
  have hyx : ¬ y = x := fun e => hxy e.symm
  have hzx : ¬ z = x := fun e => hxz e.symm
  have hzy : ¬ z = y := fun e => hyz e.symm
  have hb : env.blockKind = .function := by unfold Env.blockKind; rw [hk]; rfl
  unfold swappedStores
  simp [hb, kx, ky, kz, hl, hlz, Expr.pos, h2, h3, List.eraseDups_cons, hyx, hzx, hzy]
  intro q
  exfalso
  have t1 := s1.1
  have t2 := s2.1
  have t3 := s3.1
  rcases q with q | q | q
  · cases a <;> first | (cases q; done) | cases t1
  · cases b <;> first | (cases q; done) | cases t2
  · cases d <;> first | (cases q; done) | cases t3
theorem sw_none {ts es : List Expr} {kt k2 : Nat} {pt p2 : Pos} (h : es.all (foldedForSure 8) = true) (hs : noStar es = true) (env : Env) : swappedStores [.Tuple ts kt pt] (.Tuple es k2 p2) env = pure none := by
  unfold swappedStores
  simp [h]
end
end Mx

set_option Elab.async false
set_option linter.all false
set_option maxRecDepth 100000
set_option maxHeartbeats 1000000
/-! My, part E: the reading of statements is right. -/
namespace Mx
open PySem L2 PySem.Spec PyProof.Rows
section
variable {T : Tbs} {G : Glob} {C : Calls} {k : Nat} {N : List Str} {sc : Scope} {f c : Scope → Expr → ME}
theorem setLc_ok (hf : ∀ sc e, SE T G C k N sc (f sc e) e) (hc : ∀ sc e, ST T G C k N sc (c sc e) e) {i : Nat} {x : Str} {p cpos pos : Pos} {mu : Bool} {elt tg iter : Expr} {ifs : List Expr} {bsc : Scope} (hN : N[i]? = some x) (hsw : swapB sc x p bsc cpos = true) :
    SS T G C k N sc (.set i (cLc G N f c sc mu elt tg iter ifs bsc)) (.Assign [.Name x p] (.ListComp elt [⟨tg, iter, ifs, 0⟩] bsc cpos) pos) := by
  unfold cLc
  split
  · rename_i g mi h1 h2
    obtain ⟨b1, b2, b3, b4⟩ := cBlk_ok h1
    exact ss_setLc hN hsw b1 b3 b4 (si_of hf) (hf _ _) (cIfs_ok hc h2) (fold_pure b2)
  · exact fun X hX ro rw σ s ma H D rs hr h => (show False from h).elim
theorem setDc_ok (hf : ∀ sc e, SE T G C k N sc (f sc e) e) (hc : ∀ sc e, ST T G C k N sc (c sc e) e) {i : Nat} {x : Str} {p cpos pos : Pos} {ek ev tg iter : Expr} {ifs : List Expr} {bsc : Scope} (hN : N[i]? = some x) (hsw : swapB sc x p bsc cpos = true) :
    SS T G C k N sc (.set i (cDc G N f c sc ek ev tg iter ifs bsc)) (.Assign [.Name x p] (.DictComp ek ev [⟨tg, iter, ifs, 0⟩] bsc cpos) pos) := by
  unfold cDc
  split
  · rename_i g mi h1 h2
    obtain ⟨b1, b2, b3, b4⟩ := cBlk_ok h1
    exact ss_setDc hN hsw b1 b3 b4 (si_of hf) (hf _ _) (hf _ _) (cIfs_ok hc h2) (fold_pure b2)
  · exact fun X hX ro rw σ s ma H D rs hr h => (show False from h).elim
theorem swapsNo {e : Expr} (h : isComp e = false) (o : Option Expr) (l : Nat) (env : Env) : swapsWith e o l env = pure false := by
  cases e <;> first | rfl | cases h
theorem swapsCell {e : Expr} {x : Str} {p : Pos} {l : Nat} {env : Env} (h : ¬ env.scope.names.lookup x = some .local) (hc : (∃ a b s q, e = .ListComp a b s q) ∨ ∃ a b d s q, e = .DictComp a b d s q) : swapsWith e (some (.Name x p)) l env = pure false := by
  have hk : (env.kindOf x == some .local) = false := by
    have : ¬ env.kindOf x = some .local := h
    simpa using this
  rcases hc with ⟨a, b, s, q, rfl⟩ | ⟨a, b, d, s, q, rfl⟩
  · unfold swapsWith
    simp only [hk, Bool.and_false, Bool.false_and]
  · unfold swapsWith
    simp only [hk, Bool.and_false, Bool.false_and]
theorem cUnp_ok (hf : ∀ sc e, SE T G C k N sc (f sc e) e) {ts : List Expr} {kt : Nat} {pt pos : Pos} {e : Expr} (hw : ∀ env, swappedStores [.Tuple ts kt pt] e env = pure none) : SS T G C k N sc (cUnp N f sc (.Tuple ts kt pt) e) (.Assign [.Tuple ts kt pt] e pos) := by
  unfold cUnp
  split
  · rename_i g hg
    refine ss_unp (cTg_ok hg) (hf _ _) (fun env _ => ?_) (fun env _ => hw env) fun env => rfl
    show swapsWith e (some (.Tuple ts kt pt)) pos.line env = pure false
    cases e <;> rfl
  · exact ss_nope
theorem sw_val {ts : List Expr} {kt : Nat} {pt : Pos} {e : Expr} (h : isTupE e = false) (env : Env) : swappedStores [.Tuple ts kt pt] e env = pure none := by
  cases e <;> first | rfl | cases h
theorem cPar2_ok (hf : ∀ sc e, SE T G C k N sc (f sc e) e) {x y : Str} {px py pt pt2 pos : Pos} {a b : Expr} {kt k2 : Nat} : SS T G C k N sc (cPar2 N f sc x y px py a b) (.Assign [.Tuple [.Name x px, .Name y py] kt pt] (.Tuple [a, b] k2 pt2) pos) := by
  unfold cPar2
  split
  · rename_i i j hi hj
    split
    · rename_i h
      simp only [Bool.and_eq_true, decide_eq_true_eq] at h
      obtain ⟨⟨⟨⟨⟨h1, h2⟩, h3⟩, h4⟩, h5⟩, h6⟩ := h
      have hst : noStar [a, b] = true := by
        unfold parB at h6
        simp only [Bool.and_eq_true] at h6
        exact h6.1.1
      exact ss_par (slotOf_ok hi) (slotOf_ok hj) h2 (lcl_ok h3) (lcl_ok h4) (sa_of (.cons (hf _ _) (.cons (hf _ _) .nil)) hst) (fun env he hk => sw_2 h1 h3 h4 h5 h6 env he hk)
    · exact ss_nope
  · exact ss_nope
theorem cPar3_ok (hf : ∀ sc e, SE T G C k N sc (f sc e) e) {x y z : Str} {px py pz pt pt2 pos : Pos} {a b d : Expr} {kt k2 : Nat} : SS T G C k N sc (cPar3 N f sc x y z px py pz a b d) (.Assign [.Tuple [.Name x px, .Name y py, .Name z pz] kt pt] (.Tuple [a, b, d] k2 pt2) pos) := by
  unfold cPar3
  split
  · rename_i i j l hi hj hl
    split
    · rename_i h
      simp only [Bool.and_eq_true, decide_eq_true_eq] at h
      obtain ⟨⟨⟨⟨⟨⟨⟨⟨⟨⟨⟨h1, h2⟩, h3⟩, h4⟩, h5⟩, h6⟩, h7⟩, h8⟩, h9⟩, h10⟩, h11⟩, h12⟩ := h
      have hst : noStar [a, b, d] = true := by
        unfold parB at h12
        simp only [Bool.and_eq_true] at h12
        exact h12.1.1
      exact ss_par3 (slotOf_ok hi) (slotOf_ok hj) (slotOf_ok hl) h4 h5 h6 (lcl_ok h7) (lcl_ok h8) (lcl_ok h9) (sa_of (.cons (hf _ _) (.cons (hf _ _) (.cons (hf _ _) .nil))) hst) (fun env he hk => sw_3 h1 h2 h3 h7 h8 h9 h10 h11 h12 env he hk)
    · exact ss_nope
  · exact ss_nope
theorem cAsg_ok (hf : ∀ sc e, SE T G C k N sc (f sc e) e) (hc : ∀ sc e, ST T G C k N sc (c sc e) e) {tg e : Expr} {pos : Pos} : SS T G C k N sc (cAsg G N f c sc tg e pos) (.Assign [tg] e pos) := by
  unfold cAsg
  split
  · rename_i x p
    split
    · rename_i i hi
      split
      · split
        · rename_i h
          rcases Bool.or_eq_true_iff.mp h with h | h
          · exact setLc_ok hf hc (slotOf_ok hi) h
          · simp only [Bool.and_eq_true, Bool.not_eq_true'] at h
            exact ss_set (slotOf_ok hi) h.1 (cLc_ok hf hc) fun env he => swapsCell (fun z => by rw [he] at z; exact absurd (decide_eq_true z) (by rw [show decide (sc.names.lookup x = some .local) = false from h.2]; decide)) (.inl ⟨_, _, _, _, rfl⟩)
        · exact ss_nope
      · split
        · rename_i h
          rcases Bool.or_eq_true_iff.mp h with h | h
          · exact setDc_ok hf hc (slotOf_ok hi) h
          · simp only [Bool.and_eq_true, Bool.not_eq_true'] at h
            exact ss_set (slotOf_ok hi) h.1 (cDc_ok hf hc) fun env he => swapsCell (fun z => by rw [he] at z; exact absurd (decide_eq_true z) (by rw [show decide (sc.names.lookup x = some .local) = false from h.2]; decide)) (.inr ⟨_, _, _, _, _, rfl⟩)
        · exact ss_nope
      · split
        · rename_i h
          simp only [Bool.and_eq_true, Bool.not_eq_true'] at h
          exact ss_set (slotOf_ok hi) h.1 (hf _ _) fun env _ => swapsNo h.2 _ _ _
        · exact ss_nope
    · exact ss_nope
  · split
    · exact ss_nope
    · rename_i h
      exact ss_put (hf _ _) (hf _ _) (hf _ _) (by simpa using h)
  · rename_i ts kt pt
    split
    · rename_i es k2 p2
      split
      · rename_i h
        simp only [Bool.and_eq_true] at h
        exact cUnp_ok hf fun env => sw_none h.1.1 h.1.2 env
      · split
        · exact cPar2_ok hf
        · exact cPar3_ok hf
        · exact ss_nope
    · rename_i hne
      refine cUnp_ok hf fun env => sw_val ?_ env
      cases e <;> first | rfl | exact absurd rfl (hne _ _ _)
  · exact ss_nope
theorem stepS_ok (hf : ∀ sc e, SE T G C k N sc (f sc e) e) (hc : ∀ sc e, ST T G C k N sc (c sc e) e) {g : Stmt → MS} (hg : ∀ st, SS T G C k N sc (g st) st) (st : Stmt) : SS T G C k N sc (stepS G N f c g sc st) st := by
  have all : ∀ b : List Stmt, SSs T G C k N sc (b.map g) b := fun b => sss_of (by
    induction b with
    | nil => exact .nil
    | cons s b ih => exact .cons (hg s) ih)
  unfold stepS
  split
  · exact ss_retN
  · exact ss_ret (hf _ _)
  · exact ss_doc
  · split
    · exact ss_nope
    · rename_i h
      exact ss_expr (hf _ _) (by simpa using h)
  · exact ss_if (hc _ _) (all _) (all _)
  · exact cAsg_ok hf hc
  · split
    · exact ss_nope
    · rename_i h
      split
      · rename_i q hq
        exact ss_for (cTg_ok hq) (si_of hf) (all _) (fold_pure (by simpa using h))
      · exact ss_nope
  · exact ss_while (hc _ _) (all _)
  · exact ss_pass
  · exact ss_brk
  · exact ss_cont
  · exact ss_nope
theorem cS_ok (hf : ∀ sc e, SE T G C k N sc (f sc e) e) (hc : ∀ sc e, ST T G C k N sc (c sc e) e) : ∀ (n : Nat) (st : Stmt), SS T G C k N sc (cS G N f c sc n st) st
  | 0, _ => ss_nope
  | n + 1, st => stepS_ok hf hc (cS_ok hf hc n) st
theorem sss_cons {m : MS} {st : Stmt} {ms : List MS} {sts : List Stmt} (h1 : SS T G C k N sc m st) (h2 : SSs T G C k N sc ms sts) : SSs T G C k N sc (m :: ms) (st :: sts) := fun X hX ro rw σ s ma H D rs hr h => by
  refine PSs.le (pss_cons ps_w pss_w) (h1 X hX ro rw σ s ma H _ rs hr ((Sat.bind h).mono fun fl rw1 m1 H1 e1 r1 q1 => ?_))
  cases fl with
  | nx σ' => exact fun s' rs' => h2 X hX ro rw1 σ' s' m1 H1 D rs' r1 q1
  | rt d => exact Sat.ok q1 r1
  | bk σ' => exact Sat.ok q1 r1
  | ct σ' => exact Sat.ok q1 r1
theorem cZr_ok (hf : ∀ sc e, SE T G C k N sc (f sc e) e) (hc : ∀ sc e, ST T G C k N sc (c sc e) e) {st1 st2 : Stmt} {rest : List Stmt} {m : MS} (h : cZr G N f c sc st1 st2 = some m) : SSs T G C k N sc [m] (st1 :: st2 :: rest) := by
  unfold cZr at h
  split at h
  · split at h
    · rename_i i b g mi h1 h2 h3 h4
      split at h
      · rename_i hh
        simp only [Bool.and_eq_true, decide_eq_true_eq, Bool.not_eq_true'] at hh
        obtain ⟨⟨⟨⟨⟨⟨⟨⟨⟨rfl, rfl⟩, a3⟩, a4⟩, a5⟩, a6⟩, a7⟩, a8⟩, a9⟩, a10⟩ := hh
        cases h
        obtain ⟨b1, b2, b3, b4⟩ := cBlk_ok h3
        exact sss_zret (slotOf_ok h1) a3 a4 a5 (glB_ok a6) (hf _ _) (hf _ _) a8 a9 (glB_ok a7) h2 b1 b3 b4 (hf _ _) (cIfs_ok hc h4)
      · cases h
    · cases h
  · cases h
theorem cTop_ok (hf : ∀ sc e, SE T G C k N sc (f sc e) e) (hc : ∀ sc e, ST T G C k N sc (c sc e) e) {s : Stmt → MS} (hs : ∀ st, SS T G C k N sc (s st) st) : ∀ b : List Stmt, SSs T G C k N sc (cTop G N f c s sc b) b
  | [] => sss_of .nil
  | [st] => sss_of (.cons (hs st) .nil)
  | st :: st2 :: r => by
    have e : cTop G N f c s sc (st :: st2 :: r) = match cZr G N f c sc st st2 with
      | some m => [m]
      | none => s st :: cTop G N f c s sc (st2 :: r) := by
      conv => lhs; unfold cTop
      all_goals rfl
    rw [e]
    cases h : cZr G N f c sc st st2 with
    | some m => exact cZr_ok hf hc h
    | none => exact sss_cons (hs st) (cTop_ok hf hc hs (st2 :: r))
end
/-- a def's body, read -/
def cBody (G : Glob) (N : List Str) (sc : Scope) (n : Nat) (b : List Stmt) : List MS := cTop G N (cEC G N n).1 (cEC G N n).2 (cS G N (cEC G N n).1 (cEC G N n).2 sc n) sc b
theorem cBody_ok {T : Tbs} {G : Glob} {C : Calls} {k : Nat} {N : List Str} {sc : Scope} (n : Nat) (b : List Stmt) : SSs T G C (k + 3) N sc (cBody G N sc n b) b := cTop_ok (cEC_ok n).1 (cEC_ok n).2 (cS_ok (cEC_ok n).1 (cEC_ok n).2 n) b
end Mx

set_option Elab.async false
set_option linter.all false
set_option maxRecDepth 100000
set_option maxHeartbeats 2000000
/-! My, part F: the end of a law. -/
namespace Mx
open PySem PySem.Spec PyProof.Rows L2
/-- law_call with tables: cs, the code objects and their tables -/
theorem law_callG {P : Program} {w : World} {K : PySem.W.Frag} {mg mb : Str → Option Value} {k : Nat} {fa a : Addr} {cs : List (Addr × Addr)} {fd : FuncData} {x : Str} {sp : SpG} {s₁ : Shared} {vs : List Value} {ns : List Int}
    (kX : K.In s₁.heap) (hns : s₁.heap.Ns mainGlobals mg) (hb : s₁.heap.Ns builtinsNs mb) (hbb : ∀ x : Str, x ≠ "__name__" → mb x = bootBuiltins x) (hlim : s₁.heap.NoLimit) (hg : s₁.gens = #[])
    (hT : ∀ p ∈ cs, s₁.heap.get? p.2 = some { cls := .none, data := .fields #[] }) (nT : ∀ p ∈ cs, K.lookup p.2 = none) (C : ∀ p ∈ cs, PySem.W.CodeHd s₁.heap p.1 p.2)
    (hbm : ∃ (bm : Addr) (ob : Obj), mg "__builtins__" = some (.ref bm) ∧ bm ≠ builtinsNs ∧ s₁.heap.get? bm = some ob ∧ ob.cls = .type "module" ∧ ob.dict = some builtinsNs ∧ ob.data = .plain)
    (ha : s₁.heap.get? a = some { cls := .type "list", data := .seq vs.toArray }) (hi : IntsAre vs ns) (hl : ns.length ≤ sizeLine) (hr : Room k callerA)
    (F : ∀ base : Heap, K.In base → base.Ns mainGlobals mg → (∀ p ∈ cs, LamX.TabB base mg p.1 p.2) → FnG P w K mg base k fa fd [x] sp) (hbind : ∀ (s : Shared) (u : Value), BindsTo s fd ⟨[u], []⟩ [(x, u)])
    (hsp : ∀ H : Hp, (∀ p ∈ cs, H p.2 = some (.tbl #[])) → SqZ K H a (ns.map V.int) → sp [.ref a] H fun v _ => v = .bl true) :
    codeAny (model P w) callerA (.call (.ref fa) ⟨[.ref a], []⟩) (fun r s' => r = .ok (.ret (.bool true)) ∧ OldK s₁.heap s'.heap ∧ s'.os = s₁.os ∧ AllBare s'.gens) s₁ := by
  have rvs := vals_ints hi
  have lnV := hi.length
  have isTb : ∀ b : Addr, b ∈ cs.map (·.2) → s₁.heap.get? b = some { cls := .none, data := .fields #[] } := fun b hb => by
    obtain ⟨p, hp, e⟩ := List.mem_map.mp hb
    rw [← e]
    exact hT p hp
  have aNt : a ∉ cs.map (·.2) := fun z => by
    have q := isTb a z
    rw [ha] at q
    have z' : Data.seq vs.toArray _ = Data.fields #[] := congrArg Obj.data (Option.some.inj q)
    cases z'
  have mTb : ∀ p ∈ cs, p.2 ∈ cs.map (·.2) := fun p hp => List.mem_map.mpr ⟨p, hp, rfl⟩
  -- from an abstract heap in which nothing but the script and the tables may be tracked
  have core1 : ∀ H : Hp, (∀ p ∈ cs, H p.2 = some (.tbl #[])) → (∀ b, H b = none ∨ b ∈ cs.map (·.2) ∨ ∃ o xs, H b = some (.frz o (.lst xs))) → SqZ K H a (ns.map V.int) → HOk P w H s₁.heap → (∀ b, H b ≠ none → b = a ∨ b ∈ cs.map (·.2)) → (H a ≠ none → K.lookup a = none) →
      codeAny (model P w) callerA (.call (.ref fa) ⟨[.ref a], []⟩) (fun r s' => r = .ok (.ret (.bool true)) ∧ OldK s₁.heap s'.heap ∧ s'.os = s₁.os ∧ AllBare s'.gens) s₁ := by
    intro H hHt hOo hSq hOk hAb hKk
    have bOf : ∀ {b : Addr} {o : Obj}, s₁.heap.get? b = some o → H b = none → (hidT s₁.heap H).get? b = some o := fun e n => hidT_get e n
    have nD : ∀ {b : Addr} {o : Obj}, s₁.heap.get? b = some o → (∀ vs n, o.data ≠ .seq vs n) → o.data ≠ .fields #[] → H b = none := fun {b o} e h1 h2 => by
      cases q : H b with
      | none => rfl
      | some u =>
        rcases hAb b (by rw [q]; simp) with e' | e'
        · rw [e', ha] at e
          cases e
          exact (h1 _ _ rfl).elim
        · rw [isTb b e'] at e
          cases e
          exact (h2 rfl).elim
    have nA : ∀ {b : Addr} {o : Obj} {es : Array DictEntry} {ep : Nat}, s₁.heap.get? b = some o → o.data = .dict es ep → H b = none := fun {b o es ep} e d => by
      refine nD e (fun vs n z => ?_) fun z => ?_
      · rw [d] at z
        cases z
      · rw [d] at z
        cases z
    have nsH : ∀ {b : Addr} {m : Str → Option Value}, s₁.heap.Ns b m → (hidT s₁.heap H).Ns b m := fun {b m} ⟨o, es, ep, e, d, r⟩ => ⟨o, es, ep, bOf e (nA e d), d, r⟩
    have kIn1 : K.In (hidT s₁.heap H) := fun b o e => bOf (kX b o e) (by
      cases q : H b with
      | none => rfl
      | some u =>
        rcases hAb b (by rw [q]; simp) with e' | e'
        · rw [e'] at e q
          rw [hKk (by rw [q]; simp)] at e
          cases e
        · obtain ⟨p, hp, ep⟩ := List.mem_map.mp e'
          rw [← ep, nT p hp] at e
          cases e)
    have md1 : L2.Mod K mg (hidT s₁.heap H) := ⟨kIn1, nsH hns, ⟨mb, nsH hb, hbb⟩, let ⟨mc, h1, h2⟩ := hlim; ⟨mc, nsH h1, h2⟩⟩
    have tb1 : ∀ p ∈ cs, LamX.TabB (hidT s₁.heap H) mg p.1 p.2 := fun p hp => by
      have tp1 := hT p hp
      refine ⟨?_, ?_, fun z => ?_⟩
      · obtain ⟨o, us, file, tf, flags, tg, inF, text, tt, e1, r1, r2, r3, r4, r5, r6, r7, r8, hne⟩ := C p hp
        refine ⟨o, us, file, tf, flags, tg, inF, text, tt, bOf e1 (nD e1 (fun vs n z => ?_) fun z => ?_), r1, r2, r3, r4, r5, r6, r7, r8, hne⟩
        · rw [r2] at z
          cases z
        · rw [r2] at z
          cases z
          simp at r3
      · obtain ⟨bm, ob, b1, b2, b3, b4, b5, b6⟩ := hbm
        have n1 : bm ≠ mainGlobals := fun q => by
          obtain ⟨o, es, ep, e, hd, _⟩ := hns
          rw [q, e] at b3
          cases b3
          rw [hd] at b6
          cases b6
        have n2 : bm ≠ p.2 := fun q => by
          rw [q, tp1] at b3
          cases b3
          cases b6
        refine ⟨bm, ob, b1, b2, n1, n2, bOf b3 (nD b3 (fun vs n z => ?_) fun z => ?_), b4, b5, b6⟩
        · rw [b6] at z
          cases z
        · rw [b6] at z
          cases z
      · obtain ⟨o, es, ep, e, hd, _⟩ := hns
        rw [z, tp1] at e
        cases e
        cases hd
    have e0 : Env0 P w K mg (hidT s₁.heap H) callerA [] s₁ H := ⟨rfl, md1, fun b o e => of_hidT e, Nat.le_of_eq (hidT_size _ _), trivial, fun b hb => absurd (show b ∈ ([] : List Addr) from hb) (by simp), hOk, .of_eq hg⟩
    refine codeAny_mono ((F _ kIn1 (nsH hns) tb1).run callerA [] s₁ H ⟨[.ref a], []⟩ [.ref a] [.ref a] _ hr rfl e0 (hbind s₁ (.ref a)) (.cons rfl .nil) (hsp H hHt hSq)) fun r s' h => ?_
    cases r with
    | error e => exact h.elim
    | ok fl =>
      cases fl with
      | next => exact False.elim h
      | brk => exact False.elim h
      | cont => exact False.elim h
      | ret u =>
        obtain ⟨v, H', os, bare, un, hok', r', q⟩ := h
        have q' : v = .bl true := q
        subst q'
        obtain rfl : u = Value.bool true := r'
        have kp1 : ∀ b o, b ∉ cs.map (·.2) → s₁.heap.get? b = some o → s'.heap.get? b = some o := fun b o nb e => by
          cases q : H b with
          | none => exact un.keep b o e q (by intro z; exact absurd (show b ∈ ([] : List Addr) from z) (by simp)) (by simp)
          | some u =>
            rcases hOo b with z | z | ⟨ob, xs, z⟩
            · rw [q] at z; cases z
            · exact absurd z nb
            · have z2 := un.frzs b ob _ z
              obtain ⟨e1, _⟩ := hOk b _ z
              obtain ⟨e2, _⟩ := hok' b _ z2
              rw [e] at e1; cases e1
              exact e2
        have gr1 : ∀ p ∈ cs, ∃ more : Array Value, s'.heap.get? p.2 = some { cls := .none, data := .fields more } := fun p hp => by
          obtain ⟨more, z⟩ := un.tbls p.2 #[] (hHt p hp)
          exact ⟨_, hok' p.2 _ z⟩
        refine ⟨rfl, ⟨fun b o e => ?_, fun b o e => ?_⟩, os, bare⟩
        · by_cases hb : b ∈ cs.map (·.2)
          · obtain ⟨p, hp, ep⟩ := List.mem_map.mp hb
            obtain ⟨more, hm⟩ := gr1 p hp
            rw [← ep] at e ⊢
            rw [hT p hp] at e
            cases e
            exact .inr (.inl ⟨((C p hp).tab (hT p hp)).isCodeTable, rfl, #[], more, rfl, by rw [Array.empty_append]; exact hm⟩)
          · exact .inl (kp1 b o hb e)
        · by_cases hb : b ∈ cs.map (·.2)
          · obtain ⟨p, hp, ep⟩ := List.mem_map.mp hb
            obtain ⟨more, hm⟩ := gr1 p hp
            rw [← ep]
            exact ⟨_, hm⟩
          · exact ⟨o, kp1 b o hb e⟩
  cases hk : K.lookup a with
  | some o =>
    have e := kX a o hk
    rw [ha] at e
    cases e
    refine core1 (fun b => if b ∈ cs.map (·.2) then some (.tbl #[]) else none) (fun p hp => if_pos (mTb p hp)) (fun b => ?_) (.inr ⟨_, vs.toArray, _, hk, rfl, rfl, rfl, by rw [List.size_toArray, lnV]; exact hl, by simpa using rvs⟩) (fun b u z => ?_) (fun b z => ?_) fun z => absurd (show (if a ∈ cs.map (·.2) then some (HO.tbl #[]) else none) = none from if_neg aNt) z
    · by_cases hb : b ∈ cs.map (·.2)
      · exact .inr (.inl hb)
      · exact .inl (if_neg hb)
    · by_cases hb : b ∈ cs.map (·.2)
      · have z' := (if_pos hb).symm.trans z
        cases z'
        exact isTb b hb
      · have z' := (if_neg hb).symm.trans z
        cases z'
    · by_cases hb : b ∈ cs.map (·.2)
      · exact .inr hb
      · exact absurd (if_neg hb) z
  | none =>
    refine core1 (fun b => if b = a then some (.frz { cls := .type "list", data := .seq vs.toArray } (.lst (ns.map V.int))) else if b ∈ cs.map (·.2) then some (.tbl #[]) else none) (fun p hp => (if_neg (show ¬ p.2 = a from fun z => aNt (by rw [← z]; exact mTb p hp))).trans (if_pos (mTb p hp))) (fun b => ?_)
      (.inl ⟨{ cls := .type "list", data := .seq vs.toArray }, if_pos rfl⟩) (fun b u z => ?_) (fun b z => ?_) fun _ => hk
    · by_cases hb : b = a
      · exact .inr (.inr ⟨_, _, if_pos hb⟩)
      · by_cases hb2 : b ∈ cs.map (·.2)
        · exact .inr (.inl hb2)
        · exact .inl ((if_neg hb).trans (if_neg hb2))
    · by_cases hb : b = a
      · have z' := (if_pos hb).symm.trans z
        cases z'
        rw [hb]
        exact ⟨ha, by rw [List.length_map]; exact hl, vs, _, rvs, ha⟩
      · have z1 := (if_neg hb).symm.trans z
        by_cases hb2 : b ∈ cs.map (·.2)
        · have z' := (if_pos hb2).symm.trans z1
          cases z'
          exact isTb b hb2
        · have z' := (if_neg hb2).symm.trans z1
          cases z'
    · by_cases hb : b = a
      · exact .inl hb
      · by_cases hb2 : b ∈ cs.map (·.2)
        · exact .inr hb2
        · exact absurd ((if_neg hb).trans (if_neg hb2)) z
/-- what is known of the law at the head's heap h -/
def LawG (l : PySem.W.OpenLaw) (w : World) (K : PySem.W.Frag) (k n : Nat) (x : Str) (mg : Str → Option Value) (fa : Addr) (h : Heap) : Prop :=
  ∃ (fd : FuncData) (cs : List (Addr × Addr)) (sp : SpG), (∀ p ∈ cs, h.get? p.2 = some { cls := .none, data := .fields #[] }) ∧ (∀ p ∈ cs, K.lookup p.2 = none) ∧ (∀ p ∈ cs, PySem.W.CodeHd h p.1 p.2) ∧ (∀ (s : Shared) (u : Value), BindsTo s fd ⟨[u], []⟩ [(x, u)]) ∧
    (∀ (H : Hp) (a : Addr) (ns : List Int), ns.length ≤ n → (∀ z ∈ ns, Builtin.Int.intBits z ≤ 1048576) → (∀ p ∈ cs, H p.2 = some (.tbl #[])) → SqZ K H a (ns.map V.int) → sp [.ref a] H fun v _ => v = .bl true) ∧
    ∀ base : Heap, K.In base → base.Ns mainGlobals mg → (∀ p ∈ cs, LamX.TabB base mg p.1 p.2) → FnG l.prog w K mg base k fa fd [x] sp
theorem walk_G {l : PySem.W.OpenLaw} {n k : Nat} {q : Program} {loose : List Str} {XP : (Str → Option Value) → Heap → Prop} {YP : World → Heap → Prop} {d : DefRec} {x : Str}
    (hn : l.most = some n) (hn2 : n ≤ sizeLine) (hdf : d.params.defaults = []) (hr : Room k callerA)
    (F : ∀ (w : World) (mg : Str → Option Value) (fa : Addr) (h : Heap), YP w h → h.Ns mainGlobals mg → mg d.name = some (.ref fa) → ∃ K : PySem.W.Frag, K.In h ∧ LawG l w K k n x mg fa h) :
    PySem.W.WalkO q loose XP YP l.row.toRowW d [] (fun f vs => PySem.call f vs) := by
  refine Att.attach_callB hn hdf fun w s0 s1 mg mb fa o pm cd doc a vs ns Gd Y ho hd hcd hmg hobj hints hlen hbits hgen => ?_
  obtain ⟨K, kX, fd, cs, sp, t1, t2, t3, hbd, hsp, hF⟩ := F w mg fa _ Y Gd.T.g hmg
  exact law_callG kX Gd.T.g Gd.T.b Gd.T.builtins Gd.T.nolimit hgen t1 t2 t3 Gd.T.bmain hobj hints (Nat.le_trans hlen hn2) hr hF hbd fun H h1 h2 => hsp H a ns hlen hbits h1 h2
end Mx

set_option Elab.async false
set_option linter.all false
set_option maxRecDepth 100000
set_option maxHeartbeats 1000000
/-! MyG: constants that are checked. -/
namespace Mx
open PySem PySem.Spec PyProof.Rows L2
mutual
theorem krB_ok {K : PySem.W.Frag} : ∀ (d : D) (u : Value), krB K d u = true → ∃ v, RelV v u ∧ KRep K d v
  | .non, u, h => by cases u <;> first | exact ⟨.non, rfl, .non⟩ | cases h
  | .bl b, u, h => by
    cases u with
    | bool c =>
      have e : b = c := by simpa [krB] using h
      subst e
      exact ⟨.bl b, rfl, .bl b⟩
    | _ => cases h
  | .int i, u, h => by
    cases u with
    | int j t =>
      have e : i = j := by simpa [krB] using h
      subst e
      exact ⟨.int i, ⟨t, rfl⟩, .int i⟩
    | _ => cases h
  | .str s, u, h => by
    cases u with
    | str x t =>
      have e : s = x := by simpa [krB] using h
      subst e
      exact ⟨.str s, ⟨t, rfl⟩, .str s⟩
    | _ => cases h
  | .tup k ds, u, h => by
    cases k with
    | true => cases u <;> cases h
    | false =>
      cases u with
      | ref a =>
        unfold krB at h
        cases q : K.lookup a with
        | none => rw [q] at h; cases h
        | some o =>
          obtain ⟨oc, od, dt, osl⟩ := o
          rw [q] at h
          cases oc with
          | type c =>
            cases od with
            | none =>
              cases dt with
              | seq its n =>
                simp only [Bool.and_eq_true, decide_eq_true_eq] at h
                obtain ⟨⟨h1, h2⟩, h3⟩ := h
                obtain ⟨vs, r, kr⟩ := krsB_ok ds its.toList h3
                exact ⟨.ref a, rfl, .tup q (congrArg Value.type h1) rfl rfl h2 r kr⟩
              | _ => cases h
            | some _ => cases dt <;> cases h
          | _ => cases od <;> cases dt <;> cases h
      | _ => cases h
  | .lst _, u, h => by cases u <;> cases h
  | .scr _, u, h => by cases u <;> cases h
  | .dK _, u, h => by cases u <;> cases h
  | .dT _, u, h => by cases u <;> cases h
  | .ref _, u, h => by cases u <;> cases h
theorem krsB_ok {K : PySem.W.Frag} : ∀ (ds : List D) (us : List Value), krsB K ds us = true → ∃ vs, Vals vs us ∧ KReps K ds vs
  | [], [], _ => ⟨[], .nil, .nil⟩
  | [], _ :: _, h => by cases h
  | _ :: _, [], h => by cases h
  | d :: ds, u :: us, h => by
    have h : (krB K d u && krsB K ds us) = true := by unfold krsB at h; exact h
    obtain ⟨h1, h2⟩ := Bool.and_eq_true_iff.mp h
    obtain ⟨v, r, k⟩ := krB_ok d u h1
    obtain ⟨vs, rs, ks⟩ := krsB_ok ds us h2
    exact ⟨v :: vs, .cons r rs, .cons k ks⟩
end
end Mx

set_option Elab.async false
set_option linter.all false
set_option maxRecDepth 100000
set_option maxHeartbeats 1000000
/-! My, part H: what the checks tell. -/
namespace Mx
open PySem PySem.Spec PyProof.Rows L2
/-- a def as it stands in the heap -/
structure DefAt (K KA : PySem.W.Frag) (d : DefR) : Prop where
  glob : PySem.W.nsIn K mainGlobals d.at_ = some (some (.ref (He.ga K d.at_)))
  keep : PySem.W.keepIn K (.ref (He.ga K d.at_)) = true
  fn : ∃ (oc : Value) (od : Option Addr) (dV kV doc pm : Value) (an : Option Addr) (ct : Value) (osl : Array (Option Value)), K.lookup (He.ga K d.at_) = some ⟨oc, od, .func (PySem.W.fnOf d.rec_.name d.rec_.qual d.rec_.params d.rec_.body d.rec_.scope dV kV doc pm an (.ref (codeT K (He.ga K d.at_)).1) ct), osl⟩ ∧
    PySem.W.codeIn K (.ref (codeT K (He.ga K d.at_)).1) d.rec_.qual = true ∧ dfB K d.dfl dV = true
  head : PySem.W.codeHdIn K (codeT K (He.ga K d.at_)).1 (codeT K (He.ga K d.at_)).2 = true
  tab : KA.lookup (codeT K (He.ga K d.at_)).2 = some (PySem.W.tabObj #[])
  off : K.lookup (codeT K (He.ga K d.at_)).2 = none
theorem def_at {K KA : PySem.W.Frag} {d : DefR} (hat : d.rec_.at_ = (d.at_, none)) (e : He.fnW K d.rec_.at_ = d.rec_.val) (c : d.ok K KA = true) : DefAt K KA d := by
  unfold DefR.ok at c
  simp only [Bool.and_eq_true, decide_eq_true_eq] at c
  obtain ⟨⟨⟨⟨⟨c1, c2⟩, c3⟩, c4⟩, c5⟩, c6⟩ := c
  refine ⟨c1, c2, ?_, c4, isTab_ok c5, by simpa using c6⟩
  rw [hat] at e
  have ea : He.fAd K (d.at_, none) = He.ga K d.at_ := rfl
  unfold He.fnW at e
  rw [ea] at e
  cases q : K.lookup (He.ga K d.at_) with
  | none => rw [q] at c3; cases c3
  | some o =>
    obtain ⟨oc, od, dt, osl⟩ := o
    rw [q] at c3 e
    cases dt with
    | func fd =>
      obtain ⟨n1, n2, n3, n4, n5, n6, n7, n8, n9, n10, n11, n12, n13, n14, n15⟩ := fd
      have e2 : (some (n1, n2, n3, n4, n5, n6, n7, n15) : He.FnW) = some (d.rec_.name, d.rec_.qual, d.rec_.params, .stmts d.rec_.body, d.rec_.scope, mainGlobals, [], builtinsNs) := e
      simp only [Option.some.injEq, Prod.mk.injEq] at e2
      obtain ⟨h1, h2, h3, h4, h5, h6, h7, h8⟩ := e2
      simp only [Bool.and_eq_true, decide_eq_true_eq] at c3
      obtain ⟨⟨k1, k2⟩, k3⟩ := c3
      have k2 : n13 = _ := k2
      rw [k2] at k1
      subst h1 h2 h3 h4 h5 h6 h7 h8
      exact ⟨oc, od, n8, n9, n10, n11, n12, n14, osl, by rw [← k2], k1, k3⟩
    | _ => cases c3
structure AskOk (a : Ask) (K KA : PySem.W.Frag) : Prop where
  defs : ∀ d ∈ a.defs, d.rec_.at_ = (d.at_, none) → DefAt K KA d
  cst : ∀ p ∈ a.cst, ∃ u, PySem.W.nsIn K mainGlobals p.1 = some (some u) ∧ krB K p.2 u = true
  free : ∀ x ∈ a.free, PySem.W.nsIn K mainGlobals x = some none
  gcd : a.gcd = true → PySem.W.nsIn K mainGlobals "gcd" = some (some (.builtin "math.gcd"))
  uniq : ∀ d ∈ a.defs, ∀ d' ∈ a.defs, (d.tb K).1 = (d'.tb K).1 → (d.tb K).2 = (d'.tb K).2
theorem ask_ok {a : Ask} {K KA : PySem.W.Frag} (h : a.obsK K KA = a.val) : AskOk a K KA := by
  have h1 : a.ok K KA = true := congrArg (fun z : AlG => z.1) h
  have h2 : (a.defs.map fun d => He.fnW K d.rec_.at_) = a.defs.map fun d => d.rec_.val := congrArg (fun z : AlG => z.2) h
  unfold Ask.ok at h1
  simp only [Bool.and_eq_true, List.all_eq_true] at h1
  obtain ⟨⟨⟨⟨g1, g2⟩, g3⟩, g4⟩, g5⟩ := h1
  refine ⟨fun d hd hat => def_at hat (List.map_inj_left.mp h2 d hd) (g1 d hd), fun p hp => ?_, fun x hx => of_decide_eq_true (g3 x hx), fun e => ?_, fun d hd d' hd' e => ?_⟩
  · have := g2 p hp
    split at this
    · rename_i u hu
      exact ⟨u, hu, this⟩
    · cases this
  · rw [e] at g4
    simpa using g4
  · exact rise_ok g5 (d.tb K) (List.mem_map.mpr ⟨d, hd, rfl⟩) (d'.tb K) (List.mem_map.mpr ⟨d', hd', rfl⟩) e
end Mx

set_option Elab.async false
set_option linter.all false
set_option maxRecDepth 100000
set_option maxHeartbeats 1000000
/-! My, part I: how calls bind. -/
namespace Mx
open PySem PySem.Spec PyProof.Rows L2
/-- the defaults of a def: as values, as the core's -/
theorem dfl_of {K : PySem.W.Frag} {dfl : List D} {dV : Value} (h : dfB K dfl dV = true) : ∃ dus dvs, Vals dvs dus ∧ KReps K dfl dvs ∧ ((dfl = [] ∧ dus = [] ∧ dV = .none) ∨ (dfl ≠ [] ∧ ∃ (T : Addr) (o : Obj) (n : Nat), dV = .ref T ∧ K.lookup T = some o ∧ o.data = .seq dus.toArray n)) := by
  cases dfl with
  | nil =>
    cases dV with
    | none => exact ⟨[], [], .nil, .nil, .inl ⟨rfl, rfl, rfl⟩⟩
    | _ => cases h
  | cons d r =>
    have h : krB K (.tup false (d :: r)) dV = true := h
    obtain ⟨v, rv, kr⟩ := krB_ok _ _ h
    cases kr with
    | @tup a xs vs o its n h1 h2 h3 h4 h5 h6 h7 =>
      obtain rfl : dV = Value.ref a := rv
      exact ⟨its.toList, vs, h6, h7, .inr ⟨by simp, a, o, n, rfl, h1, by rw [Array.toArray_toList]; exact h4⟩⟩
/-- how a def with these parameters binds values by place, by keywords, its defaults -/
def BindB (params : Arguments) (h : Shp) (ps : List Str) : Prop :=
  ∀ (name qual : Str) (body : List Stmt) (scope : Scope) (kV doc pm : Value) (an : Option Addr) (cdv ct : Value) (us ws dus as : List Value), us.length = h.np → ws.length = h.ks.length → dus.length = h.dv.length → h.src.mapM (fun i => ((us ++ ws) ++ dus)[i]?) = some as →
    (h.dv = [] → bindArgs (PySem.W.fnOf name qual params body scope .none kV doc pm an cdv ct) ⟨us, h.ks.zip ws⟩ = pure (ps.zip as)) ∧
    (h.dv ≠ [] → ∀ T : Addr, ∃ k, bindArgs (PySem.W.fnOf name qual params body scope (.ref T) kV doc pm an cdv ct) ⟨us, h.ks.zip ws⟩ = seqItems? (.ref T) >>= k ∧ k (some dus.toArray) = pure (ps.zip as))
theorem callAt_of {T : Tbs} {P : Program} {w : World} {K KA : PySem.W.Frag} {mg : Str → Option Value} {base h : Heap} {C : Calls} {k : Nat} {d : DefR} {sh : Shp} {ps : List Str} (hK : K.In h) (hns : h.Ns mainGlobals mg) (A : DefAt K KA d) (hdv : sh.dv = d.dfl) (hl : sh.src.length = ps.length) (hb : BindB d.rec_.params sh ps)
    (F : ∀ fd, (∃ oc od osl, K.lookup (He.ga K d.at_) = some ⟨oc, od, .func fd, osl⟩) → FnG P w K mg base k (He.ga K d.at_) fd ps (spM T K C d.at_ ps.length)) : CallAt T P w K mg base C k d.at_ sh := by
  obtain ⟨oc, od, dV, kV, doc, pm, an, ct, osl, lk, _, hd⟩ := A.fn
  obtain ⟨dus, dvs, rv, kr, hdd⟩ := dfl_of hd
  refine ⟨He.ga K d.at_, _, ps, dus, dvs, PySem.W.mg_of hK hns A.glob, A.keep, hl, F _ ⟨oc, od, osl, lk⟩, rv, by rw [hdv]; exact kr, fun s us ws as kin l1 l2 l3 hm => ?_⟩
  have hdl : dus.length = sh.dv.length := by
    rw [hdv, ← rv.length]
    have e : ∀ {ds : List D} {vs : List V}, KReps K ds vs → vs.length = ds.length := fun {ds} => by
      induction ds with
      | nil => intro vs h; cases h; rfl
      | cons d r ih => intro vs h; cases h with | cons h t => simp [ih t]
    exact e kr
  obtain ⟨b1, b2⟩ := hb d.rec_.name d.rec_.qual d.rec_.body d.rec_.scope kV doc pm an (.ref (codeT K (He.ga K d.at_)).1) ct us ws dus as l1 l2 hdl hm
  rcases hdd with ⟨e, _, rfl⟩ | ⟨e, Ta, o, n, rfl, lT, oT⟩
  · exact BindsTo.of_eq (b1 (hdv.trans e))
  · obtain ⟨kk, e1, e2⟩ := b2 (by rw [hdv]; exact e) Ta
    refine L2.BindsTo.of_looks fun M => ?_
    rw [e1]
    exact L2.looks_items kin lT oT (.of_pure e2)
end Mx

set_option Elab.async false
set_option linter.all false
set_option maxRecDepth 100000
set_option maxHeartbeats 1000000
/-! My, part J: all defs keep their promises. -/
namespace Mx
open PySem PySem.Spec PyProof.Rows L2
/-- a def and its reading -/
structure DefC (G : Glob) (Tb : Tab) (m : Nat) (d : DefR) (N ps : List Str) (mf : MF) : Prop where
  tab : Tb d.at_ = some mf
  sc : FnScope N ps d.rec_.scope
  ns : mf.ns = N.length
  body : mf.body = cBody G N d.rec_.scope m d.rec_.body
  at_ : d.rec_.at_ = (d.at_, none)
/-- what a law's texts must say of its defs -/
structure Plan (a : Ask) (G : Glob) (Tb : Tab) (m : Nat) : Prop where
  cst : ∀ p ∈ G.cst, p ∈ a.cst
  free : ∀ x ∈ bltNames, x ∈ a.free
  gcd : G.gcd = true → a.gcd = true
  fn : ∀ x sh, (x, sh) ∈ G.fn → ∃ d ∈ a.defs, d.at_ = x ∧ sh.dv = d.dfl ∧ ∃ N ps mf, DefC G Tb m d N ps mf ∧ sh.src.length = ps.length ∧ BindB d.rec_.params sh ps
def tabsOf (a : Ask) (K : PySem.W.Frag) : Tbs := a.defs.map fun d => d.tb K
def codesOf (a : Ask) (K : PySem.W.Frag) : List (Addr × Addr) := a.defs.map fun d => codeT K (He.ga K d.at_)
section
variable {a : Ask} {G : Glob} {Tb : Tab} {m : Nat} {P : Program} {w : World} {K KA : PySem.W.Frag} {mg : Str → Option Value} {base : Heap}
theorem lam_at (O : AskOk a K KA) (tb : ∀ p ∈ codesOf a K, LamX.TabB base mg p.1 p.2) {d : DefR} (hd : d ∈ a.defs) : LamAt (tabsOf a K) base mg (.ref (codeT K (He.ga K d.at_)).1) (d.rec_.qual ++ ".<locals>.") := by
  refine ⟨_, (codeT K (He.ga K d.at_)).2, rfl, tb _ (List.mem_map.mpr ⟨d, hd, rfl⟩), List.mem_map.mpr ⟨d, hd, rfl⟩, fun p hp e => ?_⟩
  obtain ⟨d', hd', rfl⟩ := List.mem_map.mp hp
  exact O.uniq d' hd' d hd e
theorem fn_zero {k : Nat} {f : Addr} {fd : FuncData} {ps : List Str} {x : Str} : FnG P w K mg base k f fd ps (spM (tabsOf a K) K (callN Tb 0) x ps.length) :=
  ⟨fun vs H Q h => h.1, fun A outer s H args us vs Q _ _ _ _ _ hsp => by
    obtain ⟨_, ro, rw, wd, ds, _, _, hs⟩ := hsp
    exact (show False from hs).elim⟩
theorem fn_succ (hK : K.In base) (hns : base.Ns mainGlobals mg) (O : AskOk a K KA) (tb : ∀ p ∈ codesOf a K, LamX.TabB base mg p.1 p.2) {n k : Nat} (hG : GOk (tabsOf a K) P w K mg base G (callN Tb n) (k + 3)) {d : DefR} (hd : d ∈ a.defs) {N ps : List Str} {mf : MF} (Dc : DefC G Tb m d N ps mf) {fd : FuncData}
    (hf : ∃ oc od osl, K.lookup (He.ga K d.at_) = some ⟨oc, od, .func fd, osl⟩) : FnG P w K mg base (k + 3 + 1) (He.ga K d.at_) fd ps (spM (tabsOf a K) K (callN Tb (n + 1)) d.at_ ps.length) := by
  obtain ⟨oc, od, dV, kV, doc, pm, an, ct, osl, lk, cd, hdv⟩ := (O.defs d hd Dc.at_).fn
  obtain ⟨oc', od', osl', lk'⟩ := hf
  rw [lk] at lk'
  cases lk'
  exact fng_of lk cd Dc.sc Dc.tab Dc.ns hG (fun _ => lam_at O tb hd) (by rw [Dc.body]; exact cBody_ok m _)
theorem gok_of (hK : K.In base) (hns : base.Ns mainGlobals mg) (O : AskOk a K KA) (Pl : Plan a G Tb m) {C : Calls} {k : Nat}
    (F : ∀ d ∈ a.defs, ∀ N ps mf, DefC G Tb m d N ps mf → ∀ fd, (∃ oc od osl, K.lookup (He.ga K d.at_) = some ⟨oc, od, .func fd, osl⟩) → FnG P w K mg base k (He.ga K d.at_) fd ps (spM (tabsOf a K) K C d.at_ ps.length)) : GOk (tabsOf a K) P w K mg base G C k := by
  refine ⟨fun x d hd => ?_, fun x hx => PySem.W.mg_none_of hK hns (O.free x (Pl.free x hx)), fun e => PySem.W.mg_of hK hns (O.gcd (Pl.gcd e)), fun x sh hx => ?_⟩
  · obtain ⟨u, h1, h2⟩ := O.cst _ (Pl.cst _ hd)
    obtain ⟨v, h3, h4⟩ := krB_ok _ _ h2
    exact ⟨u, v, PySem.W.mg_of hK hns h1, h3, h4⟩
  · obtain ⟨d, hd, rfl, hdv, N, ps, mf, Dc, hl, hb⟩ := Pl.fn x sh hx
    exact callAt_of hK hns (O.defs d hd Dc.at_) hdv hl hb (F d hd N ps mf Dc)
theorem gok_all (hK : K.In base) (hns : base.Ns mainGlobals mg) (O : AskOk a K KA) (tb : ∀ p ∈ codesOf a K, LamX.TabB base mg p.1 p.2) (Pl : Plan a G Tb m) (n : Nat) : GOk (tabsOf a K) P w K mg base G (callN Tb n) (n + 3) := by
  induction n with
  | zero => exact gok_of hK hns O Pl fun d hd N ps mf Dc fd hf => fn_zero
  | succ n ih =>
    refine gok_of hK hns O Pl fun d hd N ps mf Dc fd hf => ?_
    have q := fn_succ hK hns O tb ih hd Dc hf
    have e : n + 3 + 1 = n + 1 + 3 := by omega
    rw [e] at q
    exact q
end
end Mx

set_option Elab.async false
set_option linter.all false
set_option maxRecDepth 100000
set_option maxHeartbeats 1000000
/-! My, part K: a law by its plain reading. -/
namespace Mx
open PySem PySem.Spec PyProof.Rows L2
/-- the plain law: called with any script it says True -/
def Plain (Tb : Tab) (n most : Nat) : Prop := ∀ ns : List Int, ns.length ≤ most → (∀ z ∈ ns, Builtin.Int.intBits z ≤ 1048576) → ∃ rw, callN Tb n [] "law" [.scr ns] [] = .ok (.bl true) rw
theorem law_G {l : PySem.W.OpenLaw} {w : World} {a : Ask} {G : Glob} {Tb : Tab} {m n most : Nat} {K KA : PySem.W.Frag} {mg : Str → Option Value} {fa : Addr} {h : Heap} {d : DefR} {N : List Str} {x : Str} {mf : MF} (hK : K.In h) (hKA : KA.In h) (hns : h.Ns mainGlobals mg) (O : AskOk a K KA) (Pl : Plan a G Tb m) (hd : d ∈ a.defs) (hlaw : d.at_ = "law") (Dc : DefC G Tb m d N [x] mf)
    (hat : ∀ d ∈ a.defs, d.rec_.at_ = (d.at_, none)) (hb : BindB d.rec_.params ⟨1, [], [], [0]⟩ [x]) (hdfl : d.dfl = []) (hm : mg "law" = some (.ref fa)) (hp : Plain Tb (n + 1) most) : LawG l w K (n + 4) most x mg fa h := by
  have A := O.defs d hd Dc.at_
  have efa : fa = He.ga K d.at_ := by
    have q := PySem.W.mg_of hK hns A.glob
    rw [hlaw, hm] at q
    have q := Value.ref.inj (Option.some.inj q)
    rw [q, hlaw]
  subst efa
  obtain ⟨oc, od, dV, kV, doc, pm, an, ct, osl, lk, cd, hdv⟩ := A.fn
  have edV : dV = .none := by
    rw [hdfl] at hdv
    cases dV <;> first | rfl | cases hdv
  subst edV
  refine ⟨PySem.W.fnOf d.rec_.name d.rec_.qual d.rec_.params d.rec_.body d.rec_.scope .none kV doc pm an (.ref (codeT K (He.ga K d.at_)).1) ct, codesOf a K, spM (tabsOf a K) K (callN Tb (n + 1)) d.at_ 1, fun p hp => ?_, fun p hp => ?_, fun p hp => ?_, fun s u => ?_, fun H b ns hl hbits hT hS => ?_, fun base kin bns tb => ?_⟩
  · obtain ⟨d', hd', rfl⟩ := List.mem_map.mp hp
    exact hKA _ _ (O.defs d' hd' (hat d' hd')).tab
  · obtain ⟨d', hd', rfl⟩ := List.mem_map.mp hp
    exact (O.defs d' hd' (hat d' hd')).off
  · obtain ⟨d', hd', rfl⟩ := List.mem_map.mp hp
    exact PySem.W.codeHd_of_K hK (O.defs d' hd' (hat d' hd')).head
  · exact BindsTo.of_eq ((hb d.rec_.name d.rec_.qual d.rec_.body d.rec_.scope kV doc pm an (.ref (codeT K (He.ga K d.at_)).1) ct [u] [] [] [u] rfl rfl rfl rfl).1 rfl)
  · obtain ⟨rw', e⟩ := hp ns hl hbits
    refine ⟨rfl, [], [], ⟨[], []⟩, [.scr ns], ⟨fun p hp => ?_, rfl, List.nodup_nil, fun a ha => absurd ha (by simp), fun l o a h1 _ => by simp at h1⟩, .cons (.scr hS) .nil, ?_⟩
    · obtain ⟨d', hd', rfl⟩ := List.mem_map.mp hp
      exact LamX.TabS.nil (hT _ (List.mem_map.mpr ⟨d', hd', rfl⟩))
    · rw [hlaw, e]
      intro m' H' _ _ v hv
      cases hv; rfl
  · have q := fn_succ kin bns O tb (gok_all (P := l.prog) (w := w) kin bns O tb Pl n) hd Dc ⟨oc, od, osl, lk⟩
    exact q
end Mx

set_option Elab.async false
set_option linter.all false
set_option maxRecDepth 100000
set_option maxHeartbeats 1000000
/-! PF: the readings of the defs (printed by tools/genpf.py k59 k56). -/
namespace Mx
open PySem
def f_is_whole : MF := ⟨1, 1, false, [.ret (some (.and [.isa (.nm 0) [.int], .not (.isa (.nm 0) [.bl])]))]⟩
def f_is_below : MF := ⟨2, 2, false, [.ret (some (.and [.call "is_whole" [.nm 0] [] [0], .chain .le .lt (.cst (.int 0)) (.nm 0) (.nm 1)]))]⟩
def f_lots_of : MF := ⟨1, 4, false, [.set 1 (.lst false [.tup []]), .loop (.nm 2) (.seq (.nm 0)) [.set 1 (.bin .add (.nm 1) (.comp false (.bin .add (.nm 3) (.tup [.nm 2])) [3] (.nm 3) (.seq (.nm 1)) none))], .ret (some (.blt false .sortedLen [.nm 1]))]⟩
def f_parted : MF := ⟨2, 3, false, [.ret (some (.blt false .tuple [.blt false .sorted [.bin .add (.comp false (.nm 2) [2] (.nm 2) (.seq (.nm 0)) (some (.cmp .notin (.nm 2) (.nm 1)))) (.comp false (.nm 2) [2] (.nm 2) (.seq (.nm 1)) (some (.cmp .notin (.nm 2) (.nm 0))))]]))]⟩
def f_swaps_of : MF := ⟨2, 4, false, [.ret (some (.blt false .sum [.comp false (.blt false .len [.comp false (.nm 3) [3] (.nm 3) (.seq (.nm 1)) (some (.cmp .gt (.nm 2) (.nm 3)))]) [2] (.nm 2) (.seq (.nm 0)) none]))]⟩
def f_number : MF := ⟨2, 3, false, [.set 2 (.ite (.cmp .gt (.nm 1) (.cst (.int 0))) (.blt false .gcd [.nm 0, .nm 1]) (.bin .sub (.cst (.int 0)) (.blt false .gcd [.nm 0, .nm 1]))), .ret (some (.tup [.bin .fdiv (.nm 0) (.nm 2), .bin .fdiv (.nm 1) (.nm 2)]))]⟩
def f_is_number : MF := ⟨1, 2, false, [.ite (.or [.not (.isa (.nm 0) [.tup]), .cmp .ne (.blt false .len [.nm 0]) (.cst (.int 2)), .not (.blt false .all [.comp false (.call "is_whole" [.nm 1] [] [0]) [1] (.nm 1) (.seq (.nm 0)) none])]) [.ret (some (.cst (.bl false)))] [], .ret (some (.and [.cmp .gt (.sub (.nm 0) (.cst (.int 1))) (.cst (.int 0)), .cmp .eq (.blt false .gcd [.sub (.nm 0) (.cst (.int 0)), .sub (.nm 0) (.cst (.int 1))]) (.cst (.int 1))]))]⟩
def f_plus : MF := ⟨2, 2, false, [.ret (some (.call "number" [.bin .add (.bin .mul (.sub (.nm 0) (.cst (.int 0))) (.sub (.nm 1) (.cst (.int 1)))) (.bin .mul (.sub (.nm 1) (.cst (.int 0))) (.sub (.nm 0) (.cst (.int 1)))), .bin .mul (.sub (.nm 0) (.cst (.int 1))) (.sub (.nm 1) (.cst (.int 1)))] [.int 1] [0, 1]))]⟩
def f_minus : MF := ⟨1, 1, false, [.ret (some (.tup [.bin .sub (.cst (.int 0)) (.sub (.nm 0) (.cst (.int 0))), .sub (.nm 0) (.cst (.int 1))]))]⟩
def f_times : MF := ⟨2, 2, false, [.ret (some (.call "number" [.bin .mul (.sub (.nm 0) (.cst (.int 0))) (.sub (.nm 1) (.cst (.int 0))), .bin .mul (.sub (.nm 0) (.cst (.int 1))) (.sub (.nm 1) (.cst (.int 1)))] [.int 1] [0, 1]))]⟩
def f_need_many : MF := ⟨1, 1, false, [.ite (.not (.call "is_below" [.nm 0, .bin .add (.cst (.int 4)) (.cst (.int 1))] [] [0, 1])) [.nope] []]⟩
def f_is_any_table : MF := ⟨1, 2, false, [.ite (.or [.not (.isa (.nm 0) [.tup]), .cmp .ne (.blt false .len [.nm 0]) (.cst (.int 2)), .not (.isa (.sub (.nm 0) (.cst (.int 0))) [.str]), .cmp .ne (.sub (.nm 0) (.cst (.int 0))) (.cst (.str "table"))]) [.ret (some (.cst (.bl false)))] [], .ite (.or [.not (.isa (.sub (.nm 0) (.cst (.int 1))) [.tup]), .cmp .notin (.blt false .len [.sub (.nm 0) (.cst (.int 1))]) (.cst (.tup false [.int 1, .int 2, .int 4, .int 8, .int 16]))]) [.ret (some (.cst (.bl false)))] [], .ret (some (.blt false .all [.comp false (.call "is_number" [.nm 1] [] [0]) [1] (.nm 1) (.seq (.sub (.nm 0) (.cst (.int 1)))) none]))]⟩
def f_need_any : MF := ⟨1, 1, false, [.ite (.not (.call "is_any_table" [.nm 0] [] [0])) [.nope] []]⟩
def f_count_of : MF := ⟨1, 1, false, [.ret (some (.idx [1, 2, 4, 8, 16] (.blt false .len [.sub (.nm 0) (.cst (.int 1))])))]⟩
def f_many_of : MF := ⟨1, 1, false, [.ex (.call "need_any" [.nm 0] [] [0]), .ret (some (.call "count_of" [.nm 0] [] [0]))]⟩
def f_is_table : MF := ⟨2, 2, false, [.ex (.call "need_many" [.nm 0] [] [0]), .ret (some (.and [.call "is_any_table" [.nm 1] [] [0], .cmp .eq (.call "count_of" [.nm 1] [] [0]) (.nm 0)]))]⟩
def f_need_table : MF := ⟨2, 2, false, [.ite (.not (.call "is_table" [.nm 0, .nm 1] [] [0, 1])) [.nope] []]⟩
def f_need_alike : MF := ⟨2, 2, false, [.ex (.call "need_any" [.nm 0] [] [0]), .ex (.call "need_any" [.nm 1] [] [0]), .ite (.cmp .ne (.blt false .len [.sub (.nm 0) (.cst (.int 1))]) (.blt false .len [.sub (.nm 1) (.cst (.int 1))])) [.nope] []]⟩
def f_made : MF := ⟨1, 1, false, [.ret (some (.tup [.cst (.str "table"), .blt false .tuple [.nm 0]]))]⟩
def f_lines : MF := ⟨1, 1, false, [.ret (some (.blt false .dzip [.call "lots_of" [.blt false .lrange1 [.call "count_of" [.nm 0] [] [0]]] [] [0], .sub (.nm 0) (.cst (.int 1))]))]⟩
def f_summed : MF := ⟨2, 4, false, [.ret (some (.call "made" [.comp false (.call "plus" [.nm 2, .nm 3] [] [0, 1]) [2, 3] (.tup [.nm 2, .nm 3]) (.zip2 (.sub (.nm 0) (.cst (.int 1))) (.sub (.nm 1) (.cst (.int 1)))) none] [] [0]))]⟩
def f_worth : MF := ⟨3, 5, false, [.set 3 (.ite (.cmp .eq (.bin .mod (.call "swaps_of" [.nm 1, .nm 2] [] [0, 1]) (.cst (.int 2))) (.cst (.int 1))) (.call "minus" [.cst (.tup false [.int 1, .int 1])] [] [0]) (.cst (.tup false [.int 1, .int 1]))), .loop (.nm 4) (.seq (.nm 1)) [.set 3 (.ite (.cmp .isin (.nm 4) (.nm 2)) (.call "times" [.nm 3, .sub (.nm 0) (.nm 4)] [] [0, 1]) (.nm 3))], .ret (some (.nm 3))]⟩
def f_fold_of : MF := ⟨3, 10, true, [.par [5, 6] [.call "lines" [.nm 1] [] [0], .call "lines" [.nm 2] [] [0]], .set 3 (.dcomp true (.nm 8) (.cst (.tup false [.int 0, .int 1])) [8] (.nm 8) (.keys 5) none), .loop (.nm 4) (.keys 5) [.loop (.nm 7) (.keys 6) [.ite (.and [.cmp .ne (.sub (.nm 5) (.nm 4)) (.cst (.tup false [.int 0, .int 1])), .cmp .ne (.sub (.nm 6) (.nm 7)) (.cst (.tup false [.int 0, .int 1]))]) [.set 9 (.call "times" [.call "times" [.sub (.nm 5) (.nm 4), .sub (.nm 6) (.nm 7)] [] [0, 1], .call "worth" [.nm 0, .nm 4, .nm 7] [] [0, 1, 2]] [] [0, 1]), .set 8 (.call "parted" [.nm 4, .nm 7] [] [0, 1]), .put (.nm 3) (.nm 8) (.call "plus" [.sub (.nm 3) (.nm 8), .nm 9] [] [0, 1])] []]], .ret (some (.call "made" [.comp false (.sub (.nm 3) (.nm 8)) [8] (.nm 8) (.keys 5) none] [] [0]))]⟩
def f_wedge_of : MF := ⟨2, 3, false, [.ret (some (.call "fold_of" [.comp false (.cst (.tup false [.int 0, .int 1])) [2] (.nm 2) (.rng1 (.call "count_of" [.nm 0] [] [0])) none, .nm 0, .nm 1] [] [0, 1, 2]))]⟩
def f_plus_tables : MF := ⟨2, 2, false, [.ex (.call "need_alike" [.nm 0, .nm 1] [] [0, 1]), .ret (some (.call "summed" [.nm 0, .nm 1] [] [0, 1]))]⟩
def f_need_squares_tables2 : MF := ⟨1, 2, false, [.ite (.or [.not (.isa (.nm 0) [.tup]), .cmp .gt (.blt false .len [.nm 0]) (.cst (.int 4)), .not (.blt false .all [.comp false (.call "is_number" [.nm 1] [] [0]) [1] (.nm 1) (.seq (.nm 0)) none])]) [.nope] []]⟩
def f_fold_tables : MF := ⟨3, 3, false, [.ex (.call "need_squares_tables2" [.nm 0] [] [0]), .ex (.call "need_table" [.blt false .len [.nm 0], .nm 1] [] [0, 1]), .ex (.call "need_table" [.blt false .len [.nm 0], .nm 2] [] [0, 1]), .ret (some (.call "fold_of" [.nm 0, .nm 1, .nm 2] [] [0, 1, 2]))]⟩
def f_wedge_tables : MF := ⟨2, 2, false, [.ex (.call "need_alike" [.nm 0, .nm 1] [] [0, 1]), .ret (some (.call "wedge_of" [.nm 0, .nm 1] [] [0, 1]))]⟩
def f_need_squares_inverse3 : MF := ⟨1, 2, false, [.ite (.or [.not (.isa (.nm 0) [.tup]), .cmp .gt (.blt false .len [.nm 0]) (.cst (.int 4)), .not (.blt false .all [.comp false (.call "is_number" [.nm 1] [] [0]) [1] (.nm 1) (.seq (.nm 0)) none])]) [.nope] []]⟩
def f_given : MF := ⟨2, 5, false, [.set 2 (.cst (.tup false [.int 0, .int 1])), .loop (.tup [.nm 3, .nm 4]) (.zip2 (.nm 0) (.nm 1)) [.set 2 (.call "plus" [.nm 2, .call "times" [.nm 3, .nm 4] [] [0, 1]] [] [0, 1])], .ret (some (.nm 2))]⟩
def f_is_arrow : MF := ⟨2, 3, false, [.ret (some (.and [.isa (.nm 1) [.tup], .cmp .eq (.blt false .len [.nm 1]) (.nm 0), .blt false .all [.comp false (.call "is_number" [.nm 2] [] [0]) [2] (.nm 2) (.seq (.nm 1)) none]]))]⟩
def f_need_arrow : MF := ⟨2, 2, false, [.ite (.not (.call "is_arrow" [.nm 0, .nm 1] [] [0, 1])) [.nope] []]⟩
def f_table_by : MF := ⟨1, 3, false, [.set 1 (.comp false (.ite (.cmp .eq (.blt false .len [.nm 2]) (.cst (.int 1))) (.sub (.nm 0) (.sub (.nm 2) (.cst (.int 0)))) (.cst (.tup false [.int 0, .int 1]))) [2] (.nm 2) (.seq (.call "lots_of" [.blt false .lrange1 [.blt false .len [.nm 0]]] [] [0])) none), .ret (some (.tup [.cst (.str "table"), .blt false .tuple [.nm 1]]))]⟩
def f_arrow_table : MF := ⟨1, 1, false, [.ite (.or [.not (.isa (.nm 0) [.tup]), .cmp .gt (.blt false .len [.nm 0]) (.cst (.int 4))]) [.nope] [], .ex (.call "need_arrow" [.blt false .len [.nm 0], .nm 0] [] [0, 1]), .ret (some (.call "table_by" [.nm 0] [] [0]))]⟩
def f_arrow_by : MF := ⟨2, 5, false, [.set 2 (.blt false .lzip [.call "lots_of" [.blt false .lrange1 [.nm 1]] [] [0], .sub (.nm 0) (.cst (.int 1))]), .ite (.blt false .any [.comp false (.and [.cmp .ne (.blt false .len [.nm 3]) (.cst (.int 1)), .cmp .ne (.nm 4) (.cst (.tup false [.int 0, .int 1]))]) [3, 4] (.tup [.nm 3, .nm 4]) (.seq (.nm 2)) none]) [.ret (some (.cst .non))] [], .ret (some (.blt false .tuple [.comp false (.nm 4) [3, 4] (.tup [.nm 3, .nm 4]) (.seq (.nm 2)) (some (.cmp .eq (.blt false .len [.nm 3]) (.cst (.int 1))))]))]⟩
def f_arrow_of : MF := ⟨1, 1, false, [.ret (some (.call "arrow_by" [.nm 0, .call "many_of" [.nm 0] [] [0]] [] [0, 1]))]⟩
def f_met : MF := ⟨3, 5, false, [.ret (some (.call "given" [.nm 0, .comp false (.call "times" [.nm 3, .nm 4] [] [0, 1]) [3, 4] (.tup [.nm 3, .nm 4]) (.zip2 (.nm 1) (.nm 2)) none] [] [0, 1]))]⟩
def f_meeting : MF := ⟨3, 3, false, [.ex (.call "need_squares_inverse3" [.nm 0] [] [0]), .ex (.call "need_arrow" [.blt false .len [.nm 0], .nm 1] [] [0, 1]), .ex (.call "need_arrow" [.blt false .len [.nm 0], .nm 2] [] [0, 1]), .ret (some (.call "met" [.nm 0, .nm 1, .nm 2] [] [0, 1, 2]))]⟩
def f__law_begun : MF := ⟨1, 3, false, [.set 1 (.comp true (.bin .sub (.blt false .abs [.nm 2]) (.bin .pow (.cst (.int 10)) (.cst (.int 18)))) [2] (.nm 2) (.seq (.nm 0)) (some (.cmp .ge (.blt false .abs [.nm 2]) (.bin .pow (.cst (.int 10)) (.cst (.int 18)))))), .ret (some (.dct true [.cst (.str "great"), .nm 1, .cst (.str "cells"), .comp false (.blt false .abs [.nm 2]) [2] (.nm 2) (.seq (.nm 0)) none, .cst (.str "rest"), .cst (.int 0), .cst (.str "turn"), .cst (.int 0)]))]⟩
def f__law_mixed : MF := ⟨1, 6, false, [.par [2, 3] [.bin .add (.sub (.nm 0) (.cst (.str "turn"))) (.cst (.int 1)), .cst (.int 0)], .put (.nm 0) (.cst (.str "turn")) (.nm 2), .loop (.nm 1) (.seq (.lst false [.cst (.int 2147483629), .cst (.int 2147483587), .cst (.int 2147483579), .cst (.int 2147483563)])) [.set 4 (.bin .add (.bin .mul (.cst (.int 69621)) (.nm 2)) (.bin .fdiv (.nm 1) (.cst (.int 41)))), .loop (.nm 5) (.seq (.sub (.nm 0) (.cst (.str "cells")))) [.set 4 (.bin .mod (.blt false .int1 [.bin .add (.bin .add (.bin .mul (.nm 4) (.cst (.int 48271))) (.nm 5)) (.nm 2)]) (.nm 1))], .set 3 (.bin .add (.bin .mul (.nm 3) (.cst (.int 2147483659))) (.bin .mod (.blt false .int1 [.bin .pow (.nm 4) (.cst (.int 5))]) (.nm 1)))], .ret (some (.nm 3))]⟩
def f__law_draw : MF := ⟨2, 3, false, [.ite (.cmp .eq (.sub (.nm 0) (.cst (.str "rest"))) (.cst (.int 0))) [.put (.nm 0) (.cst (.str "rest")) (.ite (.cmp .ne (.sub (.nm 0) (.cst (.str "great"))) (.lst false [])) (.popAt (.sub (.nm 0) (.cst (.str "great"))) (.cst (.int 0))) (.call "_law_mixed" [.nm 0] [] [0]))] [], .set 2 (.bin .mod (.blt false .int1 [.sub (.nm 0) (.cst (.str "rest"))]) (.nm 1)), .put (.nm 0) (.cst (.str "rest")) (.bin .fdiv (.sub (.nm 0) (.cst (.str "rest"))) (.nm 1)), .ret (some (.nm 2))]⟩
def f__law_pick : MF := ⟨2, 2, false, [.ret (some (.sub (.nm 1) (.call "_law_draw" [.nm 0, .blt false .len [.nm 1]] [] [0, 1])))]⟩
def f__law_plain : MF := ⟨1, 2, false, [.ite (.isa (.nm 0) [.lst, .tup]) [.ret (some (.cmp .eq (.comp false (.cst (.int 1)) [1] (.nm 1) (.seq (.nm 0)) (some (.not (.call "_law_plain" [.nm 1] [] [0])))) (.lst false [])))] [], .ite (.isa (.nm 0) [.dic]) [.ret (some (.call "_law_plain" [.blt false .list [.nope]] [] [0]))] [], .ret (some (.or [.cmp .is_ (.nm 0) (.cst .non), .isa (.nm 0) [.int, .str]]))]⟩
def f__law_is : MF := ⟨2, 2, false, [.ret (some (.and [.call "_law_plain" [.nm 0] [] [0], .cmp .eq (.nm 0) (.nm 1), .cmp .eq (.nm 1) (.nm 0), .cmp .eq (.blt false .repr [.nm 0]) (.blt false .repr [.nm 1])]))]⟩
def f__law_common : MF := ⟨2, 2, false, [.whl (.cmp .ne (.nm 1) (.cst (.int 0))) [.par [0, 1] [.nm 1, .bin .mod (.blt false .int1 [.nm 0]) (.nm 1)]], .ret (some (.blt false .abs [.nm 0]))]⟩
def f__law_no : MF := ⟨2, 3, false, [.set 2 (.bin .mul (.call "_law_common" [.nm 0, .nm 1] [] [0, 1]) (.ite (.cmp .gt (.nm 1) (.cst (.int 0))) (.cst (.int 1)) (.bin .sub (.cst (.int 0)) (.cst (.int 1))))), .ret (some (.tup [.bin .fdiv (.nm 0) (.nm 2), .bin .fdiv (.nm 1) (.nm 2)]))]⟩
def f__law_plus : MF := ⟨2, 2, false, [.ret (some (.call "_law_no" [.bin .add (.bin .mul (.sub (.nm 0) (.cst (.int 0))) (.sub (.nm 1) (.cst (.int 1)))) (.bin .mul (.sub (.nm 1) (.cst (.int 0))) (.sub (.nm 0) (.cst (.int 1)))), .bin .mul (.sub (.nm 0) (.cst (.int 1))) (.sub (.nm 1) (.cst (.int 1)))] [] [0, 1]))]⟩
def f__law_times : MF := ⟨2, 2, false, [.ret (some (.call "_law_no" [.bin .mul (.sub (.nm 0) (.cst (.int 0))) (.sub (.nm 1) (.cst (.int 0))), .bin .mul (.sub (.nm 0) (.cst (.int 1))) (.sub (.nm 1) (.cst (.int 1)))] [] [0, 1]))]⟩
def f__law_total : MF := ⟨1, 3, false, [.set 1 (.tup [.cst (.int 0), .cst (.int 1)]), .loop (.nm 2) (.seq (.nm 0)) [.set 1 (.call "_law_plus" [.nm 1, .nm 2] [] [0, 1])], .ret (some (.nm 1))]⟩
def f__law_some_number : MF := ⟨2, 3, false, [.set 2 (.bin .sub (.call "_law_draw" [.nm 0, .bin .add (.bin .mul (.cst (.int 2)) (.nm 1)) (.cst (.int 1))] [] [0, 1]) (.nm 1)), .ret (some (.call "_law_no" [.nm 2, .call "_law_pick" [.nm 0, .lst false [.cst (.int 1), .cst (.int 1), .cst (.int 1), .cst (.int 1), .cst (.int 2), .cst (.int 3)]] [] [0, 1]] [] [0, 1]))]⟩
def f__law_lots : MF := ⟨1, 4, false, [.set 1 (.lst false [.tup []]), .loop (.nm 2) (.seq (.nm 0)) [.set 1 (.bin .add (.nm 1) (.comp false (.bin .add (.nm 3) (.tup [.nm 2])) [3] (.nm 3) (.seq (.nm 1)) none))], .ret (some (.blt false .sortedLen [.nm 1]))]⟩
def f__law_places : MF := ⟨1, 1, false, [.ret (some (.call "_law_lots" [.blt false .lrange1 [.nm 0]] [] [0]))]⟩
def f__law_wide : MF := ⟨1, 1, false, [.ret (some (.blt false .len [.call "_law_places" [.nm 0] [] [0]]))]⟩
def f__law_some_squares : MF := ⟨2, 3, false, [.ret (some (.blt false .tuple [.comp false (.call "_law_pick" [.nm 0, .lst false [.tup [.cst (.int 1), .cst (.int 1)], .tup [.neg (.cst (.int 1)), .cst (.int 1)], .tup [.cst (.int 0), .cst (.int 1)], .tup [.cst (.int 2), .cst (.int 1)], .call "_law_some_number" [.nm 0, .cst (.int 3)] [] [0, 1]]] [] [0, 1]) [2] (.nm 2) (.rng1 (.nm 1)) none]))]⟩
def f__law_some_line : MF := ⟨2, 3, false, [.ret (some (.blt false .tuple [.comp false (.ite (.cmp .eq (.call "_law_draw" [.nm 0, .cst (.int 2)] [] [0, 1]) (.cst (.int 0))) (.call "_law_some_number" [.nm 0, .cst (.int 3)] [] [0, 1]) (.tup [.cst (.int 0), .cst (.int 1)])) [2] (.nm 2) (.seq (.call "_law_places" [.nm 1] [] [0])) none]))]⟩
def f__law_some_arrow : MF := ⟨2, 3, false, [.ret (some (.blt false .tuple [.comp false (.call "_law_some_number" [.nm 0, .cst (.int 3)] [] [0, 1]) [2] (.nm 2) (.rng1 (.nm 1)) none]))]⟩
def f__law_arrow_line : MF := ⟨1, 2, false, [.ret (some (.blt false .tuple [.comp false (.ite (.cmp .eq (.blt false .len [.nm 1]) (.cst (.int 1))) (.sub (.nm 0) (.sub (.nm 1) (.cst (.int 0)))) (.tup [.cst (.int 0), .cst (.int 1)])) [1] (.nm 1) (.seq (.call "_law_places" [.blt false .len [.nm 0]] [] [0])) none]))]⟩
def f__law_met : MF := ⟨3, 6, false, [.ret (some (.call "_law_total" [.comp false (.call "_law_times" [.nm 3, .call "_law_times" [.nm 4, .nm 5] [] [0, 1]] [] [0, 1]) [3, 4, 5] (.tup [.nm 3, .nm 4, .nm 5]) (.zip3 (.nm 0) (.nm 1) (.nm 2)) none] [] [0]))]⟩
def f_need_table_tables2 : MF := ⟨2, 2, false, [.ite (.not (.call "is_table" [.nm 0, .nm 1] [] [0, 1])) [.nope] []]⟩
def f_fold_tables_k56 : MF := ⟨3, 3, false, [.ex (.call "need_squares_tables2" [.nm 0] [] [0]), .ex (.call "need_table_tables2" [.blt false .len [.nm 0], .nm 1] [] [0, 1]), .ex (.call "need_table_tables2" [.blt false .len [.nm 0], .nm 2] [] [0, 1]), .ret (some (.call "fold_of" [.nm 0, .nm 1, .nm 2] [] [0, 1, 2]))]⟩
def f_need_table_inverse3 : MF := ⟨2, 2, false, [.ite (.not (.call "is_table" [.blt false .len [.nm 0], .nm 1] [] [0, 1])) [.nope] []]⟩
def f_is_middle_lot : MF := ⟨2, 3, false, [.ite (.and [.cmp .ne (.blt false .len [.nm 1]) (.blt false .len [.nm 0]), .cmp .eq (.bin .mod (.blt false .len [.nm 1]) (.cst (.int 2))) (.cst (.int 1))]) [.ret (some (.cst (.bl false)))] [], .ret (some (.or [.cmp .eq (.bin .mod (.blt false .len [.nm 1]) (.cst (.int 2))) (.cst (.int 1)), .blt false .all [.comp false (.cmp .eq (.sub (.nm 0) (.nm 2)) (.cst (.tup false [.int 0, .int 1]))) [2] (.nm 2) (.seq (.nm 1)) none]]))]⟩
def f_middle_lots : MF := ⟨1, 2, false, [.ex (.call "need_squares_inverse3" [.nm 0] [] [0]), .ret (some (.blt false .tuple [.comp false (.nm 1) [1] (.nm 1) (.seq (.call "lots_of" [.blt false .lrange1 [.blt false .len [.nm 0]]] [] [0])) (some (.call "is_middle_lot" [.nm 0, .nm 1] [] [0, 1]))]))]⟩
def f_is_middle : MF := ⟨2, 5, false, [.ex (.call "need_squares_inverse3" [.nm 0] [] [0]), .ex (.call "need_table_inverse3" [.nm 0, .nm 1] [] [0, 1]), .zret 2 (.blt false .all [.comp false (.or [.cmp .eq (.nm 4) (.cst (.tup false [.int 0, .int 1])), .call "is_middle_lot" [.nm 0, .nm 3] [] [0, 1]]) [3, 4] (.tup [.nm 3, .nm 4]) (.zip2 (.call "lots_of" [.blt false .lrange1 [.blt false .len [.nm 0]]] [] [0]) (.sub (.nm 1) (.cst (.int 1)))) none])]⟩
def f__law_merged : MF := ⟨2, 3, false, [.ret (some (.blt false .tuple [.blt false .sorted [.bin .add (.comp false (.nm 2) [2] (.nm 2) (.seq (.nm 0)) (some (.cmp .notin (.nm 2) (.nm 1)))) (.comp false (.nm 2) [2] (.nm 2) (.seq (.nm 1)) (some (.cmp .notin (.nm 2) (.nm 0))))]]))]⟩
def f__law_sign : MF := ⟨2, 5, false, [.set 2 (.blt false .sum [.comp false (.blt false .len [.comp false (.nm 4) [4] (.nm 4) (.seq (.nm 1)) (some (.cmp .gt (.nm 3) (.nm 4)))]) [3] (.nm 3) (.seq (.nm 0)) none]), .ret (some (.bin .sub (.cst (.int 1)) (.bin .mul (.cst (.int 2)) (.bin .mod (.blt false .int1 [.nm 2]) (.cst (.int 2))))))]⟩
def f__law_folded : MF := ⟨3, 13, true, [.set 3 (.call "_law_places" [.blt false .len [.nm 0]] [] [0]), .set 4 (.blt true .dpairs [.comp false (.tup [.nm 7, .tup [.cst (.int 0), .cst (.int 1)]]) [7] (.nm 7) (.seq (.nm 3)) none]), .loop (.tup [.nm 5, .nm 6]) (.zip2 (.nm 3) (.nm 1)) [.ite (.cmp .ne (.sub (.nm 6) (.cst (.int 0))) (.cst (.int 0))) [.loop (.tup [.nm 8, .nm 9]) (.zip2 (.nm 3) (.nm 2)) [.ite (.cmp .ne (.sub (.nm 9) (.cst (.int 0))) (.cst (.int 0))) [.set 10 (.call "_law_times" [.call "_law_times" [.nm 6, .nm 9] [] [0, 1], .tup [.call "_law_sign" [.nm 5, .nm 8] [] [0, 1], .cst (.int 1)]] [] [0, 1]), .loop (.nm 11) (.seq (.nm 5)) [.ite (.cmp .isin (.nm 11) (.nm 8)) [.set 10 (.call "_law_times" [.nm 10, .sub (.nm 0) (.nm 11)] [] [0, 1])] []], .set 12 (.call "_law_merged" [.nm 5, .nm 8] [] [0, 1]), .put (.nm 4) (.nm 12) (.call "_law_plus" [.sub (.nm 4) (.nm 12), .nm 10] [] [0, 1])] []]] []], .ret (some (.blt false .tuple [.comp false (.sub (.nm 4) (.nm 7)) [7] (.nm 7) (.seq (.nm 3)) none]))]⟩
def f__law_ones : MF := ⟨1, 4, false, [.set 1 (.call "_law_wide" [.nm 0] [] [0]), .ret (some (.comp false (.blt false .tuple [.comp false (.tup [.blt false .int1 [.cmp .eq (.nm 3) (.nm 2)], .cst (.int 1)]) [3] (.nm 3) (.rng1 (.nm 1)) none]) [2] (.nm 2) (.rng1 (.nm 1)) none))]⟩
def f__law_axes_rows : MF := ⟨1, 3, false, [.ret (some (.comp false (.blt false .tuple [.comp false (.tup [.blt false .int1 [.cmp .eq (.nm 2) (.nm 1)], .cst (.int 1)]) [2] (.nm 2) (.rng1 (.nm 0)) none]) [1] (.nm 1) (.rng1 (.nm 0)) none))]⟩
def f__law_folds_alike : MF := ⟨2, 4, false, [.loop (.nm 2) (.seq (.call "_law_axes_rows" [.blt false .len [.nm 0]] [] [0])) [.set 3 (.call "_law_arrow_line" [.nm 2] [] [0]), .ite (.cmp .ne (.call "_law_folded" [.nm 0, .nm 1, .nm 3] [] [0, 1, 2]) (.call "_law_folded" [.nm 0, .nm 3, .nm 1] [] [0, 1, 2])) [.ret (some (.cst (.bl false)))] []], .ret (some (.cst (.bl true)))]⟩
end Mx

set_option Elab.async false
set_option linter.all false
set_option maxRecDepth 100000
set_option maxHeartbeats 1000000
set_option exponentiation.threshold 500000
/-! Pa, part A: calls run; numbers. -/
namespace Mx
open PySem
/-! ### calls -/
theorem call_f {T : Tab} {f : Str} {np ns : Nat} {body : List MS} (hT : T f = some ⟨np, ns, false, body⟩) {n : Nat} {ro rw rw' : MH} {as : List D} {fl : Fl} {d : D} (h1 : 1 ≤ n) (hl : as.length = np) (hn : np ≤ ns)
    (h : ∀ m, m + 1 = n → exSs (callN T m) ro body (startD ns as) rw = .ok fl rw') (hd : flD fl = some d) : callN T n ro f as rw = .ok d rw' := by
  obtain ⟨m, rfl⟩ : ∃ m, n = m + 1 := ⟨n - 1, by omega⟩
  have h := h m rfl
  unfold callN
  rw [hT]
  simp only [hl, hn, and_self, if_true, Bool.false_eq_true, if_false, h, hd]
theorem call_o {T : Tab} {f : Str} {np ns : Nat} {body : List MS} (hT : T f = some ⟨np, ns, true, body⟩) {n : Nat} {ro rw rw' : MH} {as : List D} {fl : Fl} {d d' : D} (h1 : 1 ≤ n) (hl : as.length = np) (hn : np ≤ ns)
    (h : ∀ m, m + 1 = n → exSs (callN T m) (ro ++ rw) body (startD ns as) [] = .ok fl rw') (hd : flD fl = some d) (hf : froz (ro ++ rw).length rw' deep d = some d') : callN T n ro f as rw = .ok d' rw := by
  obtain ⟨m, rfl⟩ : ∃ m, n = m + 1 := ⟨n - 1, by omega⟩
  have h := h m rfl
  unfold callN
  rw [hT]
  simp only [hl, hn, and_self, if_true, h, hd, Option.bind_some, hf]
theorem at_nat {α : Type} (xs : List α) (i : Nat) : L2.atI xs (i : Int) = xs[i]? := by
  unfold L2.atI L2.ixN
  have h : (0 : Int) ≤ i := by omega
  simp only [h, if_true]
  by_cases l : i < xs.length
  · have : (i : Int) < xs.length := by omega
    simp [this]
  · have : ¬ ((i : Int) < xs.length) := by omega
    simp [this]; omega
theorem at_0 {α : Type} (a : α) (r : List α) : L2.atI (a :: r) 0 = some a := at_nat (a :: r) 0
theorem at_1 {α : Type} (a b : α) (r : List α) : L2.atI (a :: b :: r) 1 = some b := at_nat (a :: b :: r) 1
/-! ### numbers -/
def enc (q : Rat) : D := .tup true [.int q.num, .int (q.den : Int)]
def IsQ (q : Rat) (d : D) : Prop := ∃ k, d = .tup k [.int q.num, .int (q.den : Int)]
theorem isQ_enc (q : Rat) : IsQ q (enc q) := ⟨true, rfl⟩
/-- small: both parts below 2^b -/
def Sm (b : Nat) (q : Rat) : Prop := q.num.natAbs < 2 ^ b ∧ q.den < 2 ^ b
theorem Sm.le {b c : Nat} {q : Rat} (h : Sm b q) (l : b ≤ c) : Sm c q := ⟨Nat.lt_of_lt_of_le h.1 (Nat.pow_le_pow_right (by decide) l), Nat.lt_of_lt_of_le h.2 (Nat.pow_le_pow_right (by decide) l)⟩
theorem log_lt {n k : Nat} (h : n < 2 ^ k) (hk : 0 < k) : n.log2 < k := by
  by_cases z : n = 0
  · rw [z]; simpa using hk
  · exact (Nat.log2_lt z).mpr h
theorem mulOk_of {i j : Int} {b : Nat} (hi : i.natAbs < 2 ^ b) (hj : j.natAbs < 2 ^ b) (hb : b ≤ 400000) : mulOk i j = true := by
  have l : (2 : Nat) ^ b ≤ 2 ^ 400000 := Nat.pow_le_pow_right (by decide) hb
  have p1 := log_lt (Nat.lt_of_lt_of_le hi l) (by decide)
  have p2 := log_lt (Nat.lt_of_lt_of_le hj l) (by decide)
  unfold mulOk
  rw [decide_eq_true (by omega), decide_eq_true (by omega)]; rfl
theorem sgn_gcd (u l : Int) (hl : l ≠ 0) : ∃ a b : Int, u = Int.gcd u l * a ∧ l = Int.gcd u l * b ∧ (0 : Int) < Int.gcd u l := by
  obtain ⟨a, ha⟩ := Int.gcd_dvd_left u l
  obtain ⟨b, hb⟩ := Int.gcd_dvd_right u l
  refine ⟨a, b, ha, hb, ?_⟩
  have : 0 < Int.gcd u l := Int.gcd_pos_of_ne_zero_right u hl
  omega
/-- both parts divided by the divisor with the lower one's sign -/
theorem divs {u l : Int} (hl : l ≠ 0) {g : Int} (hg : g = l.sign * Int.gcd u l) : u.fdiv g = (Rat.divInt u l).num ∧ l.fdiv g = ((Rat.divInt u l).den : Int) := by
  obtain ⟨a, b, ha, hb, g0⟩ := sgn_gcd u l hl
  have hc : Int.gcd l u = Int.gcd u l := Int.gcd_comm l u
  rw [Rat.num_divInt, Rat.den_divInt, if_neg hl, hc]
  generalize hG : Int.gcd u l = G at *
  have gn : (G : Int) ≠ 0 := by omega
  have d1 : ∀ c : Int, (G : Int) * c / G = c := fun c => Int.mul_ediv_cancel_left c gn
  have f1 : ∀ c : Int, ((G : Int) * c).fdiv G = c := fun c => Int.mul_fdiv_cancel_left c gn
  rcases Int.lt_or_gt_of_ne hl with h | h
  · have s : l.sign = -1 := Int.sign_eq_neg_one_of_neg h
    rw [s] at hg ⊢
    have hg : g = -(G : Int) := by omega
    have gn' : -(G : Int) ≠ 0 := by omega
    constructor
    · rw [hg, ha, show (G : Int) * a = -(G : Int) * -a from by rw [Int.neg_mul_neg], Int.mul_fdiv_cancel_left _ gn', show -1 * (-(G : Int) * -a) = (G : Int) * -a from by rw [Int.neg_mul, Int.neg_mul, Int.one_mul, Int.neg_neg], d1]
    · have e : l = -(G : Int) * -b := by rw [Int.neg_mul_neg]; exact hb
      have lf : l.fdiv g = -b := by rw [hg, e, Int.mul_fdiv_cancel_left _ gn']
      have e2 : l.natAbs = G * b.natAbs := by rw [hb, Int.natAbs_mul]; rfl
      have gp : 0 < G := by omega
      have bn : b < 0 := by
        have q : b * (G : Int) < 0 := by rw [Int.mul_comm, ← hb]; exact h
        exact Int.neg_of_mul_neg_left q g0
      rw [lf, e2, Nat.mul_div_cancel_left _ gp]
      omega
  · have s : l.sign = 1 := Int.sign_eq_one_of_pos h
    rw [s] at hg ⊢
    have hg : g = (G : Int) := by omega
    constructor
    · rw [hg, ha, f1, Int.one_mul, d1]
    · have e2 : l.natAbs = G * b.natAbs := by rw [hb, Int.natAbs_mul]; rfl
      have gp : 0 < G := by omega
      have bn : 0 < b := by
        have q : 0 < b * (G : Int) := by rw [Int.mul_comm, ← hb]; exact h
        exact Int.pos_of_mul_pos_left q g0
      have lf : l.fdiv g = b := by rw [hg]; conv => lhs; rw [hb]
                                   exact f1 b
      rw [lf, e2, Nat.mul_div_cancel_left _ gp]
      omega
theorem sm_divInt {u l : Int} {b : Nat} (hl : l ≠ 0) (hu : u.natAbs < 2 ^ b) (hb : l.natAbs < 2 ^ b) : Sm b (Rat.divInt u l) := by
  rw [Sm, Rat.num_divInt, Rat.den_divInt, if_neg hl]
  constructor
  · refine Nat.lt_of_le_of_lt (m := u.natAbs) ?_ hu
    have e : (l.sign * u).natAbs ≤ u.natAbs := by
      rw [Int.natAbs_mul]
      rcases Int.lt_or_gt_of_ne hl with h | h
      · rw [Int.sign_eq_neg_one_of_neg h]; simp
      · rw [Int.sign_eq_one_of_pos h]; simp
    refine Nat.le_trans ?_ e
    exact Int.natAbs_ediv_le_natAbs _ _
  · exact Nat.lt_of_le_of_lt (Nat.div_le_self _ _) hb
theorem Sm.mul {b c : Nat} {p q : Rat} (h : Sm b p) (k : Sm c q) : Sm (b + c) (p * q) := by
  rw [Rat.mul_def', ← Rat.divInt_ofNat]
  refine sm_divInt ?_ ?_ ?_
  · have := p.den_nz
    have := q.den_nz
    simp [*]
  · rw [Int.natAbs_mul, Nat.pow_add]
    exact Nat.mul_lt_mul'' h.1 k.1
  · rw [Nat.pow_add]
    exact Nat.mul_lt_mul'' h.2 k.2
theorem Sm.add {b c : Nat} {p q : Rat} (h : Sm b p) (k : Sm c q) : Sm (b + c + 1) (p + q) := by
  rw [Rat.add_def', ← Rat.divInt_ofNat]
  have m : ∀ {x y : Nat}, x < 2 ^ b → y < 2 ^ c → x * y < 2 ^ (b + c) := fun hx hy => by rw [Nat.pow_add]; exact Nat.mul_lt_mul'' hx hy
  refine sm_divInt ?_ ?_ ?_
  · have := p.den_nz
    have := q.den_nz
    simp [*]
  · have e1 : (p.num * q.den).natAbs < 2 ^ (b + c) := by rw [Int.natAbs_mul]; exact m h.1 k.2
    have e2 : (q.num * p.den).natAbs < 2 ^ (b + c) := by rw [Int.natAbs_mul, Nat.mul_comm]; exact m h.2 k.1
    have := Int.natAbs_add_le (p.num * q.den) (q.num * p.den)
    rw [Nat.pow_succ]
    omega
  · have := m h.2 k.2
    rw [Nat.pow_succ]
    show p.den * q.den < _
    omega
theorem Sm.neg {b : Nat} {p : Rat} (h : Sm b p) : Sm b (-p) := by
  rw [Sm, Rat.neg_num, Rat.neg_den, Int.natAbs_neg]; exact h
structure TNum (T : Tab) : Prop where
  number : T "number" = some f_number
  plus : T "plus" = some f_plus
  times : T "times" = some f_times
  minus : T "minus" = some f_minus
section
variable {T : Tab} {n : Nat} {ro rw : MH}
theorem number_run (h : TNum T) (h1 : 1 ≤ n) {u l : Int} (hl : l ≠ 0) (hb : l.natAbs < 2 ^ 9000) : callN T n ro "number" [.int u, .int l] rw = .ok (enc (Rat.divInt u l)) rw := by
  refine call_f h.number h1 rfl (by decide) (fl := .rt _) (fun m _ => ?_) rfl
  have g0 : ¬ (Int.gcd u l : Int) = 0 := by
    have := Int.gcd_pos_of_ne_zero_right u hl
    omega
  have gl : (Int.gcd u l).log2 < 9000 := log_lt (Nat.lt_of_le_of_lt (Int.gcd_le_natAbs_right u hl) hb) (by decide)
  have eg : u.natAbs.gcd l.natAbs = Int.gcd u l := rfl
  by_cases h : 0 < l
  · obtain ⟨e1, e2⟩ := divs hl (g := (Int.gcd u l : Int)) (u := u) (by rw [Int.sign_eq_one_of_pos h, Int.one_mul])
    simp [exSs, exS, evE, evEs, M.bind, M.pure, M.lift, startD, cmpop, isBl, bltop, binop, alloc, h, lineOk, eg, gl, hl, e1, e2, enc]
  · obtain ⟨e1, e2⟩ := divs hl (g := 0 - (Int.gcd u l : Int)) (u := u) (by rw [Int.sign_eq_neg_one_of_neg (by omega)]; omega)
    have g1 : ¬ (0 - (Int.gcd u l : Int)) = 0 := by omega
    have gl' : (0 - (Int.gcd u l : Int)).natAbs.log2 < 9000 := by
      rw [show (0 - (Int.gcd u l : Int)).natAbs = Int.gcd u l by omega]; exact gl
    have gl2 : (-(Int.gcd u l : Int)).natAbs.log2 < 9000 := by simpa using gl
    simp only [Int.zero_sub] at e1 e2
    simp [exSs, exS, evE, evEs, M.bind, M.pure, M.lift, startD, cmpop, isBl, bltop, binop, alloc, h, lineOk, eg, gl, gl2, hl, e1, e2, enc]
theorem plus_run (h : TNum T) (h1 : 2 ≤ n) {p q : Rat} {a b : Nat} {x y : D} (hp : IsQ p x) (hq : IsQ q y) (sp : Sm a p) (sq : Sm b q) (hb : a + b ≤ 8000) : callN T n ro "plus" [x, y] rw = .ok (enc (p + q)) rw := by
  obtain ⟨k, rfl⟩ := hp
  obtain ⟨j, rfl⟩ := hq
  refine call_f h.plus (by omega) rfl (by decide) (fl := .rt _) (fun m hm => ?_) rfl
  have z1 := p.den_nz
  have z2 := q.den_nz
  have s1 := sp.le (c := 8000) (by omega)
  have s2 := sq.le (c := 8000) (by omega)
  have dn : ∀ r : Rat, (r.den : Int).natAbs = r.den := fun r => rfl
  have m1 : mulOk p.num q.den = true := mulOk_of s1.1 (by rw [dn]; exact s2.2) (by decide)
  have m2 : mulOk q.num p.den = true := mulOk_of s2.1 (by rw [dn]; exact s1.2) (by decide)
  have m3 : mulOk p.den q.den = true := mulOk_of (by rw [dn]; exact s1.2) (by rw [dn]; exact s2.2) (by decide)
  have l0 : ((p.den : Int) * q.den) ≠ 0 := by simp [z1, z2]
  have lb : ((p.den : Int) * q.den).natAbs < 2 ^ 9000 := by
    rw [Int.natAbs_mul, dn, dn]
    refine Nat.lt_of_lt_of_le (Nat.mul_lt_mul'' sp.2 sq.2) ?_
    rw [← Nat.pow_add]
    exact Nat.pow_le_pow_right (by decide) (by omega)
  have e := number_run (ro := ro) (rw := rw) h (n := m) (by omega) (u := p.num * q.den + q.num * p.den) l0 lb
  have er : Rat.divInt (p.num * q.den + q.num * p.den) ((p.den : Int) * q.den) = p + q := by
    rw [Rat.add_def', ← Rat.divInt_ofNat]; rfl
  rw [er] at e
  simp [exSs, exS, evE, evEs, M.bind, M.pure, M.lift, startD, binop, subD, dicOf, subI, seqOf, at_0, at_1, argsBy, m1, m2, m3, e]
theorem times_run (h : TNum T) (h1 : 2 ≤ n) {p q : Rat} {a b : Nat} {x y : D} (hp : IsQ p x) (hq : IsQ q y) (sp : Sm a p) (sq : Sm b q) (hb : a + b ≤ 8000) : callN T n ro "times" [x, y] rw = .ok (enc (p * q)) rw := by
  obtain ⟨k, rfl⟩ := hp
  obtain ⟨j, rfl⟩ := hq
  refine call_f h.times (by omega) rfl (by decide) (fl := .rt _) (fun m hm => ?_) rfl
  have z1 := p.den_nz
  have z2 := q.den_nz
  have s1 := sp.le (c := 8000) (by omega)
  have s2 := sq.le (c := 8000) (by omega)
  have dn : ∀ r : Rat, (r.den : Int).natAbs = r.den := fun r => rfl
  have m1 : mulOk p.num q.num = true := mulOk_of s1.1 s2.1 (by decide)
  have m3 : mulOk p.den q.den = true := mulOk_of (by rw [dn]; exact s1.2) (by rw [dn]; exact s2.2) (by decide)
  have l0 : ((p.den : Int) * q.den) ≠ 0 := by simp [z1, z2]
  have lb : ((p.den : Int) * q.den).natAbs < 2 ^ 9000 := by
    rw [Int.natAbs_mul, dn, dn]
    refine Nat.lt_of_lt_of_le (Nat.mul_lt_mul'' sp.2 sq.2) ?_
    rw [← Nat.pow_add]
    exact Nat.pow_le_pow_right (by decide) (by omega)
  have e := number_run (ro := ro) (rw := rw) h (n := m) (by omega) (u := p.num * q.num) l0 lb
  have er : Rat.divInt (p.num * q.num) ((p.den : Int) * q.den) = p * q := by
    rw [Rat.mul_def', ← Rat.divInt_ofNat]; rfl
  rw [er] at e
  simp [exSs, exS, evE, evEs, M.bind, M.pure, M.lift, startD, binop, subD, dicOf, subI, seqOf, at_0, at_1, argsBy, m1, m3, e]
theorem minus_run (h : TNum T) (h1 : 1 ≤ n) {p : Rat} {x : D} (hp : IsQ p x) : callN T n ro "minus" [x] rw = .ok (enc (-p)) rw := by
  obtain ⟨k, rfl⟩ := hp
  refine call_f h.minus h1 rfl (by decide) (fl := .rt _) (fun m hm => ?_) rfl
  simp [exSs, exS, evE, evEs, M.bind, M.pure, M.lift, startD, binop, subD, dicOf, subI, seqOf, at_0, at_1, enc, lineOk]
end
end Mx

set_option Elab.async false
set_option linter.all false
set_option maxRecDepth 100000
set_option maxHeartbeats 1000000
/-! Pa, part B: the law's own numbers. -/
namespace Mx
open PySem
theorem toPy_int {ro rw : MH} (i : Int) : toPy ro rw deep (.int i) = some (.int i) := rfl
theorem eqD_int {ro rw : MH} (i j : Int) : eqD ro rw (.int i) (.int j) = some (decide (i = j)) := by
  unfold eqD
  rw [toPy_int, toPy_int]
  simp [SeqAt.shaped, PyData.canLay0, PyData.depth, PyData.eqv]
  by_cases h : i = j <;> simp [h]
structure TL0 (T : Tab) : Prop where
  common : T "_law_common" = some f__law_common
  no : T "_law_no" = some f__law_no
  plus : T "_law_plus" = some f__law_plus
  times : T "_law_times" = some f__law_times
structure TLaw (T : Tab) : Prop extends TL0 T where
  total : T "_law_total" = some f__law_total
instance {T : Tab} : Coe (TLaw T) (TL0 T) := ⟨TLaw.toTL0⟩
/-- the divisor's steps -/
def gC : ME := .cmp .ne (.nm 1) (.cst (.int 0))
def gB : List MS := [.par [0, 1] [.nm 1, .bin .mod (.blt false .int1 [.nm 0]) (.nm 1)]]
/-- the rest's size and sign -/
theorem fmod_sgn (a : Int) {b : Int} (hb : b ≠ 0) : (a.fmod b).natAbs < b.natAbs ∧ (0 < b → 0 ≤ a.fmod b) ∧ (b < 0 → a.fmod b ≤ 0) := by
  rcases Int.lt_or_gt_of_ne hb with h | h
  · have e : (-a).fmod (-b) = -(a.fmod b) := Int.neg_fmod_neg a b
    have h1 := Int.fmod_nonneg_of_pos (-a) (b := -b) (by omega)
    have h2 := Int.fmod_lt_of_pos (-a) (b := -b) (by omega)
    omega
  · have h1 := Int.fmod_nonneg_of_pos a h
    have h2 := Int.fmod_lt_of_pos a h
    omega
theorem half_pos {b r : Int} (hr : 0 < r) (hb : r < b) : 2 * (b.fmod r) < b := by
  have h2 := Int.fmod_lt_of_pos b hr
  have e : (b - r).fmod r = b.fmod r := Int.sub_fmod_right b r
  have h3 : (b - r).fmod r ≤ b - r := by
    rw [Int.fmod_eq_emod_of_nonneg _ (by omega)]
    have q := Int.emod_add_mul_ediv (b - r) r
    have q2 : 0 ≤ r * ((b - r) / r) := Int.mul_nonneg (by omega) (Int.ediv_nonneg (by omega) (by omega))
    omega
  omega
theorem half_abs {b r : Int} (h : (0 < r ∧ r < b) ∨ (r < 0 ∧ b < r)) : 2 * (b.fmod r).natAbs < b.natAbs := by
  rcases h with ⟨h1, h2⟩ | ⟨h1, h2⟩
  · have := half_pos h1 h2
    have := Int.fmod_nonneg_of_pos b h1
    omega
  · have e : (-b).fmod (-r) = -(b.fmod r) := Int.neg_fmod_neg b r
    have := half_pos (b := -b) (r := -r) (by omega) (by omega)
    have := Int.fmod_nonneg_of_pos (-b) (b := -r) (by omega)
    omega
theorem fmod_gcd (a b : Int) : Int.gcd b (a.fmod b) = Int.gcd a b := by
  have e : a = a.fmod b + b * a.fdiv b := (Int.fmod_add_mul_fdiv a b).symm
  conv => rhs; rw [e]
  rw [Int.gcd_comm]
  simp [Int.gcd_add_mul_left_left]
section
variable {T : Tab} {n : Nat} {ro rw : MH}
theorem gC_run {C : Calls} (a b : Int) : M.bind (evE C ro gC [some (.int a), some (.int b)]) isBl rw = .ok (!decide (b = 0)) rw := by
  simp [gC, evE, M.bind, M.pure, M.lift, cmpop, eqD_int, isBl]
theorem gB_run {C : Calls} (a b : Int) (hb : b ≠ 0) : exSs C ro gB [some (.int a), some (.int b)] rw = .ok (.nx [some (.int b), some (.int (a.fmod b))]) rw := by
  simp [gB, exSs, exS, evE, evEs, M.bind, M.pure, M.lift, bltop, binop, alloc, setAll, hb]
def gW (C : Calls) (ro : MH) (f : Nat) : Sig → M Fl := whileF (fun σ => M.bind (evE C ro gC σ) isBl) (fun σ => exSs C ro gB σ) f
theorem gW_zero {C : Calls} {f : Nat} {a b : Int} (hb : b = 0) : gW C ro (f + 1) [some (.int a), some (.int b)] rw = .ok (.nx [some (.int a), some (.int b)]) rw := by
  unfold gW whileF
  simp only [M.bind]
  have e := gC_run (C := C) (ro := ro) (rw := rw) a b
  unfold M.bind at e
  rw [e]
  simp [hb, M.pure]
theorem gW_step {C : Calls} {f : Nat} {a b : Int} (hb : b ≠ 0) : gW C ro (f + 1) [some (.int a), some (.int b)] rw = gW C ro f [some (.int b), some (.int (a.fmod b))] rw := by
  conv => lhs; unfold gW whileF
  simp only [M.bind]
  have e := gC_run (C := C) (ro := ro) (rw := rw) a b
  unfold M.bind at e
  rw [e]
  simp only [hb, decide_false, Bool.not_false, if_true]
  unfold M.bind
  rw [gB_run a b hb]
  rfl
theorem gW_run {C : Calls} : ∀ (k f : Nat) (a b : Int), b.natAbs < 2 ^ k → 2 * k + 1 ≤ f → ∃ g : Int, g.natAbs = Int.gcd a b ∧ gW C ro f [some (.int a), some (.int b)] rw = .ok (.nx [some (.int g), some (.int 0)]) rw
  | k, 0, a, b, _, h => by omega
  | k, 1, a, b, hb, h => by
    have k0 : k = 0 := by omega
    subst k0
    have b0 : b = 0 := by omega
    exact ⟨a, by rw [b0]; simp, by rw [gW_zero b0, b0]⟩
  | k, f + 2, a, b, hb, h => by
    by_cases b0 : b = 0
    · exact ⟨a, by rw [b0]; simp, by rw [gW_zero b0, b0]⟩
    · obtain ⟨r1, r2, r3⟩ := fmod_sgn a b0
      by_cases r0 : a.fmod b = 0
      · refine ⟨b, ?_, by rw [gW_step b0, gW_zero r0, r0]⟩
        rw [← fmod_gcd, r0]; simp
      · have k1 : 1 ≤ k := by
          rcases Nat.eq_zero_or_pos k with z | z
          · rw [z] at hb; omega
          · exact z
        have hh := half_abs (b := b) (r := a.fmod b) (by omega)
        have hp : (2 : Nat) ^ k = 2 * 2 ^ (k - 1) := by
          obtain ⟨j, rfl⟩ : ∃ j, k = j + 1 := ⟨k - 1, by omega⟩
          rw [Nat.pow_succ, Nat.mul_comm]; rfl
        obtain ⟨g, g1, g2⟩ := gW_run (C := C) (k - 1) f (a.fmod b) (b.fmod (a.fmod b)) (by omega) (by omega)
        refine ⟨g, ?_, by rw [gW_step b0, gW_step r0, g2]⟩
        rw [g1, fmod_gcd, fmod_gcd]
theorem common_run (h : TL0 T) (h1 : 1 ≤ n) {a b : Int} (hb : b.natAbs < 2 ^ 9000) : callN T n ro "_law_common" [.int a, .int b] rw = .ok (.int (Int.gcd a b)) rw := by
  refine call_f h.common h1 rfl (by decide) (fl := .rt _) (fun m _ => ?_) rfl
  obtain ⟨g, g1, g2⟩ := gW_run (C := callN T m) (ro := ro) (rw := rw) 9000 bigN a b hb (by decide)
  have e : exS (callN T m) ro (.whl gC gB) [some (.int a), some (.int b)] rw = .ok (.nx [some (.int g), some (.int 0)]) rw := by
    unfold exS; exact g2
  have e' : exSs (callN T m) ro [.whl gC gB, .ret (some (.blt false .abs [.nm 0]))] [some (.int a), some (.int b)] rw = .ok (.rt (.int (Int.gcd a b))) rw := by
    unfold exSs
    simp only [M.bind, e]
    have : (if g < 0 then -g else g) = (Int.gcd a b : Int) := by rw [← g1]; split <;> omega
    simp [exSs, exS, evE, evEs, M.bind, M.pure, M.lift, bltop, alloc, this]
  exact e'
theorem no_run (h : TL0 T) (h1 : 2 ≤ n) {u l : Int} (hl : l ≠ 0) (hb : l.natAbs < 2 ^ 8999) : callN T n ro "_law_no" [.int u, .int l] rw = .ok (enc (Rat.divInt u l)) rw := by
  refine call_f h.no (by omega) rfl (by decide) (fl := .rt _) (fun m hm => ?_) rfl
  have c := common_run (ro := ro) (rw := rw) h (n := m) (by omega) (a := u) (b := l) (Nat.lt_of_lt_of_le hb (Nat.pow_le_pow_right (by decide) (by decide)))
  have g0 : ¬ (Int.gcd u l : Int) = 0 := by
    have := Int.gcd_pos_of_ne_zero_right u hl
    omega
  have gb : Int.gcd u l < 2 ^ 8999 := Nat.lt_of_le_of_lt (Int.gcd_le_natAbs_right u hl) hb
  have gl : (Int.gcd u l).log2 < 9000 := Nat.lt_succ_of_lt (log_lt gb (by decide))
  have m1 : mulOk (Int.gcd u l) 1 = true := mulOk_of (b := 8999) gb (by
    show 1 < 2 ^ 8999
    exact Nat.one_lt_two_pow (by decide)) (by decide)
  have m2 : mulOk (Int.gcd u l) (-1) = true := mulOk_of (b := 8999) gb (by
    show 1 < 2 ^ 8999
    exact Nat.one_lt_two_pow (by decide)) (by decide)
  by_cases h : 0 < l
  · obtain ⟨e1, e2⟩ := divs hl (g := (Int.gcd u l : Int)) (u := u) (by rw [Int.sign_eq_one_of_pos h, Int.one_mul])
    simp [exSs, exS, evE, evEs, M.bind, M.pure, M.lift, startD, cmpop, isBl, bltop, binop, alloc, argsBy, c, h, lineOk, gl, hl, e1, e2, enc, m1]
  · obtain ⟨e1, e2⟩ := divs hl (g := -(Int.gcd u l : Int)) (u := u) (by rw [Int.sign_eq_neg_one_of_neg (by omega)]; omega)
    have gl2 : (-(Int.gcd u l : Int)).natAbs.log2 < 9000 := by simpa using gl
    simp [exSs, exS, evE, evEs, M.bind, M.pure, M.lift, startD, cmpop, isBl, bltop, binop, alloc, argsBy, c, h, lineOk, gl, gl2, hl, e1, e2, enc, m2]
theorem law_plus_run (h : TL0 T) (h1 : 3 ≤ n) {p q : Rat} {a b : Nat} {x y : D} (hp : IsQ p x) (hq : IsQ q y) (sp : Sm a p) (sq : Sm b q) (hb : a + b ≤ 8000) : callN T n ro "_law_plus" [x, y] rw = .ok (enc (p + q)) rw := by
  obtain ⟨k, rfl⟩ := hp
  obtain ⟨j, rfl⟩ := hq
  refine call_f h.plus (by omega) rfl (by decide) (fl := .rt _) (fun m hm => ?_) rfl
  have z1 := p.den_nz
  have z2 := q.den_nz
  have s1 := sp.le (c := 8000) (by omega)
  have s2 := sq.le (c := 8000) (by omega)
  have dn : ∀ r : Rat, (r.den : Int).natAbs = r.den := fun r => rfl
  have m1 : mulOk p.num q.den = true := mulOk_of s1.1 (by rw [dn]; exact s2.2) (by decide)
  have m2 : mulOk q.num p.den = true := mulOk_of s2.1 (by rw [dn]; exact s1.2) (by decide)
  have m3 : mulOk p.den q.den = true := mulOk_of (by rw [dn]; exact s1.2) (by rw [dn]; exact s2.2) (by decide)
  have l0 : ((p.den : Int) * q.den) ≠ 0 := by simp [z1, z2]
  have lb : ((p.den : Int) * q.den).natAbs < 2 ^ 8999 := by
    rw [Int.natAbs_mul, dn, dn]
    refine Nat.lt_of_lt_of_le (Nat.mul_lt_mul'' sp.2 sq.2) ?_
    rw [← Nat.pow_add]
    exact Nat.pow_le_pow_right (by decide) (by omega)
  have e := no_run (ro := ro) (rw := rw) h (n := m) (by omega) (u := p.num * q.den + q.num * p.den) l0 lb
  have er : Rat.divInt (p.num * q.den + q.num * p.den) ((p.den : Int) * q.den) = p + q := by
    rw [Rat.add_def', ← Rat.divInt_ofNat]; rfl
  rw [er] at e
  simp [exSs, exS, evE, evEs, M.bind, M.pure, M.lift, startD, binop, subD, dicOf, subI, seqOf, at_0, at_1, argsBy, m1, m2, m3, e]
theorem law_times_run (h : TL0 T) (h1 : 3 ≤ n) {p q : Rat} {a b : Nat} {x y : D} (hp : IsQ p x) (hq : IsQ q y) (sp : Sm a p) (sq : Sm b q) (hb : a + b ≤ 8000) : callN T n ro "_law_times" [x, y] rw = .ok (enc (p * q)) rw := by
  obtain ⟨k, rfl⟩ := hp
  obtain ⟨j, rfl⟩ := hq
  refine call_f h.times (by omega) rfl (by decide) (fl := .rt _) (fun m hm => ?_) rfl
  have z1 := p.den_nz
  have z2 := q.den_nz
  have s1 := sp.le (c := 8000) (by omega)
  have s2 := sq.le (c := 8000) (by omega)
  have dn : ∀ r : Rat, (r.den : Int).natAbs = r.den := fun r => rfl
  have m1 : mulOk p.num q.num = true := mulOk_of s1.1 s2.1 (by decide)
  have m3 : mulOk p.den q.den = true := mulOk_of (by rw [dn]; exact s1.2) (by rw [dn]; exact s2.2) (by decide)
  have l0 : ((p.den : Int) * q.den) ≠ 0 := by simp [z1, z2]
  have lb : ((p.den : Int) * q.den).natAbs < 2 ^ 8999 := by
    rw [Int.natAbs_mul, dn, dn]
    refine Nat.lt_of_lt_of_le (Nat.mul_lt_mul'' sp.2 sq.2) ?_
    rw [← Nat.pow_add]
    exact Nat.pow_le_pow_right (by decide) (by omega)
  have e := no_run (ro := ro) (rw := rw) h (n := m) (by omega) (u := p.num * q.num) l0 lb
  have er : Rat.divInt (p.num * q.num) ((p.den : Int) * q.den) = p * q := by
    rw [Rat.mul_def', ← Rat.divInt_ofNat]; rfl
  rw [er] at e
  simp [exSs, exS, evE, evEs, M.bind, M.pure, M.lift, startD, binop, subD, dicOf, subI, seqOf, at_0, at_1, argsBy, m1, m3, e]
end
end Mx

set_option Elab.async false
set_option linter.all false
set_option maxRecDepth 100000
set_option maxHeartbeats 1000000
/-! Pa, part C: loops and comprehensions; the draws. -/
namespace Mx
open PySem
theorem bindM {α β : Type} {x : M α} {f : α → M β} {rw rw' : MH} {a : α} (h : x rw = .ok a rw') : M.bind x f rw = f a rw' := by
  unfold M.bind
  rw [h]
/-! ### loops -/
section
variable {α : Type}
theorem loopL_run {f : D → α → M α} (J : List D → α → MH → Prop) : ∀ (ds done : List D) (a : α) (rw : MH), J done a rw →
    (∀ (pre : List D) (d : D) (post : List D) a rw, pre ++ d :: post = done ++ ds → J pre a rw → ∃ a' rw', f d a rw = .ok a' rw' ∧ J (pre ++ [d]) a' rw') → ∃ a' rw', loopL f ds a rw = .ok a' rw' ∧ J (done ++ ds) a' rw'
  | [], done, a, rw, h, _ => ⟨a, rw, rfl, by simpa using h⟩
  | d :: ds, done, a, rw, h, st => by
    obtain ⟨a1, rw1, e1, h1⟩ := st done d ds a rw rfl h
    obtain ⟨a2, rw2, e2, h2⟩ := loopL_run J ds (done ++ [d]) a1 rw1 h1 fun pre x post b rw' e hb => st pre x post b rw' (by rw [e]; simp) hb
    refine ⟨a2, rw2, ?_, by simpa using h2⟩
    unfold loopL
    simp only [M.bind, e1, e2]
theorem loopF_run {f : D → α → M α} (J : List D → α → MH → Prop) {ds : List D} {a : α} {rw : MH} (h : J [] a rw)
    (st : ∀ (pre : List D) (d : D) (post : List D) a rw, pre ++ d :: post = ds → J pre a rw → ∃ a' rw', f d a rw = .ok a' rw' ∧ J (pre ++ [d]) a' rw') : ∃ a' rw', loopF ds f a rw = .ok a' rw' ∧ J ds a' rw' :=
  loopL_run J ds [] a rw h st
end
section
variable {C : Calls} {ro rw : MH} {σ : Sig}
/-- a comprehension, all that it meets told by J: the items done, the list up to now -/
theorem comp_run {elt : ME} {vs : List Nat} {tg : MG} {it : MT} {s : List D} {rw0 : MH} (J : List D → List D → MH → Prop) (hs : evT C ro it σ rw0 = .ok s rw) (hl : s.length ≤ 16777216) (h : J [] [] rw)
    (st : ∀ (pre : List D) (d : D) (post acc : List D) rw, pre ++ d :: post = s → J pre acc rw → ∃ σ2 y rw', asG tg d (wipeD σ vs) = some σ2 ∧ evE C ro elt σ2 rw = .ok y rw' ∧ J (pre ++ [d]) (acc ++ [y]) rw') :
    ∃ ds rw', evE C ro (.comp false elt vs tg it none) σ rw0 = .ok (.lst ds) rw' ∧ J s ds rw' ∧ ds.length = s.length := by
  obtain ⟨a, rw', e, j⟩ := loopF_run (f := fun d acc => M.bind (M.lift (asG tg d (wipeD σ vs))) fun σ2 => M.bind (evIfs C ro none σ2) fun k => if k then M.bind (evE C ro elt σ2) fun y => stepL acc y else M.pure acc) (fun pre acc rw => J pre acc rw ∧ acc.length = pre.length) (ds := s) (a := []) (rw := rw) ⟨h, rfl⟩ (fun pre d post acc rw e ⟨j, jl⟩ => by
    obtain ⟨σ2, y, rw', h1, h2, h3⟩ := st pre d post acc rw e j
    refine ⟨acc ++ [y], rw', ?_, h3, by simp [jl]⟩
    have : acc.length < 16777216 := by
      have : s.length = pre.length + (post.length + 1) := by rw [← e]; simp
      omega
    simp [M.bind, M.lift, M.pure, h1, evIfs, h2, stepL, this])
  refine ⟨a, rw', ?_, j⟩
  unfold evE
  rw [bindM hs]
  exact (bindM e).trans rfl
/-- .. by values alone -/
theorem comp_map {elt : ME} {vs : List Nat} {tg : MG} {it : MT} {s : List D} {rw0 : MH} (g : D → D) (hs : evT C ro it σ rw0 = .ok s rw) (hl : s.length ≤ 16777216)
    (st : ∀ d ∈ s, ∃ σ2, asG tg d (wipeD σ vs) = some σ2 ∧ evE C ro elt σ2 rw = .ok (g d) rw) : evE C ro (.comp false elt vs tg it none) σ rw0 = .ok (.lst (s.map g)) rw := by
  obtain ⟨ds, rw', e, ⟨j1, j2⟩, _⟩ := comp_run (fun pre acc rw' => acc = pre.map g ∧ rw' = rw) hs hl ⟨rfl, rfl⟩ (fun pre d post acc rw' e ⟨j1, j2⟩ => by
    obtain ⟨σ2, h1, h2⟩ := st d (by rw [← e]; simp)
    exact ⟨σ2, g d, rw', h1, by rw [j2]; exact h2, by rw [j1]; simp, j2⟩)
  rw [e, j1, j2]
/-- .. with a test -/
theorem comp_flt {elt te : ME} {vs : List Nat} {tg : MG} {it : MT} {s : List D} {rw0 : MH} (p : D → Bool) (g : D → D) (hs : evT C ro it σ rw0 = .ok s rw) (hl : s.length ≤ 16777216)
    (st : ∀ d ∈ s, ∃ σ2, asG tg d (wipeD σ vs) = some σ2 ∧ evE C ro te σ2 rw = .ok (.bl (p d)) rw ∧ (p d = true → evE C ro elt σ2 rw = .ok (g d) rw)) : evE C ro (.comp false elt vs tg it (some te)) σ rw0 = .ok (.lst ((s.filter p).map g)) rw := by
  obtain ⟨a, rw', e, ⟨j1, j2⟩, j3⟩ := loopF_run (f := fun d acc => M.bind (M.lift (asG tg d (wipeD σ vs))) fun σ2 => M.bind (evIfs C ro (some te) σ2) fun k => if k then M.bind (evE C ro elt σ2) fun y => stepL acc y else M.pure acc) (fun pre acc rw' => (acc = (pre.filter p).map g ∧ rw' = rw) ∧ acc.length ≤ pre.length) (ds := s) (a := []) (rw := rw) ⟨⟨rfl, rfl⟩, Nat.le_refl _⟩ (fun pre d post acc rw' e ⟨⟨j1, j2⟩, jl⟩ => by
    obtain ⟨σ2, h1, h2, h3⟩ := st d (by rw [← e]; simp)
    have : acc.length < 16777216 := by
      have : s.length = pre.length + (post.length + 1) := by rw [← e]; simp
      omega
    cases hp : p d with
    | false =>
      refine ⟨acc, rw', ?_, ⟨by rw [j1]; simp [hp], j2⟩, by simp; omega⟩
      rw [j2]
      simp [M.bind, M.lift, M.pure, h1, evIfs, h2, hp, isBl]
    | true =>
      refine ⟨acc ++ [g d], rw', ?_, ⟨by rw [j1]; simp [hp], j2⟩, by simp; omega⟩
      rw [j2]
      simp [M.bind, M.lift, M.pure, h1, evIfs, h2, hp, isBl, h3 hp, stepL, this])
  rw [j1, j2] at e
  unfold evE
  rw [bindM hs]
  exact (bindM e).trans rfl
/-- a for loop -/
theorem loop_run {g : MG} {it : MT} {b : List MS} {s : List D} {rw0 : MH} (J : List D → Sig → MH → Prop) (hs : evT C ro it σ rw0 = .ok s rw) (h : J [] σ rw)
    (st : ∀ (pre : List D) (d : D) (post : List D) σ rw, pre ++ d :: post = s → J pre σ rw → ∃ σ1 σ' rw', asG g d σ = some σ1 ∧ (exSs C ro b σ1 rw = .ok (.nx σ') rw' ∨ exSs C ro b σ1 rw = .ok (.ct σ') rw') ∧ J (pre ++ [d]) σ' rw') :
    ∃ σ' rw', exS C ro (.loop g it b) σ rw0 = .ok (.nx σ') rw' ∧ J s σ' rw' := by
  obtain ⟨a, rw', e, σ', rfl, j⟩ := loopF_run (f := turnF fun d σ => M.bind (M.lift (asG g d σ)) fun σ' => exSs C ro b σ') (fun pre a rw => ∃ σ, a = .nx σ ∧ J pre σ rw) (ds := s) (a := .nx σ) (rw := rw) ⟨σ, rfl, h⟩ (fun pre d post a rw e ⟨σ, ea, j⟩ => by
    subst ea
    obtain ⟨σ1, σ', rw', h1, h2, h3⟩ := st pre d post σ rw e j
    rcases h2 with h2 | h2
    · exact ⟨.nx σ', rw', by simp [turnF, M.bind, M.lift, M.pure, h1, h2], σ', rfl, h3⟩
    · exact ⟨.nx σ', rw', by simp [turnF, M.bind, M.lift, M.pure, h1, h2], σ', rfl, h3⟩)
  refine ⟨σ', rw', ?_, j⟩
  unfold exS
  simp only [M.bind, hs, e, M.pure, endF]
theorem ex_nx {s : MS} {ss : List MS} {σ' : Sig} {rw' : MH} (h : exS C ro s σ rw = .ok (.nx σ') rw') : exSs C ro (s :: ss) σ rw = exSs C ro ss σ' rw' := by
  conv => lhs; unfold exSs
  simp only [M.bind, h]
theorem ex_rt {s : MS} {ss : List MS} {d : D} {rw' : MH} (h : exS C ro s σ rw = .ok (.rt d) rw') : exSs C ro (s :: ss) σ rw = .ok (.rt d) rw' := by
  unfold exSs
  simp only [M.bind, h, M.pure]
theorem ex_ct {s : MS} {ss : List MS} {σ' : Sig} {rw' : MH} (h : exS C ro s σ rw = .ok (.ct σ') rw') : exSs C ro (s :: ss) σ rw = .ok (.ct σ') rw' := by
  unfold exSs
  simp only [M.bind, h, M.pure]
theorem es_cons {e : ME} {es : List ME} {d : D} {ds : List D} {rw1 rw2 : MH} (h : evE C ro e σ rw = .ok d rw1) (t : evEs C ro es σ rw1 = .ok ds rw2) : evEs C ro (e :: es) σ rw = .ok (d :: ds) rw2 := by
  unfold evEs
  rw [bindM h, bindM t]; rfl
theorem es_nil : evEs C ro [] σ rw = .ok [] rw := by unfold evEs; rfl
theorem ev_cst {d : D} : evE C ro (.cst d) σ rw = .ok d rw := by unfold evE; rfl
theorem ev_nm {i : Nat} {d : D} (h : σ[i]? = some (some d)) : evE C ro (.nm i) σ rw = .ok d rw := by
  unfold evE
  rw [h]; rfl
theorem ev_call {f : Str} {es : List ME} {dv : List D} {src : List Nat} {ds as : List D} {d : D} {rw1 rw2 : MH} (h : evEs C ro es σ rw = .ok ds rw1) (ha : argsBy src (ds ++ dv) = some as) (hc : C ro f as rw1 = .ok d rw2) : evE C ro (.call f es dv src) σ rw = .ok d rw2 := by
  unfold evE
  rw [bindM h, ha]
  exact hc
theorem ev_blt {b : BI} {es : List ME} {ds : List D} {d : D} {rw1 : MH} (h : evEs C ro es σ rw = .ok ds rw1) (hb : bltop ro rw1 b ds = some d) : evE C ro (.blt false b es) σ rw = .ok d rw1 := by
  unfold evE
  rw [bindM h]
  unfold M.bind
  rw [hb]
  rfl
theorem ev_cmp {op : CO} {a b : ME} {x y : D} {k : Bool} {rw1 rw2 : MH} (ha : evE C ro a σ rw = .ok x rw1) (hb : evE C ro b σ rw1 = .ok y rw2) (hk : cmpop ro rw2 op x y = some k) : evE C ro (.cmp op a b) σ rw = .ok (.bl k) rw2 := by
  unfold evE
  rw [bindM ha, bindM hb, hk]; rfl
theorem ev_bin {op : BO} {a b : ME} {x y z : D} {rw1 rw2 : MH} (ha : evE C ro a σ rw = .ok x rw1) (hb : evE C ro b σ rw1 = .ok y rw2) (hk : binop ro rw2 op x y = some z) : evE C ro (.bin op a b) σ rw = .ok z rw2 := by
  unfold evE
  rw [bindM ha, bindM hb, hk]; rfl
theorem ev_sub {a b : ME} {x y z : D} {rw1 rw2 : MH} (ha : evE C ro a σ rw = .ok x rw1) (hb : evE C ro b σ rw1 = .ok y rw2) (hk : subD ro rw2 x y = some z) : evE C ro (.sub a b) σ rw = .ok z rw2 := by
  unfold evE
  rw [bindM ha, bindM hb, hk]; rfl
theorem ev_not {a : ME} {k : Bool} {rw1 : MH} (ha : evE C ro a σ rw = .ok (.bl k) rw1) : evE C ro (.not a) σ rw = .ok (.bl !k) rw1 := by
  unfold evE
  rw [bindM ha]; rfl
theorem ev_ite {c a b : ME} {k : Bool} {rw1 : MH} (hc : evE C ro c σ rw = .ok (.bl k) rw1) : evE C ro (.ite c a b) σ rw = (if k then evE C ro a σ else evE C ro b σ) rw1 := by
  conv => lhs; unfold evE
  rw [bindM hc]; rfl
theorem ev_iteT {c a b : ME} {d : D} {rw1 rw2 : MH} (hc : evE C ro c σ rw = .ok (.bl true) rw1) (ha : evE C ro a σ rw1 = .ok d rw2) : evE C ro (.ite c a b) σ rw = .ok d rw2 := (ev_ite hc).trans ha
theorem ev_iteF {c a b : ME} {d : D} {rw1 rw2 : MH} (hc : evE C ro c σ rw = .ok (.bl false) rw1) (hb : evE C ro b σ rw1 = .ok d rw2) : evE C ro (.ite c a b) σ rw = .ok d rw2 := (ev_ite hc).trans hb
theorem ev_tup {es : List ME} {ds : List D} {rw1 : MH} (h : evEs C ro es σ rw = .ok ds rw1) (hl : lineOk ds.length = true) : evE C ro (.tup es) σ rw = .ok (.tup true ds) rw1 := by
  unfold evE
  rw [bindM h, if_pos hl]; rfl
theorem ev_lst {es : List ME} {ds : List D} {rw1 : MH} (h : evEs C ro es σ rw = .ok ds rw1) (hl : lineOk ds.length = true) : evE C ro (.lst false es) σ rw = .ok (.lst ds) rw1 := by
  unfold evE
  rw [bindM h, if_pos hl]; rfl
theorem ev_and1 {e : ME} {k : Bool} {rw1 : MH} (h : evE C ro e σ rw = .ok (.bl k) rw1) : evAnd C ro [e] σ rw = .ok k rw1 := by
  unfold evAnd
  rw [bindM h]; rfl
theorem ev_andT {e e2 : ME} {es : List ME} {k : Bool} {rw1 rw2 : MH} (h : evE C ro e σ rw = .ok (.bl true) rw1) (t : evAnd C ro (e2 :: es) σ rw1 = .ok k rw2) : evAnd C ro (e :: e2 :: es) σ rw = .ok k rw2 := by
  conv => lhs; unfold evAnd
  rw [bindM h]
  exact t
theorem ev_andF {e e2 : ME} {es : List ME} {rw1 : MH} (h : evE C ro e σ rw = .ok (.bl false) rw1) : evAnd C ro (e :: e2 :: es) σ rw = .ok false rw1 := by
  unfold evAnd
  rw [bindM h]; rfl
theorem ev_and {es : List ME} {k : Bool} {rw1 : MH} (h : evAnd C ro es σ rw = .ok k rw1) : evE C ro (.and es) σ rw = .ok (.bl k) rw1 := by
  unfold evE
  rw [bindM h]; rfl
theorem ev_or1 {e : ME} {k : Bool} {rw1 : MH} (h : evE C ro e σ rw = .ok (.bl k) rw1) : evOr C ro [e] σ rw = .ok k rw1 := by
  unfold evOr
  rw [bindM h]; rfl
theorem ev_orF {e e2 : ME} {es : List ME} {k : Bool} {rw1 rw2 : MH} (h : evE C ro e σ rw = .ok (.bl false) rw1) (t : evOr C ro (e2 :: es) σ rw1 = .ok k rw2) : evOr C ro (e :: e2 :: es) σ rw = .ok k rw2 := by
  conv => lhs; unfold evOr
  rw [bindM h]
  exact t
theorem ev_orT {e e2 : ME} {es : List ME} {rw1 : MH} (h : evE C ro e σ rw = .ok (.bl true) rw1) : evOr C ro (e :: e2 :: es) σ rw = .ok true rw1 := by
  unfold evOr
  rw [bindM h]; rfl
theorem ev_or {es : List ME} {k : Bool} {rw1 : MH} (h : evOr C ro es σ rw = .ok k rw1) : evE C ro (.or es) σ rw = .ok (.bl k) rw1 := by
  unfold evE
  rw [bindM h]; rfl
theorem ev_isa {e : ME} {cs : List Ty} {x : D} {t : Ty} {rw1 : MH} (h : evE C ro e σ rw = .ok x rw1) (ht : tyOf ro rw1 x = some t) : evE C ro (.isa e cs) σ rw = .ok (.bl (cs.any (isaB t))) rw1 := by
  unfold evE
  rw [bindM h, ht]; rfl
theorem ev_is {e : ME} {cs : List Ty} {x : D} {k : Bool} (t : Ty) {rw1 : MH} (h : evE C ro e σ rw = .ok x rw1) (ht : tyOf ro rw1 x = some t) (hk : cs.any (isaB t) = k) : evE C ro (.isa e cs) σ rw = .ok (.bl k) rw1 := by
  rw [← hk]; exact ev_isa h ht
/-- a call of a def that hands nothing back -/
theorem call_n {T : Tab} {f : Str} {np ns : Nat} {body : List MS} (hT : T f = some ⟨np, ns, false, body⟩) {n : Nat} {rw' : MH} {as : List D} (h1 : 1 ≤ n) (hl : as.length = np) (hn : np ≤ ns)
    (h : ∀ m, m + 1 = n → exSs (callN T m) ro body (startD ns as) rw = .ok (.nx (startD ns as)) rw') : callN T n ro f as rw = .ok .non rw' := call_f hT h1 hl hn (fl := .nx _) h rfl
theorem sub_0 {k : Bool} {a : D} {r : List D} : subD ro rw (.tup k (a :: r)) (.int 0) = some a := at_0 a r
theorem sub_1 {k : Bool} {a b : D} {r : List D} : subD ro rw (.tup k (a :: b :: r)) (.int 1) = some b := at_1 a b r
theorem ex_set {i : Nat} {e : ME} {d : D} {rw1 : MH} (h : evE C ro e σ rw = .ok d rw1) (hi : i < σ.length) : exS C ro (.set i e) σ rw = .ok (.nx (σ.set i (some d))) rw1 := by
  unfold exS
  rw [bindM h, if_pos hi]; rfl
theorem ex_par {is : List Nat} {es : List ME} {ds : List D} {σ' : Sig} {rw1 : MH} (h : evEs C ro es σ rw = .ok ds rw1) (hs : setAll is ds σ = some σ') : exS C ro (.par is es) σ rw = .ok (.nx σ') rw1 := by
  unfold exS
  rw [bindM h, hs]; rfl
theorem ex_ret {e : ME} {d : D} {rw1 : MH} (h : evE C ro e σ rw = .ok d rw1) : exS C ro (.ret (some e)) σ rw = .ok (.rt d) rw1 := by
  unfold exS
  rw [bindM h]; rfl
theorem ex_ex {e : ME} {d : D} {rw1 : MH} (h : evE C ro e σ rw = .ok d rw1) : exS C ro (.ex e) σ rw = .ok (.nx σ) rw1 := by
  unfold exS
  rw [bindM h]; rfl
theorem ex_ite {c : ME} {a b : List MS} {k : Bool} {rw1 : MH} (h : evE C ro c σ rw = .ok (.bl k) rw1) : exS C ro (.ite c a b) σ rw = (if k then exSs C ro a σ else exSs C ro b σ) rw1 := by
  conv => lhs; unfold exS
  rw [bindM h]; rfl
theorem ex_iteT {c : ME} {a b : List MS} {r : Res Fl} {rw1 : MH} (h : evE C ro c σ rw = .ok (.bl true) rw1) (ha : exSs C ro a σ rw1 = r) : exS C ro (.ite c a b) σ rw = r := (ex_ite h).trans ha
/-- a test that is not met, nothing behind it -/
theorem ex_iteF {c : ME} {a : List MS} {rw1 : MH} (h : evE C ro c σ rw = .ok (.bl false) rw1) : exS C ro (.ite c a []) σ rw = .ok (.nx σ) rw1 := by
  rw [ex_ite h]
  simp only [Bool.false_eq_true, if_false]
  unfold exSs; rfl
end
end Mx

set_option Elab.async false
set_option linter.all false
set_option maxRecDepth 100000
set_option maxHeartbeats 1000000
/-! Pa, part D: the draws. -/
namespace Mx
open PySem
/-- the state's dict -/
def stL (g c r t : D) : List (L2.Key × D) := [(.inr (Str.ofString "great"), g), (.inr (Str.ofString "cells"), c), (.inr (Str.ofString "rest"), r), (.inr (Str.ofString "turn"), t)]
theorem k_great (g c r t : D) : kget (stL g c r t) (.inr (Str.ofString "great")) = some g := by kernel_rfl
theorem k_cells (g c r t : D) : kget (stL g c r t) (.inr (Str.ofString "cells")) = some c := by kernel_rfl
theorem k_rest (g c r t : D) : kget (stL g c r t) (.inr (Str.ofString "rest")) = some r := by kernel_rfl
theorem k_turn (g c r t : D) : kget (stL g c r t) (.inr (Str.ofString "turn")) = some t := by kernel_rfl
theorem p_rest (g c r t x : D) : kput (stL g c r t) (.inr (Str.ofString "rest")) x = stL g c x t := by kernel_rfl
theorem p_turn (g c r t x : D) : kput (stL g c r t) (.inr (Str.ofString "turn")) x = stL g c r x := by kernel_rfl
def stRw (gs cs : List Int) (r u : Int) (tl : MH) : MH := .lst (gs.map .int) :: .dK (stL (.ref 0) (.lst (cs.map .int)) (.int r) (.int u)) :: tl
/-- the state of the draws: at most t turns, tl behind it -/
def St (t : Nat) (tl rw : MH) : Prop := ∃ (gs cs : List Int) (r u : Int), rw = stRw gs cs r u tl ∧ 0 ≤ u ∧ u ≤ t
theorem St.le {t t' : Nat} {tl rw : MH} (h : St t tl rw) (l : t ≤ t') : St t' tl rw := by
  obtain ⟨gs, cs, r, u, h1, h2, h3⟩ := h
  exact ⟨gs, cs, r, u, h1, h2, by omega⟩
structure TDraw (T : Tab) : Prop where
  begun : T "_law_begun" = some f__law_begun
  mixed : T "_law_mixed" = some f__law_mixed
  draw : T "_law_draw" = some f__law_draw
  pick : T "_law_pick" = some f__law_pick
  number : T "_law_some_number" = some f__law_some_number
section
variable {T : Tab} {n : Nat} {tl : MH} {C : Calls}
theorem sub_great (gs cs : List Int) (r u : Int) : subD [] (stRw gs cs r u tl) (.ref 1) (.str (Str.ofString "great")) = some (.ref 0) := by
  simp [subD, dicOf, getO, stRw, dget, keyOf, k_great]
theorem sub_cells (gs cs : List Int) (r u : Int) : subD [] (stRw gs cs r u tl) (.ref 1) (.str (Str.ofString "cells")) = some (.lst (cs.map .int)) := by
  simp [subD, dicOf, getO, stRw, dget, keyOf, k_cells]
theorem sub_rest (gs cs : List Int) (r u : Int) : subD [] (stRw gs cs r u tl) (.ref 1) (.str (Str.ofString "rest")) = some (.int r) := by
  simp [subD, dicOf, getO, stRw, dget, keyOf, k_rest]
theorem sub_turn (gs cs : List Int) (r u : Int) : subD [] (stRw gs cs r u tl) (.ref 1) (.str (Str.ofString "turn")) = some (.int u) := by
  simp [subD, dicOf, getO, stRw, dget, keyOf, k_turn]
theorem up_rest (gs cs : List Int) (r u x : Int) : upO [] 1 (putO (.str (Str.ofString "rest")) (.int x)) (stRw gs cs r u tl) = .ok () (stRw gs cs x u tl) := by
  simp [upO, stRw, putO, keyOf, p_rest, stL]
  exact p_rest _ _ _ _ _
theorem up_turn (gs cs : List Int) (r u x : Int) : upO [] 1 (putO (.str (Str.ofString "turn")) (.int x)) (stRw gs cs r u tl) = .ok () (stRw gs cs r x tl) := by
  simp [upO, stRw, putO, keyOf, p_turn, stL]
  exact p_turn _ _ _ _ _
def mxIn : List MS := [.set 4 (.bin .mod (.blt false .int1 [.bin .add (.bin .add (.bin .mul (.nm 4) (.cst (.int 48271))) (.nm 5)) (.nm 2)]) (.nm 1))]
theorem fmod_rng (a : Int) {p : Int} (hp : 0 < p) : 0 ≤ a.fmod p ∧ a.fmod p < p := ⟨Int.fmod_nonneg_of_pos a hp, Int.fmod_lt_of_pos a hp⟩
theorem ok_small {i j : Int} (hi : i.natAbs < 2 ^ 400) (hj : j.natAbs < 2 ^ 400) : mulOk i j = true := mulOk_of hi hj (by decide)
/-- the inner loop -/
theorem mix_in {gs cs : List Int} {r u : Int} {p fd b0 : Int} {x5 : Option D} (hp : 0 < p) (hp2 : p < 2 ^ 32) (hb : 0 ≤ b0) (hb2 : b0 < 2 ^ 60) :
    ∃ b x5', exS C [] (.loop (.nm 5) (.seq (.sub (.nm 0) (.cst (.str (Str.ofString "cells"))))) mxIn) [some (.ref 1), some (.int p), some (.int u), some (.int fd), some (.int b0), x5] (stRw gs cs r u tl) = .ok (.nx [some (.ref 1), some (.int p), some (.int u), some (.int fd), some (.int b), x5']) (stRw gs cs r u tl) ∧ 0 ≤ b ∧ b < 2 ^ 60 := by
  obtain ⟨σ', rw', e, b, x5', rfl, rfl, h1, h2⟩ := loop_run (C := C) (ro := []) (g := .nm 5) (it := .seq (.sub (.nm 0) (.cst (.str (Str.ofString "cells"))))) (b := mxIn) (s := cs.map .int) (rw := stRw gs cs r u tl) (rw0 := stRw gs cs r u tl) (σ := [some (.ref 1), some (.int p), some (.int u), some (.int fd), some (.int b0), x5])
    (fun _ σ rw => ∃ b x5', σ = [some (.ref 1), some (.int p), some (.int u), some (.int fd), some (.int b), x5'] ∧ rw = stRw gs cs r u tl ∧ 0 ≤ b ∧ b < 2 ^ 60)
    (by simp [evT, evE, M.bind, M.lift, M.pure, sub_cells, srcOf]) ⟨b0, x5, rfl, rfl, hb, hb2⟩ (fun pre d post σ rw e ⟨b, x5', e1, e2, h1, h2⟩ => by
      subst e1
      subst e2
      have hd : d ∈ cs.map D.int := by rw [← e]; simp
      obtain ⟨i, _, rfl⟩ := List.mem_map.mp hd
      have m1 : mulOk b 48271 = true := ok_small (by omega) (by decide)
      have p0 : ¬ p = 0 := by omega
      have rg := fmod_rng (b * 48271 + i + u) hp
      refine ⟨_, [some (.ref 1), some (.int p), some (.int u), some (.int fd), some (.int ((b * 48271 + i + u).fmod p)), some (.int i)], stRw gs cs r u tl, rfl, .inl ?_, _, _, rfl, rfl, rg.1, by omega⟩
      simp [mxIn, exSs, exS, evE, evEs, M.bind, M.lift, M.pure, binop, m1, bltop, alloc, p0])
  exact ⟨b, x5', e, h1, h2⟩
def mxOut : List MS := [.set 4 (.bin .add (.bin .mul (.cst (.int 69621)) (.nm 2)) (.bin .fdiv (.nm 1) (.cst (.int 41)))), .loop (.nm 5) (.seq (.sub (.nm 0) (.cst (.str (Str.ofString "cells"))))) mxIn, .set 3 (.bin .add (.bin .mul (.nm 3) (.cst (.int 2147483659))) (.bin .mod (.blt false .int1 [.bin .pow (.nm 4) (.cst (.int 5))]) (.nm 1)))]
/-- one prime -/
theorem mix_one {gs cs : List Int} {r u : Int} {p fd : Int} {x4 x5 : Option D} (hu : 0 ≤ u) (hu2 : u ≤ 2 ^ 40) (hp : 0 < p) (hp2 : p < 2 ^ 31) (hf : 0 ≤ fd) (hf2 : fd < 2 ^ 200) :
    ∃ fd' x4' x5', exSs C [] mxOut [some (.ref 1), some (.int p), some (.int u), some (.int fd), x4, x5] (stRw gs cs r u tl) = .ok (.nx [some (.ref 1), some (.int p), some (.int u), some (.int fd'), x4', x5']) (stRw gs cs r u tl) ∧ 0 ≤ fd' ∧ fd' ≤ fd * 2147483659 + 2 ^ 31 := by
  have m1 : mulOk 69621 u = true := ok_small (by decide) (by omega)
  have m2 : mulOk fd 2147483659 = true := ok_small (by omega) (by decide)
  have l41 : Nat.log2 41 < 9000 := by decide
  have d0 : 0 ≤ p.fdiv 41 ∧ p.fdiv 41 ≤ 2 ^ 31 := by
    rw [Int.fdiv_eq_ediv_of_nonneg _ (by decide)]
    omega
  obtain ⟨b, x5', e, h1, h2⟩ := mix_in (C := C) (tl := tl) (gs := gs) (cs := cs) (r := r) (u := u) (p := p) (fd := fd) (b0 := 69621 * u + p.fdiv 41) (x5 := x5) hp (by omega) (by omega) (by omega)
  have p0 : ¬ p = 0 := by omega
  have rg := fmod_rng (b ^ 5) hp
  have b64 : b.natAbs < 18446744073709551616 := by omega
  refine ⟨fd * 2147483659 + (b ^ 5).fmod p, some (.int b), x5', ?_, by omega, by omega⟩
  rw [mxOut, ex_nx (σ' := [some (.ref 1), some (.int p), some (.int u), some (.int fd), some (.int (69621 * u + p.fdiv 41)), x5]) (rw' := stRw gs cs r u tl) (by simp [exS, evE, M.bind, M.lift, M.pure, binop, m1, l41]), ex_nx e]
  simp [exSs, exS, evE, evEs, M.bind, M.lift, M.pure, binop, m2, bltop, alloc, p0, b64]
theorem mixed_run (h : TDraw T) (h1 : 1 ≤ n) {gs cs : List Int} {r u : Int} (hu : 0 ≤ u) (hu2 : u < 2 ^ 40) : ∃ v : Int, callN T n [] "_law_mixed" [.ref 1] (stRw gs cs r u tl) = .ok (.int v) (stRw gs cs r (u + 1) tl) := by
  obtain ⟨m, rfl⟩ : ∃ m, n = m + 1 := ⟨n - 1, by omega⟩
  have w : ∀ p : Int, p ∈ ([2147483629, 2147483587, 2147483579, 2147483563] : List Int) → 0 < p ∧ p < 2 ^ 31 := by decide
  obtain ⟨σ', rw', e, fd, x1, x4, x5, rfl, rfl, hf⟩ := loop_run (C := callN T m) (ro := []) (g := .nm 1) (it := .seq (.lst false [.cst (.int 2147483629), .cst (.int 2147483587), .cst (.int 2147483579), .cst (.int 2147483563)])) (b := mxOut) (s := [.int 2147483629, .int 2147483587, .int 2147483579, .int 2147483563]) (rw := stRw gs cs r (u + 1) tl) (rw0 := stRw gs cs r (u + 1) tl) (σ := [some (.ref 1), none, some (.int (u + 1)), some (.int 0), none, none])
    (fun pre σ rw => ∃ fd x1 x4 x5, σ = [some (.ref 1), x1, some (.int (u + 1)), some (.int fd), x4, x5] ∧ rw = stRw gs cs r (u + 1) tl ∧ 0 ≤ fd ∧ fd < 2 ^ (40 * pre.length + 1))
    (by simp [evT, evE, evEs, M.bind, M.lift, M.pure, alloc, srcOf, lineOk]) ⟨0, none, none, none, rfl, rfl, by decide, by decide⟩ (fun pre d post σ rw e ⟨fd, x1, x4, x5, e1, e2, f1, f2⟩ => by
      subst e1
      subst e2
      have hd : d ∈ ([.int 2147483629, .int 2147483587, .int 2147483579, .int 2147483563] : List D) := by rw [← e]; simp
      have hl : pre.length ≤ 3 := by
        have := congrArg List.length e
        simp at this
        omega
      have hd' : ∃ p : Int, d = .int p ∧ 0 < p ∧ p < 2 ^ 31 := by
        simp only [List.mem_cons, List.not_mem_nil, or_false] at hd
        rcases hd with rfl | rfl | rfl | rfl <;> exact ⟨_, rfl, by decide, by decide⟩
      obtain ⟨p, rfl, p1, p2⟩ := hd'
      have f3 : fd < 2 ^ 200 := by
        have : (2 : Int) ^ (40 * pre.length + 1) ≤ 2 ^ 200 := by
          have : (2 : Nat) ^ (40 * pre.length + 1) ≤ 2 ^ 200 := Nat.pow_le_pow_right (by decide) (by omega)
          exact_mod_cast this
        omega
      obtain ⟨fd', x4', x5', e3, f4, f5⟩ := mix_one (C := callN T m) (tl := tl) (gs := gs) (cs := cs) (r := r) (u := u + 1) (p := p) (fd := fd) (x4 := x4) (x5 := x5) (by omega) (by omega) p1 p2 f1 f3
      refine ⟨_, _, _, rfl, .inl e3, fd', some (.int p), x4', x5', rfl, rfl, f4, ?_⟩
      have g : (2 : Int) ^ (40 * (pre ++ [D.int p]).length + 1) = 2 ^ (40 * pre.length + 1) * 2 ^ 40 := by
        rw [← Int.pow_add]
        congr 1
        simp
        omega
      rw [g]
      omega)
  refine ⟨fd, call_f h.mixed (by omega) rfl (by decide) (fl := .rt (.int fd)) (fun m' hm => ?_) rfl⟩
  obtain rfl : m' = m := by omega
  rw [ex_nx (σ' := [some (.ref 1), none, some (.int (u + 1)), some (.int 0), none, none]) (rw' := stRw gs cs r u tl) (by simp [exS, evE, evEs, M.bind, M.lift, M.pure, sub_turn, binop, setAll, startD]),
    ex_nx (σ' := [some (.ref 1), none, some (.int (u + 1)), some (.int 0), none, none]) (rw' := stRw gs cs r (u + 1) tl) (by simp [exS, evE, M.bind, M.lift, M.pure, refOf, up_turn])]
  refine (ex_nx e).trans ?_
  simp [exSs, exS, evE, M.bind, M.lift, M.pure]
theorem mapM_ints {ro rw : MH} {k : Nat} : ∀ gs : List Int, (gs.map D.int).mapM (toPy ro rw (k + 1)) = some (gs.map PyData.int)
  | [] => rfl
  | g :: gs => by
    rw [List.map_cons, List.mapM_cons, mapM_ints gs]
    rfl
theorem shaped_ints (gs : List Int) : SeqAt.shaped (.list (gs.map PyData.int)) = true := by
  have c : ∀ gs : List Int, PyData.canLayAll0 (gs.map PyData.int) = true := fun gs => by
    induction gs with
    | nil => rfl
    | cons g gs ih => rw [List.map_cons, PyData.canLayAll0, ih]; rfl
  have d : ∀ gs : List Int, PyData.depthAll (gs.map PyData.int) = 0 := fun gs => by
    induction gs with
    | nil => rfl
    | cons g gs ih => rw [List.map_cons, PyData.depthAll, ih]; rfl
  unfold SeqAt.shaped
  rw [PyData.canLay0, c, PyData.depth, d]
  rfl
theorem great_empty (gs cs : List Int) (r u : Int) : eqD [] (stRw gs cs r u tl) (.ref 0) (.lst []) = some (gs.isEmpty) := by
  have e1 : toPy [] (stRw gs cs r u tl) deep (.ref 0) = some (.list (gs.map .int)) := by
    unfold deep toPy
    simp only [getO, List.nil_append, stRw, List.getElem?_cons_zero]
    rw [mapM_ints]; rfl
  have e2 : toPy [] (stRw gs cs r u tl) deep (.lst []) = some (.list []) := rfl
  unfold eqD
  rw [e1, e2]
  have s2 : SeqAt.shaped (.list []) = true := shaped_ints []
  cases gs with
  | nil => simp [s2, PyData.eqv, PyData.eqvAll]
  | cons g gs =>
    have s1 := shaped_ints (g :: gs)
    simp only [s1, s2, Bool.and_self, if_true]
    rfl
/-- a number from 0 to room - 1 -/
theorem draw_run (h : TDraw T) (h1 : 2 ≤ n) {t : Nat} {rw : MH} {room : Int} (hs : St t tl rw) (ht : t < 2 ^ 40) (h0 : 0 < room) (hr : room < 2 ^ 60) : ∃ (v : Int) (rw' : MH), callN T n [] "_law_draw" [.ref 1, .int room] rw = .ok (.int v) rw' ∧ St (t + 1) tl rw' ∧ 0 ≤ v ∧ v < room := by
  obtain ⟨gs, cs, r, u, rfl, u1, u2⟩ := hs
  obtain ⟨m, rfl⟩ : ∃ m, n = m + 1 := ⟨n - 1, by omega⟩
  have r0 : ¬ room = 0 := by omega
  have lr : room.natAbs.log2 < 9000 := Nat.lt_of_lt_of_le (log_lt (k := 60) (by omega) (by decide)) (by decide)
  -- behind the first statement
  have first : ∃ (gs' : List Int) (r' u' : Int), 0 ≤ u' ∧ u' ≤ u + 1 ∧ exS (callN T m) [] (.ite (.cmp .eq (.sub (.nm 0) (.cst (.str (Str.ofString "rest")))) (.cst (.int 0))) [.put (.nm 0) (.cst (.str (Str.ofString "rest"))) (.ite (.cmp .ne (.sub (.nm 0) (.cst (.str (Str.ofString "great")))) (.lst false [])) (.popAt (.sub (.nm 0) (.cst (.str (Str.ofString "great")))) (.cst (.int 0))) (.call (Str.ofString "_law_mixed") [.nm 0] [] [0]))] [])
      [some (.ref 1), some (.int room), none] (stRw gs cs r u tl) = .ok (.nx [some (.ref 1), some (.int room), none]) (stRw gs' cs r' u' tl) := by
    by_cases hr0 : r = 0
    · cases gs with
      | nil =>
        obtain ⟨v, e⟩ := mixed_run (tl := tl) h (n := m) (by omega) (gs := []) (cs := cs) (r := r) u1 (by omega)
        refine ⟨[], v, u + 1, by omega, by omega, ?_⟩
        have hne : evE (callN T m) [] (.cmp .ne (.sub (.nm 0) (.cst (.str (Str.ofString "great")))) (.lst false [])) [some (.ref 1), some (.int room), none] (stRw [] cs r u tl) = .ok (.bl false) (stRw [] cs r u tl) := by
          simp [evE, evEs, M.bind, M.lift, M.pure, sub_great, alloc, lineOk, cmpop, great_empty]
        have hite : evE (callN T m) [] (.ite (.cmp .ne (.sub (.nm 0) (.cst (.str (Str.ofString "great")))) (.lst false [])) (.popAt (.sub (.nm 0) (.cst (.str (Str.ofString "great")))) (.cst (.int 0))) (.call (Str.ofString "_law_mixed") [.nm 0] [] [0])) [some (.ref 1), some (.int room), none] (stRw [] cs r u tl) = .ok (.int v) (stRw [] cs r (u + 1) tl) := by
          unfold evE
          rw [bindM hne, bindM (show isBl (.bl false) _ = .ok false _ from rfl)]
          simp [evE, evEs, M.bind, M.lift, M.pure, argsBy, e]
        have hput : exS (callN T m) [] (.put (.nm 0) (.cst (.str (Str.ofString "rest"))) (.ite (.cmp .ne (.sub (.nm 0) (.cst (.str (Str.ofString "great")))) (.lst false [])) (.popAt (.sub (.nm 0) (.cst (.str (Str.ofString "great")))) (.cst (.int 0))) (.call (Str.ofString "_law_mixed") [.nm 0] [] [0]))) [some (.ref 1), some (.int room), none] (stRw [] cs r u tl) = .ok (.nx [some (.ref 1), some (.int room), none]) (stRw [] cs v (u + 1) tl) := by
          unfold exS
          rw [bindM hite]
          simp [evE, M.bind, M.lift, M.pure, refOf, up_rest]
        have hc : evE (callN T m) [] (.cmp .eq (.sub (.nm 0) (.cst (.str (Str.ofString "rest")))) (.cst (.int 0))) [some (.ref 1), some (.int room), none] (stRw [] cs r u tl) = .ok (.bl true) (stRw [] cs r u tl) := by
          simp [evE, M.bind, M.lift, M.pure, sub_rest, cmpop, eqD_int, hr0]
        unfold exS
        rw [bindM hc, bindM (show isBl (.bl true) _ = .ok true _ from rfl)]
        simp only [if_true]
        rw [ex_nx hput]
        rfl
      | cons g gs =>
        refine ⟨gs, g, u, u1, by omega, ?_⟩
        have hpop : upO [] 0 (fun _ => some (.lst ((g :: gs).map D.int |>.eraseIdx 0))) (stRw (g :: gs) cs r u tl) = .ok () (stRw gs cs r u tl) := by
          simp [upO, stRw]
        have hg : getO [] (stRw (g :: gs) cs r u tl) 0 = some (.lst ((g :: gs).map D.int)) := by simp [getO, stRw]
        have hix : L2.ixN ((g :: gs).map D.int).length 0 = some 0 := by simp [L2.ixN]
        have hpop' : evE (callN T m) [] (.popAt (.sub (.nm 0) (.cst (.str (Str.ofString "great")))) (.cst (.int 0))) [some (.ref 1), some (.int room), none] (stRw (g :: gs) cs r u tl) = .ok (.int g) (stRw gs cs r u tl) := by
          simp only [evE, M.bind, M.lift, M.pure, sub_great, List.getElem?_cons_zero, Option.bind_some, id, chkL, lstOf, hg, refOf, intPart]
          simp only [hix]
          have h63 : (decide (-(2 : Int) ^ 63 ≤ 0) && decide ((0 : Int) < 2 ^ 63)) = true := by decide
          simp only [h63, if_true, List.map_cons, List.getElem?_cons_zero]
          have hpop2 := hpop
          simp only [List.map_cons] at hpop2
          rw [hpop2]
        have hne : evE (callN T m) [] (.cmp .ne (.sub (.nm 0) (.cst (.str (Str.ofString "great")))) (.lst false [])) [some (.ref 1), some (.int room), none] (stRw (g :: gs) cs r u tl) = .ok (.bl true) (stRw (g :: gs) cs r u tl) := by
          simp [evE, evEs, M.bind, M.lift, M.pure, sub_great, alloc, lineOk, cmpop, great_empty]
        have hite : evE (callN T m) [] (.ite (.cmp .ne (.sub (.nm 0) (.cst (.str (Str.ofString "great")))) (.lst false [])) (.popAt (.sub (.nm 0) (.cst (.str (Str.ofString "great")))) (.cst (.int 0))) (.call (Str.ofString "_law_mixed") [.nm 0] [] [0])) [some (.ref 1), some (.int room), none] (stRw (g :: gs) cs r u tl) = .ok (.int g) (stRw gs cs r u tl) := by
          unfold evE
          rw [bindM hne, bindM (show isBl (.bl true) _ = .ok true _ from rfl)]
          exact hpop'
        have hput : exS (callN T m) [] (.put (.nm 0) (.cst (.str (Str.ofString "rest"))) (.ite (.cmp .ne (.sub (.nm 0) (.cst (.str (Str.ofString "great")))) (.lst false [])) (.popAt (.sub (.nm 0) (.cst (.str (Str.ofString "great")))) (.cst (.int 0))) (.call (Str.ofString "_law_mixed") [.nm 0] [] [0]))) [some (.ref 1), some (.int room), none] (stRw (g :: gs) cs r u tl) = .ok (.nx [some (.ref 1), some (.int room), none]) (stRw gs cs g u tl) := by
          unfold exS
          rw [bindM hite]
          simp [evE, M.bind, M.lift, M.pure, refOf, up_rest]
        have hc : evE (callN T m) [] (.cmp .eq (.sub (.nm 0) (.cst (.str (Str.ofString "rest")))) (.cst (.int 0))) [some (.ref 1), some (.int room), none] (stRw (g :: gs) cs r u tl) = .ok (.bl true) (stRw (g :: gs) cs r u tl) := by
          simp [evE, M.bind, M.lift, M.pure, sub_rest, cmpop, eqD_int, hr0]
        unfold exS
        rw [bindM hc, bindM (show isBl (.bl true) _ = .ok true _ from rfl)]
        simp only [if_true]
        rw [ex_nx hput]
        rfl
    · exact ⟨gs, r, u, u1, by omega, by simp [exS, exSs, evE, M.bind, M.lift, M.pure, sub_rest, cmpop, eqD_int, hr0, isBl]⟩
  obtain ⟨gs', r', u', w1, w2, e⟩ := first
  have rg := fmod_rng r' h0
  refine ⟨r'.fmod room, stRw gs' cs (r'.fdiv room) u' tl, call_f h.draw (by omega) rfl (by decide) (fl := .rt _) (fun m' hm => ?_) rfl, ⟨gs', cs, _, u', rfl, w1, by omega⟩, rg.1, rg.2⟩
  obtain rfl : m' = m := by omega
  refine (ex_nx (σ' := [some (.ref 1), some (.int room), none]) (rw' := stRw gs' cs r' u' tl) e).trans ?_
  simp [exSs, exS, evE, evEs, M.bind, M.lift, M.pure, sub_rest, bltop, alloc, binop, r0, lr, refOf, up_rest]
/-- one of some -/
theorem pick_run (h : TDraw T) (h1 : 3 ≤ n) {t : Nat} {rw : MH} {xs : List D} (hs : St t tl rw) (ht : t < 2 ^ 40) (h0 : 0 < xs.length) (hr : xs.length < 2 ^ 20) : ∃ (d : D) (rw' : MH), callN T n [] "_law_pick" [.ref 1, .lst xs] rw = .ok d rw' ∧ St (t + 1) tl rw' ∧ d ∈ xs := by
  obtain ⟨m, rfl⟩ : ∃ m, n = m + 1 := ⟨n - 1, by omega⟩
  obtain ⟨v, rw', e, s', v0, v1⟩ := draw_run h (n := m) (by omega) hs ht (room := xs.length) (by omega) (by omega)
  obtain ⟨k, rfl⟩ : ∃ k : Nat, v = k := ⟨v.toNat, by omega⟩
  have hk : k < xs.length := by omega
  refine ⟨xs[k], rw', call_f h.pick (by omega) rfl (by decide) (fl := .rt _) (fun m' hm => ?_) rfl, s', List.getElem_mem hk⟩
  obtain rfl : m' = m := by omega
  simp [exSs, exS, evE, evEs, M.bind, M.lift, M.pure, startD, bltop, dicOf, seqOf, alloc, argsBy, e, subD, subI, at_nat, hk]
/-- a small number -/
theorem some_number_run (h : TDraw T) (hl : TL0 T) (h1 : 4 ≤ n) {t : Nat} {rw : MH} (hs : St t tl rw) (ht : t + 1 < 2 ^ 40) : ∃ (q : Rat) (rw' : MH), callN T n [] "_law_some_number" [.ref 1, .int 3] rw = .ok (enc q) rw' ∧ St (t + 2) tl rw' ∧ Sm 2 q := by
  obtain ⟨m, rfl⟩ : ∃ m, n = m + 1 := ⟨n - 1, by omega⟩
  obtain ⟨v, rw1, e1, s1, v0, v1⟩ := draw_run h (n := m) (by omega) hs (by omega) (room := 7) (by decide) (by decide)
  obtain ⟨d, rw2, e2, s2, hd⟩ := pick_run h (n := m) (by omega) (xs := [.int 1, .int 1, .int 1, .int 1, .int 2, .int 3]) s1 ht (by decide) (by decide)
  have hd' : ∃ l : Int, d = .int l ∧ 0 < l ∧ l ≤ 3 := by
    simp only [List.mem_cons, List.not_mem_nil, or_false] at hd
    rcases hd with rfl | rfl | rfl | rfl | rfl | rfl <;> exact ⟨_, rfl, by decide, by decide⟩
  obtain ⟨l, rfl, l0, l3⟩ := hd'
  have e3 := no_run (ro := []) (rw := rw2) hl (n := m) (by omega) (u := v - 3) (l := l) (by omega) (Nat.lt_of_lt_of_le (show l.natAbs < 2 ^ 2 by omega) (Nat.pow_le_pow_right (by decide) (by decide)))
  refine ⟨Rat.divInt (v - 3) l, rw2, call_f h.number (by omega) rfl (by decide) (fl := .rt _) (fun m' hm => ?_) rfl, s2, sm_divInt (by omega) (by omega) (by omega)⟩
  obtain rfl : m' = m := by omega
  have m1 : mulOk 2 3 = true := ok_small (by decide) (by decide)
  simp [exSs, exS, evE, evEs, M.bind, M.lift, M.pure, startD, binop, m1, argsBy, e1, lineOk, alloc, e2, e3]
def absI (i : Int) : Int := if i < 0 then -i else i
def bgE : ME := .bin .sub (.blt false .abs [.nm 2]) (.bin .pow (.cst (.int 10)) (.cst (.int 18)))
def bgT : ME := .cmp .ge (.blt false .abs [.nm 2]) (.bin .pow (.cst (.int 10)) (.cst (.int 18)))
theorem bgE_run {x1 : Option D} {sc : D} {i : Int} {rw : MH} : evE C [] bgE [some sc, x1, some (.int i)] rw = .ok (.int (absI i - 10 ^ 18)) rw := by
  simp [bgE, evE, evEs, M.bind, M.lift, M.pure, bltop, alloc, binop, absI]
theorem bgT_run {x1 : Option D} {sc : D} {i : Int} {rw : MH} : evE C [] bgT [some sc, x1, some (.int i)] rw = .ok (.bl (decide (1000000000000000000 ≤ absI i))) rw := by
  exact ev_cmp (x := .int (absI i)) (y := .int 1000000000000000000) (ev_blt (es_cons (ev_nm rfl) es_nil) rfl) (ev_bin ev_cst ev_cst rfl) rfl
/-- the state begun -/
theorem begun_run (h : TDraw T) (h1 : 1 ≤ n) (ns : List Int) (hn : ns.length ≤ 63) : ∃ rw', callN T n [] "_law_begun" [.scr ns] [] = .ok (.ref 1) rw' ∧ St 0 [] rw' := by
  obtain ⟨m, rfl⟩ : ∃ m, n = m + 1 := ⟨n - 1, by omega⟩
  obtain ⟨a, rw', e, gs, rfl, hg⟩ := loopF_run (f := fun d (_ : Unit) => M.bind (M.lift (asG (.nm 2) d (wipeD [some (.scr ns), none, none] [2]))) fun σ2 => M.bind (evIfs (callN T m) [] (some bgT) σ2) fun k => if k then M.bind (evE (callN T m) [] bgE σ2) fun y => upO [] 0 (appO y) else M.pure ()) (fun pre _ rw => ∃ gs : List Int, rw = [.lst (gs.map .int)] ∧ gs.length ≤ pre.length) (ds := ns.map .int) (a := ()) (rw := [.lst []]) ⟨[], rfl, Nat.le_refl _⟩ (fun pre d post a rw e ⟨gs, e1, hg⟩ => by
    subst e1
    have hd : d ∈ ns.map D.int := by rw [← e]; simp
    obtain ⟨i, _, rfl⟩ := List.mem_map.mp hd
    have hl : pre.length < 63 := by
      have := congrArg List.length e
      simp at this
      omega
    have es : asG (.nm 2) (.int i) (wipeD [some (.scr ns), none, none] [2]) = some [some (.scr ns), none, some (.int i)] := rfl
    by_cases c : 1000000000000000000 ≤ absI i
    · refine ⟨(), [.lst ((gs ++ [absI i - 10 ^ 18]).map .int)], ?_, _, rfl, by simp; omega⟩
      rw [bindM (show M.lift (asG (.nm 2) (.int i) (wipeD [some (.scr ns), none, none] [2])) _ = .ok [some (.scr ns), none, some (.int i)] _ from by rw [es]; rfl), bindM (show evIfs (callN T m) [] (some bgT) _ _ = .ok true _ from by
        unfold evIfs
        rw [bindM bgT_run, decide_eq_true c]; rfl)]
      simp only [if_true]
      rw [bindM bgE_run]
      have : gs.length < 16777216 := by omega
      simp [upO, appO, this]
    · refine ⟨(), [.lst (gs.map .int)], ?_, gs, rfl, by simp; omega⟩
      rw [bindM (show M.lift (asG (.nm 2) (.int i) (wipeD [some (.scr ns), none, none] [2])) _ = .ok [some (.scr ns), none, some (.int i)] _ from by rw [es]; rfl), bindM (show evIfs (callN T m) [] (some bgT) _ _ = .ok false _ from by
        unfold evIfs
        rw [bindM bgT_run, decide_eq_false c]; rfl)]
      rfl)
  have hc : evE (callN T m) [] (.comp true bgE [2] (.nm 2) (.seq (.nm 0)) (some bgT)) [some (.scr ns), none, none] [] = .ok (.ref 0) [.lst (gs.map .int)] := by
    unfold evE
    rw [bindM (show evT (callN T m) [] (.seq (.nm 0)) [some (.scr ns), none, none] [] = .ok (ns.map .int) [] from by simp [evT, evE, M.bind, M.lift, M.pure, srcOf])]
    simp only [if_true]
    rw [bindM (show alloc [] true (.lst []) [] = .ok (.ref 0) [.lst []] from rfl), bindM (show M.lift (refOf (.ref 0)) [.lst []] = .ok 0 [.lst []] from rfl), bindM e]
    rfl
  have hc2 : evE (callN T m) [] (.comp false (.blt false .abs [.nm 2]) [2] (.nm 2) (.seq (.nm 0)) none) [some (.scr ns), some (.ref 0), none] [.lst (gs.map .int)] = .ok (.lst (((ns.map D.int).map fun d => match d with | .int i => .int (absI i) | d => d))) [.lst (gs.map .int)] := by
    refine comp_map _ (rw := [.lst (gs.map .int)]) (s := ns.map .int) (by simp [evT, evE, M.bind, M.lift, M.pure, srcOf]) (by simp; omega) fun d hd => ?_
    obtain ⟨i, _, rfl⟩ := List.mem_map.mp hd
    exact ⟨[some (.scr ns), some (.ref 0), some (.int i)], rfl, by simp [evE, evEs, M.bind, M.lift, M.pure, bltop, alloc, absI]⟩
  have hm : ((ns.map D.int).map fun d => match d with | .int i => D.int (absI i) | d => d) = (ns.map absI).map D.int := by
    rw [List.map_map, List.map_map]; rfl
  rw [hm] at hc2
  have hz : evE (callN T m) [] (.dct true [.cst (.str (Str.ofString "great")), .nm 1, .cst (.str (Str.ofString "cells")), .comp false (.blt false .abs [.nm 2]) [2] (.nm 2) (.seq (.nm 0)) none, .cst (.str (Str.ofString "rest")), .cst (.int 0), .cst (.str (Str.ofString "turn")), .cst (.int 0)]) [some (.scr ns), some (.ref 0), none] [.lst (gs.map .int)] = .ok (.ref 1) (stRw gs (ns.map absI) 0 0 []) := by
    unfold evE
    rw [bindM (show evEs (callN T m) [] _ _ _ = .ok [.str (Str.ofString "great"), .ref 0, .str (Str.ofString "cells"), .lst ((ns.map absI).map .int), .str (Str.ofString "rest"), .int 0, .str (Str.ofString "turn"), .int 0] [.lst (gs.map .int)] from
      es_cons ev_cst (es_cons (ev_nm rfl) (es_cons ev_cst (es_cons hc2 (es_cons ev_cst (es_cons ev_cst (es_cons ev_cst (es_cons ev_cst es_nil))))))))]
    have ek : allK [(D.str (Str.ofString "great"), .ref 0), (.str (Str.ofString "cells"), .lst ((ns.map absI).map .int)), (.str (Str.ofString "rest"), .int 0), (.str (Str.ofString "turn"), .int 0)] = some (stL (.ref 0) (.lst ((ns.map absI).map .int)) (.int 0) (.int 0)) := rfl
    have em : mergeD [] (stL (.ref 0) (.lst ((ns.map absI).map .int)) (.int 0) (.int 0)) = stL (.ref 0) (.lst ((ns.map absI).map .int)) (.int 0) (.int 0) := by kernel_rfl
    simp only [List.length_cons, List.length_nil, pairUp, Option.map_some, Option.bind_some, ek, em]
    rfl
  refine ⟨stRw gs (ns.map absI) 0 0 [], call_f h.begun (by omega) rfl (by decide) (fl := .rt (.ref 1)) (fun m' hm' => ?_) rfl, gs, _, 0, 0, rfl, by decide, by decide⟩
  obtain rfl : m' = m := by omega
  refine (ex_nx (σ' := [some (.scr ns), some (.ref 0), none]) (rw' := [.lst (gs.map .int)]) ?_).trans (ex_rt ?_)
  · show exS _ _ (.set 1 (.comp true bgE [2] (.nm 2) (.seq (.nm 0)) (some bgT))) [some (.scr ns), none, none] [] = _
    unfold exS
    rw [bindM hc]
    rfl
  · unfold exS
    rw [bindM hz]
    rfl
end
end Mx

set_option Elab.async false
set_option linter.all false
set_option maxRecDepth 100000
set_option maxHeartbeats 1000000
/-! Pa, part E: what is told is just what is due. -/
namespace Mx
open PySem
/-! ### texts -/
mutual
/-- of wholes that are not great, texts, truths, None -/
def nice : PyData → Bool
  | .none | .bool _ => true
  | .int i => decide (i.natAbs.log2 < 1920)
  | .str x => PyData.canLay0 (.str x) && PyData.canLay0 (.str (reprText x))
  | .list xs | .tuple xs => niceAll xs
  | .dict _ => false
def niceAll : List PyData → Bool
  | [] => true
  | x :: xs => nice x && niceAll xs
end
mutual
/-- how long its text is at most -/
def wt : PyData → Nat
  | .none | .bool _ => 5
  | .int _ => 1921
  | .str x => (reprText x).length
  | .list xs | .tuple xs => wtAll xs + 4
  | .dict _ => 0
def wtAll : List PyData → Nat
  | [] => 0
  | x :: xs => wt x + 2 + wtAll xs
end
def sOk (x : Str) : Bool := PyData.canLay0 (.str x)
theorem sOk_append {x y : Str} (hx : sOk x = true) (hy : sOk y = true) : sOk (x ++ y) = true := by
  simp only [sOk, PyData.canLay0, PyData.strOk] at *
  show (x.cps ++ y.cps).all _ = true
  rw [Array.all_append, hx, hy]; rfl
theorem sOk_of (s : String) : sOk (Str.ofString s) = true := by
  simp only [sOk, PyData.canLay0, PyData.strOk]
  rw [Str.ofString_eq_toList]
  simp only [List.all_toArray, List.all_map, List.all_eq_true, Function.comp, decide_eq_true_eq]
  intro c _
  have h := c.valid
  simp only [UInt32.isValidChar, Nat.isValidChar] at h
  have : c.toNat = c.val.toNat := rfl
  omega
theorem sOk_textFrom : ∀ (ts : List Str) (k : Nat) (acc : Str), sOk acc = true → (∀ t ∈ ts, sOk t = true) → sOk (textFrom k acc ts) = true
  | [], _, _, h, _ => h
  | t :: ts, k, acc, h, ht => by
    unfold textFrom
    refine sOk_textFrom ts _ _ (sOk_append (sOk_append h ?_) (ht t List.mem_cons_self)) fun x hx => ht x (List.mem_cons_of_mem _ hx)
    split <;> decide +kernel
theorem sOk_join : ∀ ts : List Str, (∀ t ∈ ts, sOk t = true) → sOk (Str.join ", " ts) = true
  | [], _ => by decide +kernel
  | [x], h => h x List.mem_cons_self
  | x :: y :: r, h => by
    show sOk (x ++ ", " ++ Str.join ", " (y :: r)) = true
    exact sOk_append (sOk_append (h x List.mem_cons_self) (by decide +kernel)) (sOk_join (y :: r) fun t ht => h t (List.mem_cons_of_mem _ ht))
theorem textFrom_le : ∀ (ts : List Str) (k : Nat) (acc : Str), (textFrom k acc ts).length ≤ acc.length + (ts.map fun t => t.length + 2).sum
  | [], _, _ => by simp [textFrom]
  | t :: ts, k, acc => by
    unfold textFrom
    have ih := textFrom_le ts (k + 1) (acc ++ (if k > 0 then ", " else "" : String) ++ t)
    have e : (acc ++ (if k > 0 then ", " else "" : String) ++ t).length ≤ acc.length + 2 + t.length := by
      rw [strLen_append, strLen_append]
      have : (Str.ofString (if k > 0 then ", " else "" : String)).length ≤ 2 := by split <;> decide +kernel
      omega
    simp only [List.map_cons, List.sum_cons]
    omega
theorem join_le : ∀ ts : List Str, (Str.join ", " ts).length ≤ (ts.map fun t => t.length + 2).sum
  | [] => by decide +kernel
  | [x] => by show x.length ≤ _; simp
  | x :: y :: r => by
    have ih := join_le (y :: r)
    show (x ++ ", " ++ Str.join ", " (y :: r)).length ≤ _
    have e2 : ((", " : String) : Str).length = 2 := rfl
    rw [strLen_append, strLen_append, e2]
    simp only [List.map_cons, List.sum_cons] at ih ⊢
    omega
theorem nice_cons {x : PyData} {xs : List PyData} (h : niceAll (x :: xs) = true) : nice x = true ∧ niceAll xs = true := by
  rw [niceAll] at h
  exact Bool.and_eq_true_iff.mp h
mutual
theorem shown_ok : ∀ p : PyData, nice p = true → sOk p.shown = true ∧ p.shown.length ≤ wt p
  | .none, _ => by rw [PyData.shown, wt]; decide +kernel
  | .bool b, _ => by rw [PyData.shown, wt]; cases b <;> decide +kernel
  | .int i, h => by
    rw [nice] at h
    rw [PyData.shown, wt]
    exact ⟨sOk_of _, PyProof.Rows.int_text_len_1921 (of_decide_eq_true h)⟩
  | .str x, h => by
    rw [nice] at h
    rw [PyData.shown, wt]
    exact ⟨(Bool.and_eq_true_iff.mp h).2, Nat.le_refl _⟩
  | .list xs, h => by
    rw [nice] at h
    obtain ⟨h1, h2⟩ := shownAll_ok xs h
    rw [PyData.shown, wt, listText]
    refine ⟨sOk_append (sOk_textFrom _ _ _ (by decide +kernel) h1) (by decide +kernel), ?_⟩
    have := textFrom_le (PyData.shownAll xs) 0 "["
    have e1 : (Str.ofString "[").length = 1 := by decide +kernel
    have e2 : (Str.ofString "]").length = 1 := by decide +kernel
    rw [strLen_append, e2]
    rw [e1] at this
    omega
  | .tuple xs, h => by
    rw [nice] at h
    obtain ⟨h1, h2⟩ := shownAll_ok xs h
    rw [PyData.shown, wt, tupleText]
    refine ⟨sOk_append (sOk_append (by decide +kernel) (sOk_join _ h1)) (by split <;> decide +kernel), ?_⟩
    have := join_le (PyData.shownAll xs)
    have e1 : (Str.ofString "(").length = 1 := by decide +kernel
    have e2 : (Str.ofString (if (PyData.shownAll xs).length == 1 then ",)" else ")" : String)).length ≤ 2 := by split <;> decide +kernel
    rw [strLen_append, strLen_append, e1]
    omega
  | .dict _, h => by rw [nice] at h; cases h
theorem shownAll_ok : ∀ xs : List PyData, niceAll xs = true → (∀ t ∈ PyData.shownAll xs, sOk t = true) ∧ ((PyData.shownAll xs).map fun t => t.length + 2).sum ≤ wtAll xs
  | [], _ => by rw [PyData.shownAll, wtAll]; simp
  | x :: xs, h => by
    obtain ⟨h1, h2⟩ := nice_cons h
    obtain ⟨a1, a2⟩ := shown_ok x h1
    obtain ⟨b1, b2⟩ := shownAll_ok xs h2
    rw [PyData.shownAll, wtAll]
    refine ⟨fun t ht => ?_, ?_⟩
    · rcases List.mem_cons.mp ht with rfl | ht
      · exact a1
      · exact b1 t ht
    · simp only [List.map_cons, List.sum_cons]
      omega
end
mutual
theorem nice_lay : ∀ p : PyData, nice p = true → p.canLay0 = true ∧ p.showable = true ∧ p.hasDict = false
  | .none, _ => by rw [PyData.canLay0, PyData.showable, PyData.hasDict]; simp
  | .bool b, _ => by rw [PyData.canLay0, PyData.showable, PyData.hasDict]; simp
  | .int i, h => by
    rw [nice] at h
    rw [PyData.canLay0, PyData.showable, PyData.hasDict]
    exact ⟨rfl, h, rfl⟩
  | .str x, h => by
    rw [nice] at h
    rw [PyData.showable, PyData.hasDict]
    exact ⟨(Bool.and_eq_true_iff.mp h).1, rfl, rfl⟩
  | .list xs, h => by
    rw [nice] at h
    rw [PyData.canLay0, PyData.showable, PyData.hasDict]
    exact niceAll_lay xs h
  | .tuple xs, h => by
    rw [nice] at h
    rw [PyData.canLay0, PyData.showable, PyData.hasDict]
    exact niceAll_lay xs h
  | .dict _, h => by rw [nice] at h; cases h
theorem niceAll_lay : ∀ xs : List PyData, niceAll xs = true → PyData.canLayAll0 xs = true ∧ PyData.showableAll xs = true ∧ PyData.hasDictAll xs = false
  | [], _ => by rw [PyData.canLayAll0, PyData.showableAll, PyData.hasDictAll]; simp
  | x :: xs, h => by
    obtain ⟨h1, h2⟩ := nice_cons h
    obtain ⟨a1, a2, a3⟩ := nice_lay x h1
    obtain ⟨b1, b2, b3⟩ := niceAll_lay xs h2
    rw [PyData.canLayAll0, PyData.showableAll, PyData.hasDictAll, a1, a2, a3, b1, b2, b3]
    simp
end
/-! ### plain values -/
inductive PlainD : Nat → D → Prop
  | non {k : Nat} : PlainD k .non
  | bl {k : Nat} (b : Bool) : PlainD k (.bl b)
  | int {k : Nat} (i : Int) : PlainD k (.int i)
  | str {k : Nat} (s : Str) : PlainD k (.str s)
  | tup {k : Nat} {b : Bool} {xs : List D} : (∀ x ∈ xs, PlainD k x) → xs.length ≤ 16777216 → PlainD (k + 1) (.tup b xs)
  | lst {k : Nat} {xs : List D} : (∀ x ∈ xs, PlainD k x) → xs.length ≤ 16777216 → PlainD (k + 1) (.lst xs)
structure TIs (T : Tab) : Prop where
  plain : T "_law_plain" = some f__law_plain
  is_ : T "_law_is" = some f__law_is
theorem eqD_of {ro rw : MH} {d e : D} {p q : PyData} (hd : toPy ro rw deep d = some p) (he : toPy ro rw deep e = some q) (sp : SeqAt.shaped p = true) (sq : SeqAt.shaped q = true) : eqD ro rw d e = some (PyData.eqv p q) := by
  unfold eqD
  rw [hd, he]
  simp only [sp, sq, Bool.and_self, if_true]
theorem eqv_refl {p : PyData} (h : SeqAt.shaped p = true) : PyData.eqv p p = true := by
  unfold SeqAt.shaped at h
  exact SeqAt.eqv_refl p (Bool.and_eq_true_iff.mp h).1
theorem nil_eq {ro rw : MH} : eqD ro rw (.lst []) (.lst []) = some true := by
  rw [eqD_of (p := .list []) (q := .list []) rfl rfl (shaped_ints []) (shaped_ints [])]
  rw [eqv_refl (p := .list []) (shaped_ints [])]
section
variable {T : Tab} {ro rw : MH}
theorem plain_seq (h : TIs T) {n : Nat} {xs : List D} (d : D) (hs : srcOf d = some xs) (ht : tyOf ro rw d = some .tup ∨ tyOf ro rw d = some .lst) (hl : xs.length ≤ 16777216) (ih : ∀ x ∈ xs, callN T n ro "_law_plain" [x] rw = .ok (.bl true) rw) : callN T (n + 1) ro "_law_plain" [d] rw = .ok (.bl true) rw := by
  refine call_f h.plain (by omega) rfl (by decide) (fl := .rt (.bl true)) (fun m hm => ?_) rfl
  obtain rfl : m = n := by omega
  have e1 : evE (callN T m) ro (.isa (.nm 0) [.lst, .tup]) [some d, none] rw = .ok (.bl true) rw := by
    rcases ht with ht | ht
    · exact ev_isa (ev_nm rfl) ht
    · exact ev_isa (ev_nm rfl) ht
  have e2 : evE (callN T m) ro (.comp false (.cst (.int 1)) [1] (.nm 1) (.seq (.nm 0)) (some (.not (.call (Str.ofString "_law_plain") [.nm 1] [] [0])))) [some d, none] rw = .ok (.lst []) rw := by
    have q := comp_flt (C := callN T m) (ro := ro) (σ := [some d, none]) (rw := rw) (rw0 := rw) (elt := .cst (.int 1)) (te := .not (.call (Str.ofString "_law_plain") [.nm 1] [] [0])) (vs := [1]) (tg := .nm 1) (it := .seq (.nm 0)) (s := xs) (fun _ => false) id (by
      unfold evT
      rw [bindM (ev_nm (d := d) rfl), hs]; rfl) hl (fun x hx => ⟨[some d, some x], rfl, ev_not (k := true) (ev_call (es_cons (ev_nm rfl) es_nil) rfl (ih x hx)), fun z => by cases z⟩)
    have z : xs.filter (fun _ => false) = [] := List.filter_eq_nil_iff.mpr (by simp)
    rw [z] at q
    exact q
  refine ex_rt ((ex_ite e1).trans ?_)
  exact ex_rt (ex_ret (ev_cmp e2 (ev_lst es_nil rfl) (nil_eq (ro := ro) (rw := rw))))
theorem plain_leaf (h : TIs T) {n : Nat} (d : D) {t : Ty} (ht : tyOf ro rw d = some t) (c1 : [Ty.lst, Ty.tup].any (isaB t) = false) (c2 : [Ty.dic].any (isaB t) = false) (c3 : isNone d = true ∨ [Ty.int, Ty.str].any (isaB t) = true) : callN T (n + 1) ro "_law_plain" [d] rw = .ok (.bl true) rw := by
  refine call_f h.plain (by omega) rfl (by decide) (fl := .rt (.bl true)) (fun m hm => ?_) rfl
  obtain rfl : m = n := by omega
  have e1 : evE (callN T m) ro (.isa (.nm 0) [.lst, .tup]) [some d, none] rw = .ok (.bl false) rw := by
    have q := ev_isa (C := callN T m) (cs := [.lst, .tup]) (ev_nm (σ := [some d, none]) (i := 0) (C := callN T m) rfl) ht
    rw [c1] at q; exact q
  have e2 : evE (callN T m) ro (.isa (.nm 0) [.dic]) [some d, none] rw = .ok (.bl false) rw := by
    have q := ev_isa (C := callN T m) (cs := [.dic]) (ev_nm (σ := [some d, none]) (i := 0) (C := callN T m) rfl) ht
    rw [c2] at q; exact q
  refine (ex_nx (ex_iteF e1)).trans ((ex_nx (ex_iteF e2)).trans (ex_rt (ex_ret (ev_or ?_))))
  have e3 : evE (callN T m) ro (.cmp .is_ (.nm 0) (.cst .non)) [some d, none] rw = .ok (.bl (isNone d)) rw := ev_cmp (ev_nm rfl) ev_cst rfl
  have e4 : evE (callN T m) ro (.isa (.nm 0) [.int, .str]) [some d, none] rw = .ok (.bl ([Ty.int, Ty.str].any (isaB t))) rw := ev_isa (ev_nm rfl) ht
  cases hn : isNone d with
  | true => rw [hn] at e3; exact ev_orT e3
  | false =>
    rw [hn] at e3
    rcases c3 with c3 | c3
    · rw [hn] at c3; cases c3
    · rw [c3] at e4; exact ev_orF e3 (ev_or1 e4)
theorem plain_run (h : TIs T) : ∀ (k n : Nat) (d : D), PlainD k d → k + 1 ≤ n → callN T n ro "_law_plain" [d] rw = .ok (.bl true) rw
  | k, 0, d, _, hn => by omega
  | k, n + 1, d, hd, hn => by
    cases hd with
    | non => exact plain_leaf h .non (t := .non) rfl rfl rfl (.inl rfl)
    | bl b => exact plain_leaf h (.bl b) (t := .bl) rfl rfl rfl (.inr rfl)
    | int i => exact plain_leaf h (.int i) (t := .int) rfl rfl rfl (.inr rfl)
    | str s => exact plain_leaf h (.str s) (t := .str) rfl rfl rfl (.inr rfl)
    | @tup k b xs hx hl => exact plain_seq h _ (xs := xs) rfl (.inl rfl) hl fun x hm => plain_run h k n x (hx x hm) (by omega)
    | @lst k xs hx hl => exact plain_seq h _ (xs := xs) rfl (.inr rfl) hl fun x hm => plain_run h k n x (hx x hm) (by omega)
/-- just what is due -/
theorem is_run (h : TIs T) {n k : Nat} {d e : D} {p : PyData} (hk : k + 2 ≤ n) (pl : PlainD k d) (hd : toPy ro rw deep d = some p) (he : toPy ro rw deep e = some p) (np : nice p = true) (dp : p.depth ≤ 64) (wp : wt p ≤ 16777216) : callN T n ro "_law_is" [d, e] rw = .ok (.bl true) rw := by
  obtain ⟨n, rfl⟩ : ∃ m, n = m + 1 := ⟨n - 1, by omega⟩
  refine call_f h.is_ (by omega) rfl (by decide) (fl := .rt (.bl true)) (fun m hm => ?_) rfl
  obtain rfl : m = n := by omega
  obtain ⟨l1, l2, l3⟩ := nice_lay p np
  obtain ⟨s1, s2⟩ := shown_ok p np
  have sh : SeqAt.shaped p = true := by
    unfold SeqAt.shaped
    rw [l1, decide_eq_true dp]; rfl
  have eq1 : eqD ro rw d e = some true := by rw [eqD_of hd he sh sh, eqv_refl sh]
  have eq2 : eqD ro rw e d = some true := by rw [eqD_of he hd sh sh, eqv_refl sh]
  have ln : lineOk p.shown.length = true := decide_eq_true (Nat.le_trans s2 wp)
  have rp : ∀ x : D, toPy ro rw deep x = some p → bltop ro rw .repr [x] = some (.str p.shown) := fun x hx => by
    show (match toPy ro rw deep x with
      | some p => if (p.showable && !p.hasDict && lineOk p.shown.length && decide (p.depth ≤ 64)) = true then some (D.str p.shown) else none
      | none => none) = _
    rw [hx]
    simp only [l2, l3, ln, Bool.not_false, Bool.and_self, decide_eq_true dp, if_true]
  have shs : SeqAt.shaped (.str p.shown) = true := by
    unfold SeqAt.shaped
    rw [show (PyData.str p.shown).canLay0 = true from s1]
    rfl
  have eq3 : eqD ro rw (.str p.shown) (.str p.shown) = some true := by
    rw [eqD_of (p := .str p.shown) (q := .str p.shown) rfl rfl shs shs, eqv_refl shs]
  refine ex_rt (ex_ret (ev_and (ev_andT (ev_call (es_cons (ev_nm rfl) es_nil) rfl (plain_run h k m d pl (by omega))) (ev_andT (ev_cmp (ev_nm rfl) (ev_nm rfl) eq1) (ev_andT (ev_cmp (ev_nm rfl) (ev_nm rfl) eq2) (ev_and1 (ev_cmp (ev_blt (es_cons (ev_nm rfl) es_nil) (rp d hd)) (ev_blt (es_cons (ev_nm rfl) es_nil) (rp e he)) eq3)))))))
end
end Mx

set_option Elab.async false
set_option linter.all false
set_option maxRecDepth 100000
set_option maxHeartbeats 1000000
/-! Pa, part F: lots. -/
namespace Mx
open PySem
/-- a lot -/
def eL (l : List Int) : D := .tup true (l.map .int)
def addLots (x : Int) (found : List (List Int)) : List (List Int) := found ++ found.map fun l => l ++ [x]
def lotsI (xs : List Int) : List (List Int) := isort (lenLex ltInt) (xs.foldl (fun f x => addLots x f) [[]])
def upto (m : Nat) : List Int := (List.range m).map fun (i : Nat) => (i : Int)
/-- the lots of m axes -/
def lots (m : Nat) : List (List Int) := lotsI (upto m)
theorem lots_0 : lots 0 = [[]] := by decide +kernel
theorem lots_1 : lots 1 = [[], [0]] := by decide +kernel
theorem lots_2 : lots 2 = [[], [0], [1], [0, 1]] := by decide +kernel
theorem lots_3 : lots 3 = [[], [0], [1], [2], [0, 1], [0, 2], [1, 2], [0, 1, 2]] := by decide +kernel
theorem lots_4 : lots 4 = [[], [0], [1], [2], [3], [0, 1], [0, 2], [0, 3], [1, 2], [1, 3], [2, 3], [0, 1, 2], [0, 1, 3], [0, 2, 3], [1, 2, 3], [0, 1, 2, 3]] := by decide +kernel
theorem m_cases {m : Nat} {P : Nat → Prop} (h : m ≤ 4) (h0 : P 0) (h1 : P 1) (h2 : P 2) (h3 : P 3) (h4 : P 4) : P m := by
  match m, h with
  | 0, _ => exact h0
  | 1, _ => exact h1
  | 2, _ => exact h2
  | 3, _ => exact h3
  | 4, _ => exact h4
  | m + 5, h => omega
theorem rangeD_upto (m : Nat) : rangeD 0 m = (upto m).map .int := by
  unfold rangeD upto
  rw [List.map_map]
  simp only [Int.sub_zero, Int.toNat_natCast]
  apply List.map_congr_left
  intro i _
  simp
theorem rangeOk_upto {m : Nat} (h : m ≤ 4) : rangeOk 0 m = true := by
  refine m_cases (P := fun m => rangeOk 0 (m : Nat) = true) h ?_ ?_ ?_ ?_ ?_ <;> decide +kernel
structure TLot (T : Tab) : Prop where
  lots_of : T "lots_of" = some f_lots_of
  parted : T "parted" = some f_parted
  swaps_of : T "swaps_of" = some f_swaps_of
  llots : T "_law_lots" = some f__law_lots
  places : T "_law_places" = some f__law_places
  wide : T "_law_wide" = some f__law_wide
section
variable {T : Tab} {n : Nat} {ro rw : MH} {C : Calls}
theorem lots_body {m : Nat} (h : m ≤ 4) : exSs C ro f_lots_of.body (startD 4 [.lst ((upto m).map .int)]) rw = .ok (.rt (.lst ((lots m).map eL))) rw := by
  refine m_cases (P := fun m => exSs C ro f_lots_of.body (startD 4 [.lst ((upto m).map .int)]) rw = .ok (.rt (.lst ((lots m).map eL))) rw) h ?_ ?_ ?_ ?_ ?_ <;> kernel_rfl
theorem lots_run (h : TLot T) (h1 : 1 ≤ n) {m : Nat} (hm : m ≤ 4) : callN T n ro "lots_of" [.lst (rangeD 0 m)] rw = .ok (.lst ((lots m).map eL)) rw := by
  rw [rangeD_upto]
  exact call_f h.lots_of h1 rfl (by decide) (fl := .rt _) (fun k _ => lots_body hm) rfl
theorem llots_run (h : TLot T) (h1 : 1 ≤ n) {m : Nat} (hm : m ≤ 4) : callN T n ro "_law_lots" [.lst (rangeD 0 m)] rw = .ok (.lst ((lots m).map eL)) rw := by
  rw [rangeD_upto]
  exact call_f h.llots h1 rfl (by decide) (fl := .rt _) (fun k _ => lots_body hm) rfl
theorem places_run (h : TLot T) (h1 : 2 ≤ n) {m : Nat} (hm : m ≤ 4) : callN T n ro "_law_places" [.int m] rw = .ok (.lst ((lots m).map eL)) rw := by
  refine call_f h.places (by omega) rfl (by decide) (fl := .rt _) (fun k hk => ?_) rfl
  refine ex_rt (ex_ret (ev_call (es_cons (ev_blt (d := .lst (rangeD 0 m)) (es_cons (ev_nm (d := .int m) rfl) es_nil) ?_) es_nil) rfl (llots_run h (by omega) hm)))
  show (if rangeOk 0 m = true then some (D.lst (rangeD 0 m)) else none) = _
  rw [if_pos (rangeOk_upto hm)]
theorem lots_len {m : Nat} (hm : m ≤ 4) : (lots m).length = 2 ^ m := by
  refine m_cases (P := fun m => (lots m).length = 2 ^ m) hm ?_ ?_ ?_ ?_ ?_ <;> decide +kernel
theorem wide_run (h : TLot T) (h1 : 3 ≤ n) {m : Nat} (hm : m ≤ 4) : callN T n ro "_law_wide" [.int m] rw = .ok (.int ((2 ^ m : Nat) : Int)) rw := by
  refine call_f h.wide (by omega) rfl (by decide) (fl := .rt _) (fun k hk => ?_) rfl
  refine ex_rt (ex_ret (ev_blt (es_cons (ev_call (es_cons (ev_nm (d := .int m) rfl) es_nil) rfl (places_run h (by omega) hm)) es_nil) ?_))
  show some (D.int ((((lots m).map eL).length : Nat) : Int)) = _
  rw [List.length_map, lots_len hm]
/-! ### in -/
theorem toPy_tup_ints {b : Bool} {k : Nat} (l : List Int) : toPy ro rw (k + 2) (.tup b (l.map .int)) = some (.tuple (l.map .int)) := by
  unfold toPy
  rw [mapM_ints]; rfl
theorem shaped_tup (gs : List Int) : SeqAt.shaped (.tuple (gs.map PyData.int)) = true := shaped_ints gs
theorem isin_ints {b : Bool} (x : Int) (l : List Int) : cmpop ro rw .isin (.int x) (.tup b (l.map .int)) = some (decide (x ∈ l)) := by
  have e : inPy (.int x) (.tuple (l.map .int)) = some (decide (x ∈ l)) := by
    unfold inPy
    have s1 : SeqAt.shaped (.int x) = true := rfl
    simp only [s1, shaped_tup, Bool.and_self, if_true]
    congr 1
    rw [List.any_map]
    induction l with
    | nil => rfl
    | cons y l ih =>
      rw [List.any_cons, ih]
      by_cases h : y = x
      · subst h; simp [PyData.eqv]
      · have : ¬ x = y := fun z => h z.symm
        simp [PyData.eqv, h, this]
  show (match toPy ro rw deep (.int x), toPy ro rw deep (.tup b (l.map .int)) with
    | some d, some e => inPy d e
    | _, _ => none) = _
  rw [show toPy ro rw deep (.tup b (l.map .int)) = some (.tuple (l.map .int)) from toPy_tup_ints l]
  exact e
theorem notin_ints {b : Bool} (x : Int) (l : List Int) : cmpop ro rw .notin (.int x) (.tup b (l.map .int)) = some (!decide (x ∈ l)) := by
  have e := isin_ints (ro := ro) (rw := rw) (b := b) x l
  show (isinD ro rw (.int x) (.tup b (l.map .int))).map (!·) = _
  have e' : isinD ro rw (.int x) (.tup b (l.map .int)) = some (decide (x ∈ l)) := e
  rw [e']; rfl
/-! ### parted, swaps -/
def partI (u v : List Int) : List Int := isort ltInt ((u.filter fun x => !decide (x ∈ v)) ++ v.filter fun x => !decide (x ∈ u))
def swapI (u v : List Int) : Int := (u.map fun x => ((v.filter fun y => decide (y < x)).length : Int)).sum
theorem intsOf_ints (l : List Int) : intsOf (l.map .int) = some l := by
  induction l with
  | nil => rfl
  | cons x l ih => rw [List.map_cons, intsOf, ih]; rfl
theorem flt_ints (l : List Int) (p : Int → Bool) : ((l.map D.int).filter fun d => match d with | .int i => p i | _ => false) = (l.filter p).map .int := by
  induction l with
  | nil => rfl
  | cons x l ih =>
    rw [List.map_cons, List.filter_cons, List.filter_cons]
    cases h : p x with
    | true => simp [h, ih]
    | false => simp [h, ih]
theorem parted_gen {f : Str} (hT : T f = some f_parted) (h1 : 1 ≤ n) {u v : List Int} (hu : u.length ≤ 8) (hv : v.length ≤ 8) : callN T n ro f [eL u, eL v] rw = .ok (eL (partI u v)) rw := by
  refine call_f hT h1 rfl (by decide) (fl := .rt _) (fun m _ => ?_) rfl
  have side : ∀ {i j : Nat} {a b : List Int} {σ : Sig}, a.length ≤ 8 → (∀ x, (σ.set 2 (some x))[i]? = σ[i]?) → σ.length = 3 → σ[i]? = some (some (eL a)) → j ≠ 2 → σ[j]? = some (some (eL b)) → evE (callN T m) ro (.comp false (.nm 2) [2] (.nm 2) (.seq (.nm i)) (some (.cmp .notin (.nm 2) (.nm j)))) σ rw = .ok (.lst ((a.filter fun x => !decide (x ∈ b)).map .int)) rw := by
    intro i j a b σ ha _ hl hi hj hb
    have q := comp_flt (C := callN T m) (ro := ro) (σ := σ) (rw := rw) (rw0 := rw) (elt := .nm 2) (te := .cmp .notin (.nm 2) (.nm j)) (vs := [2]) (tg := .nm 2) (it := .seq (.nm i)) (s := a.map .int) (fun d => match d with | .int x => !decide (x ∈ b) | _ => false) id (by
      unfold evT
      rw [bindM (ev_nm hi)]; rfl) (by simp; omega) (fun d hd => by
      obtain ⟨x, _, rfl⟩ := List.mem_map.mp hd
      have g2 : ((wipeD σ [2]).set 2 (some (D.int x)))[2]? = some (some (.int x)) := by simp [wipeD, hl]
      have gj : ((wipeD σ [2]).set 2 (some (D.int x)))[j]? = some (some (eL b)) := by
        simp only [wipeD, List.set_set]
        rw [List.getElem?_set_ne (Ne.symm hj)]; exact hb
      refine ⟨(wipeD σ [2]).set 2 (some (.int x)), ?_, ev_cmp (ev_nm g2) (ev_nm gj) (notin_ints x b), fun _ => ev_nm g2⟩
      simp [asG, wipeD, hl])
    rw [flt_ints a (fun x => !decide (x ∈ b)), List.map_id] at q
    exact q
  have e1 := side (i := 0) (j := 1) (σ := [some (eL u), some (eL v), none]) hu (fun _ => rfl) rfl rfl (by decide) rfl
  have e2 := side (i := 1) (j := 0) (σ := [some (eL u), some (eL v), none]) hv (fun _ => rfl) rfl rfl (by decide) rfl
  have f1 := List.length_filter_le (fun x => !decide (x ∈ v)) u
  have f2 := List.length_filter_le (fun x => !decide (x ∈ u)) v
  refine ex_rt (ex_ret (ev_blt (d := eL (partI u v)) (es_cons (ev_blt (d := .lst ((partI u v).map .int)) (es_cons (ev_bin (z := .lst (((u.filter fun x => !decide (x ∈ v)) ++ v.filter fun x => !decide (x ∈ u)).map .int)) e1 e2 ?_) es_nil) ?_) es_nil) rfl))
  · show (if lineOk (((u.filter fun x => !decide (x ∈ v)).map D.int).length + ((v.filter fun x => !decide (x ∈ u)).map D.int).length) = true then some (D.lst (((u.filter fun x => !decide (x ∈ v)).map D.int) ++ ((v.filter fun x => !decide (x ∈ u)).map D.int))) else none) = _
    rw [if_pos (show lineOk _ = true from decide_eq_true (by simp; omega)), List.map_append]
  · show ((sortD (((u.filter fun x => !decide (x ∈ v)) ++ v.filter fun x => !decide (x ∈ u)).map .int))).map D.lst = _
    unfold sortD
    rw [if_pos (decide_eq_true (by simp; omega)), intsOf_ints]
    rfl
theorem parted_run (h : TLot T) (h1 : 1 ≤ n) {u v : List Int} (hu : u.length ≤ 8) (hv : v.length ≤ 8) : callN T n ro "parted" [eL u, eL v] rw = .ok (eL (partI u v)) rw := parted_gen h.parted h1 hu hv
theorem swaps_run (h : TLot T) (h1 : 1 ≤ n) {u v : List Int} (hu : u.length ≤ 8) (hv : v.length ≤ 8) : callN T n ro "swaps_of" [eL u, eL v] rw = .ok (.int (swapI u v)) rw := by
  refine call_f h.swaps_of h1 rfl (by decide) (fl := .rt _) (fun m _ => ?_) rfl
  have inner : ∀ (x : Int) (y3 : Option D), evE (callN T m) ro (.comp false (.nm 3) [3] (.nm 3) (.seq (.nm 1)) (some (.cmp .gt (.nm 2) (.nm 3)))) [some (eL u), some (eL v), some (.int x), y3] rw = .ok (.lst ((v.filter fun y => decide (y < x)).map .int)) rw := by
    intro x y3
    have q := comp_flt (C := callN T m) (ro := ro) (σ := [some (eL u), some (eL v), some (.int x), y3]) (rw := rw) (rw0 := rw) (elt := .nm 3) (te := .cmp .gt (.nm 2) (.nm 3)) (vs := [3]) (tg := .nm 3) (it := .seq (.nm 1)) (s := v.map .int) (fun d => match d with | .int y => decide (y < x) | _ => false) id (by
      unfold evT
      rw [bindM (ev_nm (d := eL v) rfl)]; rfl) (by simp; omega) (fun d hd => by
      obtain ⟨y, _, rfl⟩ := List.mem_map.mp hd
      exact ⟨[some (eL u), some (eL v), some (.int x), some (.int y)], rfl, ev_cmp (ev_nm rfl) (ev_nm rfl) rfl, fun _ => ev_nm rfl⟩)
    rw [flt_ints v (fun y => decide (y < x)), List.map_id] at q
    exact q
  have e1 : evE (callN T m) ro (.comp false (.blt false .len [.comp false (.nm 3) [3] (.nm 3) (.seq (.nm 1)) (some (.cmp .gt (.nm 2) (.nm 3)))]) [2] (.nm 2) (.seq (.nm 0)) none) [some (eL u), some (eL v), none, none] rw = .ok (.lst ((u.map fun x => (((v.filter fun y => decide (y < x)).length : Nat) : Int)).map .int)) rw := by
    have q := comp_map (C := callN T m) (ro := ro) (σ := [some (eL u), some (eL v), none, none]) (rw := rw) (rw0 := rw) (elt := .blt false .len [.comp false (.nm 3) [3] (.nm 3) (.seq (.nm 1)) (some (.cmp .gt (.nm 2) (.nm 3)))]) (vs := [2]) (tg := .nm 2) (it := .seq (.nm 0)) (s := u.map .int) (fun d => match d with | .int x => .int (((v.filter fun y => decide (y < x)).length : Nat) : Int) | d => d) (by
      unfold evT
      rw [bindM (ev_nm (d := eL u) rfl)]; rfl) (by simp; omega) (fun d hd => by
      obtain ⟨x, _, rfl⟩ := List.mem_map.mp hd
      refine ⟨[some (eL u), some (eL v), some (.int x), none], rfl, ev_blt (es_cons (inner x none) es_nil) ?_⟩
      show some (D.int ((((v.filter fun y => decide (y < x)).map D.int).length : Nat) : Int)) = _
      rw [List.length_map])
    rw [List.map_map] at q
    rw [List.map_map]
    exact q
  refine ex_rt (ex_ret (ev_blt (es_cons e1 es_nil) ?_))
  show (((lstOf ro rw (.lst ((u.map fun x => (((v.filter fun y => decide (y < x)).length : Nat) : Int)).map .int))).bind intsOf).map fun ns => D.int ns.sum) = _
  rw [show lstOf ro rw (.lst ((u.map fun x => (((v.filter fun y => decide (y < x)).length : Nat) : Int)).map .int)) = some ((u.map fun x => (((v.filter fun y => decide (y < x)).length : Nat) : Int)).map .int) from rfl, Option.bind_some, intsOf_ints]
  rfl
end
end Mx

set_option Elab.async false
set_option linter.all false
set_option maxRecDepth 100000
set_option maxHeartbeats 1000000
/-! Pa, part G: numbers and tables are judged. -/
namespace Mx
open PySem
def IsQs : List Rat → List D → Prop
  | [], [] => True
  | q :: qs, d :: ds => IsQ q d ∧ IsQs qs ds
  | _, _ => False
theorem IsQs.length : ∀ {qs : List Rat} {ds : List D}, IsQs qs ds → ds.length = qs.length
  | [], [], _ => rfl
  | _ :: _, _ :: _, h => by simp [IsQs.length h.2]
  | [], _ :: _, h => h.elim
  | _ :: _, [], h => h.elim
theorem IsQs.mem : ∀ {qs : List Rat} {ds : List D}, IsQs qs ds → ∀ d ∈ ds, ∃ q ∈ qs, IsQ q d
  | [], [], _, d, hd => by cases hd
  | q :: qs, e :: ds, h, d, hd => by
    rcases List.mem_cons.mp hd with rfl | hd
    · exact ⟨q, List.mem_cons_self, h.1⟩
    · obtain ⟨p, hp, hq⟩ := IsQs.mem h.2 d hd
      exact ⟨p, List.mem_cons_of_mem _ hp, hq⟩
  | [], _ :: _, h, _, _ => h.elim
  | _ :: _, [], h, _, _ => h.elim
theorem IsQs.get : ∀ {qs : List Rat} {ds : List D}, IsQs qs ds → ∀ {i : Nat} {q : Rat}, qs[i]? = some q → ∃ d, ds[i]? = some d ∧ IsQ q d
  | [], [], _, i, q, h => by simp at h
  | q :: qs, e :: ds, h, 0, p, hp => by
    cases hp
    exact ⟨e, rfl, h.1⟩
  | q :: qs, e :: ds, h, i + 1, p, hp => IsQs.get (qs := qs) (ds := ds) h.2 (i := i) hp
  | [], _ :: _, h, _, _, _ => h.elim
  | _ :: _, [], h, _, _, _ => h.elim
theorem IsQs.map_enc : ∀ qs : List Rat, IsQs qs (qs.map enc)
  | [] => trivial
  | q :: qs => ⟨isQ_enc q, IsQs.map_enc qs⟩
theorem IsQs.append : ∀ {qs ps : List Rat} {ds es : List D}, IsQs qs ds → IsQs ps es → IsQs (qs ++ ps) (ds ++ es)
  | [], _, [], _, _, k => k
  | _ :: _, _, _ :: _, _, h, k => ⟨h.1, IsQs.append h.2 k⟩
  | [], _, _ :: _, _, h, _ => h.elim
  | _ :: _, _, [], _, h, _ => h.elim
structure TJ0 (T : Tab) : Prop where
  is_whole : T "is_whole" = some f_is_whole
  is_number : T "is_number" = some f_is_number
  need_squares2 : T "need_squares_tables2" = some f_need_squares_tables2
  need_squares3 : T "need_squares_inverse3" = some f_need_squares_inverse3
  is_below : T "is_below" = some f_is_below
  need_many : T "need_many" = some f_need_many
  is_any_table : T "is_any_table" = some f_is_any_table
  count_of : T "count_of" = some f_count_of
  is_table : T "is_table" = some f_is_table
structure TJudge (T : Tab) : Prop extends TJ0 T where
  is_arrow : T "is_arrow" = some f_is_arrow
  need_arrow : T "need_arrow" = some f_need_arrow
  need_any : T "need_any" = some f_need_any
  many_of : T "many_of" = some f_many_of
  need_table : T "need_table" = some f_need_table
  need_alike : T "need_alike" = some f_need_alike
instance {T : Tab} : Coe (TJudge T) (TJ0 T) := ⟨TJudge.toTJ0⟩
section
variable {T : Tab} {n : Nat} {ro rw : MH} {C : Calls}
theorem whole_run (h : TJ0 T) (h1 : 1 ≤ n) (i : Int) : callN T n ro "is_whole" [.int i] rw = .ok (.bl true) rw :=
  call_f h.is_whole h1 rfl (by decide) (fl := .rt (.bl true)) (fun m _ => ex_rt (ex_ret (ev_and (ev_andT (ev_is .int (ev_nm rfl) rfl rfl) (ev_and1 (ev_not (k := false) (ev_is .int (ev_nm rfl) rfl rfl))))))) rfl
theorem len_tup {b : Bool} (ds : List D) : bltop ro rw .len [.tup b ds] = some (.int ((ds.length : Nat) : Int)) := rfl
theorem len_lst (ds : List D) : bltop ro rw .len [.lst ds] = some (.int ((ds.length : Nat) : Int)) := rfl
theorem all_true {ds : List D} (h : ∀ d ∈ ds, d = .bl true) : bltop ro rw .all [.lst ds] = some (.bl true) := by
  have e : blsOf ds = some (ds.map fun _ => true) := by
    induction ds with
    | nil => rfl
    | cons d ds ih =>
      rw [h d List.mem_cons_self, blsOf, ih fun x hx => h x (List.mem_cons_of_mem _ hx)]; rfl
  show ((lstOf ro rw (.lst ds)).bind blsOf).map (fun bs => D.bl (bs.all id)) = _
  rw [show lstOf ro rw (.lst ds) = some ds from rfl, Option.bind_some, e]
  simp
theorem number_ok (h : TJ0 T) (h1 : 2 ≤ n) {q : Rat} {d : D} (hq : IsQ q d) : callN T n ro "is_number" [d] rw = .ok (.bl true) rw := by
  obtain ⟨k, rfl⟩ := hq
  refine call_f h.is_number (by omega) rfl (by decide) (fl := .rt (.bl true)) (fun m hm => ?_) rfl
  have c0 : evE (callN T m) ro (.comp false (.call "is_whole" [.nm 1] [] [0]) [1] (.nm 1) (.seq (.nm 0)) none) [some (.tup k [.int q.num, .int q.den]), none] rw = .ok (.lst [.bl true, .bl true]) rw := by
    refine comp_map (C := callN T m) (fun _ => .bl true) (s := [.int q.num, .int q.den]) (by
      unfold evT
      rw [bindM (ev_nm rfl)]; rfl) (by simp) fun d hd => ?_
    have : ∃ i, d = .int i := by
      simp only [List.mem_cons, List.not_mem_nil, or_false] at hd
      rcases hd with rfl | rfl <;> exact ⟨_, rfl⟩
    obtain ⟨i, rfl⟩ := this
    exact ⟨[some (.tup k [.int q.num, .int q.den]), some (.int i)], rfl, ev_call (es_cons (ev_nm rfl) es_nil) rfl (whole_run h (by omega) i)⟩
  have z := q.den_nz
  have z2 : (0 : Int) < q.den := by omega
  refine (ex_nx (ex_iteF (ev_or (ev_orF (ev_not (k := true) (ev_is .tup (ev_nm rfl) rfl rfl)) (ev_orF (ev_cmp (k := false) (ev_blt (es_cons (ev_nm rfl) es_nil) (len_tup _)) ev_cst ?_) (ev_or1 (ev_not (k := true) (ev_blt (es_cons c0 es_nil) (all_true (by simp)))))))))).trans (ex_rt (ex_ret (ev_and (ev_andT (ev_cmp (ev_sub (z := .int q.den) (ev_nm rfl) ev_cst ?_) ev_cst ?_) (ev_and1 (ev_cmp (ev_blt (d := .int 1) (es_cons (ev_sub (z := .int q.num) (ev_nm rfl) ev_cst ?_) (es_cons (ev_sub (z := .int q.den) (ev_nm rfl) ev_cst ?_) es_nil)) ?_) ev_cst ?_))))))
  · show (eqD ro rw (.int 2) (.int 2)).map (!·) = some false
    rw [eqD_int]; rfl
  · exact sub_1
  · show some (decide ((0 : Int) < q.den)) = some true
    rw [decide_eq_true z2]
  · exact sub_0
  · exact sub_1
  · show some (D.int ((Nat.gcd q.num.natAbs (q.den : Int).natAbs : Nat) : Int)) = some (.int 1)
    rw [show (q.den : Int).natAbs = q.den from rfl, q.reduced]; rfl
  · show eqD ro rw (.int 1) (.int 1) = some true
    rw [eqD_int]; rfl
/-- all of them are numbers -/
theorem all_num (h : TJ0 T) (h1 : 2 ≤ n) {qs : List Rat} {ds : List D} (hq : IsQs qs ds) (hl : ds.length ≤ 64) {i : Nat} {it : MT} {σ : Sig} (hi : i < σ.length) (hs : evT (callN T n) ro it σ rw = .ok ds rw) : evE (callN T n) ro (.blt false .all [.comp false (.call "is_number" [.nm i] [] [0]) [i] (.nm i) it none]) σ rw = .ok (.bl true) rw := by
  have e := comp_map (C := callN T n) (ro := ro) (rw := rw) (rw0 := rw) (σ := σ) (elt := .call "is_number" [.nm i] [] [0]) (vs := [i]) (tg := .nm i) (fun _ => .bl true) hs (by omega) fun d hd => by
    obtain ⟨q, _, h2⟩ := hq.mem d hd
    refine ⟨(wipeD σ [i]).set i (some d), ?_, ev_call (es_cons (ev_nm ?_) es_nil) rfl (number_ok h (by omega) h2)⟩
    · simp [asG, wipeD, hi]
    · simp [wipeD, hi]
  exact ev_blt (es_cons e es_nil) (all_true (by simp))
theorem eqI (i j : Int) : cmpop ro rw .eq (.int i) (.int j) = some (decide (i = j)) := eqD_int (ro := ro) (rw := rw) i j
theorem neI (i j : Int) : cmpop ro rw .ne (.int i) (.int j) = some (!decide (i = j)) := by
  show (eqD ro rw (.int i) (.int j)).map (!·) = _
  rw [eqD_int]; rfl
theorem arrow_ok (h : TJudge T) (h1 : 3 ≤ n) {qs : List Rat} {ds : List D} {b : Bool} (hq : IsQs qs ds) (hl : qs.length ≤ 64) {m : Int} (hm : m = qs.length) : callN T n ro "is_arrow" [.int m, .tup b ds] rw = .ok (.bl true) rw := by
  have l := hq.length
  refine call_f h.is_arrow (by omega) rfl (by decide) (fl := .rt (.bl true)) (fun k hk => ?_) rfl
  refine ex_rt (ex_ret (ev_and (ev_andT (ev_is .tup (ev_nm rfl) rfl rfl) (ev_andT (ev_cmp (ev_blt (es_cons (ev_nm rfl) es_nil) (len_tup _)) (ev_nm (d := .int m) rfl) ?_) (ev_and1 (all_num h (by omega) hq (by omega) (show 2 < 3 by decide) ?_))))))
  · rw [eqI, l, hm, decide_eq_true rfl]
  · unfold evT
    rw [bindM (ev_nm rfl)]; rfl
theorem need_arrow_ok (h : TJudge T) (h1 : 4 ≤ n) {qs : List Rat} {ds : List D} {b : Bool} (hq : IsQs qs ds) (hl : qs.length ≤ 64) {m : Int} (hm : m = qs.length) : callN T n ro "need_arrow" [.int m, .tup b ds] rw = .ok .non rw := by
  refine call_n h.need_arrow (by omega) rfl (by decide) (fun k hk => ?_)
  exact ex_nx (ex_iteF (ev_not (k := true) (ev_call (es_cons (ev_nm rfl) (es_cons (ev_nm rfl) es_nil)) rfl (arrow_ok h (by omega) hq hl hm))))
theorem sq_body (h : TJ0 T) (h1 : 2 ≤ n) {qs : List Rat} {ds : List D} {b : Bool} (hq : IsQs qs ds) (hl : qs.length ≤ 4) : exSs (callN T n) ro f_need_squares_tables2.body (startD 2 [.tup b ds]) rw = .ok (.nx [some (.tup b ds), none]) rw := by
  have l := hq.length
  refine ex_nx (ex_iteF (ev_or (ev_orF (ev_not (k := true) (ev_is .tup (ev_nm rfl) rfl rfl)) (ev_orF (ev_cmp (k := false) (ev_blt (es_cons (ev_nm rfl) es_nil) (len_tup _)) ev_cst ?_) (ev_or1 (ev_not (k := true) (all_num h h1 hq (by omega) (show 1 < 2 by decide) ?_)))))))
  · show some (decide ((4 : Int) < ((ds.length : Nat) : Int))) = some false
    rw [decide_eq_false (by omega)]
  · unfold evT
    rw [bindM (ev_nm rfl)]; rfl
theorem need_sq2 (h : TJ0 T) (h1 : 3 ≤ n) {qs : List Rat} {ds : List D} {b : Bool} (hq : IsQs qs ds) (hl : qs.length ≤ 4) : callN T n ro "need_squares_tables2" [.tup b ds] rw = .ok .non rw :=
  call_n h.need_squares2 (by omega) rfl (by decide) (fun k hk => sq_body h (by omega) hq hl)
theorem need_sq3 (h : TJ0 T) (h1 : 3 ≤ n) {qs : List Rat} {ds : List D} {b : Bool} (hq : IsQs qs ds) (hl : qs.length ≤ 4) : callN T n ro "need_squares_inverse3" [.tup b ds] rw = .ok .non rw :=
  call_n h.need_squares3 (by omega) rfl (by decide) (fun k hk => sq_body h (by omega) hq hl)
theorem need_many_ok (h : TJ0 T) (h1 : 3 ≤ n) {m : Nat} (hm : m ≤ 4) : callN T n ro "need_many" [.int m] rw = .ok .non rw := by
  refine call_n h.need_many (by omega) rfl (by decide) (fun k hk => ?_)
  refine ex_nx (ex_iteF (ev_not (k := true) (ev_call (as := [.int m, .int 5]) (es_cons (ev_nm rfl) (es_cons (ev_bin ev_cst ev_cst rfl) es_nil)) rfl ?_)))
  refine call_f h.is_below (by omega) rfl (by decide) (fl := .rt (.bl true)) (fun j hj => ?_) rfl
  have c : evE (callN T j) ro (.chain .le .lt (.cst (.int 0)) (.nm 0) (.nm 1)) [some (.int m), some (.int 5)] rw = .ok (.bl true) rw := by
    have a1 : decide ((0 : Int) ≤ (m : Int)) = true := decide_eq_true (by omega)
    have a2 : decide ((m : Int) < 5) = true := decide_eq_true (by omega)
    unfold evE
    rw [bindM ev_cst, bindM (ev_nm (d := .int m) rfl)]
    rw [bindM (show M.lift (cmpop ro rw .le (.int 0) (.int m)) rw = .ok true rw from by
      show M.lift (some (decide ((0 : Int) ≤ (m : Int)))) rw = _
      rw [a1]; rfl)]
    simp only [if_true]
    rw [bindM (ev_nm (d := .int 5) rfl)]
    show M.lift ((some (decide ((m : Int) < 5))).map D.bl) rw = _
    rw [a2]; rfl
  exact ex_rt (ex_ret (ev_and (ev_andT (ev_call (es_cons (ev_nm rfl) es_nil) rfl (whole_run h (by omega) m)) (ev_and1 c))))
/-- a table of m axes -/
def IsTab (m : Nat) (qs : List Rat) (d : D) : Prop := qs.length = 2 ^ m ∧ ∃ k j ds, d = .tup k [.str (Str.ofString "table"), .tup j ds] ∧ IsQs qs ds
theorem pow_in {m : Nat} (hm : m ≤ 4) : (((2 ^ m : Nat) : Int) ∈ ([1, 2, 4, 8, 16] : List Int)) ∧ ([1, 2, 4, 8, 16] : List Int).idxOf ((2 ^ m : Nat) : Int) = m := by
  refine m_cases (P := fun m => (((2 ^ m : Nat) : Int) ∈ ([1, 2, 4, 8, 16] : List Int)) ∧ ([1, 2, 4, 8, 16] : List Int).idxOf ((2 ^ m : Nat) : Int) = m) hm ?_ ?_ ?_ ?_ ?_ <;> decide
theorem eq_table : eqD ro rw (.str (Str.ofString "table")) (.str (Str.ofString "table")) = some true := by
  have s : SeqAt.shaped (.str (Str.ofString "table")) = true := by decide +kernel
  rw [eqD_of (p := .str (Str.ofString "table")) (q := .str (Str.ofString "table")) rfl rfl s s, eqv_refl s]
theorem any_ok (h : TJ0 T) (h1 : 3 ≤ n) {m : Nat} (hm : m ≤ 4) {qs : List Rat} {d : D} (ht : IsTab m qs d) : callN T n ro "is_any_table" [d] rw = .ok (.bl true) rw := by
  obtain ⟨hl, k, j, ds, rfl, hq⟩ := ht
  have l := hq.length
  have l16 : ds.length ≤ 16 := by
    rw [l, hl]
    exact Nat.pow_le_pow_right (n := 2) (by decide) hm
  refine call_f h.is_any_table (by omega) rfl (by decide) (fl := .rt (.bl true)) (fun x hx => ?_) rfl
  refine (ex_nx (ex_iteF (ev_or (ev_orF (ev_not (k := true) (ev_is .tup (ev_nm rfl) rfl rfl)) (ev_orF (ev_cmp (k := false) (ev_blt (es_cons (ev_nm rfl) es_nil) (len_tup _)) ev_cst (neI _ _)) (ev_orF (ev_not (k := true) (ev_is .str (ev_sub (ev_nm rfl) ev_cst sub_0) rfl rfl)) (ev_or1 (ev_cmp (k := false) (ev_sub (ev_nm rfl) ev_cst sub_0) ev_cst ?_)))))))).trans
    ((ex_nx (ex_iteF (ev_or (ev_orF (ev_not (k := true) (ev_is .tup (ev_sub (ev_nm rfl) ev_cst sub_1) rfl rfl)) (ev_or1 (ev_cmp (k := false) (ev_blt (es_cons (ev_sub (ev_nm rfl) ev_cst sub_1) es_nil) (len_tup _)) ev_cst ?_)))))).trans
      (ex_rt (ex_ret (all_num h (by omega) hq (by omega) (show 1 < 2 by decide) ?_))))
  · show (eqD ro rw (.str (Str.ofString "table")) (.str (Str.ofString "table"))).map (!·) = some false
    rw [eq_table]; rfl
  · have q := notin_ints (ro := ro) (rw := rw) (b := false) ((ds.length : Nat) : Int) [1, 2, 4, 8, 16]
    rw [l, hl, decide_eq_true (pow_in hm).1] at q
    rw [l, hl]
    exact q
  · unfold evT
    rw [bindM (ev_sub (ev_nm rfl) ev_cst sub_1)]; rfl
theorem need_any_ok (h : TJudge T) (h1 : 4 ≤ n) {m : Nat} (hm : m ≤ 4) {qs : List Rat} {d : D} (ht : IsTab m qs d) : callN T n ro "need_any" [d] rw = .ok .non rw :=
  call_n h.need_any (by omega) rfl (by decide) (fun k hk => ex_nx (ex_iteF (ev_not (k := true) (ev_call (es_cons (ev_nm rfl) es_nil) rfl (any_ok h (by omega) hm ht)))))
theorem count_ok (h : TJ0 T) (h1 : 1 ≤ n) {m : Nat} (hm : m ≤ 4) {qs : List Rat} {d : D} (ht : IsTab m qs d) : callN T n ro "count_of" [d] rw = .ok (.int m) rw := by
  obtain ⟨hl, k, j, ds, rfl, hq⟩ := ht
  have l := hq.length
  obtain ⟨p1, p2⟩ := pow_in hm
  refine call_f h.count_of h1 rfl (by decide) (fl := .rt (.int m)) (fun x hx => ?_) rfl
  refine ex_rt (ex_ret ?_)
  unfold evE
  rw [bindM (ev_blt (es_cons (ev_sub (ev_nm rfl) ev_cst sub_1) es_nil) (len_tup _)), l, hl]
  show M.lift (if ((2 ^ m : Nat) : Int) ∈ ([1, 2, 4, 8, 16] : List Int) then some (D.int (([1, 2, 4, 8, 16] : List Int).idxOf ((2 ^ m : Nat) : Int) : Nat)) else none) rw = _
  rw [if_pos p1, p2]; rfl
theorem many_ok (h : TJudge T) (h1 : 5 ≤ n) {m : Nat} (hm : m ≤ 4) {qs : List Rat} {d : D} (ht : IsTab m qs d) : callN T n ro "many_of" [d] rw = .ok (.int m) rw :=
  call_f h.many_of (by omega) rfl (by decide) (fl := .rt (.int m)) (fun x hx => (ex_nx (ex_ex (ev_call (es_cons (ev_nm rfl) es_nil) rfl (need_any_ok h (by omega) hm ht)))).trans (ex_rt (ex_ret (ev_call (es_cons (ev_nm rfl) es_nil) rfl (count_ok h (by omega) hm ht))))) rfl
theorem is_table_ok (h : TJ0 T) (h1 : 4 ≤ n) {m : Nat} (hm : m ≤ 4) {qs : List Rat} {d : D} (ht : IsTab m qs d) : callN T n ro "is_table" [.int m, d] rw = .ok (.bl true) rw := by
  refine call_f h.is_table (by omega) rfl (by decide) (fl := .rt (.bl true)) (fun y hy => ?_) rfl
  refine (ex_nx (ex_ex (ev_call (es_cons (ev_nm rfl) es_nil) rfl (need_many_ok h (by omega) hm)))).trans (ex_rt (ex_ret (ev_and (ev_andT (ev_call (es_cons (ev_nm rfl) es_nil) rfl (any_ok h (by omega) hm ht)) (ev_and1 (ev_cmp (ev_call (es_cons (ev_nm rfl) es_nil) rfl (count_ok h (by omega) hm ht)) (ev_nm (d := .int m) rfl) ?_))))))
  rw [eqI, decide_eq_true rfl]
theorem need_table_ok (h : TJudge T) (h1 : 5 ≤ n) {m : Nat} (hm : m ≤ 4) {qs : List Rat} {d : D} (ht : IsTab m qs d) : callN T n ro "need_table" [.int m, d] rw = .ok .non rw :=
  call_n h.need_table (by omega) rfl (by decide) (fun x hx => ex_nx (ex_iteF (ev_not (k := true) (ev_call (es_cons (ev_nm rfl) (es_cons (ev_nm rfl) es_nil)) rfl (is_table_ok h (by omega) hm ht)))))
theorem need_alike_ok (h : TJudge T) (h1 : 5 ≤ n) {m : Nat} (hm : m ≤ 4) {qs ps : List Rat} {d e : D} (ht : IsTab m qs d) (he : IsTab m ps e) : callN T n ro "need_alike" [d, e] rw = .ok .non rw := by
  refine call_n h.need_alike (by omega) rfl (by decide) (fun x hx => ?_)
  refine (ex_nx (ex_ex (ev_call (es_cons (ev_nm rfl) es_nil) rfl (need_any_ok h (by omega) hm ht)))).trans ((ex_nx (ex_ex (ev_call (es_cons (ev_nm rfl) es_nil) rfl (need_any_ok h (by omega) hm he)))).trans ?_)
  obtain ⟨hl, k, j, ds, rfl, hq⟩ := ht
  obtain ⟨hl2, k2, j2, es, rfl, hq2⟩ := he
  refine ex_nx (ex_iteF (ev_cmp (k := false) (ev_blt (es_cons (ev_sub (ev_nm rfl) ev_cst sub_1) es_nil) (len_tup _)) (ev_blt (es_cons (ev_sub (ev_nm rfl) ev_cst sub_1) es_nil) (len_tup _)) ?_))
  rw [neI, hq.length, hq2.length, hl, hl2, decide_eq_true rfl]; rfl
end
end Mx

set_option Elab.async false
set_option linter.all false
set_option maxRecDepth 100000
set_option maxHeartbeats 1000000
/-! Pa, part H: dicts by lots; the worth of a pair. -/
namespace Mx
open PySem
/-! ### numbers compared -/
section
variable {ro rw : MH}
theorem toPy_Q {q : Rat} {d : D} (h : IsQ q d) {k : Nat} : toPy ro rw (k + 2) d = some (.tuple [.int q.num, .int (q.den : Int)]) := by
  obtain ⟨b, rfl⟩ := h
  rfl
theorem shaped_Q (a b : Int) : SeqAt.shaped (.tuple [.int a, .int b]) = true := shaped_tup [a, b]
theorem eqQ {p q : Rat} {d e : D} (hp : IsQ p d) (hq : IsQ q e) : eqD ro rw d e = some (decide (p = q)) := by
  rw [eqD_of (toPy_Q hp) (toPy_Q hq) (shaped_Q _ _) (shaped_Q _ _)]
  congr 1
  by_cases h : p = q
  · subst h
    rw [decide_eq_true rfl]
    exact eqv_refl (shaped_Q _ _)
  · rw [decide_eq_false h]
    have : ¬ (p.num = q.num ∧ p.den = q.den) := fun ⟨a, b⟩ => h (Rat.ext a b)
    by_cases hn : p.num = q.num
    · have hd : ¬ (p.den : Int) = q.den := fun z => this ⟨hn, by omega⟩
      simp [PyData.eqv, PyData.eqvAll, hn]
      intro z
      exact hd (by exact_mod_cast z)
    · simp [PyData.eqv, PyData.eqvAll, hn]
def zeroD : D := .tup false [.int 0, .int 1]
theorem isQ_zero {k : Bool} : IsQ 0 (.tup k [.int 0, .int 1]) := ⟨k, rfl⟩
theorem isQ_one {k : Bool} : IsQ 1 (.tup k [.int 1, .int 1]) := ⟨k, rfl⟩
theorem neQ0 {q : Rat} {d : D} (h : IsQ q d) {k : Bool} : cmpop ro rw .ne d (.tup k [.int 0, .int 1]) = some (!decide (q = 0)) := by
  show (eqD ro rw d (.tup k [.int 0, .int 1])).map (!·) = _
  rw [eqQ h isQ_zero]; rfl
end
/-! ### dicts by lots -/
def kL (l : List Int) : List L2.Key := l.map Sum.inl
theorem kL_inj : ∀ {a b : List Int}, kL a = kL b → a = b
  | [], [], _ => rfl
  | [], _ :: _, h => by cases h
  | _ :: _, [], h => by cases h
  | x :: a, y :: b, h => by
    obtain ⟨h1, h2⟩ := List.cons.inj h
    rw [Sum.inl.inj h1, kL_inj h2]
theorem keysOf_L (l : List Int) : keysOf (l.map .int) = some (kL l) := by
  induction l with
  | nil => rfl
  | cons x l ih => rw [List.map_cons, keysOf, ih]; rfl
def dicL (ls : List (List Int)) (val : List Int → D) : List (List L2.Key × D) := ls.map fun l => (kL l, val l)
theorem dicL_get {ls : List (List Int)} {val : List Int → D} {l : List Int} (h : l ∈ ls) : kget (dicL ls val) (kL l) = some (val l) := by
  induction ls with
  | nil => cases h
  | cons a ls ih =>
    show (if kL a = kL l then some (val a) else kget (dicL ls val) (kL l)) = _
    by_cases e : a = l
    · rw [e, if_pos rfl]
    · rw [if_neg (fun z => e (kL_inj z))]
      exact ih ((List.mem_cons.mp h).resolve_left fun z => e z.symm)
theorem dicL_none {ls : List (List Int)} {val : List Int → D} {l : List Int} (h : l ∉ ls) : kget (dicL ls val) (kL l) = none := by
  induction ls with
  | nil => rfl
  | cons a ls ih =>
    show (if kL a = kL l then some (val a) else kget (dicL ls val) (kL l)) = _
    rw [if_neg (fun z => h (by rw [kL_inj z]; exact List.mem_cons_self))]
    exact ih fun z => h (List.mem_cons_of_mem _ z)
def updL (val : List Int → D) (l : List Int) (x : D) : List Int → D := fun a => if a = l then x else val a
theorem dicL_put {ls : List (List Int)} {val : List Int → D} {l : List Int} {x : D} (h : l ∈ ls) : kput (dicL ls val) (kL l) x = dicL ls (updL val l x) := by
  unfold kput khas
  rw [dicL_get h]
  simp only [Option.isSome_some, if_true]
  unfold dicL
  rw [List.map_map]
  apply List.map_congr_left
  intro a _
  by_cases e : a = l
  · simp [updL, e]
  · have : ¬ kL a = kL l := fun z => e (kL_inj z)
    simp [updL, e, this]
theorem dicL_new {ls : List (List Int)} {val : List Int → D} {l : List Int} (h : l ∉ ls) : kput (dicL ls val) (kL l) (val l) = dicL (ls ++ [l]) val := by
  unfold kput khas
  rw [dicL_none h]
  simp [dicL]
theorem merge_new {val : List Int → D} : ∀ (ls done : List (List Int)), (done ++ ls).Nodup → mergeD (dicL done val) (dicL ls val) = dicL (done ++ ls) val
  | [], done, _ => by
    rw [List.append_nil]; rfl
  | l :: ls, done, h => by
    have hl : l ∉ done := fun z => (List.nodup_append.mp h).2.2 l z l List.mem_cons_self rfl
    have e : mergeD (dicL done val) (dicL (l :: ls) val) = mergeD (kput (dicL done val) (kL l) (val l)) (dicL ls val) := rfl
    rw [e, dicL_new hl, merge_new ls (done ++ [l]) (by simpa using h)]
    simp
theorem keys_dicL (ls : List (List Int)) (val : List Int → D) : keysD (.dT (dicL ls val)) = some (ls.map eL) := by
  show some (dicKeys (.t (dicL ls val))) = _
  congr 1
  show ((dicL ls val).map fun p => D.tup true (p.1.map dKey)) = _
  unfold dicL
  rw [List.map_map]
  apply List.map_congr_left
  intro l _
  show D.tup true ((kL l).map dKey) = eL l
  unfold kL eL
  rw [List.map_map]
  rfl
/-- the value that stands at a lot in a row of values -/
def valOf (ls : List (List Int)) (ds : List D) (l : List Int) : D := ds.getD (ls.idxOf l) .non
theorem zip_valOf : ∀ (ls : List (List Int)) (ds : List D), ls.Nodup → ds.length = ls.length → (ls.zip ds) = ls.map fun l => (l, valOf ls ds l)
  | [], [], _, _ => rfl
  | [], _ :: _, _, h => by cases h
  | _ :: _, [], _, h => by cases h
  | l :: ls, d :: ds, hn, h => by
    obtain ⟨n1, n2⟩ := List.nodup_cons.mp hn
    rw [List.zip_cons_cons, List.map_cons, zip_valOf ls ds n2 (Nat.succ.inj h)]
    congr 1
    · simp [valOf]
    · apply List.map_congr_left
      intro a ha
      have : (l == a) = false := beq_false_of_ne fun z => n1 (by rw [z]; exact ha)
      simp [valOf, List.idxOf_cons, this]
theorem allT_lots : ∀ (ls : List (List Int)) (ds : List D), allT ((ls.map eL).zip ds) = some ((ls.zip ds).map fun p => (kL p.1, p.2))
  | [], _ => rfl
  | _ :: _, [] => rfl
  | l :: ls, d :: ds => by
    have ih := allT_lots ls ds
    show (match (keyTup (eL l)).bind keysOf, allT ((ls.map eL).zip ds) with
      | some k, some r => some ((k, d) :: r)
      | _, _ => none) = _
    rw [ih, show (keyTup (eL l)).bind keysOf = some (kL l) from keysOf_L l]
    rfl
theorem lots_nodup {m : Nat} (hm : m ≤ 4) : (lots m).Nodup := by
  refine m_cases (P := fun m => (lots m).Nodup) hm ?_ ?_ ?_ ?_ ?_ <;> decide +kernel
theorem lots_part {m : Nat} (hm : m ≤ 4) : ∀ u ∈ lots m, ∀ v ∈ lots m, partI u v ∈ lots m := by
  refine m_cases (P := fun m => ∀ u ∈ lots m, ∀ v ∈ lots m, partI u v ∈ lots m) hm ?_ ?_ ?_ ?_ ?_ <;> decide +kernel
theorem lots_small {m : Nat} (hm : m ≤ 4) : ∀ u ∈ lots m, u.length ≤ 4 ∧ ∀ x ∈ u, x ∈ upto m := by
  refine m_cases (P := fun m => ∀ u ∈ lots m, u.length ≤ 4 ∧ ∀ x ∈ u, x ∈ upto m) hm ?_ ?_ ?_ ?_ ?_ <;> decide +kernel
/-! ### the worth -/
def sgI (u v : List Int) : Rat := if (swapI u v).fmod 2 = 1 then -1 else 1
def wQ (sq : Int → Rat) (u v : List Int) : Rat := u.foldl (fun acc x => if x ∈ v then acc * sq x else acc) (sgI u v)
/-- squares, as a row -/
def IsSq (m : Nat) (sq : Int → Rat) (S : D) : Prop := ∀ x ∈ upto m, ∀ ro rw : MH, ∃ d, subD ro rw S (.int x) = some d ∧ IsQ (sq x) d
structure TF0 (T : Tab) : Prop where
  lines : T "lines" = some f_lines
  worth : T "worth" = some f_worth
  fold_of : T "fold_of" = some f_fold_of
  made : T "made" = some f_made
structure TFold (T : Tab) : Prop extends TF0 T where
  wedge_of : T "wedge_of" = some f_wedge_of
  fold_tables : T "fold_tables" = some f_fold_tables
  wedge_tables : T "wedge_tables" = some f_wedge_tables
  plus_tables : T "plus_tables" = some f_plus_tables
  summed : T "summed" = some f_summed
instance {T : Tab} : Coe (TFold T) (TF0 T) := ⟨TFold.toTF0⟩
section
variable {T : Tab} {n : Nat} {ro rw : MH} {C : Calls}
theorem wQ_sm {sq : Int → Rat} {c : Nat} {u v : List Int} (hs : ∀ x ∈ u, Sm c (sq x)) : Sm (1 + c * u.length) (wQ sq u v) := by
  have g : ∀ (l : List Int) (a : Rat) (k : Nat), (∀ x ∈ l, Sm c (sq x)) → Sm k a → Sm (k + c * l.length) (l.foldl (fun acc x => if x ∈ v then acc * sq x else acc) a) := by
    intro l
    induction l with
    | nil => intro a k _ h; simpa using h
    | cons x l ih =>
      intro a k hx h
      rw [List.foldl_cons]
      have e : k + c * (x :: l).length = (k + c) + c * l.length := by
        rw [List.length_cons, Nat.mul_succ]; omega
      rw [e]
      refine ih _ _ (fun y hy => hx y (List.mem_cons_of_mem _ hy)) ?_
      by_cases hv : x ∈ v
      · rw [if_pos hv]; exact h.mul (hx x List.mem_cons_self)
      · rw [if_neg hv]; exact h.le (by omega)
  refine g u _ 1 hs ?_
  unfold sgI
  split
  · exact ⟨by decide, by decide⟩
  · exact ⟨by decide, by decide⟩
theorem worth_run (hF : TF0 T) (hN : TNum T) (hL : TLot T) (h1 : 3 ≤ n) {m c : Nat} (hm : m ≤ 4) (hc : c ≤ 100) {sq : Int → Rat} {S : D} (hS : IsSq m sq S) (hs : ∀ x ∈ upto m, Sm c (sq x)) {u v : List Int} (hu : u ∈ lots m) (hv : v ∈ lots m) :
    ∃ d, callN T n ro "worth" [S, eL u, eL v] rw = .ok d rw ∧ IsQ (wQ sq u v) d := by
  obtain ⟨k, rfl⟩ : ∃ k, n = k + 1 := ⟨n - 1, by omega⟩
  obtain ⟨lu, xu⟩ := lots_small hm u hu
  obtain ⟨lv, _⟩ := lots_small hm v hv
  -- the sign
  have e0 : ∃ d0, evE (callN T k) ro (.ite (.cmp .eq (.bin .mod (.call "swaps_of" [.nm 1, .nm 2] [] [0, 1]) (.cst (.int 2))) (.cst (.int 1))) (.call "minus" [.cst (.tup false [.int 1, .int 1])] [] [0]) (.cst (.tup false [.int 1, .int 1]))) [some S, some (eL u), some (eL v), none, none] rw = .ok d0 rw ∧ IsQ (sgI u v) d0 := by
    have t : evE (callN T k) ro (.cmp .eq (.bin .mod (.call "swaps_of" [.nm 1, .nm 2] [] [0, 1]) (.cst (.int 2))) (.cst (.int 1))) [some S, some (eL u), some (eL v), none, none] rw = .ok (.bl (decide ((swapI u v).fmod 2 = 1))) rw :=
      ev_cmp (ev_bin (ev_call (es_cons (ev_nm rfl) (es_cons (ev_nm rfl) es_nil)) rfl (swaps_run hL (by omega) (by omega) (by omega))) ev_cst rfl) ev_cst (eqI _ _)
    unfold sgI
    by_cases hz : (swapI u v).fmod 2 = 1
    · rw [decide_eq_true hz] at t
      refine ⟨enc (-1), ev_iteT t ?_, by rw [if_pos hz]; exact isQ_enc _⟩
      exact ev_call (es_cons ev_cst es_nil) rfl (minus_run hN (by omega) isQ_one)
    · rw [decide_eq_false hz] at t
      exact ⟨_, ev_iteF t ev_cst, by rw [if_neg hz]; exact isQ_one⟩
  obtain ⟨d0, e0, q0⟩ := e0
  -- the loop
  obtain ⟨σ', rw', e, dd, x4, pre, rfl, rfl, hpe, hq⟩ := loop_run (C := callN T k) (ro := ro) (g := .nm 4) (it := .seq (.nm 1)) (b := [.set 3 (.ite (.cmp .isin (.nm 4) (.nm 2)) (.call "times" [.nm 3, .sub (.nm 0) (.nm 4)] [] [0, 1]) (.nm 3))]) (s := u.map .int) (rw := rw) (rw0 := rw) (σ := [some S, some (eL u), some (eL v), some d0, none])
    (fun done σ rw' => ∃ dd x4, ∃ pre : List Int, σ = [some S, some (eL u), some (eL v), some dd, x4] ∧ rw' = rw ∧ done = pre.map .int ∧ IsQ (pre.foldl (fun acc x => if x ∈ v then acc * sq x else acc) (sgI u v)) dd)
    (by
      unfold evT
      rw [bindM (ev_nm (d := eL u) rfl)]; rfl) ⟨d0, none, [], rfl, rfl, rfl, q0⟩ (fun done d post σ rw1 e ⟨dd, x4, pre, e1, e2, e3, hq⟩ => by
      subst e1
      subst e3
      have hd : d ∈ u.map D.int := by rw [← e]; simp
      obtain ⟨x, hx, rfl⟩ := List.mem_map.mp hd
      have hpl : pre.length < u.length := by
        have := congrArg List.length e
        simp at this
        omega
      have hpre : ∀ y ∈ pre, y ∈ u := fun y hy => by
        have : D.int y ∈ u.map D.int := by rw [← e]; simp [hy]
        obtain ⟨y', h1, h2⟩ := List.mem_map.mp this
        cases h2; exact h1
      have t : evE (callN T k) ro (.cmp .isin (.nm 4) (.nm 2)) [some S, some (eL u), some (eL v), some dd, some (.int x)] rw1 = .ok (.bl (decide (x ∈ v))) rw1 := ev_cmp (ev_nm rfl) (ev_nm rfl) (isin_ints x v)
      have key : ∃ d2, evE (callN T k) ro (.ite (.cmp .isin (.nm 4) (.nm 2)) (.call "times" [.nm 3, .sub (.nm 0) (.nm 4)] [] [0, 1]) (.nm 3)) [some S, some (eL u), some (eL v), some dd, some (.int x)] rw1 = .ok d2 rw1 ∧ IsQ ((pre ++ [x]).foldl (fun acc x => if x ∈ v then acc * sq x else acc) (sgI u v)) d2 := by
        rw [List.foldl_append]
        simp only [List.foldl_cons, List.foldl_nil]
        by_cases hxv : x ∈ v
        · rw [if_pos hxv]
          rw [decide_eq_true hxv] at t
          obtain ⟨ds, s1, s2⟩ := hS x (xu x hx) ro rw1
          have sm1 : Sm (1 + c * pre.length) (pre.foldl (fun acc x => if x ∈ v then acc * sq x else acc) (sgI u v)) := by
            have g : ∀ (l : List Int) (a : Rat) (k : Nat), (∀ x ∈ l, Sm c (sq x)) → Sm k a → Sm (k + c * l.length) (l.foldl (fun acc x => if x ∈ v then acc * sq x else acc) a) := by
              intro l
              induction l with
              | nil => intro a k _ h; simpa using h
              | cons x l ih =>
                intro a k hx h
                rw [List.foldl_cons]
                have e : k + c * (x :: l).length = (k + c) + c * l.length := by
                  rw [List.length_cons, Nat.mul_succ]; omega
                rw [e]
                refine ih _ _ (fun y hy => hx y (List.mem_cons_of_mem _ hy)) ?_
                by_cases hv : x ∈ v
                · rw [if_pos hv]; exact h.mul (hx x List.mem_cons_self)
                · rw [if_neg hv]; exact h.le (by omega)
            refine g pre _ 1 (fun y hy => hs y (xu y (hpre y hy))) ?_
            unfold sgI
            split
            · exact ⟨by decide, by decide⟩
            · exact ⟨by decide, by decide⟩
          have b1 : c * pre.length ≤ 100 * 4 := Nat.mul_le_mul hc (by omega)
          refine ⟨_, ev_iteT t (ev_call (es_cons (ev_nm rfl) (es_cons (ev_sub (ev_nm rfl) (ev_nm rfl) s1) es_nil)) rfl (times_run hN (by omega) hq s2 sm1 (hs x (xu x hx)) (by omega))), isQ_enc _⟩
        · rw [if_neg hxv]
          rw [decide_eq_false hxv] at t
          exact ⟨dd, ev_iteF t (ev_nm rfl), hq⟩
      obtain ⟨d2, k1, k2⟩ := key
      refine ⟨_, [some S, some (eL u), some (eL v), some d2, some (.int x)], rw1, rfl, .inl ?_, d2, some (.int x), pre ++ [x], rfl, e2, by simp, k2⟩
      exact ex_nx (ex_set k1 (show 3 < 5 by decide)))
  have hpre : pre = u := by
    have : ∀ {a b : List Int}, a.map D.int = b.map D.int → a = b := fun {a} => by
      induction a with
      | nil => intro b h; cases b with
        | nil => rfl
        | cons _ _ => cases h
      | cons x a ih => intro b h; cases b with
        | nil => cases h
        | cons y b =>
          obtain ⟨h1, h2⟩ := List.cons.inj h
          cases h1
          rw [ih h2]
    exact (this hpe).symm
  subst hpre
  refine ⟨dd, call_f hF.worth (by omega) rfl (by decide) (fl := .rt dd) (fun j hj => ?_) rfl, hq⟩
  obtain rfl : j = k := by omega
  exact (ex_nx (ex_set e0 (show 3 < 5 by decide))).trans ((ex_nx e).trans (ex_rt (ex_ret (ev_nm rfl))))
end
end Mx

set_option Elab.async false
set_option linter.all false
set_option maxRecDepth 100000
set_option maxHeartbeats 1000000
/-! Pa, part I: tables folded. -/
namespace Mx
open PySem
/-- the number that stands at a lot -/
def vl (m : Nat) (qs : List Rat) (l : List Int) : Rat := qs.getD ((lots m).idxOf l) 0
/-- one pair of lots -/
def pairQ (sq : Int → Rat) (h t : List Int → Rat) (u v : List Int) (acc : List Int → Rat) : List Int → Rat := fun L => if L = partI u v then acc L + h u * t v * wQ sq u v else acc L
def rowQ (sq : Int → Rat) (h t : List Int → Rat) (vs : List (List Int)) (acc : List Int → Rat) (u : List Int) : List Int → Rat := vs.foldl (fun acc v => pairQ sq h t u v acc) acc
def foldQ (m : Nat) (sq : Int → Rat) (h t : List Int → Rat) : List Int → Rat := (lots m).foldl (rowQ sq h t (lots m)) fun _ => 0
section
variable {T : Tab} {n : Nat} {ro rw : MH} {C : Calls}
theorem lines_run (hF : TF0 T) (hJ : TJ0 T) (hL : TLot T) (h1 : 2 ≤ n) {m : Nat} (hm : m ≤ 4) {qs : List Rat} {d : D} (ht : IsTab m qs d) : ∃ val : List Int → D, callN T n ro "lines" [d] rw = .ok (.dT (dicL (lots m) val)) rw ∧ ∀ l ∈ lots m, IsQ (vl m qs l) (val l) := by
  have hc := count_ok (ro := ro) (rw := rw) hJ (n := n - 1) (by omega) hm ht
  obtain ⟨hl, k, j, ds, rfl, hq⟩ := ht
  have l := hq.length
  have ll := lots_len hm
  refine ⟨valOf (lots m) ds, call_f hF.lines (by omega) rfl (by decide) (fl := .rt _) (fun x hx => ?_) rfl, fun l hl' => ?_⟩
  · obtain rfl : x = n - 1 := by omega
    refine ex_rt (ex_ret (ev_blt (es_cons (ev_call (es_cons (ev_blt (d := .lst (rangeD 0 m)) (es_cons (ev_call (es_cons (ev_nm rfl) es_nil) rfl hc) es_nil) ?_) es_nil) rfl (lots_run hL (by omega) hm)) (es_cons (ev_sub (ev_nm rfl) ev_cst sub_1) es_nil)) ?_))
    · show (if rangeOk 0 m = true then some (D.lst (rangeD 0 m)) else none) = _
      rw [if_pos (rangeOk_upto hm)]
    · show (allT (((lots m).map eL).zip ds)).map (fun kvs => D.dT (mergeD [] kvs)) = _
      rw [allT_lots, zip_valOf _ _ (lots_nodup hm) (by omega)]
      have e : ((lots m).map fun l => (l, valOf (lots m) ds l)).map (fun p => (kL p.1, p.2)) = dicL (lots m) (valOf (lots m) ds) := by
        rw [List.map_map]; rfl
      rw [e]
      have e2 := merge_new (val := valOf (lots m) ds) (lots m) [] (by simpa using lots_nodup hm)
      rw [show dicL [] (valOf (lots m) ds) = [] from rfl, List.nil_append] at e2
      rw [Option.map_some, e2]
  · have hi : (lots m).idxOf l < (lots m).length := List.idxOf_lt_length_of_mem hl'
    have hi2 : (lots m).idxOf l < qs.length := by omega
    obtain ⟨e, e1, e2⟩ := hq.get (List.getElem?_eq_getElem hi2)
    have a1 : vl m qs l = qs[(lots m).idxOf l] := by
      unfold vl
      rw [List.getD_eq_getElem?_getD, List.getElem?_eq_getElem hi2]; rfl
    have a2 : valOf (lots m) ds l = e := by
      unfold valOf
      rw [List.getD_eq_getElem?_getD, e1]; rfl
    rw [a1, a2]
    exact e2
theorem upO_own {f : MO → Option MO} {o o' : MO} (h : f o = some o') : upO ro ro.length f [o] = .ok () [o'] := by
  unfold upO
  simp [h]
theorem getO_own {o : MO} : getO ro [o] ro.length = some o := by
  unfold getO
  simp
theorem sub_dic {ls : List (List Int)} {val : List Int → D} {l : List Int} (h : l ∈ ls) : subD ro rw (.dT (dicL ls val)) (eL l) = some (val l) := by
  show (dget (.t (dicL ls val)) (eL l)).bind id = _
  show ((keysOf (l.map .int)).map (kget (dicL ls val))).bind id = _
  rw [keysOf_L, Option.map_some, dicL_get h]; rfl
theorem sub_own {ls : List (List Int)} {val : List Int → D} {l : List Int} (h : l ∈ ls) : subD ro [.dT (dicL ls val)] (.ref ro.length) (eL l) = some (val l) := by
  have e : dicOf ro [.dT (dicL ls val)] (.ref ro.length) = some (.t (dicL ls val)) := by
    show (match getO ro [.dT (dicL ls val)] ro.length with
      | some (.dK kvs) => some (Dc.k kvs)
      | some (.dT kvs) => some (Dc.t kvs)
      | _ => none) = _
    rw [getO_own]
  unfold subD
  rw [e]
  show ((keysOf (l.map .int)).map (kget (dicL ls val))).bind id = _
  rw [keysOf_L, Option.map_some, dicL_get h]; rfl
theorem put_own {ls : List (List Int)} {val : List Int → D} {l : List Int} {x : D} (h : l ∈ ls) (hl : ls.length ≤ 100) : putO (eL l) x (.dT (dicL ls val)) = some (.dT (dicL ls (updL val l x))) := by
  show (if decide ((dicL ls val).length < 16777216) = true then ((keyTup (eL l)).bind keysOf).map (fun k => MO.dT (kput (dicL ls val) k x)) else none) = _
  have hd : (dicL ls val).length < 16777216 := by
    unfold dicL
    rw [List.length_map]; omega
  rw [if_pos (decide_eq_true hd), show (keyTup (eL l)).bind keysOf = some (kL l) from keysOf_L l, Option.map_some, dicL_put h]
theorem made_run (hF : TF0 T) (h1 : 1 ≤ n) (ds : List D) : callN T n ro "made" [.lst ds] rw = .ok (.tup true [.str (Str.ofString "table"), .tup true ds]) rw :=
  call_f hF.made h1 rfl (by decide) (fl := .rt _) (fun m _ => ex_rt (ex_ret (ev_tup (es_cons ev_cst (es_cons (ev_blt (es_cons (ev_nm rfl) es_nil) rfl) es_nil)) rfl))) rfl
/-- the dict of zeros -/
theorem zeros_run {m : Nat} (hm : m ≤ 4) {val : List Int → D} {σ : Sig} (hl : σ.length = 10) (h5 : σ[5]? = some (some (.dT (dicL (lots m) val)))) : evE C ro (.dcomp true (.nm 8) (.cst zeroD) [8] (.nm 8) (.keys 5) none) σ [] = .ok (.ref ro.length) [.dT (dicL (lots m) fun _ => zeroD)] := by
  have ll := lots_len hm
  have l16 : (lots m).length ≤ 16 := by
    rw [ll]; exact Nat.pow_le_pow_right (n := 2) (by decide) hm
  obtain ⟨a, rw', e, ls, e1, e2⟩ := loopF_run (f := fun d (_ : Unit) => M.bind (M.lift (asG (.nm 8) d (wipeD σ [8]))) fun σ2 => M.bind (evIfs C ro none σ2) fun j => if j then M.bind (evE C ro (.nm 8) σ2) fun x => M.bind (evE C ro (.cst zeroD) σ2) fun y => upO ro ro.length (putT x y) else M.pure ())
    (fun pre _ rw => ∃ ls : List (List Int), pre = ls.map eL ∧ rw = [.dT (dicL ls fun _ => zeroD)]) (ds := (lots m).map eL) (a := ()) (rw := [.dT []]) ⟨[], rfl, rfl⟩ (fun pre d post a rw e ⟨ls, e1, e2⟩ => by
      subst e1
      subst e2
      have inj : ∀ {a b : List Int}, eL a = eL b → a = b := fun {a b} h => by
        have h := (D.tup.inj h).2
        have := congrArg intsOf h
        rw [intsOf_ints, intsOf_ints] at this
        exact Option.some.inj this
      have hd : d ∈ (lots m).map eL := by rw [← e]; simp
      obtain ⟨l, hlm, rfl⟩ := List.mem_map.mp hd
      have nd : ((lots m).map eL).Nodup := List.pairwise_map.mpr (List.Pairwise.imp (fun h z => h (inj z)) (lots_nodup hm))
      rw [← e] at nd
      have hnl : l ∉ ls := fun z => by
        have := (List.nodup_append.mp nd).2.2 (eL l) (List.mem_map_of_mem z) (eL l) List.mem_cons_self
        exact this rfl
      have hlen : ls.length < 16 := by
        have := congrArg List.length e
        simp at this
        omega
      have g8 : ((wipeD σ [8]).set 8 (some (eL l)))[8]? = some (some (eL l)) := by simp [wipeD, hl]
      have es : asG (.nm 8) (eL l) (wipeD σ [8]) = some ((wipeD σ [8]).set 8 (some (eL l))) := by simp [asG, wipeD, hl]
      refine ⟨(), [.dT (dicL (ls ++ [l]) fun _ => zeroD)], ?_, ls ++ [l], by simp, rfl⟩
      rw [bindM (show M.lift (asG (.nm 8) (eL l) (wipeD σ [8])) _ = .ok ((wipeD σ [8]).set 8 (some (eL l))) _ from by rw [es]; rfl), bindM (show evIfs C ro none _ _ = .ok true _ from by unfold evIfs; rfl)]
      simp only [if_true]
      rw [bindM (ev_nm g8), bindM ev_cst]
      refine upO_own ?_
      show (if decide ((dicL ls fun _ => zeroD).length < 16777216) = true then ((keyTup (eL l)).bind keysOf).map (fun k => MO.dT (kput (dicL ls fun _ => zeroD) k zeroD)) else none) = _
      have hd : (dicL ls fun _ => zeroD).length < 16777216 := by
        unfold dicL
        rw [List.length_map]; omega
      rw [if_pos (decide_eq_true hd), show (keyTup (eL l)).bind keysOf = some (kL l) from keysOf_L l, Option.map_some]
      rw [show kput (dicL ls fun _ => zeroD) (kL l) zeroD = dicL (ls ++ [l]) fun _ => zeroD from dicL_new (val := fun _ => zeroD) hnl])
  have inj : ∀ {a b : List (List Int)}, a.map eL = b.map eL → a = b := fun {a} => by
    induction a with
    | nil => intro b h; cases b with
      | nil => rfl
      | cons _ _ => cases h
    | cons x a ih => intro b h; cases b with
      | nil => cases h
      | cons y b =>
        obtain ⟨h1, h2⟩ := List.cons.inj h
        have h3 := congrArg intsOf (D.tup.inj h1).2
        rw [intsOf_ints, intsOf_ints] at h3
        rw [Option.some.inj h3, ih h2]
  have els := inj e1
  subst els
  subst e2
  unfold evE
  rw [bindM (show evT C ro (.keys 5) σ [] = .ok ((lots m).map eL) [] from by
    unfold evT
    rw [h5]
    show M.lift (keysD (.dT (dicL (lots m) val))) [] = _
    rw [keys_dicL]; rfl)]
  simp only [if_true]
  rw [bindM (show alloc ro true (.dT []) [] = .ok (.ref ro.length) [.dT []] from rfl), bindM (show M.lift (refOf (.ref ro.length)) [.dT []] = .ok ro.length [.dT []] from rfl), bindM e]
  rfl
theorem pairQ_zero {sq : Int → Rat} {h t : List Int → Rat} {u v : List Int} {acc : List Int → Rat} (z : h u = 0 ∨ t v = 0) : pairQ sq h t u v acc = acc := by
  funext L
  unfold pairQ
  split
  · rcases z with z | z <;> rw [z] <;> grind
  · rfl
/-- the dict on its way -/
structure Way (m b : Nat) (acc : List Int → Rat) (val : List Int → D) : Prop where
  is : ∀ l ∈ lots m, IsQ (acc l) (val l)
  sm : ∀ l ∈ lots m, Sm b (acc l)
def fIn : List MS := [.ite (.and [.cmp .ne (.sub (.nm 5) (.nm 4)) (.cst (.tup false [.int 0, .int 1])), .cmp .ne (.sub (.nm 6) (.nm 7)) (.cst (.tup false [.int 0, .int 1]))]) [.set 9 (.call (Str.ofString "times") [.call (Str.ofString "times") [.sub (.nm 5) (.nm 4), .sub (.nm 6) (.nm 7)] [] [0, 1], .call (Str.ofString "worth") [.nm 0, .nm 4, .nm 7] [] [0, 1, 2]] [] [0, 1]), .set 8 (.call (Str.ofString "parted") [.nm 4, .nm 7] [] [0, 1]), .put (.nm 3) (.nm 8) (.call (Str.ofString "plus") [.sub (.nm 3) (.nm 8), .nm 9] [] [0, 1])] []]
/-- what is known at a fold -/
structure FoldAt (T : Tab) (m a b c e : Nat) (sq : Int → Rat) (S : D) (h t : List Int → Rat) (vh vt : List Int → D) : Prop where
  hF : TF0 T
  hN : TNum T
  hL : TLot T
  hm : m ≤ 4
  hS : IsSq m sq S
  hs : ∀ x ∈ upto m, Sm c (sq x)
  qh : ∀ l ∈ lots m, IsQ (h l) (vh l)
  qt : ∀ l ∈ lots m, IsQ (t l) (vt l)
  sh : ∀ l ∈ lots m, Sm a (h l)
  st : ∀ l ∈ lots m, Sm b (t l)
  few : a + b + (1 + c * 4) + 1 ≤ e
  few2 : e ≤ 30
def sg (S one two : D) (L : Nat) (x4 : Option D) (m : Nat) (vh vt : List Int → D) (x7 x8 x9 : Option D) : Sig := [some S, some one, some two, some (.ref L), x4, some (.dT (dicL (lots m) vh)), some (.dT (dicL (lots m) vt)), x7, x8, x9]
theorem pair_run {m a b c e : Nat} {sq : Int → Rat} {S one two : D} {h t : List Int → Rat} {vh vt : List Int → D} (F : FoldAt T m a b c e sq S h t vh vt) (h1 : 4 ≤ n) {w : Nat} (hw : w ≤ 7900) {acc : List Int → Rat} {val : List Int → D} (W : Way m w acc val) {u v : List Int} (hu : u ∈ lots m) (hv : v ∈ lots m) {x8 x9 : Option D} :
    ∃ val' x8' x9', exSs (callN T n) ro fIn (sg S one two ro.length (some (eL u)) m vh vt (some (eL v)) x8 x9) [.dT (dicL (lots m) val)] = .ok (.nx (sg S one two ro.length (some (eL u)) m vh vt (some (eL v)) x8' x9')) [.dT (dicL (lots m) val')] ∧ Way m (w + e) (pairQ sq h t u v acc) val' := by
  have ll := lots_len F.hm
  have l16 : (lots m).length ≤ 16 := by
    rw [ll]; exact Nat.pow_le_pow_right (n := 2) (by decide) F.hm
  have s1 : evE (callN T n) ro (.sub (.nm 5) (.nm 4)) (sg S one two ro.length (some (eL u)) m vh vt (some (eL v)) x8 x9) [.dT (dicL (lots m) val)] = .ok (vh u) [.dT (dicL (lots m) val)] := ev_sub (ev_nm rfl) (ev_nm rfl) (sub_dic hu)
  have s2 : evE (callN T n) ro (.sub (.nm 6) (.nm 7)) (sg S one two ro.length (some (eL u)) m vh vt (some (eL v)) x8 x9) [.dT (dicL (lots m) val)] = .ok (vt v) [.dT (dicL (lots m) val)] := ev_sub (ev_nm rfl) (ev_nm rfl) (sub_dic hv)
  have t1 := ev_cmp (op := .ne) s1 (ev_cst (d := .tup false [.int 0, .int 1])) (neQ0 (F.qh u hu))
  have t2 := ev_cmp (op := .ne) s2 (ev_cst (d := .tup false [.int 0, .int 1])) (neQ0 (F.qt v hv))
  by_cases zu : h u = 0
  · rw [zu, decide_eq_true rfl] at t1
    refine ⟨val, x8, x9, ex_nx (ex_iteF (ev_and (ev_andF t1))), ?_⟩
    rw [pairQ_zero (.inl zu)]
    exact ⟨W.is, fun l hl => (W.sm l hl).le (by omega)⟩
  · rw [decide_eq_false zu] at t1
    by_cases zv : t v = 0
    · rw [zv, decide_eq_true rfl] at t2
      refine ⟨val, x8, x9, ex_nx (ex_iteF (ev_and (ev_andT t1 (ev_and1 t2)))), ?_⟩
      rw [pairQ_zero (.inr zv)]
      exact ⟨W.is, fun l hl => (W.sm l hl).le (by omega)⟩
    · rw [decide_eq_false zv] at t2
      obtain ⟨lu, xu⟩ := lots_small F.hm u hu
      obtain ⟨lv, xv⟩ := lots_small F.hm v hv
      have c100 : c ≤ 100 := by have := F.few; have := F.few2; omega
      obtain ⟨dw, ew, qw⟩ := worth_run (ro := ro) (rw := [.dT (dicL (lots m) val)]) F.hF F.hN F.hL (n := n) (by omega) F.hm c100 F.hS F.hs hu hv
      have sw : Sm (1 + c * 4) (wQ sq u v) := (wQ_sm (v := v) (c := c) fun x hx => F.hs x (xu x hx)).le (by have := Nat.mul_le_mul_left c lu; omega)
      have p0 := lots_part F.hm u hu v hv
      have few := F.few
      have few2 := F.few2
      have e1 := times_run (ro := ro) (rw := [.dT (dicL (lots m) val)]) F.hN (n := n) (by omega) (F.qh u hu) (F.qt v hv) (F.sh u hu) (F.st v hv) (by omega)
      have sb := ((F.sh u hu).mul (F.st v hv)).mul sw
      have e2 := times_run (ro := ro) (rw := [.dT (dicL (lots m) val)]) F.hN (n := n) (by omega) (isQ_enc (h u * t v)) qw ((F.sh u hu).mul (F.st v hv)) sw (by omega)
      have e3 := plus_run (ro := ro) (rw := [.dT (dicL (lots m) val)]) F.hN (n := n) (by omega) (W.is _ p0) (isQ_enc (h u * t v * wQ sq u v)) (W.sm _ p0) sb (by omega)
      have e4 := parted_run (ro := ro) (rw := [.dT (dicL (lots m) val)]) F.hL (n := n) (by omega) (u := u) (v := v) (by omega) (by omega)
      refine ⟨updL val (partI u v) (enc (acc (partI u v) + h u * t v * wQ sq u v)), some (eL (partI u v)), some (enc (h u * t v * wQ sq u v)), ex_nx (ex_iteT (ev_and (ev_andT t1 (ev_and1 t2))) ?_), ⟨fun l hl => ?_, fun l hl => ?_⟩⟩
      · refine (ex_nx (ex_set (ev_call (es_cons (ev_call (es_cons s1 (es_cons s2 es_nil)) rfl e1) (es_cons (ev_call (es_cons (ev_nm rfl) (es_cons (ev_nm rfl) (es_cons (ev_nm rfl) es_nil))) rfl ew) es_nil)) rfl e2) (show 9 < 10 by decide))).trans ((ex_nx (ex_set (ev_call (es_cons (ev_nm rfl) (es_cons (ev_nm rfl) es_nil)) rfl e4) (show 8 < 10 by decide))).trans ?_)
        refine ex_nx ?_
        unfold exS
        rw [bindM (ev_call (es_cons (ev_sub (ev_nm rfl) (ev_nm rfl) (sub_own p0)) (es_cons (ev_nm rfl) es_nil)) rfl e3), bindM (ev_nm (d := .ref ro.length) rfl), bindM (ev_nm (d := eL (partI u v)) rfl), bindM (show M.lift (refOf (.ref ro.length)) _ = .ok ro.length _ from rfl)]
        rw [bindM (upO_own (put_own p0 (by omega)))]
        rfl
      · unfold pairQ updL
        by_cases ee : l = partI u v
        · rw [if_pos ee, if_pos ee, ee]; exact isQ_enc _
        · rw [if_neg ee, if_neg ee]; exact W.is l hl
      · unfold pairQ
        by_cases ee : l = partI u v
        · rw [if_pos ee, ee]; exact ((W.sm _ p0).add sb).le (by omega)
        · rw [if_neg ee]; exact (W.sm l hl).le (by omega)
theorem eL_inj {a b : List Int} (h : eL a = eL b) : a = b := by
  have h3 := congrArg intsOf (D.tup.inj h).2
  rw [intsOf_ints, intsOf_ints] at h3
  exact Option.some.inj h3
theorem eLs_inj : ∀ {a b : List (List Int)}, a.map eL = b.map eL → a = b
  | [], [], _ => rfl
  | [], _ :: _, h => by cases h
  | _ :: _, [], h => by cases h
  | x :: a, y :: b, h => by
    obtain ⟨h1, h2⟩ := List.cons.inj h
    rw [eL_inj h1, eLs_inj h2]
/-- all pairs of a lot -/
theorem row_run {m a b c e : Nat} {sq : Int → Rat} {S one two : D} {h t : List Int → Rat} {vh vt : List Int → D} (F : FoldAt T m a b c e sq S h t vh vt) (h1 : 4 ≤ n) {w : Nat} (hw : w + 16 * e ≤ 7900) {acc : List Int → Rat} {val : List Int → D} (W : Way m w acc val) {u : List Int} (hu : u ∈ lots m) {x7 x8 x9 : Option D} :
    ∃ val' x7' x8' x9', exS (callN T n) ro (.loop (.nm 7) (.keys 6) fIn) (sg S one two ro.length (some (eL u)) m vh vt x7 x8 x9) [.dT (dicL (lots m) val)] = .ok (.nx (sg S one two ro.length (some (eL u)) m vh vt x7' x8' x9')) [.dT (dicL (lots m) val')] ∧ Way m (w + (lots m).length * e) (rowQ sq h t (lots m) acc u) val' := by
  have ll := lots_len F.hm
  have l16 : (lots m).length ≤ 16 := by
    rw [ll]; exact Nat.pow_le_pow_right (n := 2) (by decide) F.hm
  obtain ⟨σ', rw', ee, vs, val', x7', x8', x9', e1, rfl, rfl, W'⟩ := loop_run (C := callN T n) (ro := ro) (g := .nm 7) (it := .keys 6) (b := fIn) (s := (lots m).map eL) (rw := [.dT (dicL (lots m) val)]) (rw0 := [.dT (dicL (lots m) val)]) (σ := sg S one two ro.length (some (eL u)) m vh vt x7 x8 x9)
    (fun pre σ rw' => ∃ (vs : List (List Int)) (val' : List Int → D) (x7' x8' x9' : Option D), pre = vs.map eL ∧ σ = sg S one two ro.length (some (eL u)) m vh vt x7' x8' x9' ∧ rw' = [.dT (dicL (lots m) val')] ∧ Way m (w + vs.length * e) (rowQ sq h t vs acc u) val')
    (by
      unfold evT
      show M.lift (keysD (.dT (dicL (lots m) vt))) _ = _
      rw [keys_dicL]; rfl) ⟨[], val, x7, x8, x9, rfl, rfl, rfl, by rw [List.length_nil, Nat.zero_mul]; exact W⟩ (fun pre d post σ rw' ee ⟨vs, val', x7', x8', x9', e1, e2, e3, W'⟩ => by
      subst e1
      subst e2
      subst e3
      have hd : d ∈ (lots m).map eL := by rw [← ee]; simp
      obtain ⟨v, hv, rfl⟩ := List.mem_map.mp hd
      have hlen : vs.length < 16 := by
        have := congrArg List.length ee
        simp at this
        omega
      have hwe : vs.length * e ≤ 16 * e := Nat.mul_le_mul_right e (by omega)
      obtain ⟨val2, x8'', x9'', k1, k2⟩ := pair_run (ro := ro) F h1 (w := w + vs.length * e) (by omega) W' hu hv (one := one) (two := two) (x8 := x8') (x9 := x9')
      refine ⟨_, _, _, rfl, .inl k1, vs ++ [v], val2, some (eL v), x8'', x9'', by simp, rfl, rfl, ?_⟩
      have q : w + (vs ++ [v]).length * e = w + vs.length * e + e := by
        rw [List.length_append, List.length_singleton, Nat.succ_mul]; omega
      rw [q]
      show Way m _ ((vs ++ [v]).foldl _ acc) val2
      rw [List.foldl_append]
      exact k2)
  have := eLs_inj e1
  subst this
  exact ⟨val', x7', x8', x9', ee, W'⟩
theorem froz_Q {base : Nat} {rw : MH} {q : Rat} {d : D} (h : IsQ q d) {k : Nat} : froz base rw (k + 2) d = some d := by
  obtain ⟨b, rfl⟩ := h
  rfl
theorem froz_Qs {base : Nat} {rw : MH} {k : Nat} : ∀ {qs : List Rat} {ds : List D}, IsQs qs ds → ds.mapM (froz base rw (k + 2)) = some ds
  | [], [], _ => rfl
  | q :: qs, d :: ds, h => by
    rw [List.mapM_cons, froz_Q h.1, froz_Qs h.2]; rfl
  | [], _ :: _, h => h.elim
  | _ :: _, [], h => h.elim
theorem isQs_map {α : Type} {f : α → Rat} {g : α → D} : ∀ (ls : List α), (∀ l ∈ ls, IsQ (f l) (g l)) → IsQs (ls.map f) (ls.map g)
  | [], _ => trivial
  | l :: ls, h => ⟨h l List.mem_cons_self, isQs_map ls fun a ha => h a (List.mem_cons_of_mem _ ha)⟩
/-- tables folded -/
theorem fold_run (hF : TF0 T) (hN : TNum T) (hJ : TJ0 T) (hL : TLot T) (h1 : 5 ≤ n) {m a b c e : Nat} (hm : m ≤ 4) {sq : Int → Rat} {S one two : D} (hS : IsSq m sq S) (hs : ∀ x ∈ upto m, Sm c (sq x)) {ps qs : List Rat} (ho : IsTab m ps one) (ht : IsTab m qs two) (so : ∀ l ∈ lots m, Sm a (vl m ps l)) (st : ∀ l ∈ lots m, Sm b (vl m qs l))
    (few : a + b + (1 + c * 4) + 1 ≤ e) (few2 : e ≤ 30) : ∃ d, callN T n ro "fold_of" [S, one, two] rw = .ok d rw ∧ IsTab m ((lots m).map (foldQ m sq (vl m ps) (vl m qs))) d ∧ ∀ l ∈ lots m, Sm (1 + 256 * e) (foldQ m sq (vl m ps) (vl m qs) l) := by
  obtain ⟨k, rfl⟩ : ∃ k, n = k + 1 := ⟨n - 1, by omega⟩
  have ll := lots_len hm
  have l16 : (lots m).length ≤ 16 := by
    rw [ll]; exact Nat.pow_le_pow_right (n := 2) (by decide) hm
  obtain ⟨vh, eh, qh⟩ := lines_run (ro := ro ++ rw) (rw := []) hF hJ hL (n := k) (by omega) hm ho
  obtain ⟨vt, et, qt⟩ := lines_run (ro := ro ++ rw) (rw := []) hF hJ hL (n := k) (by omega) hm ht
  have F : FoldAt T m a b c e sq S (vl m ps) (vl m qs) vh vt := ⟨hF, hN, hL, hm, hS, hs, qh, qt, so, st, few, few2⟩
  have Z : Way m 1 (fun _ => 0) (fun _ => zeroD) := ⟨fun l _ => isQ_zero, fun l _ => ⟨by decide, by decide⟩⟩
  obtain ⟨σ', rw', ee, us, val', x4', x7', x8', x9', e1, rfl, rfl, W'⟩ := loop_run (C := callN T k) (ro := ro ++ rw) (g := .nm 4) (it := .keys 5) (b := [.loop (.nm 7) (.keys 6) fIn]) (s := (lots m).map eL) (rw := [.dT (dicL (lots m) fun _ => zeroD)]) (rw0 := [.dT (dicL (lots m) fun _ => zeroD)]) (σ := sg S one two (ro ++ rw).length none m vh vt none none none)
    (fun pre σ rw' => ∃ (us : List (List Int)) (val' : List Int → D) (x4' x7' x8' x9' : Option D), pre = us.map eL ∧ σ = sg S one two (ro ++ rw).length x4' m vh vt x7' x8' x9' ∧ rw' = [.dT (dicL (lots m) val')] ∧ Way m (1 + us.length * (16 * e)) (us.foldl (rowQ sq (vl m ps) (vl m qs) (lots m)) fun _ => 0) val')
    (by
      unfold evT
      show M.lift (keysD (.dT (dicL (lots m) vh))) _ = _
      rw [keys_dicL]; rfl) ⟨[], _, none, none, none, none, rfl, rfl, rfl, by simpa using Z⟩ (fun pre d post σ rw' ee ⟨us, val', x4', x7', x8', x9', e1, e2, e3, W'⟩ => by
      subst e1
      subst e2
      subst e3
      have hd : d ∈ (lots m).map eL := by rw [← ee]; simp
      obtain ⟨u, hu, rfl⟩ := List.mem_map.mp hd
      have hlen : us.length < 16 := by
        have := congrArg List.length ee
        simp at this
        omega
      have hwe : us.length * (16 * e) ≤ 15 * (16 * e) := Nat.mul_le_mul_right _ (by omega)
      obtain ⟨val2, x7'', x8'', x9'', k1, k2⟩ := row_run (ro := ro ++ rw) F (n := k) (by omega) (w := 1 + us.length * (16 * e)) (by omega) W' hu (one := one) (two := two) (x7 := x7') (x8 := x8') (x9 := x9')
      refine ⟨_, _, _, rfl, .inl (ex_nx k1), us ++ [u], val2, some (eL u), x7'', x8'', x9'', by simp, rfl, rfl, ?_⟩
      rw [List.foldl_append]
      refine ⟨k2.is, fun l hl => (k2.sm l hl).le ?_⟩
      have q1 : (lots m).length * e ≤ 16 * e := Nat.mul_le_mul_right e l16
      have q2 : (us ++ [u]).length * (16 * e) = us.length * (16 * e) + 16 * e := by
        rw [List.length_append, List.length_singleton, Nat.succ_mul]
      omega)
  have hus := eLs_inj e1
  subst hus
  have c8 : evE (callN T k) (ro ++ rw) (.comp false (.sub (.nm 3) (.nm 8)) [8] (.nm 8) (.keys 5) none) (sg S one two (ro ++ rw).length x4' m vh vt x7' x8' x9') [.dT (dicL (lots m) val')] = .ok (.lst ((lots m).map val')) [.dT (dicL (lots m) val')] := by
    have q := comp_map (C := callN T k) (ro := ro ++ rw) (rw := [.dT (dicL (lots m) val')]) (rw0 := [.dT (dicL (lots m) val')]) (σ := sg S one two (ro ++ rw).length x4' m vh vt x7' x8' x9') (elt := .sub (.nm 3) (.nm 8)) (vs := [8]) (tg := .nm 8) (it := .keys 5) (s := (lots m).map eL) (fun d => match d with | .tup _ xs => (match intsOf xs with | some l => val' l | none => .non) | d => d) (by
      unfold evT
      show M.lift (keysD (.dT (dicL (lots m) vh))) _ = _
      rw [keys_dicL]; rfl) (by simp; omega) (fun d hd => by
      obtain ⟨l, hl, rfl⟩ := List.mem_map.mp hd
      refine ⟨sg S one two (ro ++ rw).length x4' m vh vt x7' (some (eL l)) x9', rfl, ?_⟩
      have q := ev_sub (C := callN T k) (ro := ro ++ rw) (a := .nm 3) (b := .nm 8) (σ := sg S one two (ro ++ rw).length x4' m vh vt x7' (some (eL l)) x9') (ev_nm (rw := [.dT (dicL (lots m) val')]) rfl) (ev_nm rfl) (sub_own (ro := ro ++ rw) (val := val') hl)
      rw [q]
      show _ = Res.ok (match intsOf (l.map .int) with | some l => val' l | none => .non) _
      rw [intsOf_ints])
    rw [List.map_map] at q
    rw [q]
    congr 2
    apply List.map_congr_left
    intro l _
    show (match intsOf (l.map .int) with | some l => val' l | none => .non) = _
    rw [intsOf_ints]
  have iq := isQs_map (f := foldQ m sq (vl m ps) (vl m qs)) (g := val') (lots m) W'.is
  refine ⟨.tup true [.str (Str.ofString "table"), .tup true ((lots m).map val')], ?_, ⟨by rw [List.length_map, ll], true, true, _, rfl, iq⟩, fun l hl => (W'.sm l hl).le ?_⟩
  · refine call_o hF.fold_of (by omega) rfl (by decide) (fl := .rt _) (fun j hj => ?_) rfl (d' := .tup true [.str (Str.ofString "table"), .tup true ((lots m).map val')]) ?_ (d := .tup true [.str (Str.ofString "table"), .tup true ((lots m).map val')]) (rw' := [.dT (dicL (lots m) val')])
    · obtain rfl : j = k := by omega
      refine (ex_nx (ex_par (ds := [.dT (dicL (lots m) vh), .dT (dicL (lots m) vt)]) (es_cons (ev_call (es_cons (ev_nm rfl) es_nil) rfl eh) (es_cons (ev_call (es_cons (ev_nm rfl) es_nil) rfl et) es_nil)) rfl)).trans ?_
      refine (ex_nx (ex_set (zeros_run (val := vh) hm rfl rfl) (show 3 < 10 by decide))).trans ?_
      refine (ex_nx ee).trans (ex_rt (ex_ret (ev_call (es_cons c8 es_nil) rfl (made_run hF (by omega) _))))
    · show (froz _ _ (77 + 2 + 1) (.tup true [.str (Str.ofString "table"), .tup true ((lots m).map val')])) = _
      have q := froz_Qs (base := (ro ++ rw).length) (rw := [.dT (dicL (lots m) val')]) (k := 76) iq
      show (([D.str (Str.ofString "table"), .tup true ((lots m).map val')] : List D).mapM (froz _ _ 79)).map (D.tup true) = _
      rw [List.mapM_cons, List.mapM_cons, List.mapM_nil]
      rw [show froz (ro ++ rw).length [.dT (dicL (lots m) val')] 79 (.tup true ((lots m).map val')) = some (.tup true ((lots m).map val')) from by
        show (((lots m).map val').mapM (froz _ _ 78)).map (D.tup true) = _
        rw [q]; rfl]
      rfl
  · have : (lots m).length * (16 * e) ≤ 16 * (16 * e) := Nat.mul_le_mul_right _ l16
    omega
end
end Mx

set_option Elab.async false
set_option linter.all false
set_option maxRecDepth 100000
set_option maxHeartbeats 1000000
/-! Pa, part J: tables folded, wedged, added; arrows. -/
namespace Mx
open PySem
structure TArr (T : Tab) : Prop where
  table_by : T "table_by" = some f_table_by
  arrow_table : T "arrow_table" = some f_arrow_table
  arrow_by : T "arrow_by" = some f_arrow_by
  arrow_of : T "arrow_of" = some f_arrow_of
  given : T "given" = some f_given
  met : T "met" = some f_met
  meeting : T "meeting" = some f_meeting
def rowS (qs : List Rat) (x : Int) : Rat := qs.getD x.toNat 0
theorem upto_nat {m : Nat} {x : Int} (h : x ∈ upto m) : ∃ i : Nat, x = i ∧ i < m := by
  unfold upto at h
  obtain ⟨i, h1, h2⟩ := List.mem_map.mp h
  exact ⟨i, h2.symm, List.mem_range.mp h1⟩
theorem rowS_get {qs : List Rat} {m : Nat} (hl : qs.length = m) {i : Nat} (hi : i < m) : qs[i]? = some (rowS qs i) := by
  unfold rowS
  have h : i < qs.length := by omega
  rw [Int.toNat_natCast, List.getD_eq_getElem?_getD, List.getElem?_eq_getElem h]; rfl
theorem rowS_mem {qs : List Rat} {m : Nat} (hl : qs.length = m) {x : Int} (hx : x ∈ upto m) : rowS qs x ∈ qs := by
  obtain ⟨i, rfl, hi⟩ := upto_nat hx
  exact List.mem_of_getElem? (rowS_get hl hi)
section
variable {T : Tab} {n : Nat} {ro rw : MH} {C : Calls}
theorem sub_at {b : Bool} {ds : List D} {i : Nat} {d : D} (h : ds[i]? = some d) : subD ro rw (.tup b ds) (.int i) = some d := by
  show L2.atI ds i = _
  rw [at_nat, h]
theorem isSq_tup {b : Bool} {qs : List Rat} {ds : List D} {m : Nat} (hq : IsQs qs ds) (hl : qs.length = m) : IsSq m (rowS qs) (.tup b ds) := fun x hx ro rw => by
  obtain ⟨i, rfl, hi⟩ := upto_nat hx
  obtain ⟨d, h1, h2⟩ := hq.get (rowS_get hl hi)
  exact ⟨d, sub_at h1, h2⟩
theorem vl_mem {m : Nat} (hm : m ≤ 4) {qs : List Rat} (hl : qs.length = 2 ^ m) {l : List Int} (h : l ∈ lots m) : vl m qs l ∈ qs := by
  have hi : (lots m).idxOf l < qs.length := by
    have := List.idxOf_lt_length_of_mem h
    rw [lots_len hm] at this
    omega
  unfold vl
  rw [List.getD_eq_getElem?_getD, List.getElem?_eq_getElem hi]
  exact List.getElem_mem hi
theorem fold_tables_run (hF : TFold T) (hN : TNum T) (hJ : TJudge T) (hL : TLot T) (h1 : 6 ≤ n) {m a b c e : Nat} (hm : m ≤ 4) {k : Bool} {ss : List Rat} {sds : List D} {one two : D} (hS : IsQs ss sds) (hsl : ss.length = m) (hs : ∀ q ∈ ss, Sm c q) {ps qs : List Rat} (ho : IsTab m ps one) (ht : IsTab m qs two) (so : ∀ q ∈ ps, Sm a q) (st : ∀ q ∈ qs, Sm b q)
    (few : a + b + (1 + c * 4) + 1 ≤ e) (few2 : e ≤ 30) : ∃ d, callN T n ro "fold_tables" [.tup k sds, one, two] rw = .ok d rw ∧ IsTab m ((lots m).map (foldQ m (rowS ss) (vl m ps) (vl m qs))) d ∧ ∀ l ∈ lots m, Sm (1 + 256 * e) (foldQ m (rowS ss) (vl m ps) (vl m qs) l) := by
  obtain ⟨d, e1, e2, e3⟩ := fold_run (ro := ro) (rw := rw) hF hN hJ hL (n := n - 1) (by omega) hm (isSq_tup (b := k) hS hsl) (fun x hx => hs _ (rowS_mem hsl hx)) ho ht (fun l hl => so _ (vl_mem hm ho.1 hl)) (fun l hl => st _ (vl_mem hm ht.1 hl)) few few2
  have ll : ((sds.length : Nat) : Int) = m := by rw [hS.length, hsl]
  refine ⟨d, call_f hF.fold_tables (by omega) rfl (by decide) (fl := .rt d) (fun j hj => ?_) rfl, e2, e3⟩
  obtain rfl : j = n - 1 := by omega
  refine (ex_nx (ex_ex (ev_call (es_cons (ev_nm rfl) es_nil) rfl (need_sq2 hJ (by omega) hS (by omega))))).trans ?_
  refine (ex_nx (ex_ex (ev_call (es_cons (ev_blt (d := .int m) (es_cons (ev_nm rfl) es_nil) ?_) (es_cons (ev_nm rfl) es_nil)) rfl (need_table_ok hJ (by omega) hm ho)))).trans ?_
  · rw [len_tup, ll]
  refine (ex_nx (ex_ex (ev_call (es_cons (ev_blt (d := .int m) (es_cons (ev_nm rfl) es_nil) ?_) (es_cons (ev_nm rfl) es_nil)) rfl (need_table_ok hJ (by omega) hm ht)))).trans ?_
  · rw [len_tup, ll]
  exact ex_rt (ex_ret (ev_call (es_cons (ev_nm rfl) (es_cons (ev_nm rfl) (es_cons (ev_nm rfl) es_nil))) rfl e1))
theorem wedge_tables_run (hF : TFold T) (hN : TNum T) (hJ : TJudge T) (hL : TLot T) (h1 : 7 ≤ n) {m a b e : Nat} (hm : m ≤ 4) {one two : D} {ps qs : List Rat} (ho : IsTab m ps one) (ht : IsTab m qs two) (so : ∀ q ∈ ps, Sm a q) (st : ∀ q ∈ qs, Sm b q)
    (few : a + b + (1 + 1 * 4) + 1 ≤ e) (few2 : e ≤ 30) : ∃ d, callN T n ro "wedge_tables" [one, two] rw = .ok d rw ∧ IsTab m ((lots m).map (foldQ m (fun _ => 0) (vl m ps) (vl m qs))) d ∧ ∀ l ∈ lots m, Sm (1 + 256 * e) (foldQ m (fun _ => 0) (vl m ps) (vl m qs) l) := by
  have hS : IsSq m (fun _ => 0) (.lst ((rangeD 0 m).map fun _ => zeroD)) := fun x hx ro rw => by
    obtain ⟨i, rfl, hi⟩ := upto_nat hx
    refine ⟨zeroD, ?_, isQ_zero⟩
    show L2.atI ((rangeD 0 m).map fun _ => zeroD) i = _
    have hl : (rangeD 0 (m : Int)).length = m := by rw [rangeD_upto]; simp [upto]
    have hi' : i < ((rangeD 0 (m : Int)).map fun _ => zeroD).length := by rw [List.length_map, hl]; exact hi
    rw [at_nat, List.getElem?_eq_getElem hi', List.getElem_map]
  obtain ⟨d, e1, e2, e3⟩ := fold_run (ro := ro) (rw := rw) hF hN hJ hL (n := n - 2) (by omega) hm hS (c := 1) (fun x hx => ⟨by decide, by decide⟩) ho ht (fun l hl => so _ (vl_mem hm ho.1 hl)) (fun l hl => st _ (vl_mem hm ht.1 hl)) few few2
  refine ⟨d, call_f hF.wedge_tables (by omega) rfl (by decide) (fl := .rt d) (fun j hj => ?_) rfl, e2, e3⟩
  obtain rfl : j = n - 1 := by omega
  refine (ex_nx (ex_ex (ev_call (es_cons (ev_nm rfl) (es_cons (ev_nm rfl) es_nil)) rfl (need_alike_ok hJ (by omega) hm ho ht)))).trans (ex_rt (ex_ret (ev_call (es_cons (ev_nm rfl) (es_cons (ev_nm rfl) es_nil)) rfl ?_)))
  refine call_f hF.wedge_of (by omega) rfl (by decide) (fl := .rt d) (fun i hi => ?_) rfl
  obtain rfl : i = n - 2 := by omega
  have cz : evE (callN T (n - 2)) ro (.comp false (.cst (.tup false [.int 0, .int 1])) [2] (.nm 2) (.rng1 (.call (Str.ofString "count_of") [.nm 0] [] [0])) none) [some one, some two, none] rw = .ok (.lst ((rangeD 0 m).map fun _ => zeroD)) rw := by
    refine comp_map _ ?_ ?_ fun d hd => ⟨[some one, some two, some d], rfl, ev_cst⟩
    · unfold evT
      rw [bindM (ev_call (es_cons (ev_nm rfl) es_nil) rfl (count_ok hJ (by omega) hm ho))]
      show M.lift (if rangeOk 0 m = true then some (rangeD 0 m) else none) rw = _
      rw [if_pos (rangeOk_upto hm)]; rfl
    · rw [rangeD_upto]; simp [upto]; omega
  exact ex_rt (ex_ret (ev_call (es_cons cz (es_cons (ev_nm rfl) (es_cons (ev_nm rfl) es_nil))) rfl e1))
/-- two rows added -/
def addQ (ps qs : List Rat) : List Rat := (ps.zip qs).map fun p => p.1 + p.2
theorem zipD_zip : ∀ (xs ys : List D), zipD xs ys = (xs.zip ys).map fun p => .tup true [p.1, p.2]
  | [], _ => rfl
  | _ :: _, [] => rfl
  | x :: xs, y :: ys => by
    rw [zipD, zipD_zip xs ys]; rfl
theorem IsQs.zip : ∀ {ps qs : List Rat} {ds es : List D}, IsQs ps ds → IsQs qs es → ∀ x ∈ ds.zip es, ∃ p ∈ ps.zip qs, IsQ p.1 x.1 ∧ IsQ p.2 x.2
  | [], _, [], _, _, _, x, hx => by cases hx
  | _ :: _, [], _ :: _, [], _, _, x, hx => by cases hx
  | p :: ps, q :: qs, d :: ds, e :: es, h, k, x, hx => by
    rcases List.mem_cons.mp hx with rfl | hx
    · exact ⟨(p, q), List.mem_cons_self, h.1, k.1⟩
    · obtain ⟨y, h1, h2⟩ := IsQs.zip h.2 k.2 x hx
      exact ⟨y, List.mem_cons_of_mem _ h1, h2⟩
  | [], _, _ :: _, _, h, _, _, _ => h.elim
  | _ :: _, _, [], _, h, _, _, _ => h.elim
  | _ :: _, [], _ :: _, _ :: _, _, k, _, _ => k.elim
  | _ :: _, _ :: _, _ :: _, [], _, k, _, _ => k.elim
theorem IsQs.zipMap {f : Rat → Rat → Rat} {g : D × D → D} : ∀ {ps qs : List Rat} {ds es : List D}, IsQs ps ds → IsQs qs es → (∀ p q d e, p ∈ ps → q ∈ qs → IsQ p d → IsQ q e → IsQ (f p q) (g (d, e))) → IsQs ((ps.zip qs).map fun p => f p.1 p.2) ((ds.zip es).map g)
  | [], _, [], _, _, _, _ => trivial
  | _ :: _, [], _ :: _, [], _, _, _ => trivial
  | p :: ps, q :: qs, d :: ds, e :: es, h, k, hf => ⟨hf p q d e List.mem_cons_self List.mem_cons_self h.1 k.1, IsQs.zipMap h.2 k.2 fun p' q' d' e' a b => hf p' q' d' e' (List.mem_cons_of_mem _ a) (List.mem_cons_of_mem _ b)⟩
  | [], _, _ :: _, _, h, _, _ => h.elim
  | _ :: _, _, [], _, h, _, _ => h.elim
  | _ :: _, [], _ :: _, _ :: _, _, k, _ => k.elim
  | _ :: _, _ :: _, _ :: _, [], _, k, _ => k.elim
end
end Mx

set_option Elab.async false
set_option linter.all false
set_option maxRecDepth 100000
set_option maxHeartbeats 1000000
/-! Pa, part K: sums, meetings, tables added, tables of arrows. -/
namespace Mx
open PySem
theorem IsQs.at {qs : List Rat} {ds : List D} (h : IsQs qs ds) {i : Nat} {d : D} (hd : ds[i]? = some d) : ∃ q, qs[i]? = some q ∧ IsQ q d := by
  have hi := (List.getElem?_eq_some_iff.mp hd).1
  rw [h.length] at hi
  obtain ⟨e, e1, e2⟩ := h.get (List.getElem?_eq_getElem hi)
  rw [e1] at hd
  cases hd
  exact ⟨_, List.getElem?_eq_getElem hi, e2⟩
theorem pre_get {α : Type} {pre post : List α} {d : α} {s : List α} (e : pre ++ d :: post = s) : s[pre.length]? = some d := by
  rw [← e]; simp
theorem take_more {α : Type} {s : List α} {k : Nat} {d : α} (h : s[k]? = some d) : s.take (k + 1) = s.take k ++ [d] := by
  rw [List.take_succ, h]; rfl
def dotF (a : Rat) (p : Rat × Rat) : Rat := a + p.1 * p.2
def dotQ (xs ys : List Rat) : Rat := (xs.zip ys).foldl dotF 0
def mulQ (xs ys : List Rat) : List Rat := (xs.zip ys).map fun p => p.1 * p.2
def metQ (ss xs ys : List Rat) : Rat := dotQ ss (mulQ xs ys)
theorem dot_sm {a b : Nat} : ∀ (l : List (Rat × Rat)) (x : Rat) (k : Nat), (∀ p ∈ l, Sm a p.1 ∧ Sm b p.2) → Sm k x → Sm (k + l.length * (a + b + 1)) (l.foldl dotF x)
  | [], x, k, _, h => by simpa using h
  | p :: l, x, k, hp, h => by
    rw [List.foldl_cons, List.length_cons, Nat.succ_mul, show k + (l.length * (a + b + 1) + (a + b + 1)) = (k + (a + b) + 1) + l.length * (a + b + 1) by omega]
    obtain ⟨h1, h2⟩ := hp p List.mem_cons_self
    exact dot_sm l _ _ (fun q hq => hp q (List.mem_cons_of_mem _ hq)) (h.add (h1.mul h2))
theorem sum_sm {a : Nat} : ∀ (l : List Rat) (x : Rat) (k : Nat), (∀ p ∈ l, Sm a p) → Sm k x → Sm (k + l.length * (a + 1)) (l.foldl (· + ·) x)
  | [], x, k, _, h => by simpa using h
  | p :: l, x, k, hp, h => by
    rw [List.foldl_cons, List.length_cons, Nat.succ_mul, show k + (l.length * (a + 1) + (a + 1)) = (k + a + 1) + l.length * (a + 1) by omega]
    exact sum_sm l _ _ (fun q hq => hp q (List.mem_cons_of_mem _ hq)) (h.add (hp p List.mem_cons_self))
theorem sm_zero : Sm 1 (0 : Rat) := ⟨by decide, by decide⟩
section
variable {T : Tab} {n : Nat} {ro rw : MH} {C : Calls}
theorem zipD_at {ds es : List D} {i : Nat} {x : D} (h : (zipD ds es)[i]? = some x) : ∃ d e, ds[i]? = some d ∧ es[i]? = some e ∧ x = .tup true [d, e] := by
  rw [zipD_zip, List.getElem?_map] at h
  obtain ⟨p, h1, rfl⟩ := Option.map_eq_some_iff.mp h
  obtain ⟨h2, h3⟩ := List.getElem?_zip_eq_some.mp h1
  exact ⟨p.1, p.2, h2, h3, rfl⟩
theorem zip2_run {a b : ME} {x y : D} {xs ys : List D} {σ : Sig} (ha : evE C ro a σ rw = .ok x rw) (hb : evE C ro b σ rw = .ok y rw) (hx : srcOf x = some xs) (hy : srcOf y = some ys) : evT C ro (.zip2 a b) σ rw = .ok (zipD xs ys) rw := by
  unfold evT
  rw [bindM ha, bindM hb, hx, hy]; rfl
/-- numbers met with a line -/
theorem given_run (hA : TArr T) (hN : TNum T) (h1 : 3 ≤ n) {a b : Nat} {x y : D} {ps qs : List Rat} {ds es : List D} (hx : srcOf x = some ds) (hy : srcOf y = some es) (hp : IsQs ps ds) (hq : IsQs qs es) (sp : ∀ p ∈ ps, Sm a p) (sq : ∀ q ∈ qs, Sm b q) (hl : ps.length ≤ 16) (hab : a + b ≤ 100) :
    callN T n ro "given" [x, y] rw = .ok (if ps.length = 0 ∨ qs.length = 0 then zeroD else enc (dotQ ps qs)) rw := by
  obtain ⟨k, rfl⟩ : ∃ k, n = k + 1 := ⟨n - 1, by omega⟩
  obtain ⟨σ', rw', e, fd, x3, x4, rfl, rfl, hf⟩ := loop_run (C := callN T k) (ro := ro) (g := .tup [.nm 3, .nm 4]) (it := .zip2 (.nm 0) (.nm 1)) (b := [.set 2 (.call "plus" [.nm 2, .call "times" [.nm 3, .nm 4] [] [0, 1]] [] [0, 1])]) (s := zipD ds es) (rw := rw) (rw0 := rw) (σ := [some x, some y, some zeroD, none, none])
    (fun pre σ rw' => ∃ fd x3 x4, σ = [some x, some y, some fd, x3, x4] ∧ rw' = rw ∧ fd = (if pre.length = 0 then zeroD else enc (((ps.zip qs).take pre.length).foldl dotF 0)))
    (zip2_run (ev_nm rfl) (ev_nm rfl) hx hy) ⟨zeroD, none, none, rfl, rfl, rfl⟩ (fun pre d post σ rw' e ⟨fd, x3, x4, e1, e2, hf⟩ => by
      subst e1
      subst e2
      obtain ⟨d1, d2, g1, g2, rfl⟩ := zipD_at (pre_get e)
      obtain ⟨p, p1, p2⟩ := hp.at g1
      obtain ⟨q, q1, q2⟩ := hq.at g2
      have hz : (ps.zip qs)[pre.length]? = some (p, q) := List.getElem?_zip_eq_some.mpr ⟨p1, q1⟩
      have pl : pre.length < 16 := by
        have := (List.getElem?_eq_some_iff.mp p1).1
        omega
      have fq : IsQ (((ps.zip qs).take pre.length).foldl dotF 0) fd := by
        rw [hf]
        split
        · rename_i z; rw [z]; exact isQ_zero
        · exact isQ_enc _
      have s1 : Sm (1 + 16 * (a + b + 1)) (((ps.zip qs).take pre.length).foldl dotF 0) := by
        refine (dot_sm (a := a) (b := b) _ 0 1 (fun r hr => ?_) sm_zero).le ?_
        · have hr := List.mem_of_mem_take hr
          obtain ⟨r1, r2⟩ := List.of_mem_zip hr
          exact ⟨sp _ r1, sq _ r2⟩
        · have : ((ps.zip qs).take pre.length).length ≤ 16 := by rw [List.length_take]; omega
          have := Nat.mul_le_mul_right (a + b + 1) this
          omega
      have sp' := sp p (List.mem_of_getElem? p1)
      have sq' := sq q (List.mem_of_getElem? q1)
      have t1 := times_run (ro := ro) (rw := rw') hN (n := k) (by omega) p2 q2 sp' sq' (by omega)
      have t2 := plus_run (ro := ro) (rw := rw') hN (n := k) (by omega) fq (isQ_enc (p * q)) s1 (sp'.mul sq') (by omega)
      refine ⟨_, [some x, some y, some (enc (((ps.zip qs).take pre.length).foldl dotF 0 + p * q)), some d1, some d2], rw', rfl, .inl ?_, _, _, _, rfl, rfl, ?_⟩
      · exact ex_nx (ex_set (ev_call (es_cons (ev_nm rfl) (es_cons (ev_call (es_cons (ev_nm rfl) (es_cons (ev_nm rfl) es_nil)) rfl t1) es_nil)) rfl t2) (show 2 < 5 by decide))
      · rw [if_neg (by simp)]
        rw [List.length_append, List.length_singleton, take_more hz, List.foldl_append]
        rfl)
  have hlen : (zipD ds es).length = (ps.zip qs).length := by
    rw [zipD_zip, List.length_map, List.length_zip, List.length_zip, hp.length, hq.length]
  have hfd : fd = if ps.length = 0 ∨ qs.length = 0 then zeroD else enc (dotQ ps qs) := by
    rw [hf, hlen]
    unfold dotQ
    rw [List.take_length]
    have : ((ps.zip qs).length = 0) ↔ (ps.length = 0 ∨ qs.length = 0) := by rw [List.length_zip]; omega
    simp only [this]
  rw [← hfd]
  refine call_f hA.given (by omega) rfl (by decide) (fl := .rt fd) (fun j hj => ?_) rfl
  obtain rfl : j = k := by omega
  exact (ex_nx (ex_set ev_cst (show 2 < 5 by decide))).trans ((ex_nx e).trans (ex_rt (ex_ret (ev_nm rfl))))
theorem given_isQ (hA : TArr T) (hN : TNum T) (h1 : 3 ≤ n) {a b : Nat} {x y : D} {ps qs : List Rat} {ds es : List D} (hx : srcOf x = some ds) (hy : srcOf y = some es) (hp : IsQs ps ds) (hq : IsQs qs es) (sp : ∀ p ∈ ps, Sm a p) (sq : ∀ q ∈ qs, Sm b q) (hl : ps.length ≤ 16) (hab : a + b ≤ 100) :
    ∃ d, callN T n ro "given" [x, y] rw = .ok d rw ∧ IsQ (dotQ ps qs) d := by
  refine ⟨_, given_run hA hN h1 hx hy hp hq sp sq hl hab, ?_⟩
  split
  · rename_i z
    have : dotQ ps qs = 0 := by
      unfold dotQ
      have : ps.zip qs = [] := by
        have h : (ps.zip qs).length = 0 := by rw [List.length_zip]; omega
        exact List.length_eq_zero_iff.mp h
      rw [this]; rfl
    rw [this]; exact isQ_zero
  · exact isQ_enc _
/-- products, place by place -/
theorem times_comp (hN : TNum T) (h1 : 2 ≤ n) {a b : Nat} {ps qs : List Rat} {ds es : List D} (hp : IsQs ps ds) (hq : IsQs qs es) (sp : ∀ p ∈ ps, Sm a p) (sq : ∀ q ∈ qs, Sm b q) (hl : ps.length ≤ 1000) (hab : a + b ≤ 8000) {σ : Sig} {i j : Nat} {it : MT} (hij : i ≠ j) (hi : i < σ.length) (hj : j < σ.length) (hs : evT (callN T n) ro it σ rw = .ok (zipD ds es) rw) :
    ∃ fs, evE (callN T n) ro (.comp false (.call "times" [.nm i, .nm j] [] [0, 1]) [i, j] (.tup [.nm i, .nm j]) it none) σ rw = .ok (.lst fs) rw ∧ IsQs (mulQ ps qs) fs := by
  obtain ⟨fs, rw', e, ⟨j1, j2⟩, jl⟩ := comp_run (C := callN T n) (ro := ro) (σ := σ) (elt := .call "times" [.nm i, .nm j] [] [0, 1]) (vs := [i, j]) (tg := .tup [.nm i, .nm j]) (fun pre acc rw' => IsQs ((mulQ ps qs).take pre.length) acc ∧ rw' = rw) hs (by
    rw [zipD_zip, List.length_map, List.length_zip, hp.length]; omega) ⟨by simp [IsQs], rfl⟩ (fun pre d post acc rw' e ⟨j1, j2⟩ => by
    obtain ⟨d1, d2, g1, g2, rfl⟩ := zipD_at (pre_get e)
    obtain ⟨p, p1, p2⟩ := hp.at g1
    obtain ⟨q, q1, q2⟩ := hq.at g2
    have hz : (mulQ ps qs)[pre.length]? = some (p * q) := by
      unfold mulQ
      have hz0 : (ps.zip qs)[pre.length]? = some (p, q) := List.getElem?_zip_eq_some.mpr ⟨p1, q1⟩
      rw [List.getElem?_map, hz0]; rfl
    have t1 := times_run (ro := ro) (rw := rw') hN (n := n) (by omega) p2 q2 (sp p (List.mem_of_getElem? p1)) (sq q (List.mem_of_getElem? q1)) hab
    refine ⟨((wipeD σ [i, j]).set i (some d1)).set j (some d2), enc (p * q), rw', ?_, ev_call (es_cons (ev_nm ?_) (es_cons (ev_nm ?_) es_nil)) rfl t1, ?_, j2⟩
    · simp [asG, asGs, wipeD, hi, hj]
    · rw [List.getElem?_set_ne hij.symm]
      simp [wipeD, hi]
    · simp [wipeD, hj]
    · rw [List.length_append, List.length_singleton, take_more hz]
      exact j1.append ⟨isQ_enc _, trivial⟩)
  refine ⟨fs, by rw [e, j2], ?_⟩
  have hlen : (zipD ds es).length = (mulQ ps qs).length := by
    unfold mulQ
    rw [zipD_zip, List.length_map, List.length_zip, List.length_map, List.length_zip, hp.length, hq.length]
  rw [hlen, List.take_length] at j1
  exact j1
theorem mul_sm {a b : Nat} {ps qs : List Rat} (sp : ∀ p ∈ ps, Sm a p) (sq : ∀ q ∈ qs, Sm b q) : ∀ r ∈ mulQ ps qs, Sm (a + b) r := fun r hr => by
  obtain ⟨p, h1, rfl⟩ := List.mem_map.mp hr
  obtain ⟨h2, h3⟩ := List.of_mem_zip h1
  exact (sp _ h2).mul (sq _ h3)
theorem meeting_run (hA : TArr T) (hN : TNum T) (hJ : TJudge T) (h1 : 6 ≤ n) {m : Nat} (hm : m ≤ 4) {k1 k2 k3 : Bool} {ss ps qs : List Rat} {sds ds es : List D} (hs : IsQs ss sds) (hp : IsQs ps ds) (hq : IsQs qs es) (ls : ss.length = m) (lp : ps.length = m) (lq : qs.length = m) {c a b : Nat} (sc : ∀ s ∈ ss, Sm c s) (sp : ∀ p ∈ ps, Sm a p) (sq : ∀ q ∈ qs, Sm b q) (hab : c + (a + b) ≤ 100) :
    ∃ d, callN T n ro "meeting" [.tup k1 sds, .tup k2 ds, .tup k3 es] rw = .ok d rw ∧ IsQ (metQ ss ps qs) d := by
  have ll : ((sds.length : Nat) : Int) = m := by rw [hs.length, ls]
  obtain ⟨fs, f1, f2⟩ := times_comp (ro := ro) (rw := rw) hN (n := n - 2) (by omega) hp hq sp sq (by omega) (by omega) (σ := [some (.tup k1 sds), some (.tup k2 ds), some (.tup k3 es), none, none]) (i := 3) (j := 4) (it := .zip2 (.nm 1) (.nm 2)) (by decide) (by simp) (by simp) (zip2_run (ev_nm rfl) (ev_nm rfl) rfl rfl)
  obtain ⟨d, g1, g2⟩ := given_isQ (ro := ro) (rw := rw) hA hN (n := n - 2) (by omega) (x := .tup k1 sds) (y := .lst fs) rfl rfl hs f2 sc (mul_sm sp sq) (by omega) hab
  refine ⟨d, call_f hA.meeting (by omega) rfl (by decide) (fl := .rt d) (fun j hj => ?_) rfl, g2⟩
  obtain rfl : j = n - 1 := by omega
  refine (ex_nx (ex_ex (ev_call (es_cons (ev_nm rfl) es_nil) rfl (need_sq3 hJ (by omega) hs (by omega))))).trans ?_
  refine (ex_nx (ex_ex (ev_call (es_cons (ev_blt (d := .int m) (es_cons (ev_nm rfl) es_nil) ?_) (es_cons (ev_nm rfl) es_nil)) rfl (need_arrow_ok hJ (by omega) hp (by omega) (by omega))))).trans ?_
  · rw [len_tup, ll]
  refine (ex_nx (ex_ex (ev_call (es_cons (ev_blt (d := .int m) (es_cons (ev_nm rfl) es_nil) ?_) (es_cons (ev_nm rfl) es_nil)) rfl (need_arrow_ok hJ (by omega) hq (by omega) (by omega))))).trans ?_
  · rw [len_tup, ll]
  refine ex_rt (ex_ret (ev_call (es_cons (ev_nm rfl) (es_cons (ev_nm rfl) (es_cons (ev_nm rfl) es_nil))) rfl ?_))
  refine call_f hA.met (by omega) rfl (by decide) (fl := .rt d) (fun i hi => ?_) rfl
  obtain rfl : i = n - 2 := by omega
  exact ex_rt (ex_ret (ev_call (es_cons (ev_nm rfl) (es_cons f1 es_nil)) rfl g1))
end
end Mx

set_option Elab.async false
set_option linter.all false
set_option maxRecDepth 100000
set_option maxHeartbeats 1000000
/-! Pa, part L: tables added, tables of arrows, arrows of tables. -/
namespace Mx
open PySem
section
variable {T : Tab} {n : Nat} {ro rw : MH} {C : Calls}
theorem plus_tables_run (hF : TFold T) (hN : TNum T) (hJ : TJudge T) (h1 : 6 ≤ n) {m a b : Nat} (hm : m ≤ 4) {one two : D} {ps qs : List Rat} (ho : IsTab m ps one) (ht : IsTab m qs two) (so : ∀ q ∈ ps, Sm a q) (st : ∀ q ∈ qs, Sm b q) (hab : a + b ≤ 8000) :
    ∃ d, callN T n ro "plus_tables" [one, two] rw = .ok d rw ∧ IsTab m (addQ ps qs) d := by
  have al := need_alike_ok (ro := ro) (rw := rw) hJ (n := n - 1) (by omega) hm ho ht
  obtain ⟨lp, k1, j1, ds, rfl, hp⟩ := ho
  obtain ⟨lq, k2, j2, es, rfl, hq⟩ := ht
  have p16 : 2 ^ m ≤ 16 := Nat.pow_le_pow_right (n := 2) (by decide) hm
  have la : (addQ ps qs).length = 2 ^ m := by
    unfold addQ
    rw [List.length_map, List.length_zip]; omega
  obtain ⟨fs, rw', e, ⟨g1, g2⟩, gl⟩ := comp_run (C := callN T (n - 2)) (ro := ro) (rw0 := rw) (σ := [some (.tup k1 [.str (Str.ofString "table"), .tup j1 ds]), some (.tup k2 [.str (Str.ofString "table"), .tup j2 es]), none, none]) (elt := .call "plus" [.nm 2, .nm 3] [] [0, 1]) (vs := [2, 3]) (tg := .tup [.nm 2, .nm 3]) (it := .zip2 (.sub (.nm 0) (.cst (.int 1))) (.sub (.nm 1) (.cst (.int 1)))) (fun pre acc rw' => IsQs ((addQ ps qs).take pre.length) acc ∧ rw' = rw) (zip2_run (ev_sub (ev_nm rfl) ev_cst sub_1) (ev_sub (ev_nm rfl) ev_cst sub_1) rfl rfl) (by
    rw [zipD_zip, List.length_map, List.length_zip, hp.length]; omega) ⟨by simp [IsQs], rfl⟩ (fun pre d post acc rw' e ⟨g1, g2⟩ => by
    obtain ⟨d1, d2, i1, i2, rfl⟩ := zipD_at (pre_get e)
    obtain ⟨p, p1, p2⟩ := hp.at i1
    obtain ⟨q, q1, q2⟩ := hq.at i2
    have hz0 : (ps.zip qs)[pre.length]? = some (p, q) := List.getElem?_zip_eq_some.mpr ⟨p1, q1⟩
    have hz : (addQ ps qs)[pre.length]? = some (p + q) := by
      unfold addQ
      rw [List.getElem?_map, hz0]; rfl
    have t1 := plus_run (ro := ro) (rw := rw') hN (n := n - 2) (by omega) p2 q2 (so p (List.mem_of_getElem? p1)) (st q (List.mem_of_getElem? q1)) hab
    refine ⟨[some (.tup k1 [.str (Str.ofString "table"), .tup j1 ds]), some (.tup k2 [.str (Str.ofString "table"), .tup j2 es]), some d1, some d2], enc (p + q), rw', rfl, ev_call (es_cons (ev_nm rfl) (es_cons (ev_nm rfl) es_nil)) rfl t1, ?_, g2⟩
    rw [List.length_append, List.length_singleton, take_more hz]
    exact g1.append ⟨isQ_enc _, trivial⟩)
  have hlen : (zipD ds es).length = (addQ ps qs).length := by
    unfold addQ
    rw [zipD_zip, List.length_map, List.length_zip, List.length_map, List.length_zip, hp.length, hq.length]
  rw [hlen, List.take_length] at g1
  refine ⟨.tup true [.str (Str.ofString "table"), .tup true fs], call_f hF.plus_tables (by omega) rfl (by decide) (fl := .rt (.tup true [.str (Str.ofString "table"), .tup true fs])) (fun j hj => ?_) rfl, la, true, true, fs, rfl, g1⟩
  obtain rfl : j = n - 1 := by omega
  refine (ex_nx (ex_ex (ev_call (es_cons (ev_nm rfl) (es_cons (ev_nm rfl) es_nil)) rfl al))).trans (ex_rt (ex_ret (ev_call (es_cons (ev_nm rfl) (es_cons (ev_nm rfl) es_nil)) rfl ?_)))
  refine call_f hF.summed (by omega) rfl (by decide) (fl := .rt (.tup true [.str (Str.ofString "table"), .tup true fs])) (fun i hi => ?_) rfl
  obtain rfl : i = n - 2 := by omega
  rw [g2] at e
  exact ex_rt (ex_ret (ev_call (es_cons e es_nil) rfl (made_run hF (by omega) fs)))
/-! ### tables of arrows -/
def arrQ (as : List Rat) (l : List Int) : Rat := if l.length = 1 then rowS as (l.headD 0) else 0
theorem len_eL {l : List Int} : bltop ro rw .len [eL l] = some (.int ((l.length : Nat) : Int)) := by
  show bltop ro rw .len [.tup true (l.map .int)] = _
  rw [len_tup, List.length_map]
theorem arr_elt {m : Nat} (hm : m ≤ 4) {b : Bool} {as : List Rat} {ds : List D} (hq : IsQs as ds) (hl : as.length = m) {σ : Sig} {i : Nat} {z : ME} {zd : D} (h0 : σ[0]? = some (some (.tup b ds))) {l : List Int} (hlm : l ∈ lots m) (hi : σ[i]? = some (some (eL l))) (hz : evE C ro z σ rw = .ok zd rw) (qz : IsQ 0 zd) :
    ∃ d, evE C ro (.ite (.cmp .eq (.blt false .len [.nm i]) (.cst (.int 1))) (.sub (.nm 0) (.sub (.nm i) (.cst (.int 0)))) z) σ rw = .ok d rw ∧ IsQ (arrQ as l) d := by
  have t : evE C ro (.cmp .eq (.blt false .len [.nm i]) (.cst (.int 1))) σ rw = .ok (.bl (decide (((l.length : Nat) : Int) = 1))) rw := ev_cmp (ev_blt (es_cons (ev_nm hi) es_nil) len_eL) ev_cst (eqI _ _)
  obtain ⟨_, xu⟩ := lots_small hm l hlm
  unfold arrQ
  by_cases h : l.length = 1
  · rw [if_pos h]
    rw [decide_eq_true (by omega)] at t
    obtain ⟨x, rfl⟩ := List.length_eq_one_iff.mp h
    obtain ⟨j, rfl, hj⟩ := upto_nat (xu x List.mem_cons_self)
    obtain ⟨d, e1, e2⟩ := hq.get (rowS_get hl hj)
    exact ⟨d, ev_iteT t (ev_sub (ev_nm h0) (ev_sub (ev_nm hi) ev_cst sub_0) (sub_at e1)), e2⟩
  · rw [if_neg h]
    rw [decide_eq_false (by omega)] at t
    exact ⟨zd, ev_iteF t hz, qz⟩
theorem arr_comp {m : Nat} (hm : m ≤ 4) {b : Bool} {as : List Rat} {ds : List D} (hq : IsQs as ds) (hl : as.length = m) {σ : Sig} {i : Nat} {it : MT} {z : ME} {zd : D} (hi : i < σ.length) (i0 : i ≠ 0) (h0 : σ[0]? = some (some (.tup b ds))) (hs : evT C ro it σ rw = .ok ((lots m).map eL) rw) (hz : ∀ σ, evE C ro z σ rw = .ok zd rw) (qz : IsQ 0 zd) :
    ∃ fs, evE C ro (.comp false (.ite (.cmp .eq (.blt false .len [.nm i]) (.cst (.int 1))) (.sub (.nm 0) (.sub (.nm i) (.cst (.int 0)))) z) [i] (.nm i) it none) σ rw = .ok (.lst fs) rw ∧ IsQs ((lots m).map (arrQ as)) fs := by
  have l16 : (lots m).length ≤ 16 := by
    rw [lots_len hm]; exact Nat.pow_le_pow_right (n := 2) (by decide) hm
  obtain ⟨fs, rw', e, ⟨g1, g2⟩, gl⟩ := comp_run (C := C) (ro := ro) (rw0 := rw) (σ := σ) (elt := .ite (.cmp .eq (.blt false .len [.nm i]) (.cst (.int 1))) (.sub (.nm 0) (.sub (.nm i) (.cst (.int 0)))) z) (vs := [i]) (tg := .nm i) (fun pre acc rw' => IsQs (((lots m).map (arrQ as)).take pre.length) acc ∧ rw' = rw) hs (by simp; omega) ⟨by simp [IsQs], rfl⟩ (fun pre d post acc rw' e ⟨g1, g2⟩ => by
    subst g2
    have hd := pre_get e
    rw [List.getElem?_map] at hd
    obtain ⟨l, hl1, rfl⟩ := Option.map_eq_some_iff.mp hd
    have q0 : ((wipeD σ [i]).set i (some (eL l)))[0]? = some (some (.tup b ds)) := by
      simp only [wipeD, List.set_set]
      rw [List.getElem?_set_ne i0]; exact h0
    have qi : ((wipeD σ [i]).set i (some (eL l)))[i]? = some (some (eL l)) := by simp [wipeD, hi]
    obtain ⟨y, y1, y2⟩ := arr_elt (C := C) (ro := ro) (rw := rw') hm hq hl (σ := (wipeD σ [i]).set i (some (eL l))) (i := i) q0 (List.mem_of_getElem? hl1) qi (hz _) qz
    refine ⟨_, y, rw', by simp [asG, wipeD, hi], y1, ?_, rfl⟩
    rw [List.length_append, List.length_singleton, take_more (show ((lots m).map (arrQ as))[pre.length]? = some (arrQ as l) from by rw [List.getElem?_map, hl1]; rfl)]
    exact g1.append ⟨y2, trivial⟩)
  rw [List.length_map, show ((lots m).map (arrQ as)).take (lots m).length = (lots m).map (arrQ as) from List.take_of_length_le (by rw [List.length_map]; omega)] at g1
  exact ⟨fs, by rw [e, g2], g1⟩
theorem arrow_table_run (hA : TArr T) (hJ : TJudge T) (hL : TLot T) (h1 : 5 ≤ n) {m : Nat} (hm : m ≤ 4) {b : Bool} {as : List Rat} {ds : List D} (hq : IsQs as ds) (hl : as.length = m) : ∃ d, callN T n ro "arrow_table" [.tup b ds] rw = .ok d rw ∧ IsTab m ((lots m).map (arrQ as)) d := by
  have ll : ((ds.length : Nat) : Int) = m := by rw [hq.length, hl]
  obtain ⟨fs, e, g⟩ := arr_comp (C := callN T (n - 2)) (ro := ro) (rw := rw) hm (b := b) hq hl (σ := [some (.tup b ds), none, none]) (i := 2) (it := .seq (.call "lots_of" [.blt false .lrange1 [.blt false .len [.nm 0]]] [] [0])) (z := .cst (.tup false [.int 0, .int 1])) (by simp) (by decide) rfl (by
    unfold evT
    rw [bindM (ev_call (es_cons (ev_blt (d := .lst (rangeD 0 m)) (es_cons (ev_blt (d := .int m) (es_cons (ev_nm rfl) es_nil) (by rw [len_tup, ll])) es_nil) (by
      show (if rangeOk 0 m = true then some (D.lst (rangeD 0 m)) else none) = _
      rw [if_pos (rangeOk_upto hm)])) es_nil) rfl (lots_run hL (by omega) hm))]
    rfl) (fun _ => ev_cst) isQ_zero
  refine ⟨.tup true [.str (Str.ofString "table"), .tup true fs], call_f hA.arrow_table (by omega) rfl (by decide) (fl := .rt (.tup true [.str (Str.ofString "table"), .tup true fs])) (fun j hj => ?_) rfl, by rw [List.length_map, lots_len hm], true, true, fs, rfl, g⟩
  obtain rfl : j = n - 1 := by omega
  refine (ex_nx (ex_iteF (ev_or (ev_orF (ev_not (k := true) (ev_is .tup (ev_nm rfl) rfl rfl)) (ev_or1 (ev_cmp (k := false) (ev_blt (es_cons (ev_nm rfl) es_nil) (len_tup _)) ev_cst ?_)))))).trans ?_
  · show some (decide ((4 : Int) < ((ds.length : Nat) : Int))) = some false
    rw [decide_eq_false (by omega)]
  refine (ex_nx (ex_ex (ev_call (es_cons (ev_blt (d := .int m) (es_cons (ev_nm rfl) es_nil) ?_) (es_cons (ev_nm rfl) es_nil)) rfl (need_arrow_ok hJ (by omega) hq (by omega) (by omega))))).trans ?_
  · rw [len_tup, ll]
  refine ex_rt (ex_ret (ev_call (es_cons (ev_nm rfl) es_nil) rfl ?_))
  refine call_f hA.table_by (by omega) rfl (by decide) (fl := .rt (.tup true [.str (Str.ofString "table"), .tup true fs])) (fun i hi => ?_) rfl
  obtain rfl : i = n - 2 := by omega
  exact (ex_nx (ex_set e (show 1 < 3 by decide))).trans (ex_rt (ex_ret (ev_tup (es_cons ev_cst (es_cons (ev_blt (d := .tup true fs) (es_cons (ev_nm rfl) es_nil) rfl) es_nil)) rfl)))
/-! ### arrows of tables -/
def badQ (m : Nat) (qs : List Rat) : Bool := (lots m).any fun l => !decide (l.length = 1) && !decide (vl m qs l = 0)
def oneQ (m : Nat) (qs : List Rat) : List Rat := ((lots m).filter fun l => decide (l.length = 1)).map (vl m qs)
theorem any_bls {bs : List Bool} : bltop ro rw .any [.lst (bs.map .bl)] = some (.bl (bs.any id)) := by
  have e : blsOf (bs.map .bl) = some bs := by
    induction bs with
    | nil => rfl
    | cons b bs ih => rw [List.map_cons, blsOf, ih]; rfl
  show ((lstOf ro rw (.lst (bs.map .bl))).bind blsOf).map (fun bs => D.bl (bs.any id)) = _
  rw [show lstOf ro rw (.lst (bs.map .bl)) = some (bs.map .bl) from rfl, Option.bind_some, e]; rfl
/-- lots beside values -/
def prL (m : Nat) (val : List Int → D) : List D := (lots m).map fun l => .tup true [eL l, val l]
theorem zip_prL {m : Nat} (hm : m ≤ 4) {ds : List D} (hl : ds.length = 2 ^ m) : zipD ((lots m).map eL) ds = prL m (valOf (lots m) ds) := by
  rw [zipD_zip, List.zip_map_left, List.map_map, zip_valOf _ _ (lots_nodup hm) (by rw [lots_len hm]; exact hl), List.map_map]
  rfl
theorem valOf_isQ {m : Nat} (hm : m ≤ 4) {qs : List Rat} {ds : List D} (hq : IsQs qs ds) (hl : qs.length = 2 ^ m) {l : List Int} (h : l ∈ lots m) : IsQ (vl m qs l) (valOf (lots m) ds l) := by
  have hi : (lots m).idxOf l < (lots m).length := List.idxOf_lt_length_of_mem h
  rw [lots_len hm] at hi
  have hi2 : (lots m).idxOf l < qs.length := by omega
  obtain ⟨e, e1, e2⟩ := hq.get (List.getElem?_eq_getElem hi2)
  have a1 : vl m qs l = qs[(lots m).idxOf l] := by
    unfold vl
    rw [List.getD_eq_getElem?_getD, List.getElem?_eq_getElem hi2]; rfl
  have a2 : valOf (lots m) ds l = e := by
    unfold valOf
    rw [List.getD_eq_getElem?_getD, e1]; rfl
  rw [a1, a2]
  exact e2
end
end Mx

set_option Elab.async false
set_option linter.all false
set_option maxRecDepth 100000
set_option maxHeartbeats 1000000
/-! Pa, part M: arrows of tables; the law's own lines. -/
namespace Mx
open PySem
def pLen (d : D) : Bool := match d with
  | .tup _ [.tup _ xs, _] => decide (xs.length = 1)
  | _ => false
def gSnd (d : D) : D := match d with
  | .tup _ [_, v] => v
  | d => d
theorem prL_flt (m : Nat) (val : List Int → D) : ((prL m val).filter pLen).map gSnd = ((lots m).filter fun l => decide (l.length = 1)).map val := by
  unfold prL
  rw [List.filter_map, List.map_map]
  have e : (pLen ∘ fun l : List Int => D.tup true [eL l, val l]) = fun l => decide (l.length = 1) := by
    funext l
    show decide ((l.map D.int).length = 1) = _
    rw [List.length_map]
  rw [e]
  apply List.map_congr_left
  intro l _
  rfl
theorem prL_len {m : Nat} (hm : m ≤ 4) (val : List Int → D) : (prL m val).length ≤ 16 := by
  unfold prL
  rw [List.length_map, lots_len hm]
  exact Nat.pow_le_pow_right (n := 2) (by decide) hm
section
variable {T : Tab} {n : Nat} {ro rw : MH} {C : Calls}
theorem prL_at {m : Nat} {val : List Int → D} {i : Nat} {d : D} (h : (prL m val)[i]? = some d) : ∃ l, (lots m)[i]? = some l ∧ d = .tup true [eL l, val l] := by
  unfold prL at h
  rw [List.getElem?_map] at h
  obtain ⟨l, h1, rfl⟩ := Option.map_eq_some_iff.mp h
  exact ⟨l, h1, rfl⟩
/-- the values beside lots of one name -/
theorem ones_comp {m : Nat} (hm : m ≤ 4) {val : List Int → D} {σ : Sig} {i j k : Nat} (hij : i ≠ j) (hi : i < σ.length) (hj : j < σ.length) (hs : σ[k]? = some (some (.lst (prL m val)))) :
    evE C ro (.comp false (.nm j) [i, j] (.tup [.nm i, .nm j]) (.seq (.nm k)) (some (.cmp .eq (.blt false .len [.nm i]) (.cst (.int 1))))) σ rw = .ok (.lst (((lots m).filter fun l => decide (l.length = 1)).map val)) rw := by
  have q := comp_flt (C := C) (ro := ro) (rw := rw) (rw0 := rw) (σ := σ) (elt := .nm j) (te := .cmp .eq (.blt false .len [.nm i]) (.cst (.int 1))) (vs := [i, j]) (tg := .tup [.nm i, .nm j]) (it := .seq (.nm k)) (s := prL m val) pLen gSnd (by
    unfold evT
    rw [bindM (ev_nm hs)]; rfl) (by have := prL_len hm val; omega) (fun d hd => by
    obtain ⟨l, hl, rfl⟩ := List.mem_map.mp hd
    refine ⟨((wipeD σ [i, j]).set i (some (eL l))).set j (some (val l)), by simp [asG, asGs, wipeD, hi, hj], ?_, fun _ => ev_nm (by simp [wipeD, hj, gSnd])⟩
    have e1 : evE C ro (.nm i) (((wipeD σ [i, j]).set i (some (eL l))).set j (some (val l))) rw = .ok (eL l) rw := ev_nm (by
      rw [List.getElem?_set_ne hij.symm]
      simp [wipeD, hi])
    have q := ev_cmp (op := .eq) (ev_blt (es_cons e1 es_nil) (len_eL (ro := ro) (rw := rw))) (ev_cst (d := .int 1)) (eqI _ _)
    rw [q]
    show Res.ok (D.bl (decide (((l.length : Nat) : Int) = 1))) rw = Res.ok (.bl (decide ((l.map D.int).length = 1))) rw
    rw [List.length_map]
    congr 2
    by_cases h : l.length = 1
    · rw [decide_eq_true h, decide_eq_true (by omega)]
    · rw [decide_eq_false h, decide_eq_false (by omega)])
  rw [prL_flt] at q
  exact q
theorem bad_comp {m : Nat} (hm : m ≤ 4) {qs : List Rat} {val : List Int → D} (hv : ∀ l ∈ lots m, IsQ (vl m qs l) (val l)) {σ : Sig} {i j k : Nat} (hij : i ≠ j) (hi : i < σ.length) (hj : j < σ.length) (hs : σ[k]? = some (some (.lst (prL m val)))) :
    evE C ro (.blt false .any [.comp false (.and [.cmp .ne (.blt false .len [.nm i]) (.cst (.int 1)), .cmp .ne (.nm j) (.cst (.tup false [.int 0, .int 1]))]) [i, j] (.tup [.nm i, .nm j]) (.seq (.nm k)) none]) σ rw = .ok (.bl (badQ m qs)) rw := by
  obtain ⟨fs, rw', e, ⟨g1, g2⟩, gl⟩ := comp_run (C := C) (ro := ro) (rw := rw) (rw0 := rw) (σ := σ) (elt := .and [.cmp .ne (.blt false .len [.nm i]) (.cst (.int 1)), .cmp .ne (.nm j) (.cst (.tup false [.int 0, .int 1]))]) (vs := [i, j]) (tg := .tup [.nm i, .nm j]) (it := .seq (.nm k)) (s := prL m val)
    (fun pre acc rw' => acc = (((lots m).map fun l => !decide (l.length = 1) && !decide (vl m qs l = 0)).take pre.length).map D.bl ∧ rw' = rw) (by
    unfold evT
    rw [bindM (ev_nm hs)]; rfl) (by have := prL_len hm val; omega) ⟨by simp, rfl⟩ (fun pre d post acc rw' e ⟨g1, g2⟩ => by
    obtain ⟨l, hl, rfl⟩ := prL_at (pre_get e)
    have hlm := List.mem_of_getElem? hl
    refine ⟨((wipeD σ [i, j]).set i (some (eL l))).set j (some (val l)), .bl (!decide (l.length = 1) && !decide (vl m qs l = 0)), rw', by simp [asG, asGs, wipeD, hi, hj], ?_, ?_, g2⟩
    · have e1 : evE C ro (.nm i) (((wipeD σ [i, j]).set i (some (eL l))).set j (some (val l))) rw' = .ok (eL l) rw' := ev_nm (by
        rw [List.getElem?_set_ne hij.symm]
        simp [wipeD, hi])
      have e2 : evE C ro (.nm j) (((wipeD σ [i, j]).set i (some (eL l))).set j (some (val l))) rw' = .ok (val l) rw' := ev_nm (by simp [wipeD, hj])
      have q := ev_cmp (op := .ne) (ev_blt (es_cons e1 es_nil) (len_eL (ro := ro) (rw := rw'))) (ev_cst (d := .int 1)) (neI _ _)
      have q2 := ev_cmp (op := .ne) e2 (ev_cst (d := .tup false [.int 0, .int 1])) (neQ0 (hv l hlm))
      by_cases h : l.length = 1
      · rw [show decide (((l.length : Nat) : Int) = 1) = true from decide_eq_true (by omega)] at q
        rw [decide_eq_true h]
        exact ev_and (ev_andF q)
      · rw [show decide (((l.length : Nat) : Int) = 1) = false from decide_eq_false (by omega)] at q
        rw [decide_eq_false h]
        exact ev_and (ev_andT q (ev_and1 q2))
    · rw [List.length_append, List.length_singleton, take_more (show ((lots m).map fun l => !decide (l.length = 1) && !decide (vl m qs l = 0))[pre.length]? = some (!decide (l.length = 1) && !decide (vl m qs l = 0)) from by rw [List.getElem?_map, hl]; rfl), List.map_append, g1]
      rfl)
  have hlen : (prL m val).length = ((lots m).map fun l => !decide (l.length = 1) && !decide (vl m qs l = 0)).length := by
    unfold prL
    rw [List.length_map, List.length_map]
  rw [hlen, List.take_length] at g1
  rw [g1, g2] at e
  have q := ev_blt (es_cons e es_nil) (any_bls (ro := ro) (rw := rw))
  rw [q]
  unfold badQ
  rw [List.any_map]
  rfl
theorem arrow_of_run (hA : TArr T) (hJ : TJudge T) (hL : TLot T) (h1 : 6 ≤ n) {m : Nat} (hm : m ≤ 4) {qs : List Rat} {d : D} (ht : IsTab m qs d) :
    ∃ ds, callN T n ro "arrow_of" [d] rw = .ok (if badQ m qs then .non else .tup true ds) rw ∧ IsQs (oneQ m qs) ds := by
  have mo := many_ok (ro := ro) (rw := rw) hJ (n := n - 1) (by omega) hm ht
  obtain ⟨hl, k, j, ds, rfl, hq⟩ := ht
  have hdl : ds.length = 2 ^ m := by rw [hq.length, hl]
  have hv : ∀ l ∈ lots m, IsQ (vl m qs l) (valOf (lots m) ds l) := fun l h => valOf_isQ hm hq hl h
  have s1 : exS (callN T (n - 2)) ro (.set 2 (.blt false .lzip [.call (Str.ofString "lots_of") [.blt false .lrange1 [.nm 1]] [] [0], .sub (.nm 0) (.cst (.int 1))])) [some (.tup k [.str (Str.ofString "table"), .tup j ds]), some (.int m), none, none, none] rw = .ok (.nx [some (.tup k [.str (Str.ofString "table"), .tup j ds]), some (.int m), some (.lst (prL m (valOf (lots m) ds))), none, none]) rw := by
    refine ex_set (ev_blt (es_cons (ev_call (es_cons (ev_blt (d := .lst (rangeD 0 m)) (es_cons (ev_nm (d := .int m) rfl) es_nil) ?_) es_nil) rfl (lots_run hL (by omega) hm)) (es_cons (ev_sub (ev_nm rfl) ev_cst sub_1) es_nil)) ?_) (show 2 < 5 by decide)
    · show (if rangeOk 0 m = true then some (D.lst (rangeD 0 m)) else none) = _
      rw [if_pos (rangeOk_upto hm)]
    · show some (D.lst (zipD ((lots m).map eL) ds)) = _
      rw [zip_prL hm hdl]
  have b1 := bad_comp (C := callN T (n - 2)) (ro := ro) (rw := rw) hm hv (σ := [some (.tup k [.str (Str.ofString "table"), .tup j ds]), some (.int m), some (.lst (prL m (valOf (lots m) ds))), none, none]) (i := 3) (j := 4) (k := 2) (by decide) (by simp) (by simp) rfl
  have o1 := ones_comp (C := callN T (n - 2)) (ro := ro) (rw := rw) hm (val := valOf (lots m) ds) (σ := [some (.tup k [.str (Str.ofString "table"), .tup j ds]), some (.int m), some (.lst (prL m (valOf (lots m) ds))), none, none]) (i := 3) (j := 4) (k := 2) (by decide) (by simp) (by simp) rfl
  have iq : IsQs (oneQ m qs) (((lots m).filter fun (l : List Int) => decide (l.length = 1)).map (valOf (lots m) ds)) := isQs_map _ fun l hlm => hv l (List.mem_filter.mp hlm).1
  refine ⟨_, ?_, iq⟩
  refine call_f hA.arrow_of (by omega) rfl (by decide) (fl := .rt (if badQ m qs then .non else .tup true (((lots m).filter fun l => decide (l.length = 1)).map (valOf (lots m) ds)))) (fun x hx => ?_) rfl
  obtain rfl : x = n - 1 := by omega
  refine ex_rt (ex_ret (ev_call (es_cons (ev_nm rfl) (es_cons (ev_call (es_cons (ev_nm rfl) es_nil) rfl mo) es_nil)) rfl ?_))
  refine call_f hA.arrow_by (by omega) rfl (by decide) (fl := .rt (if badQ m qs then .non else .tup true (((lots m).filter fun l => decide (l.length = 1)).map (valOf (lots m) ds)))) (fun y hy => ?_) rfl
  obtain rfl : y = n - 2 := by omega
  refine (ex_nx s1).trans ?_
  cases hb : badQ m qs with
  | true =>
    rw [hb] at b1
    exact ex_rt (ex_iteT b1 (ex_rt (ex_ret ev_cst)))
  | false =>
    rw [hb] at b1
    refine (ex_nx (ex_iteF b1)).trans (ex_rt (ex_ret (ev_blt (es_cons o1 es_nil) rfl)))
end
/-! ### the law's own -/
structure TO0 (T : Tab) : Prop where
  line : T "_law_some_line" = some f__law_some_line
  arrow_line : T "_law_arrow_line" = some f__law_arrow_line
structure TOwn (T : Tab) : Prop extends TO0 T where
  squares : T "_law_some_squares" = some f__law_some_squares
  arrow : T "_law_some_arrow" = some f__law_some_arrow
  met : T "_law_met" = some f__law_met
instance {T : Tab} : Coe (TOwn T) (TO0 T) := ⟨TOwn.toTO0⟩
section
variable {T : Tab} {n : Nat} {ro rw tl : MH} {C : Calls}
theorem some_arrow_run (hO : TOwn T) (hD : TDraw T) (hl : TL0 T) (h1 : 5 ≤ n) {m t : Nat} (hm : m ≤ 4) (hs : St t tl rw) (ht : t < 2 ^ 39) : ∃ as ds rw', callN T n [] "_law_some_arrow" [.ref 1, .int m] rw = .ok (.tup true ds) rw' ∧ St (t + 8) tl rw' ∧ IsQs as ds ∧ as.length = m ∧ ∀ q ∈ as, Sm 2 q := by
  obtain ⟨ds, rw', e, ⟨as, g1, g2, g3, g4⟩, gl⟩ := comp_run (C := callN T (n - 1)) (ro := []) (rw := rw) (rw0 := rw) (σ := [some (.ref 1), some (.int m), none]) (elt := .call "_law_some_number" [.nm 0, .cst (.int 3)] [] [0, 1]) (vs := [2]) (tg := .nm 2) (it := .rng1 (.nm 1)) (s := rangeD 0 m)
    (fun pre acc rw' => ∃ as : List Rat, IsQs as acc ∧ as.length = pre.length ∧ (∀ q ∈ as, Sm 2 q) ∧ St (t + 2 * pre.length) tl rw') (by
    unfold evT
    rw [bindM (ev_nm (d := .int m) rfl)]
    show M.lift (if rangeOk 0 m = true then some (rangeD 0 m) else none) rw = _
    rw [if_pos (rangeOk_upto hm)]; rfl) (by rw [rangeD_upto]; simp [upto]; omega) ⟨[], trivial, rfl, by simp, hs.le (by omega)⟩ (fun pre d post acc rw' e ⟨as, g1, g2, g3, g4⟩ => by
    have hpl : pre.length < 4 := by
      have := congrArg List.length e
      rw [rangeD_upto] at this
      simp [upto] at this
      omega
    obtain ⟨q, rw2, k1, k2, k3⟩ := some_number_run hD hl (n := n - 1) (by omega) g4 (by omega)
    refine ⟨[some (.ref 1), some (.int m), some d], enc q, rw2, rfl, ev_call (es_cons (ev_nm rfl) (es_cons ev_cst es_nil)) rfl k1, as ++ [q], g1.append ⟨isQ_enc q, trivial⟩, by simp [g2], fun x hx => ?_, ?_⟩
    · rcases List.mem_append.mp hx with hx | hx
      · exact g3 x hx
      · rw [List.mem_singleton.mp hx]; exact k3
    · rw [List.length_append, List.length_singleton]
      exact k2.le (by omega))
  have hrl : (rangeD 0 (m : Int)).length = m := by rw [rangeD_upto]; simp [upto]
  refine ⟨as, ds, rw', call_f hO.arrow (by omega) rfl (by decide) (fl := .rt (.tup true ds)) (fun j hj => ?_) rfl, ?_, g1, by rw [g2, hrl], g3⟩
  · obtain rfl : j = n - 1 := by omega
    exact ex_rt (ex_ret (ev_blt (es_cons e es_nil) rfl))
  · rw [hrl] at g4
    exact g4.le (by omega)
theorem some_squares_run (hO : TOwn T) (hD : TDraw T) (hl : TL0 T) (h1 : 5 ≤ n) {m t : Nat} (hm : m ≤ 4) (hs : St t tl rw) (ht : t < 2 ^ 39) : ∃ as ds rw', callN T n [] "_law_some_squares" [.ref 1, .int m] rw = .ok (.tup true ds) rw' ∧ St (t + 12) tl rw' ∧ IsQs as ds ∧ as.length = m ∧ ∀ q ∈ as, Sm 2 q := by
  obtain ⟨ds, rw', e, ⟨as, g1, g2, g3, g4⟩, gl⟩ := comp_run (C := callN T (n - 1)) (ro := []) (rw := rw) (rw0 := rw) (σ := [some (.ref 1), some (.int m), none]) (elt := .call "_law_pick" [.nm 0, .lst false [.tup [.cst (.int 1), .cst (.int 1)], .tup [.neg (.cst (.int 1)), .cst (.int 1)], .tup [.cst (.int 0), .cst (.int 1)], .tup [.cst (.int 2), .cst (.int 1)], .call "_law_some_number" [.nm 0, .cst (.int 3)] [] [0, 1]]] [] [0, 1]) (vs := [2]) (tg := .nm 2) (it := .rng1 (.nm 1)) (s := rangeD 0 m)
    (fun pre acc rw' => ∃ as : List Rat, IsQs as acc ∧ as.length = pre.length ∧ (∀ q ∈ as, Sm 2 q) ∧ St (t + 3 * pre.length) tl rw') (by
    unfold evT
    rw [bindM (ev_nm (d := .int m) rfl)]
    show M.lift (if rangeOk 0 m = true then some (rangeD 0 m) else none) rw = _
    rw [if_pos (rangeOk_upto hm)]; rfl) (by rw [rangeD_upto]; simp [upto]; omega) ⟨[], trivial, rfl, by simp, hs.le (by omega)⟩ (fun pre d post acc rw' e ⟨as, g1, g2, g3, g4⟩ => by
    have hpl : pre.length < 4 := by
      have := congrArg List.length e
      rw [rangeD_upto] at this
      simp [upto] at this
      omega
    obtain ⟨q, rw2, k1, k2, k3⟩ := some_number_run hD hl (n := n - 1) (by omega) g4 (by omega)
    obtain ⟨p, rw3, p1, p2, p3⟩ := pick_run hD (n := n - 1) (by omega) (xs := [.tup true [.int 1, .int 1], .tup true [.int (-1), .int 1], .tup true [.int 0, .int 1], .tup true [.int 2, .int 1], enc q]) k2 (by omega) (by simp) (by simp)
    have hp : ∃ r : Rat, IsQ r p ∧ Sm 2 r := by
      simp only [List.mem_cons, List.not_mem_nil, or_false] at p3
      rcases p3 with rfl | rfl | rfl | rfl | rfl
      · exact ⟨1, ⟨true, rfl⟩, by decide, by decide⟩
      · exact ⟨-1, ⟨true, rfl⟩, by decide, by decide⟩
      · exact ⟨0, ⟨true, rfl⟩, by decide, by decide⟩
      · exact ⟨2, ⟨true, rfl⟩, by decide, by decide⟩
      · exact ⟨q, isQ_enc q, k3⟩
    obtain ⟨r, r1, r2⟩ := hp
    have neg1 : ∀ {σ : Sig} {rw : MH}, evE (callN T (n - 1)) [] (.neg (.cst (.int 1))) σ rw = .ok (.int (-1)) rw := fun {σ rw} => by
      unfold evE
      rw [bindM ev_cst]; rfl
    refine ⟨[some (.ref 1), some (.int m), some d], p, rw3, rfl, ev_call (es_cons (ev_nm rfl) (es_cons (ev_lst (es_cons (ev_tup (es_cons ev_cst (es_cons ev_cst es_nil)) rfl) (es_cons (ev_tup (es_cons neg1 (es_cons ev_cst es_nil)) rfl) (es_cons (ev_tup (es_cons ev_cst (es_cons ev_cst es_nil)) rfl) (es_cons (ev_tup (es_cons ev_cst (es_cons ev_cst es_nil)) rfl) (es_cons (ev_call (es_cons (ev_nm rfl) (es_cons ev_cst es_nil)) rfl k1) es_nil))))) rfl) es_nil)) rfl p1, as ++ [r], g1.append ⟨r1, trivial⟩, by simp [g2], fun x hx => ?_, ?_⟩
    · rcases List.mem_append.mp hx with hx | hx
      · exact g3 x hx
      · rw [List.mem_singleton.mp hx]; exact r2
    · rw [List.length_append, List.length_singleton]
      exact p2.le (by omega))
  have hrl : (rangeD 0 (m : Int)).length = m := by rw [rangeD_upto]; simp [upto]
  refine ⟨as, ds, rw', call_f hO.squares (by omega) rfl (by decide) (fl := .rt (.tup true ds)) (fun j hj => ?_) rfl, ?_, g1, by rw [g2, hrl], g3⟩
  · obtain rfl : j = n - 1 := by omega
    exact ex_rt (ex_ret (ev_blt (es_cons e es_nil) rfl))
  · rw [hrl] at g4
    exact g4.le (by omega)
theorem some_line_run (hO : TO0 T) (hD : TDraw T) (hl : TL0 T) (hL : TLot T) (h1 : 5 ≤ n) {m t : Nat} (hm : m ≤ 4) (hs : St t tl rw) (ht : t < 2 ^ 39) : ∃ as ds rw', callN T n [] "_law_some_line" [.ref 1, .int m] rw = .ok (.tup true ds) rw' ∧ St (t + 48) tl rw' ∧ IsQs as ds ∧ as.length = 2 ^ m ∧ ∀ q ∈ as, Sm 2 q := by
  have l16 : (lots m).length ≤ 16 := by
    rw [lots_len hm]; exact Nat.pow_le_pow_right (n := 2) (by decide) hm
  obtain ⟨ds, rw', e, ⟨as, g1, g2, g3, g4⟩, gl⟩ := comp_run (C := callN T (n - 1)) (ro := []) (rw := rw) (rw0 := rw) (σ := [some (.ref 1), some (.int m), none]) (elt := .ite (.cmp .eq (.call "_law_draw" [.nm 0, .cst (.int 2)] [] [0, 1]) (.cst (.int 0))) (.call "_law_some_number" [.nm 0, .cst (.int 3)] [] [0, 1]) (.tup [.cst (.int 0), .cst (.int 1)])) (vs := [2]) (tg := .nm 2) (it := .seq (.call "_law_places" [.nm 1] [] [0])) (s := (lots m).map eL)
    (fun pre acc rw' => ∃ as : List Rat, IsQs as acc ∧ as.length = pre.length ∧ (∀ q ∈ as, Sm 2 q) ∧ St (t + 3 * pre.length) tl rw') (by
    unfold evT
    rw [bindM (ev_call (es_cons (ev_nm (d := .int m) rfl) es_nil) rfl (places_run hL (by omega) hm))]; rfl) (by simp; omega) ⟨[], trivial, rfl, by simp, hs.le (by omega)⟩ (fun pre d post acc rw' e ⟨as, g1, g2, g3, g4⟩ => by
    have hpl : pre.length < 16 := by
      have := congrArg List.length e
      simp at this
      omega
    obtain ⟨v, rw2, k1, k2, k3, k4⟩ := draw_run hD (n := n - 1) (by omega) g4 (by omega) (room := 2) (by decide) (by decide)
    have t1 : evE (callN T (n - 1)) [] (.cmp .eq (.call "_law_draw" [.nm 0, .cst (.int 2)] [] [0, 1]) (.cst (.int 0))) [some (.ref 1), some (.int m), some d] rw' = .ok (.bl (decide (v = 0))) rw2 := ev_cmp (ev_call (es_cons (ev_nm rfl) (es_cons ev_cst es_nil)) rfl k1) ev_cst (eqI _ _)
    by_cases hv : v = 0
    · rw [decide_eq_true hv] at t1
      obtain ⟨q, rw3, p1, p2, p3⟩ := some_number_run hD hl (n := n - 1) (by omega) k2 (by omega)
      refine ⟨[some (.ref 1), some (.int m), some d], enc q, rw3, rfl, ev_iteT t1 (ev_call (es_cons (ev_nm rfl) (es_cons ev_cst es_nil)) rfl p1), as ++ [q], g1.append ⟨isQ_enc q, trivial⟩, by simp [g2], fun x hx => ?_, ?_⟩
      · rcases List.mem_append.mp hx with hx | hx
        · exact g3 x hx
        · rw [List.mem_singleton.mp hx]; exact p3
      · rw [List.length_append, List.length_singleton]
        exact p2.le (by omega)
    · rw [decide_eq_false hv] at t1
      refine ⟨[some (.ref 1), some (.int m), some d], .tup true [.int 0, .int 1], rw2, rfl, ev_iteF t1 (ev_tup (es_cons ev_cst (es_cons ev_cst es_nil)) rfl), as ++ [0], g1.append ⟨isQ_zero, trivial⟩, by simp [g2], fun x hx => ?_, ?_⟩
      · rcases List.mem_append.mp hx with hx | hx
        · exact g3 x hx
        · rw [List.mem_singleton.mp hx]; exact ⟨by decide, by decide⟩
      · rw [List.length_append, List.length_singleton]
        exact k2.le (by omega))
  rw [List.length_map] at g2 g4
  refine ⟨as, ds, rw', call_f hO.line (by omega) rfl (by decide) (fl := .rt (.tup true ds)) (fun j hj => ?_) rfl, g4.le (by omega), g1, by rw [g2, lots_len hm], g3⟩
  obtain rfl : j = n - 1 := by omega
  exact ex_rt (ex_ret (ev_blt (es_cons e es_nil) rfl))
theorem arrow_line_run (hO : TO0 T) (hL : TLot T) (h1 : 3 ≤ n) {m : Nat} (hm : m ≤ 4) {b : Bool} {as : List Rat} {ds : List D} (hq : IsQs as ds) (hl : as.length = m) : ∃ fs, callN T n ro "_law_arrow_line" [.tup b ds] rw = .ok (.tup true fs) rw ∧ IsQs ((lots m).map (arrQ as)) fs := by
  have ll : ((ds.length : Nat) : Int) = m := by rw [hq.length, hl]
  obtain ⟨fs, e, g⟩ := arr_comp (C := callN T (n - 1)) (ro := ro) (rw := rw) hm (b := b) hq hl (σ := [some (.tup b ds), none]) (i := 1) (it := .seq (.call "_law_places" [.blt false .len [.nm 0]] [] [0])) (z := .tup [.cst (.int 0), .cst (.int 1)]) (by simp) (by decide) rfl (by
    unfold evT
    rw [bindM (ev_call (es_cons (ev_blt (d := .int m) (es_cons (ev_nm rfl) es_nil) (by rw [len_tup, ll])) es_nil) rfl (places_run hL (by omega) hm))]
    rfl) (fun _ => ev_tup (es_cons ev_cst (es_cons ev_cst es_nil)) rfl) isQ_zero
  refine ⟨fs, call_f hO.arrow_line (by omega) rfl (by decide) (fl := .rt (.tup true fs)) (fun j hj => ?_) rfl, g⟩
  obtain rfl : j = n - 1 := by omega
  exact ex_rt (ex_ret (ev_blt (es_cons e es_nil) rfl))
end
end Mx

set_option Elab.async false
set_option linter.all false
set_option maxRecDepth 100000
set_option maxHeartbeats 1000000
/-! Pa, part N: the law's own meetings. -/
namespace Mx
open PySem
section
variable {T : Tab} {n : Nat} {ro rw : MH} {C : Calls}
theorem zipD3_at {xs ys zs : List D} {i : Nat} {d : D} (h : (zipD3 xs ys zs)[i]? = some d) : ∃ a b c, xs[i]? = some a ∧ ys[i]? = some b ∧ zs[i]? = some c ∧ d = .tup true [a, b, c] := by
  have hi := (List.getElem?_eq_some_iff.mp h).1
  rw [zipD3_len] at hi
  have g1 := List.getElem?_eq_getElem (show i < xs.length by omega)
  have g2 := List.getElem?_eq_getElem (show i < ys.length by omega)
  have g3 := List.getElem?_eq_getElem (show i < zs.length by omega)
  rw [zipD3_get xs ys zs i _ _ _ g1 g2 g3] at h
  cases h
  exact ⟨_, _, _, g1, g2, g3, rfl⟩
theorem total_run (hl : TLaw T) (h1 : 4 ≤ n) {a : Nat} {qs : List Rat} {ds : List D} (hq : IsQs qs ds) (sq : ∀ q ∈ qs, Sm a q) (hn : qs.length ≤ 16) (ha : a ≤ 100) : ∃ d, callN T n ro "_law_total" [.lst ds] rw = .ok d rw ∧ IsQ (qs.foldl (· + ·) 0) d := by
  obtain ⟨σ', rw', e, fd, x2, rfl, rfl, hf⟩ := loop_run (C := callN T (n - 1)) (ro := ro) (g := .nm 2) (it := .seq (.nm 0)) (b := [.set 1 (.call "_law_plus" [.nm 1, .nm 2] [] [0, 1])]) (s := ds) (rw := rw) (rw0 := rw) (σ := [some (.lst ds), some (.tup true [.int 0, .int 1]), none])
    (fun pre σ rw' => ∃ fd x2, σ = [some (.lst ds), some fd, x2] ∧ rw' = rw ∧ IsQ ((qs.take pre.length).foldl (· + ·) 0) fd) (by
    unfold evT
    rw [bindM (ev_nm rfl)]; rfl) ⟨_, none, rfl, rfl, isQ_zero⟩ (fun pre d post σ rw' e ⟨fd, x2, e1, e2, hf⟩ => by
    subst e1
    subst e2
    obtain ⟨q, q1, q2⟩ := hq.at (pre_get e)
    have pl : pre.length < 16 := by
      have := (List.getElem?_eq_some_iff.mp q1).1
      omega
    have s1 : Sm (1 + 16 * (a + 1)) ((qs.take pre.length).foldl (· + ·) 0) := by
      refine (sum_sm (a := a) _ 0 1 (fun r hr => sq r (List.mem_of_mem_take hr)) sm_zero).le ?_
      have : (qs.take pre.length).length ≤ 16 := by rw [List.length_take]; omega
      have := Nat.mul_le_mul_right (a + 1) this
      omega
    have t1 := law_plus_run (ro := ro) (rw := rw') hl.toTL0 (n := n - 1) (by omega) hf q2 s1 (sq q (List.mem_of_getElem? q1)) (by omega)
    refine ⟨_, _, rw', rfl, .inl (ex_nx (ex_set (ev_call (es_cons (ev_nm rfl) (es_cons (ev_nm rfl) es_nil)) rfl t1) (show 1 < 3 by decide))), _, _, rfl, rfl, ?_⟩
    rw [List.length_append, List.length_singleton, take_more q1, List.foldl_append]
    exact isQ_enc _)
  rw [hq.length, List.take_length] at hf
  refine ⟨fd, call_f hl.total (by omega) rfl (by decide) (fl := .rt fd) (fun j hj => ?_) rfl, hf⟩
  obtain rfl : j = n - 1 := by omega
  exact (ex_nx (ex_set (ev_tup (es_cons ev_cst (es_cons ev_cst es_nil)) rfl) (show 1 < 3 by decide))).trans ((ex_nx e).trans (ex_rt (ex_ret (ev_nm rfl))))
theorem metQ_sum (ss xs ys : List Rat) : metQ ss xs ys = (mulQ ss (mulQ xs ys)).foldl (· + ·) 0 := by
  unfold metQ dotQ
  rw [show mulQ ss (mulQ xs ys) = (ss.zip (mulQ xs ys)).map fun p => p.1 * p.2 from rfl, List.foldl_map]
  rfl
theorem law_met_run (hO : TOwn T) (hl : TLaw T) (h1 : 5 ≤ n) {m : Nat} (hm : m ≤ 4) {k1 k2 k3 : Bool} {ss ps qs : List Rat} {sds ds es : List D} (hs : IsQs ss sds) (hp : IsQs ps ds) (hq : IsQs qs es) (ls : ss.length = m) (lp : ps.length = m) (lq : qs.length = m) {c a b : Nat} (sc : ∀ s ∈ ss, Sm c s) (sp : ∀ p ∈ ps, Sm a p) (sq : ∀ q ∈ qs, Sm b q) (hab : c + (a + b) ≤ 100) :
    ∃ d, callN T n ro "_law_met" [.tup k1 sds, .tup k2 ds, .tup k3 es] rw = .ok d rw ∧ IsQ (metQ ss ps qs) d := by
  obtain ⟨fs, rw', e, ⟨j1, j2⟩, jl⟩ := comp_run (C := callN T (n - 1)) (ro := ro) (rw := rw) (rw0 := rw) (σ := [some (.tup k1 sds), some (.tup k2 ds), some (.tup k3 es), none, none, none]) (elt := .call "_law_times" [.nm 3, .call "_law_times" [.nm 4, .nm 5] [] [0, 1]] [] [0, 1]) (vs := [3, 4, 5]) (tg := .tup [.nm 3, .nm 4, .nm 5]) (it := .zip3 (.nm 0) (.nm 1) (.nm 2)) (s := zipD3 sds ds es)
    (fun pre acc rw' => IsQs ((mulQ ss (mulQ ps qs)).take pre.length) acc ∧ rw' = rw) (by
    unfold evT
    rw [bindM (ev_nm rfl), bindM (ev_nm rfl), bindM (ev_nm rfl)]; rfl) (by rw [zipD3_len, hs.length]; omega) ⟨by simp [IsQs], rfl⟩ (fun pre d post acc rw' e ⟨j1, j2⟩ => by
    subst j2
    obtain ⟨x, y, z, g1, g2, g3, rfl⟩ := zipD3_at (pre_get e)
    obtain ⟨s, s1, s2⟩ := hs.at g1
    obtain ⟨p, p1, p2⟩ := hp.at g2
    obtain ⟨q, q1, q2⟩ := hq.at g3
    have hz0 : (ps.zip qs)[pre.length]? = some (p, q) := List.getElem?_zip_eq_some.mpr ⟨p1, q1⟩
    have hz1 : (mulQ ps qs)[pre.length]? = some (p * q) := by
      unfold mulQ
      rw [List.getElem?_map, hz0]; rfl
    have hz2 : (ss.zip (mulQ ps qs))[pre.length]? = some (s, p * q) := List.getElem?_zip_eq_some.mpr ⟨s1, hz1⟩
    have hz : (mulQ ss (mulQ ps qs))[pre.length]? = some (s * (p * q)) := by
      rw [show mulQ ss (mulQ ps qs) = (ss.zip (mulQ ps qs)).map fun p => p.1 * p.2 from rfl, List.getElem?_map, hz2]; rfl
    have sp' := sp p (List.mem_of_getElem? p1)
    have sq' := sq q (List.mem_of_getElem? q1)
    have t1 := law_times_run (ro := ro) (rw := rw') hl.toTL0 (n := n - 1) (by omega) p2 q2 sp' sq' (by omega)
    have t2 := law_times_run (ro := ro) (rw := rw') hl.toTL0 (n := n - 1) (by omega) s2 (isQ_enc (p * q)) (sc s (List.mem_of_getElem? s1)) (sp'.mul sq') (by omega)
    refine ⟨[some (.tup k1 sds), some (.tup k2 ds), some (.tup k3 es), some x, some y, some z], _, rw', rfl, ev_call (es_cons (ev_nm rfl) (es_cons (ev_call (es_cons (ev_nm rfl) (es_cons (ev_nm rfl) es_nil)) rfl t1) es_nil)) rfl t2, ?_, rfl⟩
    rw [List.length_append, List.length_singleton, take_more hz]
    exact j1.append ⟨isQ_enc _, trivial⟩)
  have lm : (mulQ ss (mulQ ps qs)).length = m := by
    unfold mulQ
    simp only [List.length_map, List.length_zip]
    omega
  have lz : (zipD3 sds ds es).length = m := by
    rw [zipD3_len, hs.length, hp.length, hq.length]; omega
  rw [lz, ← lm, List.take_length] at j1
  rw [j2] at e
  obtain ⟨d, d1, d2⟩ := total_run (ro := ro) (rw := rw) hl (n := n - 1) (by omega) j1 (mul_sm sc (mul_sm sp sq)) (by omega) hab
  refine ⟨d, call_f hO.met (by omega) rfl (by decide) (fl := .rt d) (fun j hj => ?_) rfl, by rw [metQ_sum]; exact d2⟩
  obtain rfl : j = n - 1 := by omega
  exact ex_rt (ex_ret (ev_call (es_cons e es_nil) rfl d1))
end
end Mx

set_option Elab.async false
set_option linter.all false
set_option maxRecDepth 100000
set_option maxHeartbeats 4000000
/-! Pa, part O: what folds of arrows come to. -/
namespace Mx
open PySem
theorem vl_map {m : Nat} {f : List Int → Rat} {l : List Int} (h : l ∈ lots m) : vl m ((lots m).map f) l = f l := by
  have hi : (lots m).idxOf l < (lots m).length := List.idxOf_lt_length_of_mem h
  unfold vl
  rw [List.getD_eq_getElem?_getD, List.getElem?_map, List.getElem?_eq_getElem hi]
  simp
/-- sums -/
def sumQ {α : Type} (f : α → Rat) : List α → Rat
  | [] => 0
  | x :: xs => f x + sumQ f xs
theorem sumQ_congr {α : Type} {f g : α → Rat} : ∀ {xs : List α}, (∀ x ∈ xs, f x = g x) → sumQ f xs = sumQ g xs
  | [], _ => rfl
  | x :: xs, h => by
    rw [sumQ, sumQ, h x List.mem_cons_self, sumQ_congr fun y hy => h y (List.mem_cons_of_mem _ hy)]
theorem sumQ_filter {α : Type} {f : α → Rat} (p : α → Bool) : ∀ {xs : List α}, (∀ x ∈ xs, p x = false → f x = 0) → sumQ f xs = sumQ f (xs.filter p)
  | [], _ => rfl
  | x :: xs, h => by
    have ih := sumQ_filter (f := f) p (xs := xs) fun y hy => h y (List.mem_cons_of_mem _ hy)
    rw [sumQ, List.filter_cons]
    cases hp : p x with
    | true => rw [if_pos rfl, sumQ, ih]
    | false => rw [if_neg (by simp), h x List.mem_cons_self hp, ih, Rat.zero_add]
theorem sumQ_map {α β : Type} {f : β → Rat} {g : α → β} : ∀ xs : List α, sumQ f (xs.map g) = sumQ (fun x => f (g x)) xs
  | [] => rfl
  | x :: xs => by rw [List.map_cons, sumQ, sumQ, sumQ_map xs]
def pQ (sq : Int → Rat) (h t : List Int → Rat) (L u v : List Int) : Rat := if L = partI u v then h u * t v * wQ sq u v else 0
theorem rowQ_sum {sq : Int → Rat} {h t : List Int → Rat} {u L : List Int} : ∀ (vs : List (List Int)) (acc : List Int → Rat), rowQ sq h t vs acc u L = acc L + sumQ (pQ sq h t L u) vs
  | [], acc => by
    show acc L = _
    rw [sumQ, Rat.add_zero]
  | v :: vs, acc => by
    have ih := rowQ_sum (sq := sq) (h := h) (t := t) (u := u) (L := L) vs (pairQ sq h t u v acc)
    have e : rowQ sq h t (v :: vs) acc u L = rowQ sq h t vs (pairQ sq h t u v acc) u L := rfl
    rw [e, ih, sumQ]
    unfold pairQ pQ
    split
    · rw [Rat.add_assoc]
    · rw [Rat.zero_add]
theorem foldQ_sums {sq : Int → Rat} {h t : List Int → Rat} {L : List Int} {vs : List (List Int)} : ∀ (us : List (List Int)) (acc : List Int → Rat), us.foldl (rowQ sq h t vs) acc L = acc L + sumQ (fun u => sumQ (pQ sq h t L u) vs) us
  | [], acc => by
    show acc L = _
    rw [sumQ, Rat.add_zero]
  | u :: us, acc => by
    rw [List.foldl_cons, foldQ_sums us, rowQ_sum, sumQ, Rat.add_assoc]
theorem foldQ_sum {m : Nat} {sq : Int → Rat} {h t : List Int → Rat} {L : List Int} : foldQ m sq h t L = sumQ (fun u => sumQ (pQ sq h t L u) (lots m)) (lots m) := by
  unfold foldQ
  rw [foldQ_sums, Rat.zero_add]
theorem foldQ_congr {m : Nat} {sq : Int → Rat} {h t h' t' : List Int → Rat} {L : List Int} (e1 : ∀ l ∈ lots m, h l = h' l) (e2 : ∀ l ∈ lots m, t l = t' l) : foldQ m sq h t L = foldQ m sq h' t' L := by
  rw [foldQ_sum, foldQ_sum]
  refine sumQ_congr fun u hu => sumQ_congr fun v hv => ?_
  unfold pQ
  rw [e1 u hu, e2 v hv]
theorem singles {m : Nat} (hm : m ≤ 4) : (lots m).filter (fun l => decide (l.length = 1)) = (upto m).map fun x => [x] := by
  refine m_cases (P := fun m => (lots m).filter (fun l => decide (l.length = 1)) = (upto m).map fun x => [x]) hm ?_ ?_ ?_ ?_ ?_ <;> decide +kernel
/-- two arrows folded -/
theorem arr_fold {m : Nat} (hm : m ≤ 4) {sq : Int → Rat} {as bs : List Rat} {L : List Int} : foldQ m sq (arrQ as) (arrQ bs) L = sumQ (fun x => sumQ (fun y => if L = partI [x] [y] then rowS as x * rowS bs y * wQ sq [x] [y] else 0) (upto m)) (upto m) := by
  have off : ∀ (cs : List Rat) (l : List Int), decide (l.length = 1) = false → arrQ cs l = 0 := fun cs l h => by
    unfold arrQ
    rw [if_neg (of_decide_eq_false h)]
  rw [foldQ_sum, sumQ_filter (fun l => decide (l.length = 1)), singles hm, sumQ_map]
  · refine sumQ_congr fun x _ => ?_
    rw [sumQ_filter (fun l => decide (l.length = 1)), singles hm, sumQ_map]
    · refine sumQ_congr fun y _ => ?_
      rfl
    · intro v _ hv
      unfold pQ
      rw [off bs v hv]
      split <;> grind
  · intro u _ hu
    have : ∀ vs : List (List Int), sumQ (pQ sq (arrQ as) (arrQ bs) L u) vs = 0 := fun vs => by
      induction vs with
      | nil => rfl
      | cons v vs ih =>
        rw [sumQ, ih]
        unfold pQ
        rw [off as u hu]
        split <;> grind
    exact this _
theorem arr_one {m : Nat} (hm : m ≤ 4) {as : List Rat} (hl : as.length = m) : oneQ m ((lots m).map (arrQ as)) = as := by
  unfold oneQ
  rw [List.map_congr_left (g := arrQ as) fun l hl => vl_map (List.mem_filter.mp hl).1, singles hm, List.map_map]
  have e : (arrQ as ∘ fun x => [x]) = rowS as := by
    funext x
    rfl
  rw [e]
  apply List.ext_getElem?
  intro i
  rw [List.getElem?_map]
  by_cases hi : i < m
  · have g : (upto m)[i]? = some (i : Int) := by
      unfold upto
      rw [List.getElem?_map, List.getElem?_range hi]; rfl
    rw [g, rowS_get hl hi]; rfl
  · have g : (upto m)[i]? = none := by
      unfold upto
      rw [List.getElem?_eq_none]
      simp; omega
    rw [g, List.getElem?_eq_none (by omega)]; rfl
theorem arr_bad {m : Nat} {as : List Rat} : badQ m ((lots m).map (arrQ as)) = false := by
  unfold badQ
  rw [List.any_eq_false]
  intro l hl
  rw [vl_map hl]
  by_cases h : l.length = 1
  · simp [h]
  · unfold arrQ
    simp [h]
/-- folded both ways -/
def bothQ (m : Nat) (sq a b : Int → Rat) (L : List Int) : Rat := sumQ (fun x => sumQ (fun y => if L = partI [x] [y] then a x * b y * wQ sq [x] [y] else 0) (upto m)) (upto m) + sumQ (fun x => sumQ (fun y => if L = partI [x] [y] then b x * a y * wQ sq [x] [y] else 0) (upto m)) (upto m)
def rowsum (m : Nat) (sq a b : Int → Rat) : Rat := sumQ (fun x => sq x * (a x * b x)) (upto m)
theorem part_1 (x y : Int) : partI [x] [y] = if x = y then [] else if x < y then [x, y] else [y, x] := by
  unfold partI
  by_cases h : x = y
  · subst h; simp [isort]
  · have h' : ¬ y = x := fun z => h z.symm
    simp only [List.filter_cons, List.mem_singleton, h, h', decide_false, Bool.not_false, if_true, List.filter_nil, if_false]
    by_cases hl : x < y
    · simp [isort, insertBy, ltInt, hl]
      omega
    · have : y < x := by omega
      simp [isort, insertBy, ltInt, hl, this]
theorem w_1 (sq : Int → Rat) (x y : Int) : wQ sq [x] [y] = if x = y then sq x else if y < x then -1 else 1 := by
  unfold wQ sgI swapI
  by_cases h : x = y
  · subst h
    simp
  · by_cases hl : y < x
    · simp [h, hl]
    · simp [h, hl]
theorem both_all {m : Nat} (hm : m ≤ 4) (sq a b : Int → Rat) : ∀ L ∈ lots m, bothQ m sq a b L = if L = [] then 2 * rowsum m sq a b else 0 := by
  have u0 : upto 0 = [] := rfl
  have u1 : upto 1 = [0] := rfl
  have u2 : upto 2 = [0, 1] := rfl
  have u3 : upto 3 = [0, 1, 2] := rfl
  have u4 : upto 4 = [0, 1, 2, 3] := rfl
  refine m_cases (P := fun m => ∀ L ∈ lots m, bothQ m sq a b L = if L = [] then 2 * rowsum m sq a b else 0) hm ?_ ?_ ?_ ?_ ?_
  · rw [lots_0]
    simp [bothQ, rowsum, u0, sumQ]
    exact Rat.add_zero 0
  · rw [lots_1]
    simp [bothQ, rowsum, u1, sumQ, part_1, w_1]
    grind
  · rw [lots_2]
    simp [bothQ, rowsum, u2, sumQ, part_1, w_1]
    grind
  · rw [lots_3]
    simp [bothQ, rowsum, u3, sumQ, part_1, w_1]
    grind
  · rw [lots_4]
    simp [bothQ, rowsum, u4, sumQ, part_1, w_1]
    grind
theorem foldl_sum {α : Type} {f : α → Rat} : ∀ (xs : List α) (c : Rat), xs.foldl (fun a x => a + f x) c = c + sumQ f xs
  | [], c => by rw [sumQ, Rat.add_zero]; rfl
  | x :: xs, c => by rw [List.foldl_cons, foldl_sum xs, sumQ, Rat.add_assoc]
theorem row_map {m : Nat} {as : List Rat} (hl : as.length = m) : as = (upto m).map (rowS as) := by
  apply List.ext_getElem?
  intro i
  rw [List.getElem?_map]
  by_cases hi : i < m
  · have g : (upto m)[i]? = some (i : Int) := by
      unfold upto
      rw [List.getElem?_map, List.getElem?_range hi]; rfl
    rw [g, rowS_get hl hi]; rfl
  · have g : (upto m)[i]? = none := by
      unfold upto
      rw [List.getElem?_eq_none]
      simp; omega
    rw [g, List.getElem?_eq_none (by omega)]; rfl
theorem metQ_row {m : Nat} {ss as bs : List Rat} (ls : ss.length = m) (la : as.length = m) (lb : bs.length = m) : metQ ss as bs = rowsum m (rowS ss) (rowS as) (rowS bs) := by
  have z : ∀ (f g : Int → Rat), mulQ ((upto m).map f) ((upto m).map g) = (upto m).map fun x => f x * g x := fun f g => by
    unfold mulQ
    rw [List.zip_map', List.map_map]
    rfl
  rw [metQ_sum]
  conv => lhs; rw [row_map ls, row_map la, row_map lb]
  rw [z, z]
  have q := foldl_sum (f := fun x : Rat => x) ((upto m).map fun x => rowS ss x * (rowS as x * rowS bs x)) 0
  rw [show ((upto m).map fun x => rowS ss x * (rowS as x * rowS bs x)).foldl (· + ·) 0 = _ from q, Rat.zero_add, sumQ_map]
  rfl
theorem metQ_comm {m : Nat} {ss as bs : List Rat} (ls : ss.length = m) (la : as.length = m) (lb : bs.length = m) : metQ ss bs as = metQ ss as bs := by
  rw [metQ_row ls lb la, metQ_row ls la lb]
  unfold rowsum
  refine sumQ_congr fun x _ => ?_
  rw [Rat.mul_comm (rowS bs x)]
/-- both foldings of two arrows, added -/
theorem both_fold {m : Nat} (hm : m ≤ 4) {sq : Int → Rat} {as bs : List Rat} : addQ ((lots m).map (foldQ m sq (vl m ((lots m).map (arrQ as))) (vl m ((lots m).map (arrQ bs))))) ((lots m).map (foldQ m sq (vl m ((lots m).map (arrQ bs))) (vl m ((lots m).map (arrQ as))))) = (lots m).map fun L => if L = [] then 2 * rowsum m sq (rowS as) (rowS bs) else 0 := by
  unfold addQ
  rw [List.zip_map', List.map_map]
  apply List.map_congr_left
  intro L hL
  rw [← both_all hm sq (rowS as) (rowS bs) L hL]
  show foldQ m sq _ _ L + foldQ m sq _ _ L = _
  rw [foldQ_congr (L := L) (fun l hl => vl_map (f := arrQ as) hl) (fun l hl => vl_map (f := arrQ bs) hl), foldQ_congr (L := L) (fun l hl => vl_map (f := arrQ bs) hl) (fun l hl => vl_map (f := arrQ as) hl), arr_fold hm, arr_fold hm]
  rfl
theorem lots_first {m : Nat} (hm : m ≤ 4) (c : Rat) : ((lots m).map fun L => if L = [] then c else 0) = c :: List.replicate (2 ^ m - 1) 0 := by
  refine m_cases (P := fun m => ((lots m).map fun L => if L = [] then c else 0) = c :: List.replicate (2 ^ m - 1) 0) hm ?_ ?_ ?_ ?_ ?_
  · rw [lots_0]; rfl
  · rw [lots_1]; rfl
  · rw [lots_2]; rfl
  · rw [lots_3]; rfl
  · rw [lots_4]; rfl
theorem rowsum_zero {m : Nat} {a b : Int → Rat} : rowsum m (fun _ => 0) a b = 0 := by
  unfold rowsum
  have : ∀ xs : List Int, sumQ (fun x => (0 : Rat) * (a x * b x)) xs = 0 := fun xs => by
    induction xs with
    | nil => rfl
    | cons x xs ih => rw [sumQ, ih, Rat.zero_mul, Rat.add_zero]
  exact this _
end Mx

set_option Elab.async false
set_option linter.all false
set_option maxRecDepth 100000
set_option maxHeartbeats 1000000
/-! Pa, part P: what values tell. -/
namespace Mx
open PySem
/-- a plain tree and its data -/
structure Tells (k : Nat) (d : D) (p : PyData) : Prop where
  plain : PlainD k d
  py : ∀ (ro rw : MH) (j : Nat), k + 1 ≤ j → toPy ro rw j d = some p
theorem PlainD.le {k j : Nat} {d : D} (h : PlainD k d) (l : k ≤ j) : PlainD j d := by
  induction h generalizing j with
  | non => exact .non
  | bl b => exact .bl b
  | int i => exact .int i
  | str s => exact .str s
  | @tup k b xs hx hl ih =>
    obtain ⟨j, rfl⟩ : ∃ i, j = i + 1 := ⟨j - 1, by omega⟩
    exact .tup (fun x hm => ih x hm (by omega)) hl
  | @lst k xs hx hl ih =>
    obtain ⟨j, rfl⟩ : ∃ i, j = i + 1 := ⟨j - 1, by omega⟩
    exact .lst (fun x hm => ih x hm (by omega)) hl
theorem Tells.le {k j : Nat} {d : D} {p : PyData} (h : Tells k d p) (l : k ≤ j) : Tells j d p := ⟨h.plain.le l, fun ro rw i hi => h.py ro rw i (by omega)⟩
theorem tells_non {k : Nat} : Tells k .non .none := ⟨.non, fun ro rw j hj => by
  obtain ⟨i, rfl⟩ : ∃ i, j = i + 1 := ⟨j - 1, by omega⟩
  rfl⟩
theorem tells_int {k : Nat} (i : Int) : Tells k (.int i) (.int i) := ⟨.int i, fun ro rw j hj => by
  obtain ⟨i, rfl⟩ : ∃ i, j = i + 1 := ⟨j - 1, by omega⟩
  rfl⟩
theorem tells_bl {k : Nat} (b : Bool) : Tells k (.bl b) (.bool b) := ⟨.bl b, fun ro rw j hj => by
  obtain ⟨i, rfl⟩ : ∃ i, j = i + 1 := ⟨j - 1, by omega⟩
  rfl⟩
theorem tells_str {k : Nat} (s : Str) : Tells k (.str s) (.str s) := ⟨.str s, fun ro rw j hj => by
  obtain ⟨i, rfl⟩ : ∃ i, j = i + 1 := ⟨j - 1, by omega⟩
  rfl⟩
inductive TellAll (k : Nat) : List D → List PyData → Prop
  | nil : TellAll k [] []
  | cons {d : D} {p : PyData} {ds : List D} {ps : List PyData} : Tells k d p → TellAll k ds ps → TellAll k (d :: ds) (p :: ps)
theorem TellAll.plain {k : Nat} {ds : List D} {ps : List PyData} (h : TellAll k ds ps) : ∀ d ∈ ds, PlainD k d := by
  induction h with
  | nil => intro d hd; cases hd
  | cons h t ih =>
    intro d hd
    rcases List.mem_cons.mp hd with rfl | hd
    · exact h.plain
    · exact ih d hd
theorem TellAll.py {k : Nat} {ds : List D} {ps : List PyData} (h : TellAll k ds ps) (ro rw : MH) {j : Nat} (hj : k + 1 ≤ j) : ds.mapM (toPy ro rw j) = some ps := by
  induction h with
  | nil => rfl
  | cons h t ih =>
    rw [List.mapM_cons, h.py ro rw j hj, ih]; rfl
theorem TellAll.le {k j : Nat} {ds : List D} {ps : List PyData} (h : TellAll k ds ps) (l : k ≤ j) : TellAll j ds ps := by
  induction h with
  | nil => exact .nil
  | cons h t ih => exact .cons (h.le l) ih
theorem tells_tup {k : Nat} {b : Bool} {ds : List D} {ps : List PyData} (h : TellAll k ds ps) (hl : ds.length ≤ 16777216) : Tells (k + 1) (.tup b ds) (.tuple ps) := ⟨.tup h.plain hl, fun ro rw j hj => by
  obtain ⟨i, rfl⟩ : ∃ i, j = i + 1 := ⟨j - 1, by omega⟩
  unfold toPy
  rw [h.py ro rw (by omega)]; rfl⟩
theorem tells_lst {k : Nat} {ds : List D} {ps : List PyData} (h : TellAll k ds ps) (hl : ds.length ≤ 16777216) : Tells (k + 1) (.lst ds) (.list ps) := ⟨.lst h.plain hl, fun ro rw j hj => by
  obtain ⟨i, rfl⟩ : ∃ i, j = i + 1 := ⟨j - 1, by omega⟩
  unfold toPy
  rw [h.py ro rw (by omega)]; rfl⟩
def pyQ (q : Rat) : PyData := .tuple [.int q.num, .int (q.den : Int)]
def pyQs (qs : List Rat) : PyData := .tuple (qs.map pyQ)
def pyT (qs : List Rat) : PyData := .tuple [.str (Str.ofString "table"), pyQs qs]
theorem tells_Q {q : Rat} {d : D} (h : IsQ q d) : Tells 1 d (pyQ q) := by
  obtain ⟨b, rfl⟩ := h
  exact tells_tup (.cons (tells_int _) (.cons (tells_int _) .nil)) (by simp)
theorem tellAll_Qs : ∀ {qs : List Rat} {ds : List D}, IsQs qs ds → TellAll 1 ds (qs.map pyQ)
  | [], [], _ => .nil
  | q :: qs, d :: ds, h => .cons (tells_Q h.1) (tellAll_Qs h.2)
  | [], _ :: _, h => h.elim
  | _ :: _, [], h => h.elim
theorem tells_Qs {b : Bool} {qs : List Rat} {ds : List D} (h : IsQs qs ds) (hl : qs.length ≤ 16777216) : Tells 2 (.tup b ds) (pyQs qs) := tells_tup (tellAll_Qs h) (by rw [h.length]; exact hl)
theorem tells_row {b c : Bool} {qs : List Rat} {ds : List D} (h : IsQs qs ds) (hl : qs.length ≤ 16777216) : Tells 3 (.tup b [.str (Str.ofString "table"), .tup c ds]) (pyT qs) := tells_tup (.cons (tells_str _) (.cons (tells_Qs h hl) .nil)) (by simp)
theorem tells_tab {m : Nat} (hm : m ≤ 4) {qs : List Rat} {d : D} (h : IsTab m qs d) : Tells 3 d (pyT qs) := by
  obtain ⟨hl, k, j, ds, rfl, hq⟩ := h
  have p16 : 2 ^ m ≤ 16 := Nat.pow_le_pow_right (n := 2) (by decide) hm
  exact tells_row hq (by omega)
/-! ### fine data -/
structure Fine (k w : Nat) (p : PyData) : Prop where
  nice : nice p = true
  deep : p.depth ≤ k
  wide : wt p ≤ w
structure FineAll (k w : Nat) (ps : List PyData) : Prop where
  nice : niceAll ps = true
  deep : PyData.depthAll ps ≤ k
  wide : wtAll ps ≤ w
theorem fineAll_nil {k : Nat} : FineAll k 0 [] := ⟨rfl, by rw [PyData.depthAll]; omega, by rw [wtAll]; omega⟩
theorem fineAll_cons {k w v : Nat} {p : PyData} {ps : List PyData} (h : Fine k w p) (t : FineAll k v ps) : FineAll k (w + 2 + v) (p :: ps) := by
  refine ⟨?_, ?_, ?_⟩
  · rw [niceAll, h.nice, t.nice]; rfl
  · rw [PyData.depthAll]
    have := h.deep
    have := t.deep
    omega
  · rw [wtAll]
    have := h.wide
    have := t.wide
    omega
theorem Fine.le {k j w v : Nat} {p : PyData} (h : Fine k w p) (l : k ≤ j) (u : w ≤ v) : Fine j v p := ⟨h.nice, Nat.le_trans h.deep l, Nat.le_trans h.wide u⟩
theorem FineAll.le {k j w v : Nat} {p : List PyData} (h : FineAll k w p) (l : k ≤ j) (u : w ≤ v) : FineAll j v p := ⟨h.nice, Nat.le_trans h.deep l, Nat.le_trans h.wide u⟩
theorem fine_tup {k w : Nat} {ps : List PyData} (h : FineAll k w ps) : Fine (k + 1) (w + 4) (.tuple ps) := by
  refine ⟨?_, ?_, ?_⟩
  · have e : Mx.nice (.tuple ps) = niceAll ps := by simp only [Mx.nice]
    rw [e, h.nice]
  · rw [PyData.depth]
    have := h.deep
    omega
  · rw [wt]
    have := h.wide
    omega
theorem fine_lst {k w : Nat} {ps : List PyData} (h : FineAll k w ps) : Fine (k + 1) (w + 4) (.list ps) := by
  refine ⟨?_, ?_, ?_⟩
  · have e : Mx.nice (.list ps) = niceAll ps := by simp only [Mx.nice]
    rw [e, h.nice]
  · rw [PyData.depth]
    have := h.deep
    omega
  · rw [wt]
    have := h.wide
    omega
theorem fine_non {k : Nat} : Fine k 5 .none := by
  refine ⟨by rw [Mx.nice], by rw [PyData.depth]; omega, by rw [wt]; omega⟩
theorem fine_bool {k : Nat} (b : Bool) : Fine k 5 (.bool b) := by
  refine ⟨by rw [Mx.nice], by rw [PyData.depth]; omega, by rw [wt]; omega⟩
theorem fine_int {k : Nat} {i : Int} (h : i.natAbs.log2 < 1920) : Fine k 1921 (.int i) := by
  refine ⟨by rw [Mx.nice]; exact decide_eq_true h, by rw [PyData.depth]; omega, by rw [wt]; omega⟩
theorem fine_table {k : Nat} : Fine k 100 (.str (Str.ofString "table")) := by
  refine ⟨by rw [Mx.nice]; decide +kernel, by rw [PyData.depth]; omega, by rw [wt]; decide +kernel⟩
theorem fine_Q {b : Nat} (hb : b ≤ 1900) {q : Rat} (h : Sm b q) : Fine 1 3850 (pyQ q) := by
  have h' := h.le (c := 1900) hb
  have l1 : q.num.natAbs.log2 < 1920 := Nat.lt_of_lt_of_le (log_lt h'.1 (by decide)) (by decide)
  have l2 : (q.den : Int).natAbs.log2 < 1920 := Nat.lt_of_lt_of_le (log_lt (n := (q.den : Int).natAbs) h'.2 (by decide)) (by decide)
  exact (fine_tup (fineAll_cons (fine_int (k := 0) l1) (fineAll_cons (fine_int l2) fineAll_nil))).le (by omega) (by omega)
theorem fineAll_Qs {b : Nat} (hb : b ≤ 1900) : ∀ {qs : List Rat}, (∀ q ∈ qs, Sm b q) → FineAll 1 (qs.length * 3852) (qs.map pyQ)
  | [], _ => by rw [List.length_nil, Nat.zero_mul]; exact fineAll_nil
  | q :: qs, h => (fineAll_cons (fine_Q hb (h q List.mem_cons_self)) (fineAll_Qs hb fun r hr => h r (List.mem_cons_of_mem _ hr))).le (Nat.le_refl _) (by rw [List.length_cons, Nat.succ_mul]; omega)
theorem fine_Qs {b : Nat} (hb : b ≤ 1900) {qs : List Rat} (h : ∀ q ∈ qs, Sm b q) (hl : qs.length ≤ 16) : Fine 2 62000 (pyQs qs) := (fine_tup (fineAll_Qs hb h)).le (Nat.le_refl _) (by omega)
theorem fine_T {b : Nat} (hb : b ≤ 1900) {qs : List Rat} (h : ∀ q ∈ qs, Sm b q) (hl : qs.length ≤ 16) : Fine 3 63000 (pyT qs) := (fine_tup (fineAll_cons fine_table (fineAll_cons (fine_Qs hb h hl) fineAll_nil))).le (Nat.le_refl _) (by omega)
/-- told: just what is due -/
theorem is_told {T : Tab} (h : TIs T) {n k j w : Nat} {ro rw : MH} {d e : D} {p : PyData} (hk : k + 2 ≤ n) (hd : Tells k d p) (he : Tells k e p) (hf : Fine j w p) (k8 : k ≤ 79) (hj : j ≤ 64) (hw : w ≤ 16777216) : callN T n ro "_law_is" [d, e] rw = .ok (.bl true) rw :=
  is_run h hk hd.plain (hd.py ro rw deep (by unfold deep; omega)) (he.py ro rw deep (by unfold deep; omega)) hf.nice (Nat.le_trans hf.deep hj) (Nat.le_trans hf.wide hw)
end Mx

set_option Elab.async false
set_option linter.all false
set_option maxRecDepth 100000
set_option maxHeartbeats 1000000
/-! Pb, part A: the law's own signs and folds. -/
namespace Mx
open PySem
structure TLf (T : Tab) : Prop where
  merged : T "_law_merged" = some f__law_merged
  sign : T "_law_sign" = some f__law_sign
  folded : T "_law_folded" = some f__law_folded
def onInt (p : Int → Bool) (d : D) : Bool := match d with
  | .int i => p i
  | _ => false
theorem flt_on (l : List Int) (p : Int → Bool) : (l.map D.int).filter (onInt p) = (l.filter p).map .int := by
  induction l with
  | nil => rfl
  | cons x l ih =>
    rw [List.map_cons, List.filter_cons, List.filter_cons]
    show (if p x = true then _ else _) = _
    cases h : p x with
    | true => simp [ih]
    | false => simp [ih]
section
variable {T : Tab} {n : Nat} {ro rw : MH} {C : Calls}
theorem merged_run (h : TLf T) (h1 : 1 ≤ n) {u v : List Int} (hu : u.length ≤ 8) (hv : v.length ≤ 8) : callN T n ro "_law_merged" [eL u, eL v] rw = .ok (eL (partI u v)) rw := parted_gen (f := "_law_merged") h.merged h1 hu hv
/-- how many names stand behind ones of the other -/
theorem swap_expr {σ : Sig} {i j : Nat} {u v : List Int} (hu : u.length ≤ 8) (hv : v.length ≤ 8) (hij : i ≠ j) (hi : i < σ.length) (hj : j < σ.length) (j1 : j ≠ 1) (i1 : i ≠ 1) (h0 : σ[0]? = some (some (eL u))) (h1 : σ[1]? = some (some (eL v))) :
    evE C ro (.blt false .sum [.comp false (.blt false .len [.comp false (.nm j) [j] (.nm j) (.seq (.nm 1)) (some (.cmp .gt (.nm i) (.nm j)))]) [i] (.nm i) (.seq (.nm 0)) none]) σ rw = .ok (.int (swapI u v)) rw := by
  have inner : ∀ (σ2 : Sig) (x : Int), σ2.length = σ.length → σ2[1]? = some (some (eL v)) → σ2[i]? = some (some (.int x)) → evE C ro (.comp false (.nm j) [j] (.nm j) (.seq (.nm 1)) (some (.cmp .gt (.nm i) (.nm j)))) σ2 rw = .ok (.lst ((v.filter fun y => decide (y < x)).map .int)) rw := by
    intro σ2 x hl2 h12 hi2
    have q := comp_flt (C := C) (ro := ro) (σ := σ2) (rw := rw) (rw0 := rw) (elt := .nm j) (te := .cmp .gt (.nm i) (.nm j)) (vs := [j]) (tg := .nm j) (it := .seq (.nm 1)) (s := v.map .int) (onInt fun y => decide (y < x)) id (by
      unfold evT
      rw [bindM (ev_nm h12)]; rfl) (by simp; omega) (fun d hd => by
      obtain ⟨y, _, rfl⟩ := List.mem_map.mp hd
      have gj : ((wipeD σ2 [j]).set j (some (D.int y)))[j]? = some (some (.int y)) := by simp [wipeD, hl2, hj]
      have gi : ((wipeD σ2 [j]).set j (some (D.int y)))[i]? = some (some (.int x)) := by
        simp only [wipeD, List.set_set]
        rw [List.getElem?_set_ne hij.symm]; exact hi2
      exact ⟨(wipeD σ2 [j]).set j (some (.int y)), by simp [asG, wipeD, hl2, hj], ev_cmp (ev_nm gi) (ev_nm gj) rfl, fun _ => ev_nm gj⟩)
    rw [flt_on, List.map_id] at q
    exact q
  have e1 : evE C ro (.comp false (.blt false .len [.comp false (.nm j) [j] (.nm j) (.seq (.nm 1)) (some (.cmp .gt (.nm i) (.nm j)))]) [i] (.nm i) (.seq (.nm 0)) none) σ rw = .ok (.lst ((u.map fun x => (((v.filter fun y => decide (y < x)).length : Nat) : Int)).map .int)) rw := by
    have q := comp_map (C := C) (ro := ro) (σ := σ) (rw := rw) (rw0 := rw) (elt := .blt false .len [.comp false (.nm j) [j] (.nm j) (.seq (.nm 1)) (some (.cmp .gt (.nm i) (.nm j)))]) (vs := [i]) (tg := .nm i) (it := .seq (.nm 0)) (s := u.map .int) (fun d => match d with | .int x => .int (((v.filter fun y => decide (y < x)).length : Nat) : Int) | d => d) (by
      unfold evT
      rw [bindM (ev_nm h0)]; rfl) (by simp; omega) (fun d hd => by
      obtain ⟨x, _, rfl⟩ := List.mem_map.mp hd
      refine ⟨(wipeD σ [i]).set i (some (.int x)), by simp [asG, wipeD, hi], ev_blt (es_cons (inner _ x ?_ ?_ ?_) es_nil) ?_⟩
      · simp [wipeD]
      · simp only [wipeD, List.set_set]
        rw [List.getElem?_set_ne i1]; exact h1
      · simp [wipeD, hi]
      · show some (D.int ((((v.filter fun y => decide (y < x)).map D.int).length : Nat) : Int)) = _
        rw [List.length_map])
    rw [List.map_map] at q
    rw [List.map_map]
    exact q
  refine ev_blt (es_cons e1 es_nil) ?_
  show (((lstOf ro rw (.lst ((u.map fun x => (((v.filter fun y => decide (y < x)).length : Nat) : Int)).map .int))).bind intsOf).map fun ns => D.int ns.sum) = _
  rw [show lstOf ro rw (.lst ((u.map fun x => (((v.filter fun y => decide (y < x)).length : Nat) : Int)).map .int)) = some ((u.map fun x => (((v.filter fun y => decide (y < x)).length : Nat) : Int)).map .int) from rfl, Option.bind_some, intsOf_ints]
  rfl
/-- the sign, as a whole -/
theorem sign_run (h : TLf T) (h1 : 1 ≤ n) {u v : List Int} (hu : u.length ≤ 8) (hv : v.length ≤ 8) : ∃ i : Int, callN T n ro "_law_sign" [eL u, eL v] rw = .ok (.int i) rw ∧ IsQ (sgI u v) (.tup true [.int i, .int 1]) := by
  have e := swap_expr (C := callN T (n - 1)) (ro := ro) (rw := rw) (σ := [some (eL u), some (eL v), none, none, none]) (i := 3) (j := 4) hu hv (by decide) (show 3 < 5 by decide) (show 4 < 5 by decide) (by decide) (by decide) rfl rfl
  obtain ⟨f, hf⟩ : ∃ f, f = (swapI u v).fmod 2 := ⟨_, rfl⟩
  have rg := fmod_rng (swapI u v) (p := 2) (by decide)
  have m1 : mulOk 2 f = true := ok_small (by decide) (by omega)
  refine ⟨1 - 2 * f, call_f h.sign h1 rfl (by decide) (fl := .rt (.int (1 - 2 * f))) (fun m hm => ?_) rfl, ?_⟩
  · obtain rfl : m = n - 1 := by omega
    refine (ex_nx (ex_set e (show 2 < 5 by decide))).trans (ex_rt (ex_ret (ev_bin ev_cst (ev_bin (z := .int (2 * f)) ev_cst (ev_bin (z := .int f) (ev_blt (d := .int (swapI u v)) (es_cons (ev_nm rfl) es_nil) rfl) ev_cst ?_) ?_) rfl)))
    · rw [hf]; rfl
    · show (if mulOk 2 f = true then some (D.int (2 * f)) else none) = _
      rw [if_pos m1]
  · unfold sgI
    rw [← hf]
    by_cases z : f = 1
    · rw [if_pos z, z]; exact ⟨true, rfl⟩
    · have z0 : f = 0 := by omega
      rw [if_neg z, z0]; exact ⟨true, rfl⟩
end
end Mx

set_option Elab.async false
set_option linter.all false
set_option maxRecDepth 100000
set_option maxHeartbeats 1000000
/-! Pb, part B: the law's own folds. -/
namespace Mx
open PySem
def mulIn (sq : Int → Rat) (v : List Int) (acc : Rat) (x : Int) : Rat := if x ∈ v then acc * sq x else acc
theorem mulIn_scale {sq : Int → Rat} {v : List Int} (c : Rat) : ∀ (u : List Int) (a : Rat), u.foldl (mulIn sq v) (c * a) = c * u.foldl (mulIn sq v) a
  | [], a => rfl
  | x :: u, a => by
    rw [List.foldl_cons, List.foldl_cons, ← mulIn_scale c u]
    congr 1
    unfold mulIn
    split
    · rw [Rat.mul_assoc]
    · rfl
theorem wQ_in (sq : Int → Rat) (u v : List Int) : wQ sq u v = u.foldl (mulIn sq v) (sgI u v) := rfl
theorem mulIn_sm {sq : Int → Rat} {v : List Int} {c : Nat} : ∀ (l : List Int) (a : Rat) (k : Nat), (∀ x ∈ l, Sm c (sq x)) → Sm k a → Sm (k + c * l.length) (l.foldl (mulIn sq v) a)
  | [], a, k, _, h => by simpa using h
  | x :: l, a, k, hx, h => by
    rw [List.foldl_cons]
    have e : k + c * (x :: l).length = (k + c) + c * l.length := by
      rw [List.length_cons, Nat.mul_succ]; omega
    rw [e]
    refine mulIn_sm l _ _ (fun y hy => hx y (List.mem_cons_of_mem _ hy)) ?_
    unfold mulIn
    by_cases hv : x ∈ v
    · rw [if_pos hv]; exact h.mul (hx x List.mem_cons_self)
    · rw [if_neg hv]; exact h.le (by omega)
theorem rowQ_zero {sq : Int → Rat} {h t : List Int → Rat} {u : List Int} (z : h u = 0) : ∀ (vs : List (List Int)) (acc : List Int → Rat), rowQ sq h t vs acc u = acc
  | [], acc => rfl
  | v :: vs, acc => by
    have e : rowQ sq h t (v :: vs) acc u = rowQ sq h t vs (pairQ sq h t u v acc) u := rfl
    rw [e, pairQ_zero (.inl z), rowQ_zero z vs]
def zT : D := .tup true [.int 0, .int 1]
def lfPlace : MS := .loop (.nm 11) (.seq (.nm 5)) [.ite (.cmp .isin (.nm 11) (.nm 8)) [.set 10 (.call (Str.ofString "_law_times") [.nm 10, .sub (.nm 0) (.nm 11)] [] [0, 1])] []]
def lfIn : List MS := [.ite (.cmp .ne (.sub (.nm 9) (.cst (.int 0))) (.cst (.int 0))) [.set 10 (.call (Str.ofString "_law_times") [.call (Str.ofString "_law_times") [.nm 6, .nm 9] [] [0, 1], .tup [.call (Str.ofString "_law_sign") [.nm 5, .nm 8] [] [0, 1], .cst (.int 1)]] [] [0, 1]), lfPlace, .set 12 (.call (Str.ofString "_law_merged") [.nm 5, .nm 8] [] [0, 1]), .put (.nm 4) (.nm 12) (.call (Str.ofString "_law_plus") [.sub (.nm 4) (.nm 12), .nm 10] [] [0, 1])] []]
def lfRow : List MS := [.ite (.cmp .ne (.sub (.nm 6) (.cst (.int 0))) (.cst (.int 0))) [.loop (.tup [.nm 8, .nm 9]) (.zip2 (.nm 3) (.nm 2)) lfIn] []]
structure LfAt (T : Tab) (m a b c e : Nat) (sq : Int → Rat) (S : D) (h t : List Int → Rat) (vh vt : List Int → D) : Prop where
  hf : TLf T
  hl : TL0 T
  hL : TLot T
  hm : m ≤ 4
  hS : IsSq m sq S
  hs : ∀ x ∈ upto m, Sm c (sq x)
  qh : ∀ l ∈ lots m, IsQ (h l) (vh l)
  qt : ∀ l ∈ lots m, IsQ (t l) (vt l)
  sh : ∀ l ∈ lots m, Sm a (h l)
  st : ∀ l ∈ lots m, Sm b (t l)
  few : a + b + (1 + c * 4) + 1 ≤ e
  few2 : e ≤ 30
def sl (S one two : D) (L m : Nat) (x5 x6 x7 x8 x9 x10 x11 x12 : Option D) : Sig := [some S, some one, some two, some (.lst ((lots m).map eL)), some (.ref L), x5, x6, x7, x8, x9, x10, x11, x12]
section
variable {T : Tab} {n : Nat} {ro rw : MH} {C : Calls}
theorem num0 {q : Rat} {d : D} (h : IsQ q d) {e : ME} {σ : Sig} (he : evE C ro e σ rw = .ok d rw) : evE C ro (.cmp .ne (.sub e (.cst (.int 0))) (.cst (.int 0))) σ rw = .ok (.bl (!decide (q = 0))) rw := by
  obtain ⟨k, rfl⟩ := h
  have q1 := ev_cmp (op := .ne) (ev_sub he (ev_cst (d := .int 0)) sub_0) (ev_cst (d := .int 0)) (neI (ro := ro) (rw := rw) _ _)
  have hz : decide (q.num = 0) = decide (q = 0) := by
    by_cases z : q = 0
    · rw [decide_eq_true z, z]; rfl
    · rw [decide_eq_false z, decide_eq_false (fun y => z (Rat.num_eq_zero.mp y))]
  rw [hz] at q1
  exact q1
theorem place_run {m a b c e : Nat} {sq : Int → Rat} {S one two : D} {h t : List Int → Rat} {vh vt : List Int → D} (F : LfAt T m a b c e sq S h t vh vt) (h1 : 3 ≤ n) {u v : List Int} (hu : u ∈ lots m) {q0 : Rat} {k : Nat} (s0 : Sm k q0) (hk : k ≤ 100) {d0 : D} (i0 : IsQ q0 d0) {L : Nat} {x6 x7 x9 x11 x12 : Option D} :
    ∃ d x11', exS (callN T n) ro lfPlace (sl S one two L m (some (eL u)) x6 x7 (some (eL v)) x9 (some d0) x11 x12) rw = .ok (.nx (sl S one two L m (some (eL u)) x6 x7 (some (eL v)) x9 (some d) x11' x12)) rw ∧ IsQ (u.foldl (mulIn sq v) q0) d := by
  obtain ⟨lu, xu⟩ := lots_small F.hm u hu
  have c30 : c ≤ 30 := by have := F.few; have := F.few2; omega
  obtain ⟨σ', rw', ee, d, x11', e1, e2, hq⟩ := loop_run (C := callN T n) (ro := ro) (g := .nm 11) (it := .seq (.nm 5)) (b := [.ite (.cmp .isin (.nm 11) (.nm 8)) [.set 10 (.call (Str.ofString "_law_times") [.nm 10, .sub (.nm 0) (.nm 11)] [] [0, 1])] []]) (s := u.map .int) (rw := rw) (rw0 := rw) (σ := sl S one two L m (some (eL u)) x6 x7 (some (eL v)) x9 (some d0) x11 x12)
    (fun pre σ rw' => ∃ d x11', σ = sl S one two L m (some (eL u)) x6 x7 (some (eL v)) x9 (some d) x11' x12 ∧ rw' = rw ∧ IsQ ((u.take pre.length).foldl (mulIn sq v) q0) d) (by
    unfold evT
    rw [bindM (ev_nm (d := eL u) rfl)]; rfl) ⟨d0, x11, rfl, rfl, i0⟩ (fun pre d post σ rw' ee ⟨dd, x11', e1, e2, hq⟩ => by
    subst e1
    have hd := pre_get ee
    rw [List.getElem?_map] at hd
    obtain ⟨x, hx, rfl⟩ := Option.map_eq_some_iff.mp hd
    have hxu := List.mem_of_getElem? hx
    have hpl := (List.getElem?_eq_some_iff.mp hx).1
    have tt : evE (callN T n) ro (.cmp .isin (.nm 11) (.nm 8)) (sl S one two L m (some (eL u)) x6 x7 (some (eL v)) x9 (some dd) (some (.int x)) x12) rw' = .ok (.bl (decide (x ∈ v))) rw' := ev_cmp (ev_nm rfl) (ev_nm rfl) (isin_ints x v)
    have tk : (u.take (pre ++ [D.int x]).length).foldl (mulIn sq v) q0 = mulIn sq v ((u.take pre.length).foldl (mulIn sq v) q0) x := by
      rw [List.length_append, List.length_singleton, take_more hx, List.foldl_append]; rfl
    rw [tk]
    by_cases hxv : x ∈ v
    · rw [decide_eq_true hxv] at tt
      obtain ⟨ds, s1, s2⟩ := F.hS x (xu x hxu) ro rw'
      have sm1 : Sm (k + c * (u.take pre.length).length) ((u.take pre.length).foldl (mulIn sq v) q0) := mulIn_sm _ _ _ (fun y hy => F.hs y (xu y (List.mem_of_mem_take hy))) s0
      have b1 : c * (u.take pre.length).length ≤ 30 * 4 := Nat.mul_le_mul c30 (by rw [List.length_take]; omega)
      have e4 := law_times_run (ro := ro) (rw := rw') F.hl (n := n) (by omega) hq s2 sm1 (F.hs x (xu x hxu)) (by omega)
      refine ⟨_, sl S one two L m (some (eL u)) x6 x7 (some (eL v)) x9 (some (enc _)) (some (.int x)) x12, rw', rfl, .inl (ex_nx (ex_iteT tt (ex_nx (ex_set (ev_call (es_cons (ev_nm rfl) (es_cons (ev_sub (ev_nm rfl) (ev_nm rfl) s1) es_nil)) rfl e4) (show 10 < 13 by decide))))), _, _, rfl, e2, ?_⟩
      unfold mulIn
      rw [if_pos hxv]
      exact isQ_enc _
    · rw [decide_eq_false hxv] at tt
      refine ⟨_, sl S one two L m (some (eL u)) x6 x7 (some (eL v)) x9 (some dd) (some (.int x)) x12, rw', rfl, .inl (ex_nx (ex_iteF tt)), dd, _, rfl, e2, ?_⟩
      show IsQ (mulIn sq v _ x) dd
      rw [show ∀ a, mulIn sq v a x = a from fun a => if_neg hxv]
      exact hq)
  subst e1
  subst e2
  rw [List.length_map, List.take_length] at hq
  exact ⟨d, x11', ee, hq⟩
theorem lpair_run {m a b c e : Nat} {sq : Int → Rat} {S one two : D} {h t : List Int → Rat} {vh vt : List Int → D} (F : LfAt T m a b c e sq S h t vh vt) (h1 : 4 ≤ n) {w : Nat} (hw : w ≤ 7900) {acc : List Int → Rat} {val : List Int → D} (W : Way m w acc val) {u v : List Int} (hu : u ∈ lots m) (hv : v ∈ lots m) {x7 x10 x11 x12 : Option D} :
    ∃ val' x10' x11' x12', exSs (callN T n) ro lfIn (sl S one two ro.length m (some (eL u)) (some (vh u)) x7 (some (eL v)) (some (vt v)) x10 x11 x12) [.dT (dicL (lots m) val)] = .ok (.nx (sl S one two ro.length m (some (eL u)) (some (vh u)) x7 (some (eL v)) (some (vt v)) x10' x11' x12')) [.dT (dicL (lots m) val')] ∧ Way m (w + e) (pairQ sq h t u v acc) val' := by
  have l16 : (lots m).length ≤ 16 := by
    rw [lots_len F.hm]; exact Nat.pow_le_pow_right (n := 2) (by decide) F.hm
  have few := F.few
  have few2 := F.few2
  have t1 := num0 (C := callN T n) (ro := ro) (rw := [.dT (dicL (lots m) val)]) (F.qt v hv) (e := .nm 9) (σ := sl S one two ro.length m (some (eL u)) (some (vh u)) x7 (some (eL v)) (some (vt v)) x10 x11 x12) (ev_nm rfl)
  by_cases zv : t v = 0
  · rw [decide_eq_true zv] at t1
    refine ⟨val, x10, x11, x12, ex_nx (ex_iteF t1), ?_⟩
    rw [pairQ_zero (.inr zv)]
    exact ⟨W.is, fun l hl => (W.sm l hl).le (by omega)⟩
  · rw [decide_eq_false zv] at t1
    obtain ⟨lu, xu⟩ := lots_small F.hm u hu
    obtain ⟨lv, xv⟩ := lots_small F.hm v hv
    have p0 := lots_part F.hm u hu v hv
    have e1 := law_times_run (ro := ro) (rw := [.dT (dicL (lots m) val)]) F.hl (n := n) (by omega) (F.qh u hu) (F.qt v hv) (F.sh u hu) (F.st v hv) (by omega)
    obtain ⟨i, e2, qi⟩ := sign_run (ro := ro) (rw := [.dT (dicL (lots m) val)]) F.hf (n := n) (by omega) (u := u) (v := v) (by omega) (by omega)
    have ss : Sm 1 (sgI u v) := by
      unfold sgI
      split
      · exact ⟨by decide, by decide⟩
      · exact ⟨by decide, by decide⟩
    have sp := ((F.sh u hu).mul (F.st v hv)).mul ss
    have e3 := law_times_run (ro := ro) (rw := [.dT (dicL (lots m) val)]) F.hl (n := n) (by omega) (isQ_enc (h u * t v)) qi ((F.sh u hu).mul (F.st v hv)) ss (by omega)
    obtain ⟨d4, x11', e4, q4⟩ := place_run (ro := ro) (rw := [.dT (dicL (lots m) val)]) F (n := n) (by omega) (one := one) (two := two) (v := v) hu sp (by omega) (isQ_enc (h u * t v * sgI u v)) (L := ro.length) (x6 := some (vh u)) (x7 := x7) (x9 := some (vt v)) (x11 := x11) (x12 := x12)
    have eq : u.foldl (mulIn sq v) (h u * t v * sgI u v) = h u * t v * wQ sq u v := by rw [mulIn_scale, wQ_in]
    rw [eq] at q4
    have sb : Sm (a + b + (1 + c * 4)) (h u * t v * wQ sq u v) := by
      have sw : Sm (1 + c * 4) (wQ sq u v) := (wQ_sm (v := v) (c := c) fun x hx => F.hs x (xu x hx)).le (by have := Nat.mul_le_mul_left c lu; omega)
      exact ((F.sh u hu).mul (F.st v hv)).mul sw
    have e5 := merged_run (ro := ro) (rw := [.dT (dicL (lots m) val)]) F.hf (n := n) (by omega) (u := u) (v := v) (by omega) (by omega)
    have e6 := law_plus_run (ro := ro) (rw := [.dT (dicL (lots m) val)]) F.hl (n := n) (by omega) (W.is _ p0) q4 (W.sm _ p0) sb (by omega)
    refine ⟨updL val (partI u v) (enc (acc (partI u v) + h u * t v * wQ sq u v)), some d4, x11', some (eL (partI u v)), ex_nx (ex_iteT t1 ?_), ⟨fun l hl => ?_, fun l hl => ?_⟩⟩
    · refine (ex_nx (ex_set (ev_call (es_cons (ev_call (es_cons (ev_nm rfl) (es_cons (ev_nm rfl) es_nil)) rfl e1) (es_cons (ev_tup (es_cons (ev_call (es_cons (ev_nm rfl) (es_cons (ev_nm rfl) es_nil)) rfl e2) (es_cons ev_cst es_nil)) rfl) es_nil)) rfl e3) (show 10 < 13 by decide))).trans ?_
      refine (ex_nx e4).trans ((ex_nx (ex_set (ev_call (es_cons (ev_nm rfl) (es_cons (ev_nm rfl) es_nil)) rfl e5) (show 12 < 13 by decide))).trans ?_)
      refine ex_nx ?_
      unfold exS
      rw [bindM (ev_call (es_cons (ev_sub (ev_nm rfl) (ev_nm rfl) (sub_own p0)) (es_cons (ev_nm rfl) es_nil)) rfl e6), bindM (ev_nm (d := .ref ro.length) rfl), bindM (ev_nm (d := eL (partI u v)) rfl), bindM (show M.lift (refOf (.ref ro.length)) _ = .ok ro.length _ from rfl)]
      rw [bindM (upO_own (put_own p0 (by omega)))]
      rfl
    · unfold pairQ updL
      by_cases ee : l = partI u v
      · rw [if_pos ee, if_pos ee, ee]; exact isQ_enc _
      · rw [if_neg ee, if_neg ee]; exact W.is l hl
    · unfold pairQ
      by_cases ee : l = partI u v
      · rw [if_pos ee, ee]; exact ((W.sm _ p0).add sb).le (by omega)
      · rw [if_neg ee]; exact (W.sm l hl).le (by omega)
theorem lrow_run {m a b c e : Nat} {sq : Int → Rat} {S one : D} {bt : Bool} {tds : List D} {h t : List Int → Rat} {vh : List Int → D} (F : LfAt T m a b c e sq S h t vh (valOf (lots m) tds)) (htl : tds.length = 2 ^ m) (h1 : 4 ≤ n) {w : Nat} (hw : w + 16 * e ≤ 7900) {acc : List Int → Rat} {val : List Int → D} (W : Way m w acc val) {u : List Int} (hu : u ∈ lots m) {x7 x8 x9 x10 x11 x12 : Option D} :
    ∃ val' x8' x9' x10' x11' x12', exSs (callN T n) ro lfRow (sl S one (.tup bt tds) ro.length m (some (eL u)) (some (vh u)) x7 x8 x9 x10 x11 x12) [.dT (dicL (lots m) val)] = .ok (.nx (sl S one (.tup bt tds) ro.length m (some (eL u)) (some (vh u)) x7 x8' x9' x10' x11' x12')) [.dT (dicL (lots m) val')] ∧ Way m (w + (lots m).length * e) (rowQ sq h t (lots m) acc u) val' := by
  have l16 : (lots m).length ≤ 16 := by
    rw [lots_len F.hm]; exact Nat.pow_le_pow_right (n := 2) (by decide) F.hm
  have t1 := num0 (C := callN T n) (ro := ro) (rw := [.dT (dicL (lots m) val)]) (F.qh u hu) (e := .nm 6) (σ := sl S one (.tup bt tds) ro.length m (some (eL u)) (some (vh u)) x7 x8 x9 x10 x11 x12) (ev_nm rfl)
  by_cases zu : h u = 0
  · rw [decide_eq_true zu] at t1
    refine ⟨val, x8, x9, x10, x11, x12, ex_nx (ex_iteF t1), ?_⟩
    rw [rowQ_zero zu]
    exact ⟨W.is, fun l hl => (W.sm l hl).le (by omega)⟩
  · rw [decide_eq_false zu] at t1
    obtain ⟨σ', rw', ee, val', x8', x9', x10', x11', x12', e2, e3, W'⟩ := loop_run (C := callN T n) (ro := ro) (g := .tup [.nm 8, .nm 9]) (it := .zip2 (.nm 3) (.nm 2)) (b := lfIn) (s := prL m (valOf (lots m) tds)) (rw := [.dT (dicL (lots m) val)]) (rw0 := [.dT (dicL (lots m) val)]) (σ := sl S one (.tup bt tds) ro.length m (some (eL u)) (some (vh u)) x7 x8 x9 x10 x11 x12)
      (fun pre σ rw' => ∃ (val' : List Int → D) (x8' x9' x10' x11' x12' : Option D), σ = sl S one (.tup bt tds) ro.length m (some (eL u)) (some (vh u)) x7 x8' x9' x10' x11' x12' ∧ rw' = [.dT (dicL (lots m) val')] ∧ Way m (w + pre.length * e) (rowQ sq h t ((lots m).take pre.length) acc u) val')
      (by
        rw [← zip_prL F.hm htl]
        exact zip2_run (ev_nm rfl) (ev_nm rfl) rfl rfl) ⟨val, x8, x9, x10, x11, x12, rfl, rfl, by rw [List.length_nil, Nat.zero_mul]; exact W⟩ (fun pre d post σ rw' ee ⟨val', x8', x9', x10', x11', x12', e2, e3, W'⟩ => by
        subst e2
        subst e3
        obtain ⟨v, hv1, rfl⟩ := prL_at (pre_get ee)
        have hv := List.mem_of_getElem? hv1
        have hlen := (List.getElem?_eq_some_iff.mp hv1).1
        have hwe : pre.length * e ≤ 16 * e := Nat.mul_le_mul_right e (by omega)
        obtain ⟨val2, x10'', x11'', x12'', k1, k2⟩ := lpair_run (ro := ro) F h1 (w := w + pre.length * e) (by omega) W' hu hv (one := one) (two := .tup bt tds) (x7 := x7) (x10 := x10') (x11 := x11') (x12 := x12')
        refine ⟨_, _, _, rfl, .inl k1, val2, some (eL v), some (valOf (lots m) tds v), x10'', x11'', x12'', rfl, rfl, ?_⟩
        have q : w + (pre ++ [D.tup true [eL v, valOf (lots m) tds v]]).length * e = w + pre.length * e + e := by
          rw [List.length_append, List.length_singleton, Nat.succ_mul]; omega
        rw [q, List.length_append, List.length_singleton, take_more hv1]
        show Way m _ (((lots m).take pre.length ++ [v]).foldl _ acc) val2
        rw [List.foldl_append]
        exact k2)
    subst e2
    subst e3
    have pl : (prL m (valOf (lots m) tds)).length = (lots m).length := by unfold prL; rw [List.length_map]
    rw [pl, List.take_length] at W'
    exact ⟨val', x8', x9', x10', x11', x12', ex_nx (ex_iteT t1 (ex_nx ee)), W'⟩
end
end Mx

set_option Elab.async false
set_option linter.all false
set_option maxRecDepth 100000
set_option maxHeartbeats 1000000
/-! Pb, part C: the law's own folds, whole; unit lines. -/
namespace Mx
open PySem
section
variable {T : Tab} {n : Nat} {ro rw : MH} {C : Calls}
theorem pairs_mapM : ∀ ls : List (List Int), (ls.map fun l => D.tup true [eL l, zT]).mapM pairOf = some (ls.map fun l => (eL l, zT))
  | [] => rfl
  | l :: ls => by
    rw [List.map_cons, List.mapM_cons, pairs_mapM ls]; rfl
theorem allT_zeros : ∀ ls : List (List Int), allT (ls.map fun l => (eL l, zT)) = some (dicL ls fun _ => zT)
  | [] => rfl
  | l :: ls => by
    have ih := allT_zeros ls
    show (match (keyTup (eL l)).bind keysOf, allT (ls.map fun l => (eL l, zT)) with
      | some k, some r => some ((k, zT) :: r)
      | _, _ => none) = _
    rw [ih, show (keyTup (eL l)).bind keysOf = some (kL l) from keysOf_L l]
    rfl
theorem lots_ne {m : Nat} (hm : m ≤ 4) : ∃ l ls, lots m = l :: ls := by
  refine m_cases (P := fun m => ∃ l ls, lots m = l :: ls) hm ?_ ?_ ?_ ?_ ?_
  · exact ⟨_, _, lots_0⟩
  · exact ⟨_, _, lots_1⟩
  · exact ⟨_, _, lots_2⟩
  · exact ⟨_, _, lots_3⟩
  · exact ⟨_, _, lots_4⟩
theorem dict_zeros {m : Nat} (hm : m ≤ 4) : dictFrom ((lots m).map fun l => (eL l, zT)) = some (.dT (dicL (lots m) fun _ => zT)) := by
  obtain ⟨l, ls, e⟩ := lots_ne hm
  have k : allK ((lots m).map fun l => (eL l, zT)) = none := by
    rw [e]
    show (match keyOf (eL l), allK (ls.map fun l => (eL l, zT)) with
      | some k, some r => some ((k, zT) :: r)
      | _, _ => none) = none
    rfl
  unfold dictFrom
  rw [k, allT_zeros]
  have e2 := merge_new (val := fun _ => zT) (lots m) [] (by simpa using lots_nodup hm)
  rw [show dicL [] (fun _ => zT) = [] from rfl, List.nil_append] at e2
  rw [Option.map_some, e2]
theorem lzeros_run {m : Nat} (hm : m ≤ 4) {σ : Sig} (hl : σ.length = 13) (h3 : σ[3]? = some (some (.lst ((lots m).map eL)))) : evE C ro (.blt true .dpairs [.comp false (.tup [.nm 7, .tup [.cst (.int 0), .cst (.int 1)]]) [7] (.nm 7) (.seq (.nm 3)) none]) σ [] = .ok (.ref ro.length) [.dT (dicL (lots m) fun _ => zT)] := by
  have l16 : (lots m).length ≤ 16 := by
    rw [lots_len hm]; exact Nat.pow_le_pow_right (n := 2) (by decide) hm
  have c : evE C ro (.comp false (.tup [.nm 7, .tup [.cst (.int 0), .cst (.int 1)]]) [7] (.nm 7) (.seq (.nm 3)) none) σ [] = .ok (.lst ((lots m).map fun l => D.tup true [eL l, zT])) [] := by
    have q := comp_map (C := C) (ro := ro) (rw := []) (rw0 := []) (σ := σ) (elt := .tup [.nm 7, .tup [.cst (.int 0), .cst (.int 1)]]) (vs := [7]) (tg := .nm 7) (it := .seq (.nm 3)) (s := (lots m).map eL) (fun d => .tup true [d, zT]) (by
      unfold evT
      rw [bindM (ev_nm h3)]; rfl) (by simp; omega) (fun d hd => ⟨(wipeD σ [7]).set 7 (some d), by simp [asG, wipeD, hl], ev_tup (es_cons (ev_nm (by simp [wipeD, hl])) (es_cons (ev_tup (es_cons ev_cst (es_cons ev_cst es_nil)) rfl) es_nil)) rfl⟩)
    rw [List.map_map] at q
    exact q
  unfold evE
  rw [bindM (es_cons c es_nil)]
  have b : bltop ro [] .dpairs [.lst ((lots m).map fun l => D.tup true [eL l, zT])] = some (.dT (dicL (lots m) fun _ => zT)) := by
    show ((lstOf ro [] (.lst ((lots m).map fun l => D.tup true [eL l, zT]))).bind fun xs => xs.mapM pairOf).bind dictFrom = _
    rw [show lstOf ro [] (.lst ((lots m).map fun l => D.tup true [eL l, zT])) = some ((lots m).map fun l => D.tup true [eL l, zT]) from rfl, Option.bind_some, pairs_mapM, Option.bind_some, dict_zeros hm]
  unfold M.bind
  rw [b]
  rfl
theorem folded_run (hf : TLf T) (hl : TL0 T) (hL : TLot T) (h1 : 5 ≤ n) {m a b c e : Nat} (hm : m ≤ 4) {b0 b1 b2 : Bool} {ss ps qs : List Rat} {sds ods tds : List D} (hS : IsQs ss sds) (ls : ss.length = m) (sc : ∀ q ∈ ss, Sm c q) (ho : IsQs ps ods) (lo : ps.length = 2 ^ m) (so : ∀ q ∈ ps, Sm a q) (ht : IsQs qs tds) (lt : qs.length = 2 ^ m) (st : ∀ q ∈ qs, Sm b q)
    (few : a + b + (1 + c * 4) + 1 ≤ e) (few2 : e ≤ 30) : ∃ ds, callN T n ro "_law_folded" [.tup b0 sds, .tup b1 ods, .tup b2 tds] rw = .ok (.tup true ds) rw ∧ IsQs ((lots m).map (foldQ m (rowS ss) (vl m ps) (vl m qs))) ds ∧ ∀ l ∈ lots m, Sm (1 + 256 * e) (foldQ m (rowS ss) (vl m ps) (vl m qs) l) := by
  obtain ⟨k, rfl⟩ : ∃ k, n = k + 1 := ⟨n - 1, by omega⟩
  have ll := lots_len hm
  have l16 : (lots m).length ≤ 16 := by
    rw [ll]; exact Nat.pow_le_pow_right (n := 2) (by decide) hm
  have lod : ods.length = 2 ^ m := by rw [ho.length, lo]
  have ltd : tds.length = 2 ^ m := by rw [ht.length, lt]
  have lsd : ((sds.length : Nat) : Int) = m := by rw [hS.length, ls]
  have F : LfAt T m a b c e (rowS ss) (.tup b0 sds) (vl m ps) (vl m qs) (valOf (lots m) ods) (valOf (lots m) tds) :=
    ⟨hf, hl, hL, hm, isSq_tup hS ls, fun x hx => sc _ (rowS_mem ls hx), fun l h => valOf_isQ hm ho lo h, fun l h => valOf_isQ hm ht lt h, fun l h => so _ (vl_mem hm lo h), fun l h => st _ (vl_mem hm lt h), few, few2⟩
  have Z : Way m 1 (fun _ => 0) (fun _ => zT) := ⟨fun l _ => isQ_zero, fun l _ => ⟨by decide, by decide⟩⟩
  obtain ⟨σ', rw', ee, val', x5', x6', x8', x9', x10', x11', x12', e2, e3, W'⟩ := loop_run (C := callN T k) (ro := ro ++ rw) (g := .tup [.nm 5, .nm 6]) (it := .zip2 (.nm 3) (.nm 1)) (b := lfRow) (s := prL m (valOf (lots m) ods)) (rw := [.dT (dicL (lots m) fun _ => zT)]) (rw0 := [.dT (dicL (lots m) fun _ => zT)]) (σ := sl (.tup b0 sds) (.tup b1 ods) (.tup b2 tds) (ro ++ rw).length m none none none none none none none none)
    (fun pre σ rw' => ∃ (val' : List Int → D) (x5' x6' x8' x9' x10' x11' x12' : Option D), σ = sl (.tup b0 sds) (.tup b1 ods) (.tup b2 tds) (ro ++ rw).length m x5' x6' none x8' x9' x10' x11' x12' ∧ rw' = [.dT (dicL (lots m) val')] ∧ Way m (1 + pre.length * (16 * e)) (((lots m).take pre.length).foldl (rowQ (rowS ss) (vl m ps) (vl m qs) (lots m)) fun _ => 0) val')
    (by
      rw [← zip_prL hm lod]
      exact zip2_run (ev_nm rfl) (ev_nm rfl) rfl rfl) ⟨_, none, none, none, none, none, none, none, rfl, rfl, by simpa using Z⟩ (fun pre d post σ rw' ee ⟨val', x5', x6', x8', x9', x10', x11', x12', e2, e3, W'⟩ => by
      subst e2
      subst e3
      obtain ⟨u, hu1, rfl⟩ := prL_at (pre_get ee)
      have hu := List.mem_of_getElem? hu1
      have hlen := (List.getElem?_eq_some_iff.mp hu1).1
      have hwe : pre.length * (16 * e) ≤ 15 * (16 * e) := Nat.mul_le_mul_right _ (by omega)
      obtain ⟨val2, x8'', x9'', x10'', x11'', x12'', k1, k2⟩ := lrow_run (ro := ro ++ rw) F ltd (n := k) (by omega) (w := 1 + pre.length * (16 * e)) (by omega) W' hu (one := .tup b1 ods) (bt := b2) (x7 := none) (x8 := x8') (x9 := x9') (x10 := x10') (x11 := x11') (x12 := x12')
      refine ⟨_, _, _, rfl, .inl k1, val2, some (eL u), some (valOf (lots m) ods u), x8'', x9'', x10'', x11'', x12'', rfl, rfl, ?_⟩
      rw [List.length_append, List.length_singleton, take_more hu1, List.foldl_append]
      refine ⟨k2.is, fun l hl => (k2.sm l hl).le ?_⟩
      have q1 : (lots m).length * e ≤ 16 * e := Nat.mul_le_mul_right e l16
      have q2 : (pre.length + 1) * (16 * e) = pre.length * (16 * e) + 16 * e := Nat.succ_mul _ _
      omega)
  subst e2
  subst e3
  have pl : (prL m (valOf (lots m) ods)).length = (lots m).length := by unfold prL; rw [List.length_map]
  rw [pl, List.take_length] at W'
  have c8 : evE (callN T k) (ro ++ rw) (.comp false (.sub (.nm 4) (.nm 7)) [7] (.nm 7) (.seq (.nm 3)) none) (sl (.tup b0 sds) (.tup b1 ods) (.tup b2 tds) (ro ++ rw).length m x5' x6' none x8' x9' x10' x11' x12') [.dT (dicL (lots m) val')] = .ok (.lst ((lots m).map val')) [.dT (dicL (lots m) val')] := by
    obtain ⟨fs, rw2, ee2, ⟨g1, g2⟩, gl⟩ := comp_run (C := callN T k) (ro := ro ++ rw) (rw := [.dT (dicL (lots m) val')]) (rw0 := [.dT (dicL (lots m) val')]) (σ := sl (.tup b0 sds) (.tup b1 ods) (.tup b2 tds) (ro ++ rw).length m x5' x6' none x8' x9' x10' x11' x12') (elt := .sub (.nm 4) (.nm 7)) (vs := [7]) (tg := .nm 7) (it := .seq (.nm 3)) (s := (lots m).map eL)
      (fun pre acc rw2 => acc = ((lots m).take pre.length).map val' ∧ rw2 = [.dT (dicL (lots m) val')]) (by
      unfold evT
      rw [bindM (ev_nm (d := .lst ((lots m).map eL)) rfl)]; rfl) (by simp; omega) ⟨by simp, rfl⟩ (fun pre d post acc rw2 ee2 ⟨g1, g2⟩ => by
      subst g2
      have hd := pre_get ee2
      rw [List.getElem?_map] at hd
      obtain ⟨l, hl1, rfl⟩ := Option.map_eq_some_iff.mp hd
      refine ⟨sl (.tup b0 sds) (.tup b1 ods) (.tup b2 tds) (ro ++ rw).length m x5' x6' (some (eL l)) x8' x9' x10' x11' x12', val' l, _, rfl, ev_sub (ev_nm rfl) (ev_nm rfl) (sub_own (List.mem_of_getElem? hl1)), ?_, rfl⟩
      rw [List.length_append, List.length_singleton, take_more hl1, List.map_append, g1]; rfl)
    rw [List.length_map, List.take_length] at g1
    rw [ee2, g1, g2]
  have iq := isQs_map (f := foldQ m (rowS ss) (vl m ps) (vl m qs)) (g := val') (lots m) W'.is
  refine ⟨(lots m).map val', ?_, iq, fun l hl => (W'.sm l hl).le ?_⟩
  · refine call_o hf.folded (by omega) rfl (by decide) (fl := .rt _) (fun j hj => ?_) rfl (d' := .tup true ((lots m).map val')) ?_ (d := .tup true ((lots m).map val')) (rw' := [.dT (dicL (lots m) val')])
    · obtain rfl : j = k := by omega
      refine (ex_nx (ex_set (ev_call (es_cons (ev_blt (d := .int m) (es_cons (ev_nm rfl) es_nil) (by rw [len_tup, lsd])) es_nil) rfl (places_run hL (by omega) hm)) (show 3 < 13 by decide))).trans ?_
      refine (ex_nx (ex_set (lzeros_run hm rfl rfl) (show 4 < 13 by decide))).trans ?_
      refine (ex_nx ee).trans (ex_rt (ex_ret (ev_blt (es_cons c8 es_nil) rfl)))
    · show (((lots m).map val').mapM (froz _ _ 79)).map (D.tup true) = _
      rw [froz_Qs (k := 77) iq]; rfl
  · have : (lots m).length * (16 * e) ≤ 16 * (16 * e) := Nat.mul_le_mul_right _ l16
    have pl2 : (prL m (valOf (lots m) ods)).length * (16 * e) ≤ 16 * (16 * e) := by rw [pl]; exact this
    omega
end
end Mx

set_option Elab.async false
set_option linter.all false
set_option maxRecDepth 100000
set_option maxHeartbeats 1000000
/-! Pb, part D: unit lines; what folds alike; middles. -/
namespace Mx
open PySem
/-! ### rows compared -/
theorem eqv_Q (p q : Rat) : PyData.eqv (pyQ p) (pyQ q) = decide (p = q) := by
  have e := eqQ (ro := []) (rw := []) (isQ_enc p) (isQ_enc q)
  rw [eqD_of (toPy_Q (isQ_enc p)) (toPy_Q (isQ_enc q)) (shaped_Q _ _) (shaped_Q _ _)] at e
  exact Option.some.inj e
theorem eqv_Qs : ∀ ps qs : List Rat, PyData.eqvAll (ps.map pyQ) (qs.map pyQ) = decide (ps = qs)
  | [], [] => rfl
  | [], _ :: _ => rfl
  | _ :: _, [] => rfl
  | p :: ps, q :: qs => by
    rw [List.map_cons, List.map_cons, PyData.eqvAll, eqv_Q, eqv_Qs ps qs]
    by_cases h : p = q
    · by_cases h2 : ps = qs
      · simp [h, h2]
      · simp [h, h2]
    · simp [h]
theorem shaped_Qs (qs : List Rat) : SeqAt.shaped (pyQs qs) = true := by
  have c : ∀ qs : List Rat, PyData.canLayAll0 (qs.map pyQ) = true := fun qs => by
    induction qs with
    | nil => rfl
    | cons g gs ih => rw [List.map_cons, PyData.canLayAll0, ih]; rfl
  have d : ∀ qs : List Rat, PyData.depthAll (qs.map pyQ) ≤ 1 := fun qs => by
    induction qs with
    | nil => decide
    | cons g gs ih =>
      rw [List.map_cons, PyData.depthAll]
      have : (pyQ g).depth = 1 := rfl
      omega
  unfold SeqAt.shaped pyQs
  rw [PyData.canLay0, c, PyData.depth, decide_eq_true (by have := d qs; omega)]
  rfl
section
variable {T : Tab} {n : Nat} {ro rw : MH} {C : Calls}
theorem eqQs {b c : Bool} {ps qs : List Rat} {ds es : List D} (hp : IsQs ps ds) (hq : IsQs qs es) (l1 : ps.length ≤ 100) (l2 : qs.length ≤ 100) : eqD ro rw (.tup b ds) (.tup c es) = some (decide (ps = qs)) := by
  rw [eqD_of ((tells_Qs (b := b) hp (by omega)).py ro rw deep (by decide)) ((tells_Qs (b := c) hq (by omega)).py ro rw deep (by decide)) (shaped_Qs _) (shaped_Qs _)]
  congr 1
  unfold pyQs
  rw [PyData.eqv, eqv_Qs]
theorem rng_ok {w : Nat} (h : w ≤ 100) : rangeOk 0 (w : Int) = true := by
  unfold rangeOk
  rw [decide_eq_true (by decide), decide_eq_true (by decide), decide_eq_true (by omega), decide_eq_true (by omega), decide_eq_true (by omega)]; rfl
theorem rng_run {e : ME} {σ : Sig} {w : Nat} (h : w ≤ 100) (he : evE C ro e σ rw = .ok (.int w) rw) : evT C ro (.rng1 e) σ rw = .ok ((upto w).map .int) rw := by
  unfold evT
  rw [bindM he]
  show M.lift (if rangeOk 0 (w : Int) = true then some (rangeD 0 w) else none) rw = _
  rw [if_pos (rng_ok h), rangeD_upto]; rfl
/-! ### unit lines -/
def unitD (w : Nat) (o : Int) : D := .tup true ((upto w).map fun a => D.tup true [.int (if a = o then 1 else 0), .int 1])
def unitQ (w : Nat) (o : Int) : List Rat := (upto w).map fun a => if a = o then 1 else 0
theorem unit_isQ (w : Nat) (o : Int) : IsQs (unitQ w o) ((upto w).map fun a => D.tup true [.int (if a = o then 1 else 0), .int 1]) := isQs_map _ fun a _ => by
  by_cases h : a = o
  · rw [if_pos h, if_pos h]; exact isQ_one
  · rw [if_neg h, if_neg h]; exact isQ_zero
theorem unit_len (w : Nat) (o : Int) : (unitQ w o).length = w := by simp [unitQ, upto]
theorem unit_sm (w : Nat) (o : Int) : ∀ q ∈ unitQ w o, Sm 1 q := fun q hq => by
  obtain ⟨a, _, rfl⟩ := List.mem_map.mp hq
  split
  · exact ⟨by decide, by decide⟩
  · exact ⟨by decide, by decide⟩
theorem map_on_ints {xs : List Int} {g : Int → D} {f : D → D} (h : ∀ i, f (.int i) = g i) : (xs.map D.int).map f = xs.map g := by
  rw [List.map_map]
  apply List.map_congr_left
  intro i _
  exact h i
def onI (g : Int → D) (d : D) : D := match d with
  | .int i => g i
  | d => d
theorem units_run {σ : Sig} {i j r w : Nat} (hw : w ≤ 100) (hij : i ≠ j) (hi : i < σ.length) (hj : j < σ.length) (ri : r ≠ i) (rj : r ≠ j) (hr : σ[r]? = some (some (.int w))) :
    evE C ro (.comp false (.blt false .tuple [.comp false (.tup [.blt false .int1 [.cmp .eq (.nm i) (.nm j)], .cst (.int 1)]) [i] (.nm i) (.rng1 (.nm r)) none]) [j] (.nm j) (.rng1 (.nm r)) none) σ rw = .ok (.lst ((upto w).map (unitD w))) rw := by
  have q := comp_map (C := C) (ro := ro) (rw := rw) (rw0 := rw) (σ := σ) (elt := .blt false .tuple [.comp false (.tup [.blt false .int1 [.cmp .eq (.nm i) (.nm j)], .cst (.int 1)]) [i] (.nm i) (.rng1 (.nm r)) none]) (vs := [j]) (tg := .nm j) (it := .rng1 (.nm r)) (s := (upto w).map .int) (onI (unitD w)) (rng_run hw (ev_nm hr)) (by simp [upto]; omega) (fun d hd => by
    obtain ⟨o, _, rfl⟩ := List.mem_map.mp hd
    refine ⟨(wipeD σ [j]).set j (some (.int o)), by simp [asG, wipeD, hj], ?_⟩
    have g1 : ((wipeD σ [j]).set j (some (D.int o)))[r]? = some (some (.int w)) := by
      simp only [wipeD, List.set_set]
      rw [List.getElem?_set_ne rj.symm]; exact hr
    have gl : ((wipeD σ [j]).set j (some (D.int o))).length = σ.length := by simp [wipeD]
    have gj : ((wipeD σ [j]).set j (some (D.int o)))[j]? = some (some (.int o)) := by simp [wipeD, hj]
    generalize (wipeD σ [j]).set j (some (D.int o)) = σ2 at g1 gl gj
    have q2 := comp_map (C := C) (ro := ro) (rw := rw) (rw0 := rw) (σ := σ2) (elt := .tup [.blt false .int1 [.cmp .eq (.nm i) (.nm j)], .cst (.int 1)]) (vs := [i]) (tg := .nm i) (it := .rng1 (.nm r)) (s := (upto w).map .int) (onI fun a => D.tup true [.int (if a = o then 1 else 0), .int 1]) (rng_run hw (ev_nm g1)) (by simp [upto]; omega) (fun d hd => by
      obtain ⟨a, _, rfl⟩ := List.mem_map.mp hd
      refine ⟨(wipeD σ2 [i]).set i (some (.int a)), by simp [asG, wipeD, gl, hi], ?_⟩
      have hi2 : ((wipeD σ2 [i]).set i (some (D.int a)))[i]? = some (some (.int a)) := by simp [wipeD, gl, hi]
      have hj2 : ((wipeD σ2 [i]).set i (some (D.int a)))[j]? = some (some (.int o)) := by
        simp only [wipeD, List.set_set]
        rw [List.getElem?_set_ne hij]; exact gj
      refine ev_tup (es_cons (ev_blt (es_cons (ev_cmp (ev_nm hi2) (ev_nm hj2) (eqI _ _)) es_nil) ?_) (es_cons ev_cst es_nil)) rfl
      show some (D.int (if decide (a = o) = true then 1 else 0)) = some (.int (if a = o then 1 else 0))
      by_cases h : a = o
      · rw [decide_eq_true h, if_pos h]; rfl
      · rw [decide_eq_false h, if_neg h]; rfl)
    rw [map_on_ints (g := fun a => D.tup true [.int (if a = o then 1 else 0), .int 1]) fun _ => rfl] at q2
    exact ev_blt (es_cons q2 es_nil) rfl)
  rw [map_on_ints (g := unitD w) fun _ => rfl] at q
  exact q
structure TMid (T : Tab) : Prop where
  ones : T "_law_ones" = some f__law_ones
  axes : T "_law_axes_rows" = some f__law_axes_rows
  alike : T "_law_folds_alike" = some f__law_folds_alike
  is_lot : T "is_middle_lot" = some f_is_middle_lot
  lots : T "middle_lots" = some f_middle_lots
  is_ : T "is_middle" = some f_is_middle
  need_table3 : T "need_table_inverse3" = some f_need_table_inverse3
  need_table2 : T "need_table_tables2" = some f_need_table_tables2
  fold_tables : T "fold_tables" = some f_fold_tables_k56
theorem axes_run (h : TMid T) (h1 : 1 ≤ n) {m : Nat} (hm : m ≤ 4) : callN T n ro "_law_axes_rows" [.int m] rw = .ok (.lst ((upto m).map (unitD m))) rw :=
  call_f h.axes h1 rfl (by decide) (fl := .rt _) (fun k _ => ex_rt (ex_ret (units_run (σ := [some (.int m), none, none]) (i := 2) (j := 1) (r := 0) (by omega) (by decide) (show 2 < 3 by decide) (show 1 < 3 by decide) (by decide) (by decide) rfl))) rfl
theorem ones_run (h : TMid T) (hL : TLot T) (h1 : 4 ≤ n) {m : Nat} (hm : m ≤ 4) : callN T n ro "_law_ones" [.int m] rw = .ok (.lst ((upto (2 ^ m)).map (unitD (2 ^ m)))) rw := by
  have p16 : 2 ^ m ≤ 16 := Nat.pow_le_pow_right (n := 2) (by decide) hm
  refine call_f h.ones (by omega) rfl (by decide) (fl := .rt _) (fun k hk => ?_) rfl
  refine (ex_nx (ex_set (ev_call (es_cons (ev_nm rfl) es_nil) rfl (wide_run hL (by omega) hm)) (show 1 < 4 by decide))).trans (ex_rt (ex_ret ?_))
  exact units_run (σ := [some (.int m), some (.int ((2 ^ m : Nat) : Int)), none, none]) (i := 3) (j := 2) (r := 1) (w := 2 ^ m) (by omega) (by decide) (show 3 < 4 by decide) (show 2 < 4 by decide) (by decide) (by decide) rfl
/-! ### a loop that may hand back at once -/
theorem loop_rt {f : D → Sig → M Fl} {v : D} : ∀ ds : List D, loopL (turnF f) ds (.rt v) rw = .ok (.rt v) rw
  | [] => rfl
  | d :: ds => by
    unfold loopL
    rw [bindM (show turnF f d (.rt v) rw = .ok (.rt v) rw from rfl)]
    exact loop_rt ds
theorem loop_until {α : Type} {f : D → Sig → M Fl} {P : α → Bool} {g : α → D} {v : D} (J : Sig → Prop) : ∀ (xs : List α) (σ : Sig), J σ → (∀ x ∈ xs, ∀ σ, J σ → (P x = true → ∃ σ', f (g x) σ rw = .ok (.nx σ') rw ∧ J σ') ∧ (P x = false → f (g x) σ rw = .ok (.rt v) rw)) →
    (xs.all P = true → ∃ σ', loopL (turnF f) (xs.map g) (.nx σ) rw = .ok (.nx σ') rw) ∧ (xs.all P = false → loopL (turnF f) (xs.map g) (.nx σ) rw = .ok (.rt v) rw)
  | [], σ, _, _ => ⟨fun _ => ⟨σ, rfl⟩, fun h => (by cases h)⟩
  | d :: ds, σ, j, st => by
    obtain ⟨s1, s2⟩ := st d List.mem_cons_self σ j
    rw [List.all_cons, List.map_cons]
    cases hp : P d with
    | true =>
      obtain ⟨σ', e, j'⟩ := s1 hp
      have ih := loop_until (g := g) J ds σ' j' fun x hx => st x (List.mem_cons_of_mem _ hx)
      have e2 : loopL (turnF f) (g d :: ds.map g) (.nx σ) rw = loopL (turnF f) (ds.map g) (.nx σ') rw := by
        conv => lhs; unfold loopL
        rw [bindM (show turnF f (g d) (.nx σ) rw = .ok (.nx σ') rw from by
          show M.bind (f (g d) σ) _ rw = _
          rw [bindM e]; rfl)]
      rw [e2, Bool.true_and]
      exact ih
    | false =>
      have e2 : loopL (turnF f) (g d :: ds.map g) (.nx σ) rw = .ok (.rt v) rw := by
        unfold loopL
        rw [bindM (show turnF f (g d) (.nx σ) rw = .ok (.rt v) rw from by
          show M.bind (f (g d) σ) _ rw = _
          rw [bindM (s2 hp)]; rfl)]
        exact loop_rt _
      exact ⟨fun h => (by cases h), fun _ => e2⟩
end
end Mx

set_option Elab.async false
set_option linter.all false
set_option maxRecDepth 100000
set_option maxHeartbeats 1000000
/-! Pb, part E: what folds alike with all axes; middles. -/
namespace Mx
open PySem
/-- the row of an axis -/
def axQ (m : Nat) (x : Int) : List Rat := (lots m).map (arrQ (unitQ m x))
def sideA (m : Nat) (ss line : List Rat) (x : Int) : List Rat := (lots m).map (foldQ m (rowS ss) (vl m line) (vl m (axQ m x)))
def sideB (m : Nat) (ss line : List Rat) (x : Int) : List Rat := (lots m).map (foldQ m (rowS ss) (vl m (axQ m x)) (vl m line))
def alikeB (m : Nat) (ss line : List Rat) : Bool := (upto m).all fun x => decide (sideA m ss line x = sideB m ss line x)
theorem axQ_sm {m : Nat} (hm : m ≤ 4) (x : Int) : ∀ q ∈ axQ m x, Sm 1 q := fun q hq => by
  obtain ⟨l, hl, rfl⟩ := List.mem_map.mp hq
  unfold arrQ
  split
  · rename_i h
    obtain ⟨y, rfl⟩ := List.length_eq_one_iff.mp h
    exact unit_sm m x _ (rowS_mem (unit_len m x) ((lots_small hm _ hl).2 y List.mem_cons_self))
  · exact ⟨by decide, by decide⟩
/-- is a lot one of the middle? -/
def midB (m : Nat) (sq : Int → Rat) (l : List Int) : Bool := if l.length ≠ m ∧ l.length % 2 = 1 then false else decide (l.length % 2 = 1) || l.all fun x => decide (sq x = 0)
section
variable {T : Tab} {n : Nat} {ro rw : MH} {C : Calls}
theorem alike_run (h : TMid T) (hf : TLf T) (hl : TL0 T) (hL : TLot T) (hO : TO0 T) (h1 : 7 ≤ n) {m a c e : Nat} (hm : m ≤ 4) {b0 b1 : Bool} {ss line : List Rat} {sds lds : List D} (hS : IsQs ss sds) (ls : ss.length = m) (sc : ∀ q ∈ ss, Sm c q) (ho : IsQs line lds) (lo : line.length = 2 ^ m) (so : ∀ q ∈ line, Sm a q)
    (few : a + 1 + (1 + c * 4) + 1 ≤ e) (few2 : e ≤ 30) : callN T n ro "_law_folds_alike" [.tup b0 sds, .tup b1 lds] rw = .ok (.bl (alikeB m ss line)) rw := by
  have lsd : ((sds.length : Nat) : Int) = m := by rw [hS.length, ls]
  have p16 : 2 ^ m ≤ 16 := Nat.pow_le_pow_right (n := 2) (by decide) hm
  obtain ⟨k, rfl⟩ : ∃ k, n = k + 1 := ⟨n - 1, by omega⟩
  have src : evT (callN T k) ro (.seq (.call (Str.ofString "_law_axes_rows") [.blt false .len [.nm 0]] [] [0])) [some (.tup b0 sds), some (.tup b1 lds), none, none] rw = .ok ((upto m).map (unitD m)) rw := by
    unfold evT
    rw [bindM (ev_call (es_cons (ev_blt (d := .int m) (es_cons (ev_nm rfl) es_nil) (by rw [len_tup, lsd])) es_nil) rfl (axes_run h (by omega) hm))]; rfl
  have lu := loop_until (rw := rw) (f := fun d σ => M.bind (M.lift (asG (.nm 2) d σ)) fun σ' => exSs (callN T k) ro [.set 3 (.call (Str.ofString "_law_arrow_line") [.nm 2] [] [0]), .ite (.cmp .ne (.call (Str.ofString "_law_folded") [.nm 0, .nm 1, .nm 3] [] [0, 1, 2]) (.call (Str.ofString "_law_folded") [.nm 0, .nm 3, .nm 1] [] [0, 1, 2])) [.ret (some (.cst (.bl false)))] []] σ')
    (P := fun x => decide (sideA m ss line x = sideB m ss line x)) (g := unitD m) (v := .bl false) (fun σ => ∃ x2 x3, σ = [some (.tup b0 sds), some (.tup b1 lds), x2, x3]) (upto m) [some (.tup b0 sds), some (.tup b1 lds), none, none] ⟨none, none, rfl⟩ (fun x hx σ ⟨x2, x3, hσ⟩ => by
    subst hσ
    obtain ⟨fs, e1, qf⟩ := arrow_line_run (ro := ro) (rw := rw) hO hL (n := k) (by omega) hm (b := true) (unit_isQ m x) (unit_len m x)
    have lf : (axQ m x).length = 2 ^ m := by unfold axQ; rw [List.length_map, lots_len hm]
    obtain ⟨da, e2, qa, _⟩ := folded_run (ro := ro) (rw := rw) hf hl hL (n := k) (by omega) hm (b0 := b0) (b1 := b1) (b2 := true) hS ls sc ho lo so qf lf (axQ_sm hm x) few few2
    obtain ⟨db, e3, qb, _⟩ := folded_run (ro := ro) (rw := rw) hf hl hL (n := k) (by omega) hm (b0 := b0) (b1 := true) (b2 := b1) hS ls sc qf lf (axQ_sm hm x) ho lo so (by omega) few2
    have la : (sideA m ss line x).length ≤ 100 := by unfold sideA; rw [List.length_map, lots_len hm]; omega
    have lb : (sideB m ss line x).length ≤ 100 := by unfold sideB; rw [List.length_map, lots_len hm]; omega
    have tt : evE (callN T k) ro (.cmp .ne (.call (Str.ofString "_law_folded") [.nm 0, .nm 1, .nm 3] [] [0, 1, 2]) (.call (Str.ofString "_law_folded") [.nm 0, .nm 3, .nm 1] [] [0, 1, 2])) [some (.tup b0 sds), some (.tup b1 lds), some (unitD m x), some (.tup true fs)] rw = .ok (.bl (!decide (sideA m ss line x = sideB m ss line x))) rw := by
      refine ev_cmp (ev_call (es_cons (ev_nm rfl) (es_cons (ev_nm rfl) (es_cons (ev_nm rfl) es_nil))) rfl e2) (ev_call (es_cons (ev_nm rfl) (es_cons (ev_nm rfl) (es_cons (ev_nm rfl) es_nil))) rfl e3) ?_
      show (eqD ro rw (.tup true da) (.tup true db)).map (!·) = _
      rw [eqQs (ps := sideA m ss line x) (qs := sideB m ss line x) qa qb la lb]; rfl
    have start : ∀ r, exSs (callN T k) ro [.ite (.cmp .ne (.call (Str.ofString "_law_folded") [.nm 0, .nm 1, .nm 3] [] [0, 1, 2]) (.call (Str.ofString "_law_folded") [.nm 0, .nm 3, .nm 1] [] [0, 1, 2])) [.ret (some (.cst (.bl false)))] []] [some (.tup b0 sds), some (.tup b1 lds), some (unitD m x), some (.tup true fs)] rw = r →
        M.bind (M.lift (asG (.nm 2) (unitD m x) [some (.tup b0 sds), some (.tup b1 lds), x2, x3])) (fun σ' => exSs (callN T k) ro [.set 3 (.call (Str.ofString "_law_arrow_line") [.nm 2] [] [0]), .ite (.cmp .ne (.call (Str.ofString "_law_folded") [.nm 0, .nm 1, .nm 3] [] [0, 1, 2]) (.call (Str.ofString "_law_folded") [.nm 0, .nm 3, .nm 1] [] [0, 1, 2])) [.ret (some (.cst (.bl false)))] []] σ') rw = r := fun r hr => by
      rw [bindM (show M.lift (asG (.nm 2) (unitD m x) [some (.tup b0 sds), some (.tup b1 lds), x2, x3]) rw = .ok [some (.tup b0 sds), some (.tup b1 lds), some (unitD m x), x3] rw from rfl)]
      exact (ex_nx (ex_set (ev_call (es_cons (ev_nm rfl) es_nil) rfl e1) (show 3 < 4 by decide))).trans hr
    refine ⟨fun hp => ⟨[some (.tup b0 sds), some (.tup b1 lds), some (unitD m x), some (.tup true fs)], start _ ?_, _, _, rfl⟩, fun hp => start _ ?_⟩
    · rw [hp] at tt
      exact ex_nx (ex_iteF tt)
    · rw [hp] at tt
      exact ex_rt (ex_iteT tt (ex_rt (ex_ret ev_cst))))
  refine call_f h.alike (by omega) rfl (by decide) (fl := .rt (.bl (alikeB m ss line))) (fun j hj => ?_) rfl
  obtain rfl : j = k := by omega
  cases hb : alikeB m ss line with
  | true =>
    obtain ⟨σ', e'⟩ := lu.1 hb
    refine (ex_nx (σ' := σ') (rw' := rw) ?_).trans (ex_rt (ex_ret ev_cst))
    unfold exS
    exact (bindM src).trans ((bindM e').trans rfl)
  | false =>
    have e' := lu.2 hb
    refine ex_rt ?_
    unfold exS
    exact (bindM src).trans ((bindM e').trans rfl)
theorem mid_lot_run (h : TMid T) (h1 : 1 ≤ n) {m : Nat} (hm : m ≤ 4) {b0 : Bool} {ss : List Rat} {sds : List D} (hS : IsQs ss sds) (ls : ss.length = m) {l : List Int} (hl : l ∈ lots m) : callN T n ro "is_middle_lot" [.tup b0 sds, eL l] rw = .ok (.bl (midB m (rowS ss) l)) rw := by
  have lsd : ((sds.length : Nat) : Int) = m := by rw [hS.length, ls]
  obtain ⟨ll, xl⟩ := lots_small hm l hl
  refine call_f h.is_lot h1 rfl (by decide) (fl := .rt (.bl (midB m (rowS ss) l))) (fun k hk => ?_) rfl
  have t1 : evE (callN T k) ro (.cmp .ne (.blt false .len [.nm 1]) (.blt false .len [.nm 0])) [some (.tup b0 sds), some (eL l), none] rw = .ok (.bl (!decide (l.length = m))) rw := by
    have q := ev_cmp (C := callN T k) (ro := ro) (op := .ne) (σ := [some (.tup b0 sds), some (eL l), none]) (ev_blt (es_cons (ev_nm (i := 1) (d := eL l) rfl) es_nil) (len_eL (ro := ro) (rw := rw))) (ev_blt (es_cons (ev_nm (i := 0) rfl) es_nil) (len_tup _)) (neI _ _)
    rw [q, lsd]
    congr 3
    by_cases z : l.length = m
    · rw [decide_eq_true z, decide_eq_true (by omega)]
    · rw [decide_eq_false z, decide_eq_false (by omega)]
  have t2 : evE (callN T k) ro (.cmp .eq (.bin .mod (.blt false .len [.nm 1]) (.cst (.int 2))) (.cst (.int 1))) [some (.tup b0 sds), some (eL l), none] rw = .ok (.bl (decide (l.length % 2 = 1))) rw := by
    have q := ev_cmp (C := callN T k) (ro := ro) (op := .eq) (σ := [some (.tup b0 sds), some (eL l), none]) (ev_bin (op := .mod) (z := .int (((l.length : Nat) : Int).fmod 2)) (ev_blt (es_cons (ev_nm (i := 1) (d := eL l) rfl) es_nil) (len_eL (ro := ro) (rw := rw))) (ev_cst (d := .int 2)) rfl) (ev_cst (d := .int 1)) (eqI _ _)
    rw [q]
    have e : ((l.length : Nat) : Int).fmod 2 = ((l.length % 2 : Nat) : Int) := by
      rw [Int.fmod_eq_emod_of_nonneg _ (by decide)]; rfl
    rw [e]
    congr 2
    by_cases z : l.length % 2 = 1
    · rw [decide_eq_true z, decide_eq_true (by omega)]
    · rw [decide_eq_false z, decide_eq_false (by omega)]
  have t3 : evE (callN T k) ro (.blt false .all [.comp false (.cmp .eq (.sub (.nm 0) (.nm 2)) (.cst (.tup false [.int 0, .int 1]))) [2] (.nm 2) (.seq (.nm 1)) none]) [some (.tup b0 sds), some (eL l), none] rw = .ok (.bl (l.all fun x => decide (rowS ss x = 0))) rw := by
    have q := comp_map (C := callN T k) (ro := ro) (rw := rw) (rw0 := rw) (σ := [some (.tup b0 sds), some (eL l), none]) (elt := .cmp .eq (.sub (.nm 0) (.nm 2)) (.cst (.tup false [.int 0, .int 1]))) (vs := [2]) (tg := .nm 2) (it := .seq (.nm 1)) (s := l.map .int) (onI fun x => .bl (decide (rowS ss x = 0))) (by
      unfold evT
      rw [bindM (ev_nm (d := eL l) rfl)]; rfl) (by simp; omega) (fun d hd => by
      obtain ⟨x, hx, rfl⟩ := List.mem_map.mp hd
      obtain ⟨y, y1, y2⟩ := isSq_tup (b := b0) hS ls x (xl x hx) ro rw
      refine ⟨[some (.tup b0 sds), some (eL l), some (.int x)], rfl, ev_cmp (ev_sub (ev_nm rfl) (ev_nm rfl) y1) ev_cst ?_⟩
      show eqD ro rw y (.tup false [.int 0, .int 1]) = _
      rw [eqQ y2 isQ_zero])
    rw [map_on_ints (g := fun x => D.bl (decide (rowS ss x = 0))) fun _ => rfl] at q
    refine ev_blt (es_cons q es_nil) ?_
    have e : blsOf (l.map fun x => D.bl (decide (rowS ss x = 0))) = some (l.map fun x => decide (rowS ss x = 0)) := by
      clear q hl ll xl t1 t2
      induction l with
      | nil => rfl
      | cons x l ih => rw [List.map_cons, blsOf, ih]; rfl
    show ((lstOf ro rw (.lst (l.map fun x => D.bl (decide (rowS ss x = 0))))).bind blsOf).map (fun bs => D.bl (bs.all id)) = _
    rw [show lstOf ro rw (.lst (l.map fun x => D.bl (decide (rowS ss x = 0)))) = some (l.map fun x => D.bl (decide (rowS ss x = 0))) from rfl, Option.bind_some, e, Option.map_some, List.all_map]
    rfl
  unfold midB
  by_cases z1 : l.length = m
  · rw [decide_eq_true z1] at t1
    rw [if_neg (by simp [z1])]
    refine (ex_nx (ex_iteF (ev_and (ev_andF t1)))).trans (ex_rt (ex_ret (ev_or ?_)))
    cases hz : decide (l.length % 2 = 1) with
    | true => rw [hz] at t2; exact ev_orT t2
    | false => rw [hz] at t2; exact ev_orF t2 (ev_or1 t3)
  · rw [decide_eq_false z1] at t1
    by_cases z2 : l.length % 2 = 1
    · rw [decide_eq_true z2] at t2
      rw [if_pos ⟨z1, z2⟩]
      exact ex_rt (ex_iteT (ev_and (ev_andT t1 (ev_and1 t2))) (ex_rt (ex_ret ev_cst)))
    · rw [decide_eq_false z2] at t2
      rw [if_neg (fun ⟨_, b⟩ => z2 b), decide_eq_false z2]
      exact (ex_nx (ex_iteF (ev_and (ev_andT t1 (ev_and1 t2))))).trans (ex_rt (ex_ret (ev_or (ev_orF t2 (ev_or1 t3)))))
end
end Mx

set_option Elab.async false
set_option linter.all false
set_option maxRecDepth 100000
set_option maxHeartbeats 1000000
/-! Pb, part F: middles, whole. -/
namespace Mx
open PySem
def midLots (m : Nat) (sq : Int → Rat) : List (List Int) := (lots m).filter (midB m sq)
def isMid (m : Nat) (sq : Int → Rat) (qs : List Rat) : Bool := (lots m).all fun l => decide (vl m qs l = 0) || midB m sq l
/-- a test of a lot, told of its tree -/
def onLotB (p : List Int → Bool) (d : D) : Bool := match d with
  | .tup _ xs => (match intsOf xs with | some l => p l | none => false)
  | _ => false
theorem onLotB_eL (p : List Int → Bool) (l : List Int) : onLotB p (eL l) = p l := by
  show (match intsOf (l.map D.int) with | some l => p l | none => false) = _
  rw [intsOf_ints]
section
variable {T : Tab} {n : Nat} {ro rw : MH} {C : Calls}
theorem lots_src (hL : TLot T) (h1 : 1 ≤ n) {m : Nat} (hm : m ≤ 4) {b0 : Bool} {sds : List D} (lsd : ((sds.length : Nat) : Int) = m) {σ : Sig} (h0 : σ[0]? = some (some (.tup b0 sds))) : evE (callN T n) ro (.call (Str.ofString "lots_of") [.blt false .lrange1 [.blt false .len [.nm 0]]] [] [0]) σ rw = .ok (.lst ((lots m).map eL)) rw := by
  refine ev_call (es_cons (ev_blt (d := .lst (rangeD 0 m)) (es_cons (ev_blt (d := .int m) (es_cons (ev_nm h0) es_nil) (by rw [len_tup, lsd])) es_nil) ?_) es_nil) rfl (lots_run hL h1 hm)
  show (if rangeOk 0 m = true then some (D.lst (rangeD 0 m)) else none) = _
  rw [if_pos (rangeOk_upto hm)]
theorem mid_lots_run (h : TMid T) (hJ : TJ0 T) (hL : TLot T) (h1 : 4 ≤ n) {m : Nat} (hm : m ≤ 4) {b0 : Bool} {ss : List Rat} {sds : List D} (hS : IsQs ss sds) (ls : ss.length = m) : callN T n ro "middle_lots" [.tup b0 sds] rw = .ok (.tup true ((midLots m (rowS ss)).map eL)) rw := by
  have lsd : ((sds.length : Nat) : Int) = m := by rw [hS.length, ls]
  have l16 : (lots m).length ≤ 16 := by
    rw [lots_len hm]; exact Nat.pow_le_pow_right (n := 2) (by decide) hm
  refine call_f h.lots (by omega) rfl (by decide) (fl := .rt _) (fun k hk => ?_) rfl
  refine (ex_nx (ex_ex (ev_call (es_cons (ev_nm rfl) es_nil) rfl (need_sq3 hJ (by omega) hS (by omega))))).trans (ex_rt (ex_ret (ev_blt (es_cons (d := .lst ((midLots m (rowS ss)).map eL)) ?_ es_nil) rfl)))
  have q := comp_flt (C := callN T k) (ro := ro) (rw := rw) (rw0 := rw) (σ := [some (.tup b0 sds), none]) (elt := .nm 1) (te := .call (Str.ofString "is_middle_lot") [.nm 0, .nm 1] [] [0, 1]) (vs := [1]) (tg := .nm 1) (it := .seq (.call (Str.ofString "lots_of") [.blt false .lrange1 [.blt false .len [.nm 0]]] [] [0])) (s := (lots m).map eL)
    (onLotB (midB m (rowS ss))) id (by
    unfold evT
    rw [bindM (lots_src hL (by omega) hm lsd rfl)]; rfl) (by simp; omega) (fun d hd => by
    obtain ⟨l, hl, rfl⟩ := List.mem_map.mp hd
    refine ⟨[some (.tup b0 sds), some (eL l)], rfl, ?_, fun _ => ev_nm rfl⟩
    have e := ev_call (C := callN T k) (ro := ro) (dv := []) (src := [0, 1]) (σ := [some (.tup b0 sds), some (eL l)]) (es_cons (ev_nm (i := 0) rfl) (es_cons (ev_nm (i := 1) rfl) es_nil)) rfl (mid_lot_run (ro := ro) (rw := rw) h (by omega) hm (b0 := b0) hS ls hl)
    rw [e]
    rw [onLotB_eL])
  rw [List.map_id] at q
  have key : ∀ xs : List (List Int), (xs.map eL).filter (onLotB (midB m (rowS ss))) = (xs.filter (midB m (rowS ss))).map eL := fun xs => by
    induction xs with
    | nil => rfl
    | cons l xs ih =>
      rw [List.map_cons, List.filter_cons, List.filter_cons, onLotB_eL]
      cases midB m (rowS ss) l with
      | true => rw [if_pos rfl, if_pos rfl, List.map_cons, ih]
      | false => rw [if_neg (by decide), if_neg (by decide), ih]
  rw [key] at q
  exact q
theorem is_mid_run (h : TMid T) (hJ : TJ0 T) (hL : TLot T) (h1 : 6 ≤ n) {m : Nat} (hm : m ≤ 4) {b0 b1 b2 : Bool} {ss line : List Rat} {sds lds : List D} (hS : IsQs ss sds) (ls : ss.length = m) (ho : IsQs line lds) (lo : line.length = 2 ^ m) :
    callN T n ro "is_middle" [.tup b0 sds, .tup b1 [.str (Str.ofString "table"), .tup b2 lds]] rw = .ok (.bl (isMid m (rowS ss) line)) rw := by
  have lsd : ((sds.length : Nat) : Int) = m := by rw [hS.length, ls]
  have lod : lds.length = 2 ^ m := by rw [ho.length, lo]
  have tt : IsTab m line (.tup b1 [.str (Str.ofString "table"), .tup b2 lds]) := ⟨lo, b1, b2, lds, rfl, ho⟩
  have hv : ∀ l ∈ lots m, IsQ (vl m line l) (valOf (lots m) lds l) := fun l h => valOf_isQ hm ho lo h
  have need3 : ∀ k, 5 ≤ k → callN T k ro "need_table_inverse3" [.tup b0 sds, .tup b1 [.str (Str.ofString "table"), .tup b2 lds]] rw = .ok .non rw := fun k hk =>
    call_n h.need_table3 (by omega) rfl (by decide) (fun x hx => ex_nx (ex_iteF (ev_not (k := true) (ev_call (as := [.int m, .tup b1 [.str (Str.ofString "table"), .tup b2 lds]]) (es_cons (ev_blt (d := .int m) (es_cons (ev_nm rfl) es_nil) (by rw [len_tup, lsd])) (es_cons (ev_nm rfl) es_nil)) rfl (is_table_ok hJ (by omega) hm tt)))))
  refine call_f h.is_ (by omega) rfl (by decide) (fl := .rt (.bl (isMid m (rowS ss) line))) (fun k hk => ?_) rfl
  refine (ex_nx (ex_ex (ev_call (es_cons (ev_nm rfl) es_nil) rfl (need_sq3 hJ (by omega) hS (by omega))))).trans ((ex_nx (ex_ex (ev_call (es_cons (ev_nm rfl) (es_cons (ev_nm rfl) es_nil)) rfl (need3 k (by omega))))).trans (ex_rt ?_))
  unfold exS
  rw [if_pos (show 2 < (startD 5 [D.tup b0 sds, D.tup b1 [D.str (Str.ofString "table"), D.tup b2 lds]]).length from show 2 < 5 by decide)]
  refine (bindM (a := .bl (isMid m (rowS ss) line)) (rw' := rw) ?_).trans rfl
  obtain ⟨fs, rw', e, ⟨g1, g2⟩, gl⟩ := comp_run (C := callN T k) (ro := ro) (rw := rw) (rw0 := rw) (σ := [some (.tup b0 sds), some (.tup b1 [.str (Str.ofString "table"), .tup b2 lds]), none, none, none]) (elt := .or [.cmp .eq (.nm 4) (.cst (.tup false [.int 0, .int 1])), .call (Str.ofString "is_middle_lot") [.nm 0, .nm 3] [] [0, 1]]) (vs := [3, 4]) (tg := .tup [.nm 3, .nm 4]) (it := .zip2 (.call (Str.ofString "lots_of") [.blt false .lrange1 [.blt false .len [.nm 0]]] [] [0]) (.sub (.nm 1) (.cst (.int 1)))) (s := prL m (valOf (lots m) lds))
    (fun pre acc rw' => acc = (((lots m).map fun l => decide (vl m line l = 0) || midB m (rowS ss) l).take pre.length).map D.bl ∧ rw' = rw) (by
    rw [← zip_prL hm lod]
    exact zip2_run (lots_src hL (by omega) hm lsd rfl) (ev_sub (ev_nm rfl) ev_cst sub_1) rfl rfl) (by have := prL_len hm (valOf (lots m) lds); omega) ⟨by simp, rfl⟩ (fun pre d post acc rw' e ⟨g1, g2⟩ => by
    subst g2
    obtain ⟨l, hl1, rfl⟩ := prL_at (pre_get e)
    have hl := List.mem_of_getElem? hl1
    refine ⟨[some (.tup b0 sds), some (.tup b1 [.str (Str.ofString "table"), .tup b2 lds]), none, some (eL l), some (valOf (lots m) lds l)], .bl (decide (vl m line l = 0) || midB m (rowS ss) l), rw', rfl, ?_, ?_, rfl⟩
    · have t1 : evE (callN T k) ro (.cmp .eq (.nm 4) (.cst (.tup false [.int 0, .int 1]))) [some (.tup b0 sds), some (.tup b1 [.str (Str.ofString "table"), .tup b2 lds]), none, some (eL l), some (valOf (lots m) lds l)] rw' = .ok (.bl (decide (vl m line l = 0))) rw' := by
        refine ev_cmp (ev_nm rfl) ev_cst ?_
        show eqD ro rw' _ _ = _
        rw [eqQ (hv l hl) isQ_zero]
      have t2 : evE (callN T k) ro (.call (Str.ofString "is_middle_lot") [.nm 0, .nm 3] [] [0, 1]) [some (.tup b0 sds), some (.tup b1 [.str (Str.ofString "table"), .tup b2 lds]), none, some (eL l), some (valOf (lots m) lds l)] rw' = .ok (.bl (midB m (rowS ss) l)) rw' := ev_call (es_cons (ev_nm rfl) (es_cons (ev_nm rfl) es_nil)) rfl (mid_lot_run h (by omega) hm hS ls hl)
      cases hz : decide (vl m line l = 0) with
      | true => rw [hz] at t1; exact ev_or (ev_orT t1)
      | false => rw [hz] at t1; exact ev_or (ev_orF t1 (ev_or1 t2))
    · rw [List.length_append, List.length_singleton, take_more (show ((lots m).map fun l => decide (vl m line l = 0) || midB m (rowS ss) l)[pre.length]? = some (decide (vl m line l = 0) || midB m (rowS ss) l) from by rw [List.getElem?_map, hl1]; rfl), List.map_append, g1]
      rfl)
  have hlen : (prL m (valOf (lots m) lds)).length = ((lots m).map fun l => decide (vl m line l = 0) || midB m (rowS ss) l).length := by
    unfold prL
    rw [List.length_map, List.length_map]
  rw [hlen, List.take_length] at g1
  rw [g1, g2] at e
  refine ev_blt (es_cons e es_nil) ?_
  have eb : ∀ bs : List Bool, blsOf (bs.map .bl) = some bs := fun bs => by
    induction bs with
    | nil => rfl
    | cons b bs ih => rw [List.map_cons, blsOf, ih]; rfl
  show ((lstOf ro rw (.lst (((lots m).map fun l => decide (vl m line l = 0) || midB m (rowS ss) l).map .bl))).bind blsOf).map (fun bs => D.bl (bs.all id)) = _
  rw [show lstOf ro rw (.lst (((lots m).map fun l => decide (vl m line l = 0) || midB m (rowS ss) l).map .bl)) = some (((lots m).map fun l => decide (vl m line l = 0) || midB m (rowS ss) l).map .bl) from rfl, Option.bind_some, eb, Option.map_some, List.all_map]
  rfl
theorem fold_tables56_run (h : TMid T) (hF : TF0 T) (hN : TNum T) (hJ : TJ0 T) (hL : TLot T) (h1 : 6 ≤ n) {m a b c e : Nat} (hm : m ≤ 4) {k : Bool} {ss : List Rat} {sds : List D} {one two : D} (hS : IsQs ss sds) (hsl : ss.length = m) (hs : ∀ q ∈ ss, Sm c q) {ps qs : List Rat} (ho : IsTab m ps one) (ht : IsTab m qs two) (so : ∀ q ∈ ps, Sm a q) (st : ∀ q ∈ qs, Sm b q)
    (few : a + b + (1 + c * 4) + 1 ≤ e) (few2 : e ≤ 30) : ∃ d, callN T n ro "fold_tables" [.tup k sds, one, two] rw = .ok d rw ∧ IsTab m ((lots m).map (foldQ m (rowS ss) (vl m ps) (vl m qs))) d ∧ ∀ l ∈ lots m, Sm (1 + 256 * e) (foldQ m (rowS ss) (vl m ps) (vl m qs) l) := by
  obtain ⟨d, e1, e2, e3⟩ := fold_run (ro := ro) (rw := rw) hF hN hJ hL (n := n - 1) (by omega) hm (isSq_tup (b := k) hS hsl) (fun x hx => hs _ (rowS_mem hsl hx)) ho ht (fun l hl => so _ (vl_mem hm ho.1 hl)) (fun l hl => st _ (vl_mem hm ht.1 hl)) few few2
  have ll : ((sds.length : Nat) : Int) = m := by rw [hS.length, hsl]
  have need2 : ∀ {t : D} {rs : List Rat}, IsTab m rs t → callN T (n - 1) ro "need_table_tables2" [.int m, t] rw = .ok .non rw := fun {t rs} it =>
    call_n h.need_table2 (by omega) rfl (by decide) (fun x hx => ex_nx (ex_iteF (ev_not (k := true) (ev_call (es_cons (ev_nm rfl) (es_cons (ev_nm rfl) es_nil)) rfl (is_table_ok hJ (by omega) hm it)))))
  refine ⟨d, call_f h.fold_tables (by omega) rfl (by decide) (fl := .rt d) (fun j hj => ?_) rfl, e2, e3⟩
  obtain rfl : j = n - 1 := by omega
  refine (ex_nx (ex_ex (ev_call (es_cons (ev_nm rfl) es_nil) rfl (need_sq2 hJ (by omega) hS (by omega))))).trans ?_
  refine (ex_nx (ex_ex (ev_call (es_cons (ev_blt (d := .int m) (es_cons (ev_nm rfl) es_nil) ?_) (es_cons (ev_nm rfl) es_nil)) rfl (need2 ho)))).trans ?_
  · rw [len_tup, ll]
  refine (ex_nx (ex_ex (ev_call (es_cons (ev_blt (d := .int m) (es_cons (ev_nm rfl) es_nil) ?_) (es_cons (ev_nm rfl) es_nil)) rfl (need2 ht)))).trans ?_
  · rw [len_tup, ll]
  exact ex_rt (ex_ret (ev_call (es_cons (ev_nm rfl) (es_cons (ev_nm rfl) (es_cons (ev_nm rfl) es_nil))) rfl e1))
end
end Mx

set_option Elab.async false
set_option linter.all false
set_option maxRecDepth 100000
set_option maxHeartbeats 2000000
/-! Pb, part G: what is of the middle folds alike, in plain numbers. -/
namespace Mx
open PySem
/-! ### sums -/
theorem sumQ_zero {α : Type} {f : α → Rat} : ∀ {xs : List α}, (∀ x ∈ xs, f x = 0) → sumQ f xs = 0
  | [], _ => rfl
  | x :: xs, h => by
    rw [sumQ, h x List.mem_cons_self, sumQ_zero fun y hy => h y (List.mem_cons_of_mem _ hy), Rat.add_zero]
theorem sumQ_add {α : Type} {f g : α → Rat} : ∀ xs : List α, sumQ (fun x => f x + g x) xs = sumQ f xs + sumQ g xs
  | [] => (Rat.add_zero 0).symm
  | x :: xs => by
    rw [sumQ, sumQ, sumQ, sumQ_add xs]
    grind
theorem sumQ_mul {α : Type} {f : α → Rat} (c : Rat) : ∀ xs : List α, sumQ (fun x => c * f x) xs = c * sumQ f xs
  | [] => (Rat.mul_zero c).symm
  | x :: xs => by
    rw [sumQ, sumQ, sumQ_mul c xs]
    grind
theorem sumQ_comm {α β : Type} {f : α → β → Rat} : ∀ (xs : List α) (ys : List β), sumQ (fun x => sumQ (f x) ys) xs = sumQ (fun y => sumQ (fun x => f x y) xs) ys
  | [], ys => (sumQ_zero fun _ _ => rfl).symm
  | x :: xs, ys => by
    have e : (fun y => sumQ (fun x => f x y) (x :: xs)) = fun y => f x y + sumQ (fun x => f x y) xs := rfl
    rw [e, sumQ_add, sumQ, sumQ_comm xs ys]
theorem sumQ_one {α : Type} {f : α → Rat} {a : α} : ∀ {xs : List α}, xs.Nodup → a ∈ xs → (∀ x ∈ xs, x ≠ a → f x = 0) → sumQ f xs = f a
  | [], _, h, _ => by cases h
  | x :: xs, hn, h, hz => by
    obtain ⟨n1, n2⟩ := List.nodup_cons.mp hn
    rcases List.mem_cons.mp h with rfl | h
    · rw [sumQ, sumQ_zero fun y hy => hz y (List.mem_cons_of_mem _ hy) fun e => n1 (e ▸ hy), Rat.add_zero]
    · rw [sumQ, hz x List.mem_cons_self (fun e => n1 (e ▸ h)), sumQ_one n2 h fun y hy => hz y (List.mem_cons_of_mem _ hy), Rat.zero_add]
/-! ### worths of pairs the other way round -/
def prQ (sq : Int → Rat) : List Int → Rat
  | [] => 1
  | x :: xs => sq x * prQ sq xs
def mtI (u v : List Int) : List Int := u.filter fun x => decide (x ∈ v)
def coI (u v : List Int) : Bool := decide ((u.length * v.length + (mtI u v).length) % 2 = 0)
theorem wQ_eq (sq : Int → Rat) (u v : List Int) : wQ sq u v = sgI u v * prQ sq (mtI u v) := by
  have g : ∀ (l : List Int) (a : Rat), l.foldl (fun acc x => if x ∈ v then acc * sq x else acc) a = a * prQ sq (l.filter fun x => decide (x ∈ v)) := fun l => by
    induction l with
    | nil => intro a; exact (Rat.mul_one a).symm
    | cons x l ih =>
      intro a
      rw [List.foldl_cons, ih, List.filter_cons]
      by_cases h : x ∈ v
      · rw [if_pos h, if_pos (decide_eq_true h), prQ, Rat.mul_assoc]
      · rw [if_neg h, if_neg (by simp [h])]
  exact g u _
theorem lots_4m {m : Nat} (hm : m ≤ 4) : ∀ l ∈ lots m, l ∈ lots 4 := by
  refine m_cases (P := fun m => ∀ l ∈ lots m, l ∈ lots 4) hm ?_ ?_ ?_ ?_ ?_ <;> decide +kernel
theorem mt_comm : ∀ u ∈ lots 4, ∀ v ∈ lots 4, mtI v u = mtI u v := by decide +kernel
theorem part_comm : ∀ u ∈ lots 4, ∀ v ∈ lots 4, partI v u = partI u v := by decide +kernel
theorem sg_comm : ∀ u ∈ lots 4, ∀ v ∈ lots 4, (coI u v = true → (swapI v u).fmod 2 = (swapI u v).fmod 2) ∧ (coI u v = false → (swapI v u).fmod 2 = 1 - (swapI u v).fmod 2) := by decide +kernel
theorem sw_01 : ∀ u ∈ lots 4, ∀ v ∈ lots 4, (swapI u v).fmod 2 = 0 ∨ (swapI u v).fmod 2 = 1 := by decide +kernel
theorem wQ_same {sq : Int → Rat} {u v : List Int} (hu : u ∈ lots 4) (hv : v ∈ lots 4) (h : coI u v = true) : wQ sq v u = wQ sq u v := by
  rw [wQ_eq, wQ_eq, mt_comm u hu v hv]
  unfold sgI
  rw [(sg_comm u hu v hv).1 h]
theorem wQ_opp {sq : Int → Rat} {u v : List Int} (hu : u ∈ lots 4) (hv : v ∈ lots 4) (h : coI u v = false) : wQ sq v u = - wQ sq u v := by
  rw [wQ_eq, wQ_eq, mt_comm u hu v hv]
  unfold sgI
  rw [(sg_comm u hu v hv).2 h]
  rcases sw_01 u hu v hv with e | e
  · rw [e, if_pos (by decide), if_neg (by decide)]; grind
  · rw [e, if_neg (by decide), if_pos (by decide)]; grind
theorem prQ_zero {sq : Int → Rat} {l : List Int} (h : l ≠ []) (hz : ∀ x ∈ l, sq x = 0) : prQ sq l = 0 := by
  cases l with
  | nil => exact absurd rfl h
  | cons x l => rw [prQ, hz x List.mem_cons_self, Rat.zero_mul]
theorem co_even : ∀ u ∈ lots 4, ∀ v ∈ lots 4, u.length % 2 = 0 → mtI u v = [] → coI u v = true := by decide +kernel
theorem co_full {m : Nat} (hm : m ≤ 4) : ∀ u ∈ lots m, ∀ v ∈ lots m, u.length % 2 = 1 → u.length = m → coI u v = true := by
  refine m_cases (P := fun m => ∀ u ∈ lots m, ∀ v ∈ lots m, u.length % 2 = 1 → u.length = m → coI u v = true) hm ?_ ?_ ?_ ?_ ?_ <;> decide +kernel
theorem co_odd {m : Nat} (hm : m ≤ 4) : ∀ u ∈ lots m, u.length % 2 = 1 → u.length ≠ m → ∃ x ∈ upto m, coI u [x] = false ∧ mtI u [x] = [] := by
  refine m_cases (P := fun m => ∀ u ∈ lots m, u.length % 2 = 1 → u.length ≠ m → ∃ x ∈ upto m, coI u [x] = false ∧ mtI u [x] = []) hm ?_ ?_ ?_ ?_ ?_ <;> decide +kernel
theorem co_in : ∀ u ∈ lots 4, u.length % 2 = 0 → ∀ x ∈ u, coI u [x] = false ∧ mtI u [x] = [x] := by decide +kernel
theorem one_lot {m : Nat} (hm : m ≤ 4) : ∀ x ∈ upto m, [x] ∈ lots m := by
  refine m_cases (P := fun m => ∀ x ∈ upto m, [x] ∈ lots m) hm ?_ ?_ ?_ ?_ ?_ <;> decide +kernel
theorem part_inj : ∀ u ∈ lots 4, ∀ w ∈ lots 4, ∀ x ∈ upto 4, partI u [x] = partI w [x] → u = w := by decide +kernel
theorem upto_4m {m : Nat} (hm : m ≤ 4) : ∀ x ∈ upto m, x ∈ upto 4 := by
  refine m_cases (P := fun m => ∀ x ∈ upto m, x ∈ upto 4) hm ?_ ?_ ?_ ?_ ?_ <;> decide +kernel
theorem mid_w {m : Nat} (hm : m ≤ 4) {sq : Int → Rat} {u v : List Int} (hu : u ∈ lots m) (hv : v ∈ lots m) (h : midB m sq u = true) : wQ sq v u = wQ sq u v := by
  have u4 := lots_4m hm u hu
  have v4 := lots_4m hm v hv
  unfold midB at h
  by_cases odd : u.length % 2 = 1
  · have hl : u.length = m := by
      apply Classical.byContradiction
      intro z
      rw [if_pos ⟨z, odd⟩] at h
      cases h
    exact wQ_same u4 v4 (co_full hm u hu v hv odd hl)
  · rw [if_neg (fun ⟨_, b⟩ => odd b), decide_eq_false odd, Bool.false_or, List.all_eq_true] at h
    by_cases mt : mtI u v = []
    · exact wQ_same u4 v4 (co_even u u4 v v4 (by omega) mt)
    · have z : prQ sq (mtI u v) = 0 := prQ_zero mt fun x hx => of_decide_eq_true (h x (List.mem_filter.mp hx).1)
      rw [wQ_eq, wQ_eq, mt_comm u u4 v v4, z, Rat.mul_zero, Rat.mul_zero]
theorem not_mid {m : Nat} (hm : m ≤ 4) {sq : Int → Rat} {u : List Int} (hu : u ∈ lots m) (h : midB m sq u = false) : ∃ x ∈ upto m, wQ sq [x] u ≠ wQ sq u [x] := by
  have u4 := lots_4m hm u hu
  have sg : ∀ v : List Int, sgI u v ≠ 0 := fun v => by
    unfold sgI
    split <;> decide
  unfold midB at h
  by_cases odd : u.length % 2 = 1
  · have hl : u.length ≠ m := fun z => by
      rw [if_neg (fun ⟨a, _⟩ => a z), decide_eq_true odd] at h
      cases h
    obtain ⟨x, hx, c1, c2⟩ := co_odd hm u hu odd hl
    refine ⟨x, hx, ?_⟩
    rw [wQ_opp u4 (lots_4m hm _ (one_lot hm x hx)) c1, wQ_eq, c2, prQ, Rat.mul_one]
    have := sg [x]
    grind
  · rw [if_neg (fun ⟨_, b⟩ => odd b), decide_eq_false odd, Bool.false_or, List.all_eq_false] at h
    obtain ⟨x, hx, hz⟩ := h
    have hxm := (lots_small hm u hu).2 x hx
    obtain ⟨c1, c2⟩ := co_in u u4 (by omega) x hx
    refine ⟨x, hxm, ?_⟩
    have nz : sq x ≠ 0 := fun z => hz (decide_eq_true z)
    rw [wQ_opp u4 (lots_4m hm _ (one_lot hm x hxm)) c1, wQ_eq, c2, prQ, prQ, Rat.mul_one]
    have p : sgI u [x] * sq x ≠ 0 := fun z => by
      rcases Rat.mul_eq_zero.mp z with z | z
      · exact sg [x] z
      · exact nz z
    grind
/-! ### folds -/
theorem mid_fold {m : Nat} (hm : m ≤ 4) {ss line other : List Rat} (h : isMid m (rowS ss) line = true) (L : List Int) : foldQ m (rowS ss) (vl m line) (vl m other) L = foldQ m (rowS ss) (vl m other) (vl m line) L := by
  rw [foldQ_sum, foldQ_sum, sumQ_comm]
  refine sumQ_congr fun v hv => sumQ_congr fun u hu => ?_
  unfold isMid at h
  have hu' := List.all_eq_true.mp h u hu
  unfold pQ
  rw [part_comm u (lots_4m hm u hu) v (lots_4m hm v hv)]
  split
  · by_cases z : vl m line u = 0
    · rw [z]; grind
    · rw [decide_eq_false z, Bool.false_or] at hu'
      rw [mid_w hm hu hv hu', Rat.mul_comm (vl m line u)]
  · rfl
theorem ax_vl {m : Nat} (hm : m ≤ 4) {x : Int} (hx : x ∈ upto m) : ∀ v ∈ lots m, vl m (axQ m x) v = if v = [x] then 1 else 0 := fun v hv => by
  unfold axQ
  rw [vl_map hv]
  unfold arrQ
  by_cases h : v.length = 1
  · obtain ⟨y, rfl⟩ := List.length_eq_one_iff.mp h
    have hy := (lots_small hm _ hv).2 y List.mem_cons_self
    obtain ⟨i, rfl, hi⟩ := upto_nat hy
    rw [if_pos h]
    show rowS (unitQ m x) (i : Int) = _
    unfold rowS unitQ
    rw [Int.toNat_natCast, List.getD_eq_getElem?_getD, List.getElem?_map]
    have g : (upto m)[i]? = some (i : Int) := by
      unfold upto
      rw [List.getElem?_map, List.getElem?_range hi]; rfl
    rw [g]
    show (if (i : Int) = x then (1 : Rat) else 0) = _
    by_cases e : (i : Int) = x
    · rw [if_pos e, if_pos (by rw [e])]
    · rw [if_neg e, if_neg (fun z => e (List.cons.inj z).1)]
  · rw [if_neg h, if_neg (fun z => h (by rw [z]; rfl))]
theorem at_ax {m : Nat} (hm : m ≤ 4) {sq : Int → Rat} {line : List Rat} {x : Int} (hx : x ∈ upto m) {u : List Int} (hu : u ∈ lots m) :
    foldQ m sq (vl m line) (vl m (axQ m x)) (partI u [x]) = vl m line u * wQ sq u [x] ∧ foldQ m sq (vl m (axQ m x)) (vl m line) (partI u [x]) = vl m line u * wQ sq [x] u := by
  have nd := lots_nodup hm
  have h1 := one_lot hm x hx
  have u4 := lots_4m hm u hu
  have x4 := upto_4m hm x hx
  have ax := ax_vl hm hx
  constructor
  · rw [foldQ_sum, sumQ_one nd hu (fun w hw ne => ?_), sumQ_one nd h1 (fun v hv ne => ?_)]
    · unfold pQ
      rw [if_pos rfl, ax _ h1, if_pos rfl, Rat.mul_one]
    · unfold pQ
      rw [ax v hv, if_neg ne]
      split <;> grind
    · refine sumQ_zero fun v hv => ?_
      unfold pQ
      rw [ax v hv]
      by_cases e : v = [x]
      · subst e
        rw [if_neg (fun z => ne (part_inj u u4 w (lots_4m hm w hw) x x4 z).symm)]
      · rw [if_neg e]
        split <;> grind
  · rw [foldQ_sum, sumQ_one nd h1 (fun v hv ne => ?_), sumQ_one nd hu (fun w hw ne => ?_)]
    · unfold pQ
      rw [if_pos (part_comm u u4 [x] (lots_4m hm _ h1)).symm, ax _ h1, if_pos rfl, Rat.one_mul]
    · unfold pQ
      rw [part_comm w (lots_4m hm w hw) [x] (lots_4m hm _ h1), if_neg (fun z => ne (part_inj u u4 w (lots_4m hm w hw) x x4 z).symm)]
    · refine sumQ_zero fun w hw => ?_
      unfold pQ
      rw [ax v hv, if_neg ne]
      split <;> grind
theorem alike_mid {m : Nat} (hm : m ≤ 4) {ss line : List Rat} : alikeB m ss line = isMid m (rowS ss) line := by
  cases h : isMid m (rowS ss) line with
  | true =>
    unfold alikeB
    rw [List.all_eq_true]
    intro x _
    refine decide_eq_true ?_
    unfold sideA sideB
    apply List.map_congr_left
    intro L _
    exact mid_fold hm h L
  | false =>
    unfold isMid at h
    rw [List.all_eq_false] at h
    obtain ⟨u, hu, h⟩ := h
    have h2 : vl m line u ≠ 0 ∧ midB m (rowS ss) u = false := by
      constructor
      · intro z
        rw [decide_eq_true z] at h
        exact h rfl
      · cases z : midB m (rowS ss) u with
        | false => rfl
        | true => rw [z, Bool.or_true] at h; exact absurd rfl h
    obtain ⟨x, hx, ne⟩ := not_mid hm hu h2.2
    unfold alikeB
    rw [List.all_eq_false]
    refine ⟨x, hx, fun z => ?_⟩
    have z := of_decide_eq_true z
    have hL := lots_part hm u hu [x] (one_lot hm x hx)
    have e : vl m (sideA m ss line x) (partI u [x]) = vl m (sideB m ss line x) (partI u [x]) := by rw [z]
    unfold sideA sideB at e
    rw [vl_map hL, vl_map hL, (at_ax hm hx hu).1, (at_ax hm hx hu).2] at e
    have e2 : vl m line u * (wQ (rowS ss) u [x] - wQ (rowS ss) [x] u) = 0 := by grind
    rcases Rat.mul_eq_zero.mp e2 with e2 | e2
    · exact h2.1 e2
    · exact ne (by grind)
/-- what has one 1 -/
theorem unit_mid {m : Nat} (hm : m ≤ 4) {ss : List Rat} {j : Nat} {l : List Int} (hj : (lots m)[j]? = some l) : alikeB m ss (unitQ (2 ^ m) j) = midB m (rowS ss) l := by
  rw [alike_mid hm]
  have hl := List.mem_of_getElem? hj
  have jl : j < (lots m).length := by
    rcases Nat.lt_or_ge j (lots m).length with h | h
    · exact h
    · rw [List.getElem?_eq_none h] at hj; cases hj
  have v : ∀ w ∈ lots m, vl m (unitQ (2 ^ m) j) w = if w = l then 1 else 0 := fun w hw => by
    have iw : (lots m).idxOf w < (lots m).length := List.idxOf_lt_length_of_mem hw
    unfold vl unitQ
    rw [List.getD_eq_getElem?_getD, List.getElem?_map]
    have g : (upto (2 ^ m))[(lots m).idxOf w]? = some (((lots m).idxOf w : Nat) : Int) := by
      unfold upto
      rw [List.getElem?_map, List.getElem?_range (by rw [← lots_len hm]; exact iw)]; rfl
    rw [g]
    show (if (((lots m).idxOf w : Nat) : Int) = (j : Int) then (1 : Rat) else 0) = _
    have gw : (lots m)[(lots m).idxOf w]? = some w := by
      rw [List.getElem?_eq_getElem iw, List.getElem_idxOf iw]
    by_cases e : w = l
    · rw [if_pos e, if_pos]
      have : (lots m).idxOf w = j := (List.getElem?_inj iw (lots_nodup hm)).mp (by rw [gw, hj, e])
      rw [this]
    · rw [if_neg e, if_neg]
      intro z
      have : (lots m).idxOf w = j := by exact_mod_cast z
      rw [this, hj] at gw
      exact e (Option.some.inj gw).symm
  unfold isMid
  cases h : midB m (rowS ss) l with
  | true =>
    rw [List.all_eq_true]
    intro w hw
    rw [v w hw]
    by_cases e : w = l
    · rw [e, h, Bool.or_true]
    · rw [if_neg e, decide_eq_true rfl, Bool.true_or]
  | false =>
    rw [List.all_eq_false]
    refine ⟨l, hl, ?_⟩
    rw [v l hl, if_pos rfl, h]
    decide
end Mx

set_option Elab.async false
set_option linter.all false
set_option maxRecDepth 100000
set_option maxHeartbeats 1000000
/-! Pb, part H: lots in lists, tables compared. -/
namespace Mx
open PySem
/-! ### data that can be laid -/
structure Lay (k : Nat) (p : PyData) : Prop where
  can : PyData.canLay0 p = true
  deep : p.depth ≤ k
structure LayAll (k : Nat) (ps : List PyData) : Prop where
  can : PyData.canLayAll0 ps = true
  deep : PyData.depthAll ps ≤ k
theorem Lay.shaped {k : Nat} {p : PyData} (h : Lay k p) (hk : k ≤ 64) : SeqAt.shaped p = true := by
  unfold SeqAt.shaped
  rw [h.can, decide_eq_true (Nat.le_trans h.deep hk)]; rfl
theorem Lay.le {k j : Nat} {p : PyData} (h : Lay k p) (l : k ≤ j) : Lay j p := ⟨h.can, Nat.le_trans h.deep l⟩
theorem lay_int {k : Nat} (i : Int) : Lay k (.int i) := ⟨by rw [PyData.canLay0], by rw [PyData.depth]; omega⟩
theorem lay_bool {k : Nat} (i : Bool) : Lay k (.bool i) := ⟨by rw [PyData.canLay0], by rw [PyData.depth]; omega⟩
theorem lay_table {k : Nat} : Lay k (.str (Str.ofString "table")) := ⟨by rw [PyData.canLay0]; decide +kernel, by rw [PyData.depth]; omega⟩
theorem layAll_nil {k : Nat} : LayAll k [] := ⟨by rw [PyData.canLayAll0], by rw [PyData.depthAll]; omega⟩
theorem layAll_cons {k : Nat} {p : PyData} {ps : List PyData} (h : Lay k p) (t : LayAll k ps) : LayAll k (p :: ps) := by
  refine ⟨?_, ?_⟩
  · rw [PyData.canLayAll0, h.can, t.can]; rfl
  · rw [PyData.depthAll]
    have := h.deep
    have := t.deep
    omega
theorem layAll_map {α : Type} {k : Nat} {f : α → PyData} : ∀ {xs : List α}, (∀ x ∈ xs, Lay k (f x)) → LayAll k (xs.map f)
  | [], _ => layAll_nil
  | x :: xs, h => layAll_cons (h x List.mem_cons_self) (layAll_map fun y hy => h y (List.mem_cons_of_mem _ hy))
theorem lay_tup {k : Nat} {ps : List PyData} (h : LayAll k ps) : Lay (k + 1) (.tuple ps) := by
  refine ⟨?_, ?_⟩
  · have e : PyData.canLay0 (.tuple ps) = PyData.canLayAll0 ps := by simp only [PyData.canLay0]
    rw [e, h.can]
  · rw [PyData.depth]
    have := h.deep
    omega
theorem lay_lst {k : Nat} {ps : List PyData} (h : LayAll k ps) : Lay (k + 1) (.list ps) := by
  refine ⟨?_, ?_⟩
  · have e : PyData.canLay0 (.list ps) = PyData.canLayAll0 ps := by simp only [PyData.canLay0]
    rw [e, h.can]
  · rw [PyData.depth]
    have := h.deep
    omega
theorem lay_Q (q : Rat) : Lay 1 (pyQ q) := lay_tup (layAll_cons (lay_int _) (layAll_cons (lay_int _) layAll_nil))
theorem lay_Qs (qs : List Rat) : Lay 2 (pyQs qs) := lay_tup (layAll_map fun q _ => lay_Q q)
theorem lay_T (qs : List Rat) : Lay 3 (pyT qs) := lay_tup (layAll_cons lay_table (layAll_cons (lay_Qs qs) layAll_nil))
/-! ### lots -/
def pyL (l : List Int) : PyData := .tuple (l.map .int)
theorem tellAll_map {α : Type} {k : Nat} {f : α → D} {g : α → PyData} : ∀ {xs : List α}, (∀ x ∈ xs, Tells k (f x) (g x)) → TellAll k (xs.map f) (xs.map g)
  | [], _ => .nil
  | x :: xs, h => .cons (h x List.mem_cons_self) (tellAll_map fun y hy => h y (List.mem_cons_of_mem _ hy))
theorem tells_L {l : List Int} (h : l.length ≤ 16777216) : Tells 1 (eL l) (pyL l) := tells_tup (tellAll_map fun i _ => tells_int i) (by rw [List.length_map]; exact h)
theorem tellAll_L {ls : List (List Int)} (h : ∀ l ∈ ls, l.length ≤ 16777216) : TellAll 1 (ls.map eL) (ls.map pyL) := tellAll_map fun l hl => tells_L (h l hl)
theorem lay_L (l : List Int) : Lay 1 (pyL l) := lay_tup (layAll_map fun i _ => lay_int i)
theorem eqvAll_ints : ∀ a b : List Int, PyData.eqvAll (a.map .int) (b.map .int) = decide (a = b)
  | [], [] => rfl
  | [], _ :: _ => rfl
  | _ :: _, [] => rfl
  | x :: a, y :: b => by
    rw [List.map_cons, List.map_cons, PyData.eqvAll, eqvAll_ints a b]
    by_cases h : x = y
    · by_cases h2 : a = b
      · simp [PyData.eqv, h, h2]
      · simp [PyData.eqv, h, h2]
    · simp [PyData.eqv, h]
theorem eqv_L (a b : List Int) : PyData.eqv (pyL a) (pyL b) = decide (a = b) := by
  have e : PyData.eqv (pyL a) (pyL b) = PyData.eqvAll (a.map .int) (b.map .int) := by
    unfold pyL
    rw [PyData.eqv]
  rw [e, eqvAll_ints]
section
variable {ro rw : MH} {C : Calls}
theorem isin_L {l : List Int} {ls : List (List Int)} (h : ∀ a ∈ ls, a.length ≤ 100) (hl : l.length ≤ 100) : cmpop ro rw .isin (eL l) (.lst (ls.map eL)) = some (decide (l ∈ ls)) := by
  have e : inPy (pyL l) (.list (ls.map pyL)) = some (decide (l ∈ ls)) := by
    unfold inPy
    have s2 : SeqAt.shaped (.list (ls.map pyL)) = true := (lay_lst (layAll_map fun a _ => lay_L a)).shaped (by decide)
    simp only [(lay_L l).shaped (by decide), s2, Bool.and_self, if_true]
    congr 1
    rw [List.any_map]
    clear s2 h
    induction ls with
    | nil => rfl
    | cons a ls ih =>
      rw [List.any_cons, ih]
      show (PyData.eqv (pyL a) (pyL l) || decide (l ∈ ls)) = decide (l ∈ a :: ls)
      rw [eqv_L]
      by_cases e : a = l
      · subst e; simp
      · have : ¬ l = a := fun z => e z.symm
        simp [e, this]
  show (match toPy ro rw deep (eL l), toPy ro rw deep (.lst (ls.map eL)) with
    | some d, some e => inPy d e
    | _, _ => none) = _
  rw [(tells_L (by omega)).py ro rw deep (by decide)]
  have t2 : toPy ro rw deep (.lst (ls.map eL)) = some (.list (ls.map pyL)) := by
    unfold deep toPy
    rw [(tellAll_L fun a ha => Nat.le_trans (h a ha) (by decide)).py ro rw (by decide)]; rfl
  rw [t2]
  exact e
theorem notin_L {l : List Int} {ls : List (List Int)} (h : ∀ a ∈ ls, a.length ≤ 100) (hl : l.length ≤ 100) : cmpop ro rw .notin (eL l) (.lst (ls.map eL)) = some (!decide (l ∈ ls)) := by
  have e := isin_L (ro := ro) (rw := rw) h hl
  show (isinD ro rw (eL l) (.lst (ls.map eL))).map (!·) = _
  rw [show isinD ro rw (eL l) (.lst (ls.map eL)) = some (decide (l ∈ ls)) from e]; rfl
theorem fine_L {l : List Int} (h : ∀ i ∈ l, i.natAbs < 100) (hl : l.length ≤ 4) : Fine 1 8000 (pyL l) := by
  have g : ∀ l : List Int, (∀ i ∈ l, i.natAbs < 100) → FineAll 0 (l.length * 1923) (l.map PyData.int) := fun l => by
    induction l with
    | nil => intro _; rw [List.length_nil, Nat.zero_mul]; exact fineAll_nil
    | cons i l ih =>
      intro h
      refine (fineAll_cons (fine_int (k := 0) (Nat.lt_of_lt_of_le (log_lt (n := i.natAbs) (show i.natAbs < 2 ^ 7 from by have := h i List.mem_cons_self; omega) (by decide)) (by decide))) (ih fun j hj => h j (List.mem_cons_of_mem _ hj))).le (Nat.le_refl _) (by rw [List.length_cons, Nat.succ_mul]; omega)
  exact (fine_tup (g l h)).le (Nat.le_refl _) (by omega)
theorem fineAll_map {α : Type} {k w : Nat} {f : α → PyData} : ∀ {xs : List α}, (∀ x ∈ xs, Fine k w (f x)) → FineAll k (xs.length * (w + 2)) (xs.map f)
  | [], _ => by rw [List.length_nil, Nat.zero_mul]; exact fineAll_nil
  | x :: xs, h => (fineAll_cons (h x List.mem_cons_self) (fineAll_map fun y hy => h y (List.mem_cons_of_mem _ hy))).le (Nat.le_refl _) (by rw [List.length_cons, Nat.succ_mul]; omega)
theorem lot_small {m : Nat} (hm : m ≤ 4) {l : List Int} (hl : l ∈ lots m) : Fine 1 8000 (pyL l) := fine_L (fun i hi => by
  obtain ⟨j, rfl, hj⟩ := upto_nat ((lots_small hm l hl).2 i hi)
  rw [Int.natAbs_natCast]
  omega) (lots_small hm l hl).1
theorem tells_lots {b : Bool} {m : Nat} (hm : m ≤ 4) {ls : List (List Int)} (h : ∀ l ∈ ls, l ∈ lots m) (hl : ls.length ≤ 16) : Tells 2 (.tup b (ls.map eL)) (.tuple (ls.map pyL)) := tells_tup (tellAll_L fun l hl => by have := (lots_small hm l (h l hl)).1; omega) (by rw [List.length_map]; omega)
theorem fine_lots {m : Nat} (hm : m ≤ 4) {ls : List (List Int)} (h : ∀ l ∈ ls, l ∈ lots m) (hl : ls.length ≤ 16) : Fine 2 200000 (.tuple (ls.map pyL)) := (fine_tup (fineAll_map fun l hl => lot_small hm (h l hl))).le (Nat.le_refl _) (by omega)
/-! ### a loop over two items -/
theorem loop_nx {f : D → Sig → M Fl} {d : D} {ds : List D} {σ σ' : Sig} {rw' : MH} (h : f d σ rw = .ok (.nx σ') rw') : loopL (turnF f) (d :: ds) (.nx σ) rw = loopL (turnF f) ds (.nx σ') rw' := by
  conv => lhs; unfold loopL
  rw [bindM (show turnF f d (.nx σ) rw = .ok (.nx σ') rw' from by
    show M.bind (f d σ) _ rw = _
    rw [bindM h]; rfl)]
theorem loop_two {g : MG} {it : MT} {b : List MS} {d1 d2 : D} {σ σ1 σ1' σ2 σ2' : Sig} {rw0 rw1 rw2 : MH} (hs : evT C ro it σ rw0 = .ok [d1, d2] rw) (a1 : asG g d1 σ = some σ1) (h1 : exSs C ro b σ1 rw = .ok (.nx σ1') rw1) (a2 : asG g d2 σ1' = some σ2) (h2 : exSs C ro b σ2 rw1 = .ok (.nx σ2') rw2) : exS C ro (.loop g it b) σ rw0 = .ok (.nx σ2') rw2 := by
  have e1 : (fun (d : D) σ => M.bind (M.lift (asG g d σ)) fun σ' => exSs C ro b σ') d1 σ rw = .ok (.nx σ1') rw1 := by
    show M.bind (M.lift (asG g d1 σ)) _ rw = _
    rw [bindM (show M.lift (asG g d1 σ) rw = .ok σ1 rw by rw [a1]; rfl)]
    exact h1
  have e2 : (fun (d : D) σ => M.bind (M.lift (asG g d σ)) fun σ' => exSs C ro b σ') d2 σ1' rw1 = .ok (.nx σ2') rw2 := by
    show M.bind (M.lift (asG g d2 σ1')) _ rw1 = _
    rw [bindM (show M.lift (asG g d2 σ1') rw1 = .ok σ2 rw1 by rw [a2]; rfl)]
    exact h2
  have two : loopL (turnF fun (d : D) σ => M.bind (M.lift (asG g d σ)) fun σ' => exSs C ro b σ') [d1, d2] (.nx σ) rw = .ok (.nx σ2') rw2 := by
    rw [loop_nx e1, loop_nx e2]; rfl
  unfold exS
  exact (bindM hs).trans ((bindM two).trans rfl)
/-- statements behind statements -/
theorem ex_app : ∀ {as bs : List MS} {σ σ' : Sig} {rw rw' : MH}, exSs C ro as σ rw = .ok (.nx σ') rw' → exSs C ro (as ++ bs) σ rw = exSs C ro bs σ' rw'
  | [], bs, σ, σ', rw, rw', h => by
    unfold exSs at h
    cases h
    rfl
  | a :: as, bs, σ, σ', rw, rw', h => by
    cases ha : exS C ro a σ rw with
    | ok fl rw1 =>
      cases fl with
      | nx σ1 =>
        rw [List.cons_append, ex_nx ha]
        rw [ex_nx ha] at h
        exact ex_app h
      | ct σ1 => rw [ex_ct ha] at h; cases h
      | rt d => rw [ex_rt ha] at h; cases h
      | _ =>
        unfold exSs at h
        rw [bindM ha] at h
        cases h
    | _ =>
      unfold exSs at h
      simp only [M.bind, ha] at h
      cases h
/-! ### tables -/
theorem eqT_same {m : Nat} (hm : m ≤ 4) {qs : List Rat} {d e : D} (hd : IsTab m qs d) (he : IsTab m qs e) : eqD ro rw d e = some true := by
  rw [eqD_of ((tells_tab hm hd).py ro rw deep (by decide)) ((tells_tab hm he).py ro rw deep (by decide)) ((lay_T qs).shaped (by decide)) ((lay_T qs).shaped (by decide)), eqv_refl ((lay_T qs).shaped (by decide))]
theorem eqB {a b : Bool} : eqD ro rw (.bl a) (.bl b) = some (decide (a = b)) := by
  cases a <;> cases b <;> rfl
end
end Mx

set_option Elab.async false
set_option linter.all false
set_option maxRecDepth 100000
set_option maxHeartbeats 0
/-! LwA: the readings of the defs, the plan (printed by tools/genlw.py k56). -/
namespace Lw
open PySem PySem.Spec PyProof.Rows L2 Mx
def f_law : MF := ⟨1, 17, false, [.set 1 (.call "_law_begun" [.nm 0] [] [0]), .unp (.tup [.nm 4, .nm 5]) (.tup [.tup [.cst (.int 1), .cst (.int 1)], .tup [.cst (.int 0), .cst (.int 1)]]), .set 2 (.lst false [.call "middle_lots" [.tup []] [] [0], .call "middle_lots" [.tup [.nm 4, .nm 4]] [] [0], .call "middle_lots" [.tup [.nm 4, .nm 4, .nm 4]] [] [0], .call "middle_lots" [.tup [.nm 5, .nm 5, .nm 4]] [] [0], .call "middle_lots" [.tup [.nm 5, .nm 5]] [] [0]]), .ite (.not (.call "_law_is" [.nm 2, .lst false [.tup [.tup []], .tup [.tup []], .tup [.tup [], .tup [.cst (.int 0), .cst (.int 1), .cst (.int 2)]], .tup [.tup [], .tup [.cst (.int 0), .cst (.int 1)], .tup [.cst (.int 0), .cst (.int 1), .cst (.int 2)]], .tup [.tup [], .tup [.cst (.int 0), .cst (.int 1)]]]] [] [0, 1])) [.ret (some (.cst (.bl false)))] [], .loop (.nm 3) (.rng1 (.bin .add (.cst (.int 5)) (.blt false .min2 [.blt false .len [.nm 0], .cst (.int 7)]))) [.set 6 (.call "_law_draw" [.nm 1, .cst (.int 5)] [] [0, 1]), .set 7 (.blt false .tuple [.comp false (.call "_law_pick" [.nm 1, .lst false [.tup [.cst (.int 0), .cst (.int 1)], .tup [.cst (.int 0), .cst (.int 1)], .tup [.cst (.int 1), .cst (.int 1)], .tup [.neg (.cst (.int 2)), .cst (.int 1)]]] [] [0, 1]) [14] (.nm 14) (.rng1 (.nm 6)) none]), .set 8 (.call "_law_places" [.nm 6] [] [0]), .set 9 (.comp false (.nm 15) [15, 11] (.tup [.nm 15, .nm 11]) (.zip2 (.nm 8) (.call "_law_ones" [.nm 6] [] [0])) (some (.call "_law_folds_alike" [.nm 7, .nm 11] [] [0, 1]))), .ite (.not (.call "_law_is" [.call "middle_lots" [.nm 7] [] [0], .blt false .tuple [.nm 9]] [] [0, 1])) [.ret (some (.cst (.bl false)))] [], .set 10 (.call "_law_some_line" [.nm 1, .nm 6] [] [0, 1]), .loop (.nm 11) (.seq (.lst false [.nm 10, .blt false .tuple [.comp false (.ite (.cmp .isin (.nm 15) (.nm 9)) (.nm 16) (.tup [.cst (.int 0), .cst (.int 1)])) [15, 16] (.tup [.nm 15, .nm 16]) (.zip2 (.nm 8) (.nm 10)) none]])) [.set 12 (.call "_law_folds_alike" [.nm 7, .nm 11] [] [0, 1]), .ite (.or [.not (.call "_law_is" [.call "is_middle" [.nm 7, .tup [.cst (.str "table"), .nm 11]] [] [0, 1], .nm 12] [] [0, 1]), .cmp .ne (.nm 12) (.cmp .eq (.comp false (.cst (.int 1)) [15, 16] (.tup [.nm 15, .nm 16]) (.zip2 (.nm 8) (.nm 11)) (some (.and [.cmp .ne (.sub (.nm 16) (.cst (.int 0))) (.cst (.int 0)), .cmp .notin (.nm 15) (.nm 9)]))) (.lst false []))]) [.ret (some (.cst (.bl false)))] [], .set 13 (.tup [.cst (.str "table"), .call "_law_some_line" [.nm 1, .nm 6] [] [0, 1]]), .ite (.and [.nm 12, .cmp .ne (.call "fold_tables" [.nm 7, .tup [.cst (.str "table"), .nm 11], .nm 13] [] [0, 1, 2]) (.call "fold_tables" [.nm 7, .nm 13, .tup [.cst (.str "table"), .nm 11]] [] [0, 1, 2])]) [.ret (some (.cst (.bl false)))] []]], .ret (some (.cst (.bl true)))]⟩
def fn0 : List (Str × Shp) := [("number", Shp.mk 2 [] [.int 1] [0, 1]),
  ("need_many", Shp.mk 1 [] [] [0]),
  ("made", Shp.mk 1 [] [] [0]),
  ("need_squares_tables2", Shp.mk 1 [] [] [0]),
  ("need_table_tables2", Shp.mk 2 [] [] [0, 1]),
  ("fold_of", Shp.mk 3 [] [] [0, 1, 2]),
  ("need_squares_inverse3", Shp.mk 1 [] [] [0]),
  ("need_table_inverse3", Shp.mk 2 [] [] [0, 1]),
  ("_law_no", Shp.mk 2 [] [] [0, 1]),
  ("_law_lots", Shp.mk 1 [] [] [0]),
  ("_law_places", Shp.mk 1 [] [] [0]),
  ("_law_wide", Shp.mk 1 [] [] [0])]
def fn1 : List (Str × Shp) := [("_law_axes_rows", Shp.mk 1 [] [] [0]),
  ("_law_begun", Shp.mk 1 [] [] [0]),
  ("is_whole", Shp.mk 1 [] [] [0]),
  ("is_below", Shp.mk 2 [] [] [0, 1]),
  ("is_any_table", Shp.mk 1 [] [] [0]),
  ("is_table", Shp.mk 2 [] [] [0, 1]),
  ("minus", Shp.mk 1 [] [] [0]),
  ("lines", Shp.mk 1 [] [] [0]),
  ("lots_of", Shp.mk 1 [] [] [0]),
  ("_law_draw", Shp.mk 2 [] [] [0, 1]),
  ("_law_plain", Shp.mk 1 [] [] [0]),
  ("_law_common", Shp.mk 2 [] [] [0, 1])]
def fn2 : List (Str × Shp) := [("_law_pick", Shp.mk 2 [] [] [0, 1]),
  ("_law_arrow_line", Shp.mk 1 [] [] [0]),
  ("middle_lots", Shp.mk 1 [] [] [0]),
  ("middle_lots", Shp.mk 0 ["squares"] [] [0]),
  ("_law_is", Shp.mk 2 [] [] [0, 1]),
  ("_law_some_line", Shp.mk 2 [] [] [0, 1]),
  ("is_number", Shp.mk 1 [] [] [0]),
  ("count_of", Shp.mk 1 [] [] [0]),
  ("times", Shp.mk 2 [] [] [0, 1]),
  ("_law_mixed", Shp.mk 1 [] [] [0]),
  ("_law_folded", Shp.mk 3 [] [] [0, 1, 2]),
  ("_law_folds_alike", Shp.mk 2 [] [] [0, 1])]
def fn3 : List (Str × Shp) := [("swaps_of", Shp.mk 2 [] [] [0, 1]),
  ("parted", Shp.mk 2 [] [] [0, 1]),
  ("plus", Shp.mk 2 [] [] [0, 1]),
  ("is_middle_lot", Shp.mk 2 [] [] [0, 1]),
  ("_law_some_number", Shp.mk 2 [] [] [0, 1]),
  ("worth", Shp.mk 3 [] [] [0, 1, 2]),
  ("_law_times", Shp.mk 2 [] [] [0, 1]),
  ("_law_merged", Shp.mk 2 [] [] [0, 1]),
  ("_law_plus", Shp.mk 2 [] [] [0, 1]),
  ("_law_ones", Shp.mk 1 [] [] [0]),
  ("fold_tables", Shp.mk 3 [] [] [0, 1, 2]),
  ("is_middle", Shp.mk 1 ["table"] [] [0, 1])]
def fn4 : List (Str × Shp) := [("_law_sign", Shp.mk 2 [] [] [0, 1])]
def fnAll : List (Str × Shp) := fn0 ++ (fn1 ++ (fn2 ++ (fn3 ++ (fn4))))
def gl : Glob := { cst := cstL, fn := fnAll, mu := [(74, 12), (116, 12), (117, 11), (173, 12)], dk := [(74, 34), (75, 17), (76, 22), (81, 39)], gcd := true, lam := true }
def tab0 : List (Str × MF) := [("is_whole", f_is_whole), ("is_below", f_is_below), ("lots_of", f_lots_of), ("parted", f_parted), ("swaps_of", f_swaps_of), ("number", f_number), ("is_number", f_is_number), ("plus", f_plus), ("minus", f_minus), ("times", f_times), ("need_many", f_need_many), ("is_any_table", f_is_any_table)]
def tab1 : List (Str × MF) := [("count_of", f_count_of), ("is_table", f_is_table), ("need_table_tables2", f_need_table_tables2), ("made", f_made), ("lines", f_lines), ("worth", f_worth), ("fold_of", f_fold_of), ("need_squares_tables2", f_need_squares_tables2), ("fold_tables", f_fold_tables_k56), ("need_squares_inverse3", f_need_squares_inverse3), ("need_table_inverse3", f_need_table_inverse3), ("is_middle_lot", f_is_middle_lot)]
def tab2 : List (Str × MF) := [("middle_lots", f_middle_lots), ("is_middle", f_is_middle), ("_law_begun", f__law_begun), ("_law_mixed", f__law_mixed), ("_law_draw", f__law_draw), ("_law_pick", f__law_pick), ("_law_plain", f__law_plain), ("_law_is", f__law_is), ("_law_common", f__law_common), ("_law_no", f__law_no), ("_law_plus", f__law_plus), ("_law_times", f__law_times)]
def tab3 : List (Str × MF) := [("_law_some_number", f__law_some_number), ("_law_lots", f__law_lots), ("_law_merged", f__law_merged), ("_law_sign", f__law_sign), ("_law_places", f__law_places), ("_law_wide", f__law_wide), ("_law_folded", f__law_folded), ("_law_ones", f__law_ones), ("_law_some_line", f__law_some_line), ("_law_arrow_line", f__law_arrow_line), ("_law_axes_rows", f__law_axes_rows), ("_law_folds_alike", f__law_folds_alike)]
def tab4 : List (Str × MF) := [("law", f_law)]
def tabL : List (Str × MF) := tab0 ++ (tab1 ++ (tab2 ++ (tab3 ++ (tab4))))
def tab : Tab := fun x => (tabL.find? fun p => decide (p.1 = x)).map (·.2)
theorem dc_is_whole : DefC gl tab 14 d_is_whole ["thing"] ["thing"] f_is_whole := ⟨by kernel_rfl, ⟨rfl, rfl, rfl, by decide +kernel, rfl, by decide +kernel, by decide +kernel⟩, rfl, by kernel_rfl, rfl⟩
theorem in_is_whole : d_is_whole ∈ ask.defs := List.mem_of_getElem? (i := 0) (by kernel_rfl)
theorem dc_is_below : DefC gl tab 14 d_is_below ["thing", "many"] ["thing", "many"] f_is_below := ⟨by kernel_rfl, ⟨rfl, rfl, rfl, by decide +kernel, rfl, by decide +kernel, by decide +kernel⟩, rfl, by kernel_rfl, rfl⟩
theorem in_is_below : d_is_below ∈ ask.defs := List.mem_of_getElem? (i := 1) (by kernel_rfl)
theorem dc_lots_of : DefC gl tab 14 d_lots_of ["some", "found", "one", "lot"] ["some"] f_lots_of := ⟨by kernel_rfl, ⟨rfl, rfl, rfl, by decide +kernel, rfl, by decide +kernel, by decide +kernel⟩, rfl, by kernel_rfl, rfl⟩
theorem in_lots_of : d_lots_of ∈ ask.defs := List.mem_of_getElem? (i := 2) (by kernel_rfl)
theorem dc_parted : DefC gl tab 14 d_parted ["one", "other", "here"] ["one", "other"] f_parted := ⟨by kernel_rfl, ⟨rfl, rfl, rfl, by decide +kernel, rfl, by decide +kernel, by decide +kernel⟩, rfl, by kernel_rfl, rfl⟩
theorem in_parted : d_parted ∈ ask.defs := List.mem_of_getElem? (i := 3) (by kernel_rfl)
theorem dc_swaps_of : DefC gl tab 14 d_swaps_of ["one", "other", "here", "there"] ["one", "other"] f_swaps_of := ⟨by kernel_rfl, ⟨rfl, rfl, rfl, by decide +kernel, rfl, by decide +kernel, by decide +kernel⟩, rfl, by kernel_rfl, rfl⟩
theorem in_swaps_of : d_swaps_of ∈ ask.defs := List.mem_of_getElem? (i := 4) (by kernel_rfl)
theorem dc_number : DefC gl tab 14 d_number ["upper", "lower", "by"] ["upper", "lower"] f_number := ⟨by kernel_rfl, ⟨rfl, rfl, rfl, by decide +kernel, rfl, by decide +kernel, by decide +kernel⟩, rfl, by kernel_rfl, rfl⟩
theorem in_number : d_number ∈ ask.defs := List.mem_of_getElem? (i := 5) (by kernel_rfl)
theorem dc_is_number : DefC gl tab 14 d_is_number ["thing", "one"] ["thing"] f_is_number := ⟨by kernel_rfl, ⟨rfl, rfl, rfl, by decide +kernel, rfl, by decide +kernel, by decide +kernel⟩, rfl, by kernel_rfl, rfl⟩
theorem in_is_number : d_is_number ∈ ask.defs := List.mem_of_getElem? (i := 6) (by kernel_rfl)
theorem dc_plus : DefC gl tab 14 d_plus ["one", "other"] ["one", "other"] f_plus := ⟨by kernel_rfl, ⟨rfl, rfl, rfl, by decide +kernel, rfl, by decide +kernel, by decide +kernel⟩, rfl, by kernel_rfl, rfl⟩
theorem in_plus : d_plus ∈ ask.defs := List.mem_of_getElem? (i := 7) (by kernel_rfl)
theorem dc_minus : DefC gl tab 14 d_minus ["one"] ["one"] f_minus := ⟨by kernel_rfl, ⟨rfl, rfl, rfl, by decide +kernel, rfl, by decide +kernel, by decide +kernel⟩, rfl, by kernel_rfl, rfl⟩
theorem in_minus : d_minus ∈ ask.defs := List.mem_of_getElem? (i := 8) (by kernel_rfl)
theorem dc_times : DefC gl tab 14 d_times ["one", "other"] ["one", "other"] f_times := ⟨by kernel_rfl, ⟨rfl, rfl, rfl, by decide +kernel, rfl, by decide +kernel, by decide +kernel⟩, rfl, by kernel_rfl, rfl⟩
theorem in_times : d_times ∈ ask.defs := List.mem_of_getElem? (i := 9) (by kernel_rfl)
theorem dc_need_many : DefC gl tab 14 d_need_many ["many"] ["many"] f_need_many := ⟨by kernel_rfl, ⟨rfl, rfl, rfl, by decide +kernel, rfl, by decide +kernel, by decide +kernel⟩, rfl, by kernel_rfl, rfl⟩
theorem in_need_many : d_need_many ∈ ask.defs := List.mem_of_getElem? (i := 10) (by kernel_rfl)
theorem dc_is_any_table : DefC gl tab 14 d_is_any_table ["thing", "one"] ["thing"] f_is_any_table := ⟨by kernel_rfl, ⟨rfl, rfl, rfl, by decide +kernel, rfl, by decide +kernel, by decide +kernel⟩, rfl, by kernel_rfl, rfl⟩
theorem in_is_any_table : d_is_any_table ∈ ask.defs := List.mem_of_getElem? (i := 11) (by kernel_rfl)
theorem dc_count_of : DefC gl tab 14 d_count_of ["table"] ["table"] f_count_of := ⟨by kernel_rfl, ⟨rfl, rfl, rfl, by decide +kernel, rfl, by decide +kernel, by decide +kernel⟩, rfl, by kernel_rfl, rfl⟩
theorem in_count_of : d_count_of ∈ ask.defs := List.mem_of_getElem? (i := 12) (by kernel_rfl)
theorem dc_is_table : DefC gl tab 14 d_is_table ["many", "thing"] ["many", "thing"] f_is_table := ⟨by kernel_rfl, ⟨rfl, rfl, rfl, by decide +kernel, rfl, by decide +kernel, by decide +kernel⟩, rfl, by kernel_rfl, rfl⟩
theorem in_is_table : d_is_table ∈ ask.defs := List.mem_of_getElem? (i := 13) (by kernel_rfl)
theorem dc_need_table_tables2 : DefC gl tab 14 d_need_table_tables2 ["many", "table"] ["many", "table"] f_need_table_tables2 := ⟨by kernel_rfl, ⟨rfl, rfl, rfl, by decide +kernel, rfl, by decide +kernel, by decide +kernel⟩, rfl, by kernel_rfl, rfl⟩
theorem in_need_table_tables2 : d_need_table_tables2 ∈ ask.defs := List.mem_of_getElem? (i := 14) (by kernel_rfl)
theorem dc_made : DefC gl tab 14 d_made ["numbers"] ["numbers"] f_made := ⟨by kernel_rfl, ⟨rfl, rfl, rfl, by decide +kernel, rfl, by decide +kernel, by decide +kernel⟩, rfl, by kernel_rfl, rfl⟩
theorem in_made : d_made ∈ ask.defs := List.mem_of_getElem? (i := 15) (by kernel_rfl)
theorem dc_lines : DefC gl tab 14 d_lines ["table"] ["table"] f_lines := ⟨by kernel_rfl, ⟨rfl, rfl, rfl, by decide +kernel, rfl, by decide +kernel, by decide +kernel⟩, rfl, by kernel_rfl, rfl⟩
theorem in_lines : d_lines ∈ ask.defs := List.mem_of_getElem? (i := 16) (by kernel_rfl)
theorem dc_worth : DefC gl tab 14 d_worth ["squares", "one", "other", "found", "place"] ["squares", "one", "other"] f_worth := ⟨by kernel_rfl, ⟨rfl, rfl, rfl, by decide +kernel, rfl, by decide +kernel, by decide +kernel⟩, rfl, by kernel_rfl, rfl⟩
theorem in_worth : d_worth ∈ ask.defs := List.mem_of_getElem? (i := 17) (by kernel_rfl)
theorem dc_fold_of : DefC gl tab 14 d_fold_of ["squares", "one", "other", "found", "first", "here", "there", "second", "lot", "by"] ["squares", "one", "other"] f_fold_of := ⟨by kernel_rfl, ⟨rfl, rfl, rfl, by decide +kernel, rfl, by decide +kernel, by decide +kernel⟩, rfl, by kernel_rfl, rfl⟩
theorem in_fold_of : d_fold_of ∈ ask.defs := List.mem_of_getElem? (i := 18) (by kernel_rfl)
theorem dc_need_squares_tables2 : DefC gl tab 14 d_need_squares_tables2 ["squares", "one"] ["squares"] f_need_squares_tables2 := ⟨by kernel_rfl, ⟨rfl, rfl, rfl, by decide +kernel, rfl, by decide +kernel, by decide +kernel⟩, rfl, by kernel_rfl, rfl⟩
theorem in_need_squares_tables2 : d_need_squares_tables2 ∈ ask.defs := List.mem_of_getElem? (i := 19) (by kernel_rfl)
theorem dc_fold_tables : DefC gl tab 14 d_fold_tables ["squares", "one", "other"] ["squares", "one", "other"] f_fold_tables_k56 := ⟨by kernel_rfl, ⟨rfl, rfl, rfl, by decide +kernel, rfl, by decide +kernel, by decide +kernel⟩, rfl, by kernel_rfl, rfl⟩
theorem in_fold_tables : d_fold_tables ∈ ask.defs := List.mem_of_getElem? (i := 20) (by kernel_rfl)
theorem dc_need_squares_inverse3 : DefC gl tab 14 d_need_squares_inverse3 ["squares", "one"] ["squares"] f_need_squares_inverse3 := ⟨by kernel_rfl, ⟨rfl, rfl, rfl, by decide +kernel, rfl, by decide +kernel, by decide +kernel⟩, rfl, by kernel_rfl, rfl⟩
theorem in_need_squares_inverse3 : d_need_squares_inverse3 ∈ ask.defs := List.mem_of_getElem? (i := 21) (by kernel_rfl)
theorem dc_need_table_inverse3 : DefC gl tab 14 d_need_table_inverse3 ["squares", "table"] ["squares", "table"] f_need_table_inverse3 := ⟨by kernel_rfl, ⟨rfl, rfl, rfl, by decide +kernel, rfl, by decide +kernel, by decide +kernel⟩, rfl, by kernel_rfl, rfl⟩
theorem in_need_table_inverse3 : d_need_table_inverse3 ∈ ask.defs := List.mem_of_getElem? (i := 22) (by kernel_rfl)
theorem dc_is_middle_lot : DefC gl tab 14 d_is_middle_lot ["squares", "lot", "place"] ["squares", "lot"] f_is_middle_lot := ⟨by kernel_rfl, ⟨rfl, rfl, rfl, by decide +kernel, rfl, by decide +kernel, by decide +kernel⟩, rfl, by kernel_rfl, rfl⟩
theorem in_is_middle_lot : d_is_middle_lot ∈ ask.defs := List.mem_of_getElem? (i := 23) (by kernel_rfl)
theorem dc_middle_lots : DefC gl tab 14 d_middle_lots ["squares", "lot"] ["squares"] f_middle_lots := ⟨by kernel_rfl, ⟨rfl, rfl, rfl, by decide +kernel, rfl, by decide +kernel, by decide +kernel⟩, rfl, by kernel_rfl, rfl⟩
theorem in_middle_lots : d_middle_lots ∈ ask.defs := List.mem_of_getElem? (i := 24) (by kernel_rfl)
theorem dc_is_middle : DefC gl tab 14 d_is_middle ["squares", "table", "pairs", "lot", "one"] ["squares", "table"] f_is_middle := ⟨by kernel_rfl, ⟨rfl, rfl, rfl, by decide +kernel, rfl, by decide +kernel, by decide +kernel⟩, rfl, by kernel_rfl, rfl⟩
theorem in_is_middle : d_is_middle ∈ ask.defs := List.mem_of_getElem? (i := 25) (by kernel_rfl)
theorem dc__law_begun : DefC gl tab 14 d__law_begun ["script", "great", "cell"] ["script"] f__law_begun := ⟨by kernel_rfl, ⟨rfl, rfl, rfl, by decide +kernel, rfl, by decide +kernel, by decide +kernel⟩, rfl, by kernel_rfl, rfl⟩
theorem in__law_begun : d__law_begun ∈ ask.defs := List.mem_of_getElem? (i := 26) (by kernel_rfl)
theorem dc__law_mixed : DefC gl tab 14 d__law_mixed ["state", "prime", "turn", "found", "blend", "cell"] ["state"] f__law_mixed := ⟨by kernel_rfl, ⟨rfl, rfl, rfl, by decide +kernel, rfl, by decide +kernel, by decide +kernel⟩, rfl, by kernel_rfl, rfl⟩
theorem in__law_mixed : d__law_mixed ∈ ask.defs := List.mem_of_getElem? (i := 27) (by kernel_rfl)
theorem dc__law_draw : DefC gl tab 14 d__law_draw ["state", "room", "found"] ["state", "room"] f__law_draw := ⟨by kernel_rfl, ⟨rfl, rfl, rfl, by decide +kernel, rfl, by decide +kernel, by decide +kernel⟩, rfl, by kernel_rfl, rfl⟩
theorem in__law_draw : d__law_draw ∈ ask.defs := List.mem_of_getElem? (i := 28) (by kernel_rfl)
theorem dc__law_pick : DefC gl tab 14 d__law_pick ["state", "some"] ["state", "some"] f__law_pick := ⟨by kernel_rfl, ⟨rfl, rfl, rfl, by decide +kernel, rfl, by decide +kernel, by decide +kernel⟩, rfl, by kernel_rfl, rfl⟩
theorem in__law_pick : d__law_pick ∈ ask.defs := List.mem_of_getElem? (i := 29) (by kernel_rfl)
theorem dc__law_plain : DefC gl tab 14 d__law_plain ["value", "one"] ["value"] f__law_plain := ⟨by kernel_rfl, ⟨rfl, rfl, rfl, by decide +kernel, rfl, by decide +kernel, by decide +kernel⟩, rfl, by kernel_rfl, rfl⟩
theorem in__law_plain : d__law_plain ∈ ask.defs := List.mem_of_getElem? (i := 30) (by kernel_rfl)
theorem dc__law_is : DefC gl tab 14 d__law_is ["found", "due"] ["found", "due"] f__law_is := ⟨by kernel_rfl, ⟨rfl, rfl, rfl, by decide +kernel, rfl, by decide +kernel, by decide +kernel⟩, rfl, by kernel_rfl, rfl⟩
theorem in__law_is : d__law_is ∈ ask.defs := List.mem_of_getElem? (i := 31) (by kernel_rfl)
theorem dc__law_common : DefC gl tab 14 d__law_common ["one", "other"] ["one", "other"] f__law_common := ⟨by kernel_rfl, ⟨rfl, rfl, rfl, by decide +kernel, rfl, by decide +kernel, by decide +kernel⟩, rfl, by kernel_rfl, rfl⟩
theorem in__law_common : d__law_common ∈ ask.defs := List.mem_of_getElem? (i := 32) (by kernel_rfl)
theorem dc__law_no : DefC gl tab 14 d__law_no ["upper", "lower", "by"] ["upper", "lower"] f__law_no := ⟨by kernel_rfl, ⟨rfl, rfl, rfl, by decide +kernel, rfl, by decide +kernel, by decide +kernel⟩, rfl, by kernel_rfl, rfl⟩
theorem in__law_no : d__law_no ∈ ask.defs := List.mem_of_getElem? (i := 33) (by kernel_rfl)
theorem dc__law_plus : DefC gl tab 14 d__law_plus ["one", "other"] ["one", "other"] f__law_plus := ⟨by kernel_rfl, ⟨rfl, rfl, rfl, by decide +kernel, rfl, by decide +kernel, by decide +kernel⟩, rfl, by kernel_rfl, rfl⟩
theorem in__law_plus : d__law_plus ∈ ask.defs := List.mem_of_getElem? (i := 34) (by kernel_rfl)
theorem dc__law_times : DefC gl tab 14 d__law_times ["one", "other"] ["one", "other"] f__law_times := ⟨by kernel_rfl, ⟨rfl, rfl, rfl, by decide +kernel, rfl, by decide +kernel, by decide +kernel⟩, rfl, by kernel_rfl, rfl⟩
theorem in__law_times : d__law_times ∈ ask.defs := List.mem_of_getElem? (i := 35) (by kernel_rfl)
theorem dc__law_some_number : DefC gl tab 14 d__law_some_number ["state", "wide", "upper"] ["state", "wide"] f__law_some_number := ⟨by kernel_rfl, ⟨rfl, rfl, rfl, by decide +kernel, rfl, by decide +kernel, by decide +kernel⟩, rfl, by kernel_rfl, rfl⟩
theorem in__law_some_number : d__law_some_number ∈ ask.defs := List.mem_of_getElem? (i := 36) (by kernel_rfl)
theorem dc__law_lots : DefC gl tab 14 d__law_lots ["names", "found", "name", "lot"] ["names"] f__law_lots := ⟨by kernel_rfl, ⟨rfl, rfl, rfl, by decide +kernel, rfl, by decide +kernel, by decide +kernel⟩, rfl, by kernel_rfl, rfl⟩
theorem in__law_lots : d__law_lots ∈ ask.defs := List.mem_of_getElem? (i := 37) (by kernel_rfl)
theorem dc__law_merged : DefC gl tab 14 d__law_merged ["one", "other", "name"] ["one", "other"] f__law_merged := ⟨by kernel_rfl, ⟨rfl, rfl, rfl, by decide +kernel, rfl, by decide +kernel, by decide +kernel⟩, rfl, by kernel_rfl, rfl⟩
theorem in__law_merged : d__law_merged ∈ ask.defs := List.mem_of_getElem? (i := 38) (by kernel_rfl)
theorem dc__law_sign : DefC gl tab 14 d__law_sign ["one", "other", "pairs", "own", "name"] ["one", "other"] f__law_sign := ⟨by kernel_rfl, ⟨rfl, rfl, rfl, by decide +kernel, rfl, by decide +kernel, by decide +kernel⟩, rfl, by kernel_rfl, rfl⟩
theorem in__law_sign : d__law_sign ∈ ask.defs := List.mem_of_getElem? (i := 39) (by kernel_rfl)
theorem dc__law_places : DefC gl tab 14 d__law_places ["many"] ["many"] f__law_places := ⟨by kernel_rfl, ⟨rfl, rfl, rfl, by decide +kernel, rfl, by decide +kernel, by decide +kernel⟩, rfl, by kernel_rfl, rfl⟩
theorem in__law_places : d__law_places ∈ ask.defs := List.mem_of_getElem? (i := 40) (by kernel_rfl)
theorem dc__law_wide : DefC gl tab 14 d__law_wide ["many"] ["many"] f__law_wide := ⟨by kernel_rfl, ⟨rfl, rfl, rfl, by decide +kernel, rfl, by decide +kernel, by decide +kernel⟩, rfl, by kernel_rfl, rfl⟩
theorem in__law_wide : d__law_wide ∈ ask.defs := List.mem_of_getElem? (i := 41) (by kernel_rfl)
theorem dc__law_folded : DefC gl tab 14 d__law_folded ["squares", "one", "other", "lots", "found", "u", "here", "lot", "v", "there", "number_v", "place", "goal"] ["squares", "one", "other"] f__law_folded := ⟨by kernel_rfl, ⟨rfl, rfl, rfl, by decide +kernel, rfl, by decide +kernel, by decide +kernel⟩, rfl, by kernel_rfl, rfl⟩
theorem in__law_folded : d__law_folded ∈ ask.defs := List.mem_of_getElem? (i := 42) (by kernel_rfl)
theorem dc__law_ones : DefC gl tab 14 d__law_ones ["many", "wide", "own", "at"] ["many"] f__law_ones := ⟨by kernel_rfl, ⟨rfl, rfl, rfl, by decide +kernel, rfl, by decide +kernel, by decide +kernel⟩, rfl, by kernel_rfl, rfl⟩
theorem in__law_ones : d__law_ones ∈ ask.defs := List.mem_of_getElem? (i := 43) (by kernel_rfl)
theorem dc__law_some_line : DefC gl tab 14 d__law_some_line ["state", "many", "lot"] ["state", "many"] f__law_some_line := ⟨by kernel_rfl, ⟨rfl, rfl, rfl, by decide +kernel, rfl, by decide +kernel, by decide +kernel⟩, rfl, by kernel_rfl, rfl⟩
theorem in__law_some_line : d__law_some_line ∈ ask.defs := List.mem_of_getElem? (i := 44) (by kernel_rfl)
theorem dc__law_arrow_line : DefC gl tab 14 d__law_arrow_line ["arrow", "lot"] ["arrow"] f__law_arrow_line := ⟨by kernel_rfl, ⟨rfl, rfl, rfl, by decide +kernel, rfl, by decide +kernel, by decide +kernel⟩, rfl, by kernel_rfl, rfl⟩
theorem in__law_arrow_line : d__law_arrow_line ∈ ask.defs := List.mem_of_getElem? (i := 45) (by kernel_rfl)
theorem dc__law_axes_rows : DefC gl tab 14 d__law_axes_rows ["many", "own", "at"] ["many"] f__law_axes_rows := ⟨by kernel_rfl, ⟨rfl, rfl, rfl, by decide +kernel, rfl, by decide +kernel, by decide +kernel⟩, rfl, by kernel_rfl, rfl⟩
theorem in__law_axes_rows : d__law_axes_rows ∈ ask.defs := List.mem_of_getElem? (i := 46) (by kernel_rfl)
theorem dc__law_folds_alike : DefC gl tab 14 d__law_folds_alike ["squares", "line", "arrow", "axis"] ["squares", "line"] f__law_folds_alike := ⟨by kernel_rfl, ⟨rfl, rfl, rfl, by decide +kernel, rfl, by decide +kernel, by decide +kernel⟩, rfl, by kernel_rfl, rfl⟩
theorem in__law_folds_alike : d__law_folds_alike ∈ ask.defs := List.mem_of_getElem? (i := 47) (by kernel_rfl)
theorem dc_law : DefC gl tab 14 d_law ["script", "state", "told", "lap", "one", "zero", "many", "squares", "lots", "due", "line", "own", "alike", "other", "place", "lot", "number_v"] ["script"] f_law := ⟨by kernel_rfl, ⟨rfl, rfl, rfl, by decide +kernel, rfl, by decide +kernel, by decide +kernel⟩, rfl, by kernel_rfl, rfl⟩
theorem in_law : d_law ∈ ask.defs := List.mem_of_getElem? (i := 48) (by kernel_rfl)
def FnP (p : Str × Shp) : Prop := ∃ d ∈ ask.defs, d.at_ = p.1 ∧ p.2.dv = d.dfl ∧ ∃ N ps mf, DefC gl tab 14 d N ps mf ∧ p.2.src.length = ps.length ∧ BindB d.rec_.params p.2 ps
theorem fp_0 : FnP (("number", Shp.mk 2 [] [.int 1] [0, 1])) := ⟨d_number, in_number, by kernel_rfl, rfl, _, _, _, dc_number, rfl, by
  intro name qual body scope kV doc pm an cdv ct us ws dus as l1 l2 l3 hm
  match us, ws, dus, l1, l2, l3 with
  | [u0, u1], [], [z0], _, _, _ =>
    have e : [u0, u1] = as := Option.some.inj hm
    subst e
    exact ⟨fun h => (nomatch h), fun _ T => ⟨_, rfl, rfl⟩⟩⟩
theorem fp_1 : FnP (("need_many", Shp.mk 1 [] [] [0])) := ⟨d_need_many, in_need_many, by kernel_rfl, rfl, _, _, _, dc_need_many, rfl, by
  intro name qual body scope kV doc pm an cdv ct us ws dus as l1 l2 l3 hm
  match us, ws, dus, l1, l2, l3 with
  | [u0], [], [], _, _, _ =>
    have e : [u0] = as := Option.some.inj hm
    subst e
    exact ⟨fun _ => rfl, fun h => absurd rfl h⟩⟩
theorem fp_2 : FnP (("made", Shp.mk 1 [] [] [0])) := ⟨d_made, in_made, by kernel_rfl, rfl, _, _, _, dc_made, rfl, by
  intro name qual body scope kV doc pm an cdv ct us ws dus as l1 l2 l3 hm
  match us, ws, dus, l1, l2, l3 with
  | [u0], [], [], _, _, _ =>
    have e : [u0] = as := Option.some.inj hm
    subst e
    exact ⟨fun _ => rfl, fun h => absurd rfl h⟩⟩
theorem fp_3 : FnP (("need_squares_tables2", Shp.mk 1 [] [] [0])) := ⟨d_need_squares_tables2, in_need_squares_tables2, by kernel_rfl, rfl, _, _, _, dc_need_squares_tables2, rfl, by
  intro name qual body scope kV doc pm an cdv ct us ws dus as l1 l2 l3 hm
  match us, ws, dus, l1, l2, l3 with
  | [u0], [], [], _, _, _ =>
    have e : [u0] = as := Option.some.inj hm
    subst e
    exact ⟨fun _ => rfl, fun h => absurd rfl h⟩⟩
theorem fp_4 : FnP (("need_table_tables2", Shp.mk 2 [] [] [0, 1])) := ⟨d_need_table_tables2, in_need_table_tables2, by kernel_rfl, rfl, _, _, _, dc_need_table_tables2, rfl, by
  intro name qual body scope kV doc pm an cdv ct us ws dus as l1 l2 l3 hm
  match us, ws, dus, l1, l2, l3 with
  | [u0, u1], [], [], _, _, _ =>
    have e : [u0, u1] = as := Option.some.inj hm
    subst e
    exact ⟨fun _ => rfl, fun h => absurd rfl h⟩⟩
theorem fp_5 : FnP (("fold_of", Shp.mk 3 [] [] [0, 1, 2])) := ⟨d_fold_of, in_fold_of, by kernel_rfl, rfl, _, _, _, dc_fold_of, rfl, by
  intro name qual body scope kV doc pm an cdv ct us ws dus as l1 l2 l3 hm
  match us, ws, dus, l1, l2, l3 with
  | [u0, u1, u2], [], [], _, _, _ =>
    have e : [u0, u1, u2] = as := Option.some.inj hm
    subst e
    exact ⟨fun _ => rfl, fun h => absurd rfl h⟩⟩
theorem fp_6 : FnP (("need_squares_inverse3", Shp.mk 1 [] [] [0])) := ⟨d_need_squares_inverse3, in_need_squares_inverse3, by kernel_rfl, rfl, _, _, _, dc_need_squares_inverse3, rfl, by
  intro name qual body scope kV doc pm an cdv ct us ws dus as l1 l2 l3 hm
  match us, ws, dus, l1, l2, l3 with
  | [u0], [], [], _, _, _ =>
    have e : [u0] = as := Option.some.inj hm
    subst e
    exact ⟨fun _ => rfl, fun h => absurd rfl h⟩⟩
theorem fp_7 : FnP (("need_table_inverse3", Shp.mk 2 [] [] [0, 1])) := ⟨d_need_table_inverse3, in_need_table_inverse3, by kernel_rfl, rfl, _, _, _, dc_need_table_inverse3, rfl, by
  intro name qual body scope kV doc pm an cdv ct us ws dus as l1 l2 l3 hm
  match us, ws, dus, l1, l2, l3 with
  | [u0, u1], [], [], _, _, _ =>
    have e : [u0, u1] = as := Option.some.inj hm
    subst e
    exact ⟨fun _ => rfl, fun h => absurd rfl h⟩⟩
theorem fp_8 : FnP (("_law_no", Shp.mk 2 [] [] [0, 1])) := ⟨d__law_no, in__law_no, by kernel_rfl, rfl, _, _, _, dc__law_no, rfl, by
  intro name qual body scope kV doc pm an cdv ct us ws dus as l1 l2 l3 hm
  match us, ws, dus, l1, l2, l3 with
  | [u0, u1], [], [], _, _, _ =>
    have e : [u0, u1] = as := Option.some.inj hm
    subst e
    exact ⟨fun _ => rfl, fun h => absurd rfl h⟩⟩
theorem fp_9 : FnP (("_law_lots", Shp.mk 1 [] [] [0])) := ⟨d__law_lots, in__law_lots, by kernel_rfl, rfl, _, _, _, dc__law_lots, rfl, by
  intro name qual body scope kV doc pm an cdv ct us ws dus as l1 l2 l3 hm
  match us, ws, dus, l1, l2, l3 with
  | [u0], [], [], _, _, _ =>
    have e : [u0] = as := Option.some.inj hm
    subst e
    exact ⟨fun _ => rfl, fun h => absurd rfl h⟩⟩
theorem fp_10 : FnP (("_law_places", Shp.mk 1 [] [] [0])) := ⟨d__law_places, in__law_places, by kernel_rfl, rfl, _, _, _, dc__law_places, rfl, by
  intro name qual body scope kV doc pm an cdv ct us ws dus as l1 l2 l3 hm
  match us, ws, dus, l1, l2, l3 with
  | [u0], [], [], _, _, _ =>
    have e : [u0] = as := Option.some.inj hm
    subst e
    exact ⟨fun _ => rfl, fun h => absurd rfl h⟩⟩
theorem fp_11 : FnP (("_law_wide", Shp.mk 1 [] [] [0])) := ⟨d__law_wide, in__law_wide, by kernel_rfl, rfl, _, _, _, dc__law_wide, rfl, by
  intro name qual body scope kV doc pm an cdv ct us ws dus as l1 l2 l3 hm
  match us, ws, dus, l1, l2, l3 with
  | [u0], [], [], _, _, _ =>
    have e : [u0] = as := Option.some.inj hm
    subst e
    exact ⟨fun _ => rfl, fun h => absurd rfl h⟩⟩
theorem fp_12 : FnP (("_law_axes_rows", Shp.mk 1 [] [] [0])) := ⟨d__law_axes_rows, in__law_axes_rows, by kernel_rfl, rfl, _, _, _, dc__law_axes_rows, rfl, by
  intro name qual body scope kV doc pm an cdv ct us ws dus as l1 l2 l3 hm
  match us, ws, dus, l1, l2, l3 with
  | [u0], [], [], _, _, _ =>
    have e : [u0] = as := Option.some.inj hm
    subst e
    exact ⟨fun _ => rfl, fun h => absurd rfl h⟩⟩
theorem fp_13 : FnP (("_law_begun", Shp.mk 1 [] [] [0])) := ⟨d__law_begun, in__law_begun, by kernel_rfl, rfl, _, _, _, dc__law_begun, rfl, by
  intro name qual body scope kV doc pm an cdv ct us ws dus as l1 l2 l3 hm
  match us, ws, dus, l1, l2, l3 with
  | [u0], [], [], _, _, _ =>
    have e : [u0] = as := Option.some.inj hm
    subst e
    exact ⟨fun _ => rfl, fun h => absurd rfl h⟩⟩
theorem fp_14 : FnP (("is_whole", Shp.mk 1 [] [] [0])) := ⟨d_is_whole, in_is_whole, by kernel_rfl, rfl, _, _, _, dc_is_whole, rfl, by
  intro name qual body scope kV doc pm an cdv ct us ws dus as l1 l2 l3 hm
  match us, ws, dus, l1, l2, l3 with
  | [u0], [], [], _, _, _ =>
    have e : [u0] = as := Option.some.inj hm
    subst e
    exact ⟨fun _ => rfl, fun h => absurd rfl h⟩⟩
theorem fp_15 : FnP (("is_below", Shp.mk 2 [] [] [0, 1])) := ⟨d_is_below, in_is_below, by kernel_rfl, rfl, _, _, _, dc_is_below, rfl, by
  intro name qual body scope kV doc pm an cdv ct us ws dus as l1 l2 l3 hm
  match us, ws, dus, l1, l2, l3 with
  | [u0, u1], [], [], _, _, _ =>
    have e : [u0, u1] = as := Option.some.inj hm
    subst e
    exact ⟨fun _ => rfl, fun h => absurd rfl h⟩⟩
theorem fp_16 : FnP (("is_any_table", Shp.mk 1 [] [] [0])) := ⟨d_is_any_table, in_is_any_table, by kernel_rfl, rfl, _, _, _, dc_is_any_table, rfl, by
  intro name qual body scope kV doc pm an cdv ct us ws dus as l1 l2 l3 hm
  match us, ws, dus, l1, l2, l3 with
  | [u0], [], [], _, _, _ =>
    have e : [u0] = as := Option.some.inj hm
    subst e
    exact ⟨fun _ => rfl, fun h => absurd rfl h⟩⟩
theorem fp_17 : FnP (("is_table", Shp.mk 2 [] [] [0, 1])) := ⟨d_is_table, in_is_table, by kernel_rfl, rfl, _, _, _, dc_is_table, rfl, by
  intro name qual body scope kV doc pm an cdv ct us ws dus as l1 l2 l3 hm
  match us, ws, dus, l1, l2, l3 with
  | [u0, u1], [], [], _, _, _ =>
    have e : [u0, u1] = as := Option.some.inj hm
    subst e
    exact ⟨fun _ => rfl, fun h => absurd rfl h⟩⟩
theorem fp_18 : FnP (("minus", Shp.mk 1 [] [] [0])) := ⟨d_minus, in_minus, by kernel_rfl, rfl, _, _, _, dc_minus, rfl, by
  intro name qual body scope kV doc pm an cdv ct us ws dus as l1 l2 l3 hm
  match us, ws, dus, l1, l2, l3 with
  | [u0], [], [], _, _, _ =>
    have e : [u0] = as := Option.some.inj hm
    subst e
    exact ⟨fun _ => rfl, fun h => absurd rfl h⟩⟩
theorem fp_19 : FnP (("lines", Shp.mk 1 [] [] [0])) := ⟨d_lines, in_lines, by kernel_rfl, rfl, _, _, _, dc_lines, rfl, by
  intro name qual body scope kV doc pm an cdv ct us ws dus as l1 l2 l3 hm
  match us, ws, dus, l1, l2, l3 with
  | [u0], [], [], _, _, _ =>
    have e : [u0] = as := Option.some.inj hm
    subst e
    exact ⟨fun _ => rfl, fun h => absurd rfl h⟩⟩
theorem fp_20 : FnP (("lots_of", Shp.mk 1 [] [] [0])) := ⟨d_lots_of, in_lots_of, by kernel_rfl, rfl, _, _, _, dc_lots_of, rfl, by
  intro name qual body scope kV doc pm an cdv ct us ws dus as l1 l2 l3 hm
  match us, ws, dus, l1, l2, l3 with
  | [u0], [], [], _, _, _ =>
    have e : [u0] = as := Option.some.inj hm
    subst e
    exact ⟨fun _ => rfl, fun h => absurd rfl h⟩⟩
theorem fp_21 : FnP (("_law_draw", Shp.mk 2 [] [] [0, 1])) := ⟨d__law_draw, in__law_draw, by kernel_rfl, rfl, _, _, _, dc__law_draw, rfl, by
  intro name qual body scope kV doc pm an cdv ct us ws dus as l1 l2 l3 hm
  match us, ws, dus, l1, l2, l3 with
  | [u0, u1], [], [], _, _, _ =>
    have e : [u0, u1] = as := Option.some.inj hm
    subst e
    exact ⟨fun _ => rfl, fun h => absurd rfl h⟩⟩
theorem fp_22 : FnP (("_law_plain", Shp.mk 1 [] [] [0])) := ⟨d__law_plain, in__law_plain, by kernel_rfl, rfl, _, _, _, dc__law_plain, rfl, by
  intro name qual body scope kV doc pm an cdv ct us ws dus as l1 l2 l3 hm
  match us, ws, dus, l1, l2, l3 with
  | [u0], [], [], _, _, _ =>
    have e : [u0] = as := Option.some.inj hm
    subst e
    exact ⟨fun _ => rfl, fun h => absurd rfl h⟩⟩
theorem fp_23 : FnP (("_law_common", Shp.mk 2 [] [] [0, 1])) := ⟨d__law_common, in__law_common, by kernel_rfl, rfl, _, _, _, dc__law_common, rfl, by
  intro name qual body scope kV doc pm an cdv ct us ws dus as l1 l2 l3 hm
  match us, ws, dus, l1, l2, l3 with
  | [u0, u1], [], [], _, _, _ =>
    have e : [u0, u1] = as := Option.some.inj hm
    subst e
    exact ⟨fun _ => rfl, fun h => absurd rfl h⟩⟩
theorem fp_24 : FnP (("_law_pick", Shp.mk 2 [] [] [0, 1])) := ⟨d__law_pick, in__law_pick, by kernel_rfl, rfl, _, _, _, dc__law_pick, rfl, by
  intro name qual body scope kV doc pm an cdv ct us ws dus as l1 l2 l3 hm
  match us, ws, dus, l1, l2, l3 with
  | [u0, u1], [], [], _, _, _ =>
    have e : [u0, u1] = as := Option.some.inj hm
    subst e
    exact ⟨fun _ => rfl, fun h => absurd rfl h⟩⟩
theorem fp_25 : FnP (("_law_arrow_line", Shp.mk 1 [] [] [0])) := ⟨d__law_arrow_line, in__law_arrow_line, by kernel_rfl, rfl, _, _, _, dc__law_arrow_line, rfl, by
  intro name qual body scope kV doc pm an cdv ct us ws dus as l1 l2 l3 hm
  match us, ws, dus, l1, l2, l3 with
  | [u0], [], [], _, _, _ =>
    have e : [u0] = as := Option.some.inj hm
    subst e
    exact ⟨fun _ => rfl, fun h => absurd rfl h⟩⟩
theorem fp_26 : FnP (("middle_lots", Shp.mk 1 [] [] [0])) := ⟨d_middle_lots, in_middle_lots, by kernel_rfl, rfl, _, _, _, dc_middle_lots, rfl, by
  intro name qual body scope kV doc pm an cdv ct us ws dus as l1 l2 l3 hm
  match us, ws, dus, l1, l2, l3 with
  | [u0], [], [], _, _, _ =>
    have e : [u0] = as := Option.some.inj hm
    subst e
    exact ⟨fun _ => rfl, fun h => absurd rfl h⟩⟩
theorem fp_27 : FnP (("middle_lots", Shp.mk 0 ["squares"] [] [0])) := ⟨d_middle_lots, in_middle_lots, by kernel_rfl, rfl, _, _, _, dc_middle_lots, rfl, by
  intro name qual body scope kV doc pm an cdv ct us ws dus as l1 l2 l3 hm
  match us, ws, dus, l1, l2, l3 with
  | [], [w0], [], _, _, _ =>
    have e : [w0] = as := Option.some.inj hm
    subst e
    exact ⟨fun _ => rfl, fun h => absurd rfl h⟩⟩
theorem fp_28 : FnP (("_law_is", Shp.mk 2 [] [] [0, 1])) := ⟨d__law_is, in__law_is, by kernel_rfl, rfl, _, _, _, dc__law_is, rfl, by
  intro name qual body scope kV doc pm an cdv ct us ws dus as l1 l2 l3 hm
  match us, ws, dus, l1, l2, l3 with
  | [u0, u1], [], [], _, _, _ =>
    have e : [u0, u1] = as := Option.some.inj hm
    subst e
    exact ⟨fun _ => rfl, fun h => absurd rfl h⟩⟩
theorem fp_29 : FnP (("_law_some_line", Shp.mk 2 [] [] [0, 1])) := ⟨d__law_some_line, in__law_some_line, by kernel_rfl, rfl, _, _, _, dc__law_some_line, rfl, by
  intro name qual body scope kV doc pm an cdv ct us ws dus as l1 l2 l3 hm
  match us, ws, dus, l1, l2, l3 with
  | [u0, u1], [], [], _, _, _ =>
    have e : [u0, u1] = as := Option.some.inj hm
    subst e
    exact ⟨fun _ => rfl, fun h => absurd rfl h⟩⟩
theorem fp_30 : FnP (("is_number", Shp.mk 1 [] [] [0])) := ⟨d_is_number, in_is_number, by kernel_rfl, rfl, _, _, _, dc_is_number, rfl, by
  intro name qual body scope kV doc pm an cdv ct us ws dus as l1 l2 l3 hm
  match us, ws, dus, l1, l2, l3 with
  | [u0], [], [], _, _, _ =>
    have e : [u0] = as := Option.some.inj hm
    subst e
    exact ⟨fun _ => rfl, fun h => absurd rfl h⟩⟩
theorem fp_31 : FnP (("count_of", Shp.mk 1 [] [] [0])) := ⟨d_count_of, in_count_of, by kernel_rfl, rfl, _, _, _, dc_count_of, rfl, by
  intro name qual body scope kV doc pm an cdv ct us ws dus as l1 l2 l3 hm
  match us, ws, dus, l1, l2, l3 with
  | [u0], [], [], _, _, _ =>
    have e : [u0] = as := Option.some.inj hm
    subst e
    exact ⟨fun _ => rfl, fun h => absurd rfl h⟩⟩
theorem fp_32 : FnP (("times", Shp.mk 2 [] [] [0, 1])) := ⟨d_times, in_times, by kernel_rfl, rfl, _, _, _, dc_times, rfl, by
  intro name qual body scope kV doc pm an cdv ct us ws dus as l1 l2 l3 hm
  match us, ws, dus, l1, l2, l3 with
  | [u0, u1], [], [], _, _, _ =>
    have e : [u0, u1] = as := Option.some.inj hm
    subst e
    exact ⟨fun _ => rfl, fun h => absurd rfl h⟩⟩
theorem fp_33 : FnP (("_law_mixed", Shp.mk 1 [] [] [0])) := ⟨d__law_mixed, in__law_mixed, by kernel_rfl, rfl, _, _, _, dc__law_mixed, rfl, by
  intro name qual body scope kV doc pm an cdv ct us ws dus as l1 l2 l3 hm
  match us, ws, dus, l1, l2, l3 with
  | [u0], [], [], _, _, _ =>
    have e : [u0] = as := Option.some.inj hm
    subst e
    exact ⟨fun _ => rfl, fun h => absurd rfl h⟩⟩
theorem fp_34 : FnP (("_law_folded", Shp.mk 3 [] [] [0, 1, 2])) := ⟨d__law_folded, in__law_folded, by kernel_rfl, rfl, _, _, _, dc__law_folded, rfl, by
  intro name qual body scope kV doc pm an cdv ct us ws dus as l1 l2 l3 hm
  match us, ws, dus, l1, l2, l3 with
  | [u0, u1, u2], [], [], _, _, _ =>
    have e : [u0, u1, u2] = as := Option.some.inj hm
    subst e
    exact ⟨fun _ => rfl, fun h => absurd rfl h⟩⟩
theorem fp_35 : FnP (("_law_folds_alike", Shp.mk 2 [] [] [0, 1])) := ⟨d__law_folds_alike, in__law_folds_alike, by kernel_rfl, rfl, _, _, _, dc__law_folds_alike, rfl, by
  intro name qual body scope kV doc pm an cdv ct us ws dus as l1 l2 l3 hm
  match us, ws, dus, l1, l2, l3 with
  | [u0, u1], [], [], _, _, _ =>
    have e : [u0, u1] = as := Option.some.inj hm
    subst e
    exact ⟨fun _ => rfl, fun h => absurd rfl h⟩⟩
theorem fp_36 : FnP (("swaps_of", Shp.mk 2 [] [] [0, 1])) := ⟨d_swaps_of, in_swaps_of, by kernel_rfl, rfl, _, _, _, dc_swaps_of, rfl, by
  intro name qual body scope kV doc pm an cdv ct us ws dus as l1 l2 l3 hm
  match us, ws, dus, l1, l2, l3 with
  | [u0, u1], [], [], _, _, _ =>
    have e : [u0, u1] = as := Option.some.inj hm
    subst e
    exact ⟨fun _ => rfl, fun h => absurd rfl h⟩⟩
theorem fp_37 : FnP (("parted", Shp.mk 2 [] [] [0, 1])) := ⟨d_parted, in_parted, by kernel_rfl, rfl, _, _, _, dc_parted, rfl, by
  intro name qual body scope kV doc pm an cdv ct us ws dus as l1 l2 l3 hm
  match us, ws, dus, l1, l2, l3 with
  | [u0, u1], [], [], _, _, _ =>
    have e : [u0, u1] = as := Option.some.inj hm
    subst e
    exact ⟨fun _ => rfl, fun h => absurd rfl h⟩⟩
theorem fp_38 : FnP (("plus", Shp.mk 2 [] [] [0, 1])) := ⟨d_plus, in_plus, by kernel_rfl, rfl, _, _, _, dc_plus, rfl, by
  intro name qual body scope kV doc pm an cdv ct us ws dus as l1 l2 l3 hm
  match us, ws, dus, l1, l2, l3 with
  | [u0, u1], [], [], _, _, _ =>
    have e : [u0, u1] = as := Option.some.inj hm
    subst e
    exact ⟨fun _ => rfl, fun h => absurd rfl h⟩⟩
theorem fp_39 : FnP (("is_middle_lot", Shp.mk 2 [] [] [0, 1])) := ⟨d_is_middle_lot, in_is_middle_lot, by kernel_rfl, rfl, _, _, _, dc_is_middle_lot, rfl, by
  intro name qual body scope kV doc pm an cdv ct us ws dus as l1 l2 l3 hm
  match us, ws, dus, l1, l2, l3 with
  | [u0, u1], [], [], _, _, _ =>
    have e : [u0, u1] = as := Option.some.inj hm
    subst e
    exact ⟨fun _ => rfl, fun h => absurd rfl h⟩⟩
theorem fp_40 : FnP (("_law_some_number", Shp.mk 2 [] [] [0, 1])) := ⟨d__law_some_number, in__law_some_number, by kernel_rfl, rfl, _, _, _, dc__law_some_number, rfl, by
  intro name qual body scope kV doc pm an cdv ct us ws dus as l1 l2 l3 hm
  match us, ws, dus, l1, l2, l3 with
  | [u0, u1], [], [], _, _, _ =>
    have e : [u0, u1] = as := Option.some.inj hm
    subst e
    exact ⟨fun _ => rfl, fun h => absurd rfl h⟩⟩
theorem fp_41 : FnP (("worth", Shp.mk 3 [] [] [0, 1, 2])) := ⟨d_worth, in_worth, by kernel_rfl, rfl, _, _, _, dc_worth, rfl, by
  intro name qual body scope kV doc pm an cdv ct us ws dus as l1 l2 l3 hm
  match us, ws, dus, l1, l2, l3 with
  | [u0, u1, u2], [], [], _, _, _ =>
    have e : [u0, u1, u2] = as := Option.some.inj hm
    subst e
    exact ⟨fun _ => rfl, fun h => absurd rfl h⟩⟩
theorem fp_42 : FnP (("_law_times", Shp.mk 2 [] [] [0, 1])) := ⟨d__law_times, in__law_times, by kernel_rfl, rfl, _, _, _, dc__law_times, rfl, by
  intro name qual body scope kV doc pm an cdv ct us ws dus as l1 l2 l3 hm
  match us, ws, dus, l1, l2, l3 with
  | [u0, u1], [], [], _, _, _ =>
    have e : [u0, u1] = as := Option.some.inj hm
    subst e
    exact ⟨fun _ => rfl, fun h => absurd rfl h⟩⟩
theorem fp_43 : FnP (("_law_merged", Shp.mk 2 [] [] [0, 1])) := ⟨d__law_merged, in__law_merged, by kernel_rfl, rfl, _, _, _, dc__law_merged, rfl, by
  intro name qual body scope kV doc pm an cdv ct us ws dus as l1 l2 l3 hm
  match us, ws, dus, l1, l2, l3 with
  | [u0, u1], [], [], _, _, _ =>
    have e : [u0, u1] = as := Option.some.inj hm
    subst e
    exact ⟨fun _ => rfl, fun h => absurd rfl h⟩⟩
theorem fp_44 : FnP (("_law_plus", Shp.mk 2 [] [] [0, 1])) := ⟨d__law_plus, in__law_plus, by kernel_rfl, rfl, _, _, _, dc__law_plus, rfl, by
  intro name qual body scope kV doc pm an cdv ct us ws dus as l1 l2 l3 hm
  match us, ws, dus, l1, l2, l3 with
  | [u0, u1], [], [], _, _, _ =>
    have e : [u0, u1] = as := Option.some.inj hm
    subst e
    exact ⟨fun _ => rfl, fun h => absurd rfl h⟩⟩
theorem fp_45 : FnP (("_law_ones", Shp.mk 1 [] [] [0])) := ⟨d__law_ones, in__law_ones, by kernel_rfl, rfl, _, _, _, dc__law_ones, rfl, by
  intro name qual body scope kV doc pm an cdv ct us ws dus as l1 l2 l3 hm
  match us, ws, dus, l1, l2, l3 with
  | [u0], [], [], _, _, _ =>
    have e : [u0] = as := Option.some.inj hm
    subst e
    exact ⟨fun _ => rfl, fun h => absurd rfl h⟩⟩
theorem fp_46 : FnP (("fold_tables", Shp.mk 3 [] [] [0, 1, 2])) := ⟨d_fold_tables, in_fold_tables, by kernel_rfl, rfl, _, _, _, dc_fold_tables, rfl, by
  intro name qual body scope kV doc pm an cdv ct us ws dus as l1 l2 l3 hm
  match us, ws, dus, l1, l2, l3 with
  | [u0, u1, u2], [], [], _, _, _ =>
    have e : [u0, u1, u2] = as := Option.some.inj hm
    subst e
    exact ⟨fun _ => rfl, fun h => absurd rfl h⟩⟩
theorem fp_47 : FnP (("is_middle", Shp.mk 1 ["table"] [] [0, 1])) := ⟨d_is_middle, in_is_middle, by kernel_rfl, rfl, _, _, _, dc_is_middle, rfl, by
  intro name qual body scope kV doc pm an cdv ct us ws dus as l1 l2 l3 hm
  match us, ws, dus, l1, l2, l3 with
  | [u0], [w0], [], _, _, _ =>
    have e : [u0, w0] = as := Option.some.inj hm
    subst e
    exact ⟨fun _ => rfl, fun h => absurd rfl h⟩⟩
theorem fp_48 : FnP (("_law_sign", Shp.mk 2 [] [] [0, 1])) := ⟨d__law_sign, in__law_sign, by kernel_rfl, rfl, _, _, _, dc__law_sign, rfl, by
  intro name qual body scope kV doc pm an cdv ct us ws dus as l1 l2 l3 hm
  match us, ws, dus, l1, l2, l3 with
  | [u0, u1], [], [], _, _, _ =>
    have e : [u0, u1] = as := Option.some.inj hm
    subst e
    exact ⟨fun _ => rfl, fun h => absurd rfl h⟩⟩
theorem fps0 : ∀ p ∈ fn0, FnP p := List.forall_mem_cons.mpr ⟨fp_0, List.forall_mem_cons.mpr ⟨fp_1, List.forall_mem_cons.mpr ⟨fp_2, List.forall_mem_cons.mpr ⟨fp_3, List.forall_mem_cons.mpr ⟨fp_4, List.forall_mem_cons.mpr ⟨fp_5, List.forall_mem_cons.mpr ⟨fp_6, List.forall_mem_cons.mpr ⟨fp_7, List.forall_mem_cons.mpr ⟨fp_8, List.forall_mem_cons.mpr ⟨fp_9, List.forall_mem_cons.mpr ⟨fp_10, List.forall_mem_cons.mpr ⟨fp_11, List.forall_mem_nil _⟩⟩⟩⟩⟩⟩⟩⟩⟩⟩⟩⟩
theorem fps1 : ∀ p ∈ fn1, FnP p := List.forall_mem_cons.mpr ⟨fp_12, List.forall_mem_cons.mpr ⟨fp_13, List.forall_mem_cons.mpr ⟨fp_14, List.forall_mem_cons.mpr ⟨fp_15, List.forall_mem_cons.mpr ⟨fp_16, List.forall_mem_cons.mpr ⟨fp_17, List.forall_mem_cons.mpr ⟨fp_18, List.forall_mem_cons.mpr ⟨fp_19, List.forall_mem_cons.mpr ⟨fp_20, List.forall_mem_cons.mpr ⟨fp_21, List.forall_mem_cons.mpr ⟨fp_22, List.forall_mem_cons.mpr ⟨fp_23, List.forall_mem_nil _⟩⟩⟩⟩⟩⟩⟩⟩⟩⟩⟩⟩
theorem fps2 : ∀ p ∈ fn2, FnP p := List.forall_mem_cons.mpr ⟨fp_24, List.forall_mem_cons.mpr ⟨fp_25, List.forall_mem_cons.mpr ⟨fp_26, List.forall_mem_cons.mpr ⟨fp_27, List.forall_mem_cons.mpr ⟨fp_28, List.forall_mem_cons.mpr ⟨fp_29, List.forall_mem_cons.mpr ⟨fp_30, List.forall_mem_cons.mpr ⟨fp_31, List.forall_mem_cons.mpr ⟨fp_32, List.forall_mem_cons.mpr ⟨fp_33, List.forall_mem_cons.mpr ⟨fp_34, List.forall_mem_cons.mpr ⟨fp_35, List.forall_mem_nil _⟩⟩⟩⟩⟩⟩⟩⟩⟩⟩⟩⟩
theorem fps3 : ∀ p ∈ fn3, FnP p := List.forall_mem_cons.mpr ⟨fp_36, List.forall_mem_cons.mpr ⟨fp_37, List.forall_mem_cons.mpr ⟨fp_38, List.forall_mem_cons.mpr ⟨fp_39, List.forall_mem_cons.mpr ⟨fp_40, List.forall_mem_cons.mpr ⟨fp_41, List.forall_mem_cons.mpr ⟨fp_42, List.forall_mem_cons.mpr ⟨fp_43, List.forall_mem_cons.mpr ⟨fp_44, List.forall_mem_cons.mpr ⟨fp_45, List.forall_mem_cons.mpr ⟨fp_46, List.forall_mem_cons.mpr ⟨fp_47, List.forall_mem_nil _⟩⟩⟩⟩⟩⟩⟩⟩⟩⟩⟩⟩
theorem fps4 : ∀ p ∈ fn4, FnP p := List.forall_mem_cons.mpr ⟨fp_48, List.forall_mem_nil _⟩
theorem fps : ∀ p ∈ fnAll, FnP p := List.forall_mem_append.mpr ⟨fps0, List.forall_mem_append.mpr ⟨fps1, List.forall_mem_append.mpr ⟨fps2, List.forall_mem_append.mpr ⟨fps3, fps4⟩⟩⟩⟩
theorem planL : Plan ask gl tab 14 := ⟨fun p h => h, fun x h => h, fun h => h, fun x sh h => fps (x, sh) h⟩
end Lw

set_option Elab.async false
set_option linter.all false
set_option maxRecDepth 100000
set_option maxHeartbeats 2000000
/-! K56P: the law of middles: its parts (k56). -/
namespace Lw
open PySem Mx
theorem tNum : TNum tab := ⟨by kernel_rfl, by kernel_rfl, by kernel_rfl, by kernel_rfl⟩
theorem tL0 : TL0 tab := ⟨by kernel_rfl, by kernel_rfl, by kernel_rfl, by kernel_rfl⟩
theorem tDraw : TDraw tab := ⟨by kernel_rfl, by kernel_rfl, by kernel_rfl, by kernel_rfl, by kernel_rfl⟩
theorem tIs : TIs tab := ⟨by kernel_rfl, by kernel_rfl⟩
theorem tLot : TLot tab := ⟨by kernel_rfl, by kernel_rfl, by kernel_rfl, by kernel_rfl, by kernel_rfl, by kernel_rfl⟩
theorem tJ0 : TJ0 tab := ⟨by kernel_rfl, by kernel_rfl, by kernel_rfl, by kernel_rfl, by kernel_rfl, by kernel_rfl, by kernel_rfl, by kernel_rfl, by kernel_rfl⟩
theorem tF0 : TF0 tab := ⟨by kernel_rfl, by kernel_rfl, by kernel_rfl, by kernel_rfl⟩
theorem tO0 : TO0 tab := ⟨by kernel_rfl, by kernel_rfl⟩
theorem tLf : TLf tab := ⟨by kernel_rfl, by kernel_rfl, by kernel_rfl⟩
theorem tMid : TMid tab := ⟨by kernel_rfl, by kernel_rfl, by kernel_rfl, by kernel_rfl, by kernel_rfl, by kernel_rfl, by kernel_rfl, by kernel_rfl, by kernel_rfl⟩
def lTold : MS := .ite (.not (.call "_law_is" [.nm 2, .lst false [.tup [.tup []], .tup [.tup []], .tup [.tup [], .tup [.cst (.int 0), .cst (.int 1), .cst (.int 2)]], .tup [.tup [], .tup [.cst (.int 0), .cst (.int 1)], .tup [.cst (.int 0), .cst (.int 1), .cst (.int 2)]], .tup [.tup [], .tup [.cst (.int 0), .cst (.int 1)]]]] [] [0, 1])) [.ret (some (.cst (.bl false)))] []
def lSq : ME := .comp false (.call "_law_pick" [.nm 1, .lst false [.tup [.cst (.int 0), .cst (.int 1)], .tup [.cst (.int 0), .cst (.int 1)], .tup [.cst (.int 1), .cst (.int 1)], .tup [.neg (.cst (.int 2)), .cst (.int 1)]]] [] [0, 1]) [14] (.nm 14) (.rng1 (.nm 6)) none
def lDue : ME := .comp false (.nm 15) [15, 11] (.tup [.nm 15, .nm 11]) (.zip2 (.nm 8) (.call "_law_ones" [.nm 6] [] [0])) (some (.call "_law_folds_alike" [.nm 7, .nm 11] [] [0, 1]))
def lMask : ME := .comp false (.ite (.cmp .isin (.nm 15) (.nm 9)) (.nm 16) (.tup [.cst (.int 0), .cst (.int 1)])) [15, 16] (.tup [.nm 15, .nm 16]) (.zip2 (.nm 8) (.nm 10)) none
def lOff : ME := .comp false (.cst (.int 1)) [15, 16] (.tup [.nm 15, .nm 16]) (.zip2 (.nm 8) (.nm 11)) (some (.and [.cmp .ne (.sub (.nm 16) (.cst (.int 0))) (.cst (.int 0)), .cmp .notin (.nm 15) (.nm 9)]))
def lOwn : List MS := [.set 12 (.call "_law_folds_alike" [.nm 7, .nm 11] [] [0, 1]), .ite (.or [.not (.call "_law_is" [.call "is_middle" [.nm 7, .tup [.cst (.str "table"), .nm 11]] [] [0, 1], .nm 12] [] [0, 1]), .cmp .ne (.nm 12) (.cmp .eq lOff (.lst false []))]) [.ret (some (.cst (.bl false)))] [], .set 13 (.tup [.cst (.str "table"), .call "_law_some_line" [.nm 1, .nm 6] [] [0, 1]]), .ite (.and [.nm 12, .cmp .ne (.call "fold_tables" [.nm 7, .tup [.cst (.str "table"), .nm 11], .nm 13] [] [0, 1, 2]) (.call "fold_tables" [.nm 7, .nm 13, .tup [.cst (.str "table"), .nm 11]] [] [0, 1, 2])]) [.ret (some (.cst (.bl false)))] []]
def lap : List MS := [.set 6 (.call "_law_draw" [.nm 1, .cst (.int 5)] [] [0, 1]), .set 7 (.blt false .tuple [lSq]), .set 8 (.call "_law_places" [.nm 6] [] [0]), .set 9 lDue, .ite (.not (.call "_law_is" [.call "middle_lots" [.nm 7] [] [0], .blt false .tuple [.nm 9]] [] [0, 1])) [.ret (some (.cst (.bl false)))] [], .set 10 (.call "_law_some_line" [.nm 1, .nm 6] [] [0, 1]), .loop (.nm 11) (.seq (.lst false [.nm 10, .blt false .tuple [lMask]])) lOwn]
def lLoop : MS := .loop (.nm 3) (.rng1 (.bin .add (.cst (.int 5)) (.blt false .min2 [.blt false .len [.nm 0], .cst (.int 7)]))) lap
theorem law_body : f_law = ⟨1, 17, false, [.set 1 (.call "_law_begun" [.nm 0] [] [0]), .unp (.tup [.nm 4, .nm 5]) (.tup [.tup [.cst (.int 1), .cst (.int 1)], .tup [.cst (.int 0), .cst (.int 1)]]), .set 2 (.lst false [.call "middle_lots" [.tup []] [] [0], .call "middle_lots" [.tup [.nm 4, .nm 4]] [] [0], .call "middle_lots" [.tup [.nm 4, .nm 4, .nm 4]] [] [0], .call "middle_lots" [.tup [.nm 5, .nm 5, .nm 4]] [] [0], .call "middle_lots" [.tup [.nm 5, .nm 5]] [] [0]]), lTold, lLoop, .ret (some (.cst (.bl true)))]⟩ := rfl
/-- the names' values -/
abbrev sg (ns : List Int) (x2 x3 x4 x5 x6 x7 x8 x9 x10 x11 x12 x13 x14 x15 x16 : Option D) : Sig := [some (.scr ns), some (.ref 1), x2, x3, x4, x5, x6, x7, x8, x9, x10, x11, x12, x13, x14, x15, x16]
section
variable {n : Nat} {ns : List Int} {x2 x3 x4 x5 x6 x7 x8 x9 x10 x11 x12 x13 x14 x15 x16 : Option D}
theorem sq_run (h1 : 4 ≤ n) {m t : Nat} (hm : m ≤ 4) {rw : MH} (hs : St t [] rw) (ht : t < 2 ^ 39) :
    ∃ as ds rw', evE (callN tab n) [] lSq (sg ns x2 x3 x4 x5 (some (.int m)) x7 x8 x9 x10 x11 x12 x13 x14 x15 x16) rw = .ok (.lst ds) rw' ∧ St (t + 4) [] rw' ∧ IsQs as ds ∧ as.length = m ∧ ∀ q ∈ as, Sm 2 q := by
  obtain ⟨ds, rw', e, ⟨as, g1, g2, g3, g4⟩, gl⟩ := comp_run (C := callN tab n) (ro := []) (rw := rw) (rw0 := rw) (σ := sg ns x2 x3 x4 x5 (some (.int m)) x7 x8 x9 x10 x11 x12 x13 x14 x15 x16) (elt := .call "_law_pick" [.nm 1, .lst false [.tup [.cst (.int 0), .cst (.int 1)], .tup [.cst (.int 0), .cst (.int 1)], .tup [.cst (.int 1), .cst (.int 1)], .tup [.neg (.cst (.int 2)), .cst (.int 1)]]] [] [0, 1]) (vs := [14]) (tg := .nm 14) (it := .rng1 (.nm 6)) (s := (upto m).map .int)
    (fun pre acc rw' => ∃ as : List Rat, IsQs as acc ∧ as.length = pre.length ∧ (∀ q ∈ as, Sm 2 q) ∧ St (t + pre.length) [] rw') (rng_run (by omega) (ev_nm rfl)) (by simp [upto]; omega) ⟨[], trivial, rfl, by simp, hs.le (by omega)⟩ (fun pre d post acc rw' e ⟨as, g1, g2, g3, g4⟩ => by
    have hpl : pre.length < 4 := by
      have := congrArg List.length e
      simp [upto] at this
      omega
    obtain ⟨p, rw3, p1, p2, p3⟩ := pick_run tDraw (n := n) (by omega) (xs := [.tup true [.int 0, .int 1], .tup true [.int 0, .int 1], .tup true [.int 1, .int 1], .tup true [.int (-2), .int 1]]) g4 (by omega) (by simp) (by simp)
    have hp : ∃ r : Rat, IsQ r p ∧ Sm 2 r := by
      simp only [List.mem_cons, List.not_mem_nil, or_false] at p3
      rcases p3 with rfl | rfl | rfl | rfl
      · exact ⟨0, ⟨true, rfl⟩, by decide, by decide⟩
      · exact ⟨0, ⟨true, rfl⟩, by decide, by decide⟩
      · exact ⟨1, ⟨true, rfl⟩, by decide, by decide⟩
      · exact ⟨-2, ⟨true, rfl⟩, by decide, by decide⟩
    obtain ⟨r, r1, r2⟩ := hp
    have neg2 : ∀ {σ : Sig} {rw : MH}, evE (callN tab n) [] (.neg (.cst (.int 2))) σ rw = .ok (.int (-2)) rw := fun {σ rw} => by
      unfold evE
      rw [bindM ev_cst]; rfl
    refine ⟨sg ns x2 x3 x4 x5 (some (.int m)) x7 x8 x9 x10 x11 x12 x13 (some d) x15 x16, p, rw3, rfl, ev_call (es_cons (ev_nm rfl) (es_cons (ev_lst (es_cons (ev_tup (es_cons ev_cst (es_cons ev_cst es_nil)) rfl) (es_cons (ev_tup (es_cons ev_cst (es_cons ev_cst es_nil)) rfl) (es_cons (ev_tup (es_cons ev_cst (es_cons ev_cst es_nil)) rfl) (es_cons (ev_tup (es_cons neg2 (es_cons ev_cst es_nil)) rfl) es_nil)))) rfl) es_nil)) rfl p1, as ++ [r], g1.append ⟨r1, trivial⟩, by simp [g2], fun x hx => ?_, ?_⟩
    · rcases List.mem_append.mp hx with hx | hx
      · exact g3 x hx
      · rw [List.mem_singleton.mp hx]; exact r2
    · rw [List.length_append, List.length_singleton]
      exact p2.le (by omega))
  have hrl : ((upto m).map D.int).length = m := by simp [upto]
  rw [hrl] at g2 g4
  exact ⟨as, ds, rw', e, g4.le (by omega), g1, g2, g3⟩
def onPairB (p : List Int → Bool) (d : D) : Bool := match d with
  | .tup _ (l :: _) => onLotB p l
  | _ => false
def gFst (d : D) : D := match d with
  | .tup _ (l :: _) => l
  | _ => .non
theorem prL_on (m : Nat) (val : List Int → D) (p : List Int → Bool) : ((prL m val).filter (onPairB p)).map gFst = ((lots m).filter p).map eL := by
  unfold prL
  generalize lots m = xs
  induction xs with
  | nil => rfl
  | cons l xs ih =>
    rw [List.map_cons, List.filter_cons, List.filter_cons, show onPairB p (.tup true [eL l, val l]) = p l from onLotB_eL p l]
    cases p l with
    | true => rw [if_pos rfl, if_pos rfl, List.map_cons, List.map_cons, ih]; rfl
    | false => rw [if_neg (by decide), if_neg (by decide), ih]
theorem due_run (h1 : 7 ≤ n) {m : Nat} (hm : m ≤ 4) {rw : MH} {ss : List Rat} {sds : List D} (hS : IsQs ss sds) (ls : ss.length = m) (sc : ∀ q ∈ ss, Sm 2 q) :
    evE (callN tab n) [] lDue (sg ns x2 x3 x4 x5 (some (.int m)) (some (.tup true sds)) (some (.lst ((lots m).map eL))) x9 x10 x11 x12 x13 x14 x15 x16) rw = .ok (.lst ((midLots m (rowS ss)).map eL)) rw := by
  have lu : ((upto (2 ^ m)).map (unitD (2 ^ m))).length = 2 ^ m := by simp [upto]
  have q := comp_flt (C := callN tab n) (ro := []) (rw := rw) (rw0 := rw) (σ := sg ns x2 x3 x4 x5 (some (.int m)) (some (.tup true sds)) (some (.lst ((lots m).map eL))) x9 x10 x11 x12 x13 x14 x15 x16) (elt := .nm 15) (te := .call "_law_folds_alike" [.nm 7, .nm 11] [] [0, 1]) (vs := [15, 11]) (tg := .tup [.nm 15, .nm 11]) (it := .zip2 (.nm 8) (.call "_law_ones" [.nm 6] [] [0])) (s := prL m (valOf (lots m) ((upto (2 ^ m)).map (unitD (2 ^ m))))) (onPairB (midB m (rowS ss))) gFst (by
    rw [← zip_prL hm lu]
    exact zip2_run (ev_nm rfl) (ev_call (es_cons (ev_nm rfl) es_nil) rfl (ones_run tMid tLot (n := n) (by omega) hm)) rfl rfl) (by have := prL_len hm (valOf (lots m) ((upto (2 ^ m)).map (unitD (2 ^ m)))); omega) (fun d hd => by
    obtain ⟨l, hl, rfl⟩ := List.mem_map.mp hd
    have hi : (lots m).idxOf l < (lots m).length := List.idxOf_lt_length_of_mem hl
    have gl : (lots m)[(lots m).idxOf l]? = some l := by rw [List.getElem?_eq_getElem hi, List.getElem_idxOf hi]
    have hv : valOf (lots m) ((upto (2 ^ m)).map (unitD (2 ^ m))) l = unitD (2 ^ m) (((lots m).idxOf l : Nat) : Int) := by
      unfold valOf
      rw [List.getD_eq_getElem?_getD, List.getElem?_map]
      have g : (upto (2 ^ m))[(lots m).idxOf l]? = some (((lots m).idxOf l : Nat) : Int) := by
        unfold upto
        rw [List.getElem?_map, List.getElem?_range (by rw [← lots_len hm]; exact hi)]; rfl
      rw [g]; rfl
    rw [hv]
    refine ⟨sg ns x2 x3 x4 x5 (some (.int m)) (some (.tup true sds)) (some (.lst ((lots m).map eL))) x9 x10 (some (unitD (2 ^ m) (((lots m).idxOf l : Nat) : Int))) x12 x13 x14 (some (eL l)) x16, rfl, ?_, fun _ => ev_nm rfl⟩
    rw [show onPairB (midB m (rowS ss)) (.tup true [eL l, unitD (2 ^ m) (((lots m).idxOf l : Nat) : Int)]) = midB m (rowS ss) l from onLotB_eL _ l, ← unit_mid hm gl]
    exact ev_call (es_cons (ev_nm rfl) (es_cons (ev_nm rfl) es_nil)) rfl (alike_run tMid tLf tL0 tLot tO0 (n := n) (by omega) (e := 30) hm (b0 := true) (b1 := true) hS ls sc (unit_isQ _ _) (unit_len _ _) (unit_sm _ _) (by decide) (by decide)))
  rw [prL_on] at q
  exact q
/-- 0 where the lot is none of the middle -/
def maskQ (m : Nat) (sq : Int → Rat) (line : List Rat) : List Rat := (lots m).map fun l => if l ∈ midLots m sq then vl m line l else 0
theorem mid_mem {m : Nat} {sq : Int → Rat} : ∀ l ∈ midLots m sq, l ∈ lots m := fun l hl => (List.mem_filter.mp hl).1
theorem mask_run {m : Nat} (hm : m ≤ 4) {rw : MH} {ss line : List Rat} {lds : List D} (hl : IsQs line lds) (ll : line.length = 2 ^ m) (sm : ∀ q ∈ line, Sm 2 q) :
    ∃ ds, evE (callN tab n) [] lMask (sg ns x2 x3 x4 x5 x6 x7 (some (.lst ((lots m).map eL))) (some (.lst ((midLots m (rowS ss)).map eL))) (some (.tup true lds)) x11 x12 x13 x14 x15 x16) rw = .ok (.lst ds) rw ∧ IsQs (maskQ m (rowS ss) line) ds ∧ (maskQ m (rowS ss) line).length = 2 ^ m ∧ ∀ q ∈ maskQ m (rowS ss) line, Sm 2 q := by
  have ldl : lds.length = 2 ^ m := by rw [hl.length, ll]
  have hv : ∀ l ∈ lots m, IsQ (vl m line l) (valOf (lots m) lds l) := fun l h => valOf_isQ hm hl ll h
  have ml : ∀ a ∈ midLots m (rowS ss), a.length ≤ 100 := fun a ha => by have := (lots_small hm a (mid_mem a ha)).1; omega
  obtain ⟨ds, rw', e, ⟨g1, g2⟩, gl⟩ := comp_run (C := callN tab n) (ro := []) (rw := rw) (rw0 := rw) (σ := sg ns x2 x3 x4 x5 x6 x7 (some (.lst ((lots m).map eL))) (some (.lst ((midLots m (rowS ss)).map eL))) (some (.tup true lds)) x11 x12 x13 x14 x15 x16) (elt := .ite (.cmp .isin (.nm 15) (.nm 9)) (.nm 16) (.tup [.cst (.int 0), .cst (.int 1)])) (vs := [15, 16]) (tg := .tup [.nm 15, .nm 16]) (it := .zip2 (.nm 8) (.nm 10)) (s := prL m (valOf (lots m) lds))
    (fun pre acc rw' => IsQs ((maskQ m (rowS ss) line).take pre.length) acc ∧ rw' = rw) (by
    rw [← zip_prL hm ldl]
    exact zip2_run (ev_nm rfl) (ev_nm rfl) rfl rfl) (by have := prL_len hm (valOf (lots m) lds); omega) ⟨by rw [List.length_nil, List.take_zero]; trivial, rfl⟩ (fun pre d post acc rw' e ⟨g1, g2⟩ => by
    subst g2
    obtain ⟨l, hl1, rfl⟩ := prL_at (pre_get e)
    have hlm := List.mem_of_getElem? hl1
    have t1 : evE (callN tab n) [] (.cmp .isin (.nm 15) (.nm 9)) (sg ns x2 x3 x4 x5 x6 x7 (some (.lst ((lots m).map eL))) (some (.lst ((midLots m (rowS ss)).map eL))) (some (.tup true lds)) x11 x12 x13 x14 (some (eL l)) (some (valOf (lots m) lds l))) rw' = .ok (.bl (decide (l ∈ midLots m (rowS ss)))) rw' := ev_cmp (ev_nm rfl) (ev_nm rfl) (isin_L ml (by have := (lots_small hm l hlm).1; omega))
    have at1 : (maskQ m (rowS ss) line)[pre.length]? = some (if l ∈ midLots m (rowS ss) then vl m line l else 0) := by
      unfold maskQ
      rw [List.getElem?_map, hl1]; rfl
    have fin : ∀ y : D, IsQ (if l ∈ midLots m (rowS ss) then vl m line l else 0) y → IsQs ((maskQ m (rowS ss) line).take (pre ++ [D.tup true [eL l, valOf (lots m) lds l]]).length) (acc ++ [y]) ∧ rw' = rw' := fun y hy => by
      rw [List.length_append, List.length_singleton, take_more at1]
      exact ⟨g1.append ⟨hy, trivial⟩, rfl⟩
    by_cases hz : l ∈ midLots m (rowS ss)
    · rw [decide_eq_true hz] at t1
      exact ⟨_, valOf (lots m) lds l, rw', rfl, ev_iteT t1 (ev_nm rfl), fin _ (by rw [if_pos hz]; exact hv l hlm)⟩
    · rw [decide_eq_false hz] at t1
      exact ⟨_, .tup true [.int 0, .int 1], rw', rfl, ev_iteF t1 (ev_tup (es_cons ev_cst (es_cons ev_cst es_nil)) rfl), fin _ (by rw [if_neg hz]; exact isQ_zero)⟩)
  have lm : (maskQ m (rowS ss) line).length = 2 ^ m := by
    unfold maskQ
    rw [List.length_map, lots_len hm]
  have pl : (prL m (valOf (lots m) lds)).length = (maskQ m (rowS ss) line).length := by
    unfold prL maskQ
    rw [List.length_map, List.length_map]
  rw [pl, List.take_length] at g1
  rw [g2] at e
  refine ⟨ds, e, g1, lm, fun q hq => ?_⟩
  obtain ⟨l, hl2, rfl⟩ := List.mem_map.mp hq
  split
  · exact sm _ (vl_mem hm ll hl2)
  · exact ⟨by decide, by decide⟩
def pOff (p : List Int → Bool) (d : D) : Bool := match d with
  | .tup _ [l, .tup _ [.int a, _]] => !decide (a = 0) && !onLotB p l
  | _ => false
theorem mid_iff {m : Nat} {sq : Int → Rat} {l : List Int} (h : l ∈ lots m) : decide (l ∈ midLots m sq) = midB m sq l := by
  unfold midLots
  cases hb : midB m sq l with
  | true => exact decide_eq_true (List.mem_filter.mpr ⟨h, hb⟩)
  | false => exact decide_eq_false fun z => by rw [(List.mem_filter.mp z).2] at hb; cases hb
theorem off_run {m : Nat} (hm : m ≤ 4) {rw : MH} {ss own : List Rat} {ods : List D} (hl : IsQs own ods) (ll : own.length = 2 ^ m) :
    evE (callN tab n) [] (.cmp .eq lOff (.lst false [])) (sg ns x2 x3 x4 x5 x6 x7 (some (.lst ((lots m).map eL))) (some (.lst ((midLots m (rowS ss)).map eL))) x10 (some (.tup true ods)) x12 x13 x14 x15 x16) rw = .ok (.bl (isMid m (rowS ss) own)) rw := by
  have odl : ods.length = 2 ^ m := by rw [hl.length, ll]
  have hv : ∀ l ∈ lots m, IsQ (vl m own l) (valOf (lots m) ods l) := fun l h => valOf_isQ hm hl ll h
  have ml : ∀ a ∈ midLots m (rowS ss), a.length ≤ 100 := fun a ha => by have := (lots_small hm a (mid_mem a ha)).1; omega
  have pv : ∀ l ∈ lots m, pOff (midB m (rowS ss)) (.tup true [eL l, valOf (lots m) ods l]) = !(decide (vl m own l = 0) || midB m (rowS ss) l) := fun l h => by
    obtain ⟨k, e⟩ := hv l h
    rw [e]
    show (!decide ((vl m own l).num = 0) && !onLotB (midB m (rowS ss)) (eL l)) = _
    rw [onLotB_eL, Bool.not_or]
    congr 2
    by_cases z : vl m own l = 0
    · rw [decide_eq_true z, z]; rfl
    · rw [decide_eq_false z, decide_eq_false (fun y => z (Rat.num_eq_zero.mp y))]
  have q := comp_flt (C := callN tab n) (ro := []) (rw := rw) (rw0 := rw) (σ := sg ns x2 x3 x4 x5 x6 x7 (some (.lst ((lots m).map eL))) (some (.lst ((midLots m (rowS ss)).map eL))) x10 (some (.tup true ods)) x12 x13 x14 x15 x16) (elt := .cst (.int 1)) (te := .and [.cmp .ne (.sub (.nm 16) (.cst (.int 0))) (.cst (.int 0)), .cmp .notin (.nm 15) (.nm 9)]) (vs := [15, 16]) (tg := .tup [.nm 15, .nm 16]) (it := .zip2 (.nm 8) (.nm 11)) (s := prL m (valOf (lots m) ods)) (pOff (midB m (rowS ss))) (fun _ => .int 1) (by
    rw [← zip_prL hm odl]
    exact zip2_run (ev_nm rfl) (ev_nm rfl) rfl rfl) (by have := prL_len hm (valOf (lots m) ods); omega) (fun d hd => by
    obtain ⟨l, hlm, rfl⟩ := List.mem_map.mp hd
    refine ⟨sg ns x2 x3 x4 x5 x6 x7 (some (.lst ((lots m).map eL))) (some (.lst ((midLots m (rowS ss)).map eL))) x10 (some (.tup true ods)) x12 x13 x14 (some (eL l)) (some (valOf (lots m) ods l)), rfl, ?_, fun _ => ev_cst⟩
    rw [pv l hlm, Bool.not_or]
    obtain ⟨k, e⟩ := hv l hlm
    rw [e]
    have q2 := ev_cmp (C := callN tab n) (ro := []) (rw := rw) (σ := sg ns x2 x3 x4 x5 x6 x7 (some (.lst ((lots m).map eL))) (some (.lst ((midLots m (rowS ss)).map eL))) x10 (some (.tup true ods)) x12 x13 x14 (some (eL l)) (some (.tup k [.int (vl m own l).num, .int (vl m own l).den]))) (op := .ne) (ev_sub (ev_nm (i := 16) rfl) (ev_cst (d := .int 0)) sub_0) (ev_cst (d := .int 0)) (neI (ro := []) (rw := rw) _ _)
    have q3 := ev_cmp (C := callN tab n) (ro := []) (rw := rw) (σ := sg ns x2 x3 x4 x5 x6 x7 (some (.lst ((lots m).map eL))) (some (.lst ((midLots m (rowS ss)).map eL))) x10 (some (.tup true ods)) x12 x13 x14 (some (eL l)) (some (.tup k [.int (vl m own l).num, .int (vl m own l).den]))) (op := .notin) (ev_nm (i := 15) rfl) (ev_nm (i := 9) rfl) (notin_L (ro := []) (rw := rw) ml (by have := (lots_small hm l hlm).1; omega))
    rw [mid_iff hlm] at q3
    have hz : decide ((vl m own l).num = 0) = decide (vl m own l = 0) := by
      by_cases z : vl m own l = 0
      · rw [decide_eq_true z, z]; rfl
      · rw [decide_eq_false z, decide_eq_false (fun y => z (Rat.num_eq_zero.mp y))]
    rw [hz] at q2
    cases hb : decide (vl m own l = 0) with
    | true => rw [hb] at q2; exact ev_and (ev_andF q2)
    | false =>
      rw [hb] at q2
      rw [Bool.not_false, Bool.true_and]
      exact ev_and (ev_andT q2 (ev_and1 q3)))
  have hb : ((prL m (valOf (lots m) ods)).filter (pOff (midB m (rowS ss)))).isEmpty = isMid m (rowS ss) own := by
    unfold isMid prL
    have g : ∀ ls : List (List Int), (∀ l ∈ ls, l ∈ lots m) → ((ls.map fun l => D.tup true [eL l, valOf (lots m) ods l]).filter (pOff (midB m (rowS ss)))).isEmpty = ls.all fun l => decide (vl m own l = 0) || midB m (rowS ss) l := fun ls => by
      induction ls with
      | nil => intro _; rfl
      | cons l ls ih =>
        intro h
        rw [List.all_cons, List.map_cons, List.filter_cons, pv l (h l List.mem_cons_self), ← ih fun a ha => h a (List.mem_cons_of_mem _ ha)]
        cases (decide (vl m own l = 0) || midB m (rowS ss) l) <;> simp
    exact g _ fun _ h => h
  have hi : ((prL m (valOf (lots m) ods)).filter (pOff (midB m (rowS ss)))).map (fun _ => D.int 1) = (((prL m (valOf (lots m) ods)).filter (pOff (midB m (rowS ss)))).map fun _ => (1 : Int)).map .int := by
    rw [List.map_map]; rfl
  rw [hi] at q
  refine ev_cmp q (ev_lst es_nil rfl) ?_
  show eqD [] rw (.lst ((((prL m (valOf (lots m) ods)).filter (pOff (midB m (rowS ss)))).map fun _ => (1 : Int)).map .int)) (.lst []) = _
  have e1 : toPy [] rw deep (.lst ((((prL m (valOf (lots m) ods)).filter (pOff (midB m (rowS ss)))).map fun _ => (1 : Int)).map .int)) = some (.list ((((prL m (valOf (lots m) ods)).filter (pOff (midB m (rowS ss)))).map fun _ => (1 : Int)).map .int)) := by
    unfold deep toPy
    rw [mapM_ints]; rfl
  rw [eqD_of e1 (q := .list []) rfl (shaped_ints _) (shaped_ints []), ← hb]
  cases ((prL m (valOf (lots m) ods)).filter (pOff (midB m (rowS ss)))) with
  | nil => rfl
  | cons x xs => rfl
end
end Lw

set_option Elab.async false
set_option linter.all false
set_option maxRecDepth 100000
set_option maxHeartbeats 4000000
/-! K56Q: one lap of the law of middles, all of it (k56). -/
namespace Lw
open PySem Mx
section
variable {n : Nat} {ns : List Int} {x2 x3 x4 x5 x6 x7 x8 x9 x10 x11 x12 x13 x14 x15 x16 : Option D}
theorem own_run (h1 : 12 ≤ n) {m t : Nat} (hm : m ≤ 4) {rw : MH} (hs : St t [] rw) (ht : t < 2 ^ 38) {ss own : List Rat} {sds ods : List D} (hS : IsQs ss sds) (ls : ss.length = m) (sc : ∀ q ∈ ss, Sm 2 q) (ho : IsQs own ods) (lo : own.length = 2 ^ m) (so : ∀ q ∈ own, Sm 2 q) :
    ∃ y12 y13 rw', exSs (callN tab n) [] lOwn (sg ns x2 x3 x4 x5 (some (.int m)) (some (.tup true sds)) (some (.lst ((lots m).map eL))) (some (.lst ((midLots m (rowS ss)).map eL))) x10 (some (.tup true ods)) x12 x13 x14 x15 x16) rw = .ok (.nx (sg ns x2 x3 x4 x5 (some (.int m)) (some (.tup true sds)) (some (.lst ((lots m).map eL))) (some (.lst ((midLots m (rowS ss)).map eL))) x10 (some (.tup true ods)) y12 y13 x14 x15 x16)) rw' ∧ St (t + 48) [] rw' := by
  have al := alike_run tMid tLf tL0 tLot tO0 (ro := []) (rw := rw) (n := n) (by omega) (e := 30) hm (b0 := true) (b1 := true) hS ls sc ho lo so (by decide) (by decide)
  rw [alike_mid hm] at al
  have im := is_mid_run tMid tJ0 tLot (ro := []) (rw := rw) (n := n) (by omega) hm (b0 := true) (b1 := true) (b2 := true) hS ls ho lo
  obtain ⟨b, hb⟩ : ∃ b, b = isMid m (rowS ss) own := ⟨_, rfl⟩
  rw [← hb] at al im
  have c1 : exS (callN tab n) [] (.ite (.or [.not (.call "_law_is" [.call "is_middle" [.nm 7, .tup [.cst (.str "table"), .nm 11]] [] [0, 1], .nm 12] [] [0, 1]), .cmp .ne (.nm 12) (.cmp .eq lOff (.lst false []))]) [.ret (some (.cst (.bl false)))] []) (sg ns x2 x3 x4 x5 (some (.int m)) (some (.tup true sds)) (some (.lst ((lots m).map eL))) (some (.lst ((midLots m (rowS ss)).map eL))) x10 (some (.tup true ods)) (some (.bl b)) x13 x14 x15 x16) rw = .ok (.nx (sg ns x2 x3 x4 x5 (some (.int m)) (some (.tup true sds)) (some (.lst ((lots m).map eL))) (some (.lst ((midLots m (rowS ss)).map eL))) x10 (some (.tup true ods)) (some (.bl b)) x13 x14 x15 x16)) rw := by
    refine ex_iteF (ev_or (ev_orF (ev_not (k := true) (ev_call (es_cons (ev_call (es_cons (ev_nm rfl) (es_cons (ev_tup (es_cons ev_cst (es_cons (ev_nm rfl) es_nil)) rfl) es_nil)) rfl im) (es_cons (ev_nm rfl) es_nil)) rfl (is_told tIs (k := 0) (j := 1) (by omega) (tells_bl b) (tells_bl b) (fine_bool b) (by decide) (by decide) (by decide)))) (ev_or1 (ev_cmp (ev_nm rfl) (off_run hm ho lo) ?_))))
    show (eqD [] rw (.bl b) (.bl (isMid m (rowS ss) own))).map (!·) = _
    rw [eqB, ← hb, decide_eq_true rfl]; rfl
  obtain ⟨qs2, lds, rw2, e2, s2, ql, ll, ml⟩ := some_line_run tO0 tDraw tL0 tLot (n := n) (by omega) hm hs (by omega)
  have to : IsTab m own (.tup true [.str (Str.ofString "table"), .tup true ods]) := ⟨lo, true, true, ods, rfl, ho⟩
  have tl : IsTab m qs2 (.tup true [.str (Str.ofString "table"), .tup true lds]) := ⟨ll, true, true, lds, rfl, ql⟩
  obtain ⟨g1, e3, t3, _⟩ := fold_tables56_run tMid tF0 tNum tJ0 tLot (ro := []) (rw := rw2) (n := n) (by omega) (e := 14) hm (k := true) hS ls sc to tl so ml (by decide) (by decide)
  obtain ⟨g2, e4, t4, _⟩ := fold_tables56_run tMid tF0 tNum tJ0 tLot (ro := []) (rw := rw2) (n := n) (by omega) (e := 14) hm (k := true) hS ls sc tl to ml so (by decide) (by decide)
  have c3 : exS (callN tab n) [] (.ite (.and [.nm 12, .cmp .ne (.call "fold_tables" [.nm 7, .tup [.cst (.str "table"), .nm 11], .nm 13] [] [0, 1, 2]) (.call "fold_tables" [.nm 7, .nm 13, .tup [.cst (.str "table"), .nm 11]] [] [0, 1, 2])]) [.ret (some (.cst (.bl false)))] []) (sg ns x2 x3 x4 x5 (some (.int m)) (some (.tup true sds)) (some (.lst ((lots m).map eL))) (some (.lst ((midLots m (rowS ss)).map eL))) x10 (some (.tup true ods)) (some (.bl b)) (some (.tup true [.str (Str.ofString "table"), .tup true lds])) x14 x15 x16) rw2 = .ok (.nx (sg ns x2 x3 x4 x5 (some (.int m)) (some (.tup true sds)) (some (.lst ((lots m).map eL))) (some (.lst ((midLots m (rowS ss)).map eL))) x10 (some (.tup true ods)) (some (.bl b)) (some (.tup true [.str (Str.ofString "table"), .tup true lds])) x14 x15 x16)) rw2 := by
    cases b with
    | false => exact ex_iteF (ev_and (ev_andF (ev_nm rfl)))
    | true =>
      refine ex_iteF (ev_and (ev_andT (ev_nm rfl) (ev_and1 (ev_cmp (ev_call (es_cons (ev_nm rfl) (es_cons (ev_tup (es_cons ev_cst (es_cons (ev_nm rfl) es_nil)) rfl) (es_cons (ev_nm rfl) es_nil))) rfl e3) (ev_call (es_cons (ev_nm rfl) (es_cons (ev_nm rfl) (es_cons (ev_tup (es_cons ev_cst (es_cons (ev_nm rfl) es_nil)) rfl) es_nil))) rfl e4) ?_))))
      have same : (lots m).map (foldQ m (rowS ss) (vl m own) (vl m qs2)) = (lots m).map (foldQ m (rowS ss) (vl m qs2) (vl m own)) := List.map_congr_left fun L _ => mid_fold hm hb.symm L
      rw [same] at t3
      show (eqD [] rw2 g1 g2).map (!·) = _
      rw [eqT_same hm t3 t4]; rfl
  refine ⟨some (.bl b), some (.tup true [.str (Str.ofString "table"), .tup true lds]), rw2, ?_, s2⟩
  refine (ex_nx (ex_set (ev_call (es_cons (ev_nm rfl) (es_cons (ev_nm rfl) es_nil)) rfl al) (show 12 < 17 by decide))).trans ((ex_nx c1).trans ((ex_nx (ex_set (ev_tup (es_cons ev_cst (es_cons (ev_call (es_cons (ev_nm rfl) (es_cons (ev_nm rfl) es_nil)) rfl e2) es_nil)) rfl) (show 13 < 17 by decide))).trans ((ex_nx c3).trans ?_)))
  unfold exSs; rfl
theorem lap_run (h1 : 12 ≤ n) {t : Nat} {rw : MH} (hs : St t [] rw) (ht : t < 2 ^ 37) :
    ∃ y6 y7 y8 y9 y10 y11 y12 y13 rw', exSs (callN tab n) [] lap (sg ns x2 x3 x4 x5 x6 x7 x8 x9 x10 x11 x12 x13 x14 x15 x16) rw = .ok (.nx (sg ns x2 x3 x4 x5 y6 y7 y8 y9 y10 y11 y12 y13 x14 x15 x16)) rw' ∧ St (t + 200) [] rw' := by
  obtain ⟨v, rw1, e0, s1, v0, v5⟩ := draw_run tDraw (n := n) (by omega) hs (by omega) (room := 5) (by decide) (by decide)
  obtain ⟨m, rfl⟩ : ∃ m : Nat, v = m := ⟨v.toNat, by omega⟩
  have hm : m ≤ 4 := by omega
  have l16 : (lots m).length ≤ 16 := by rw [lots_len hm]; exact Nat.pow_le_pow_right (n := 2) (by decide) hm
  obtain ⟨ss, sds, rw2, e1, s2, qs, ls, ms⟩ := sq_run (n := n) (ns := ns) (x2 := x2) (x3 := x3) (x4 := x4) (x5 := x5) (x7 := x7) (x8 := x8) (x9 := x9) (x10 := x10) (x11 := x11) (x12 := x12) (x13 := x13) (x14 := x14) (x15 := x15) (x16 := x16) (by omega) hm s1 (by omega)
  have p1 := places_run (ro := []) (rw := rw2) tLot (n := n) (by omega) hm
  have d1 := due_run (n := n) (ns := ns) (x2 := x2) (x3 := x3) (x4 := x4) (x5 := x5) (x9 := x9) (x10 := x10) (x11 := x11) (x12 := x12) (x13 := x13) (x14 := x14) (x15 := x15) (x16 := x16) (by omega) hm (rw := rw2) qs ls ms
  have ml := mid_lots_run tMid tJ0 tLot (ro := []) (rw := rw2) (n := n) (by omega) hm (b0 := true) qs ls
  have mlen : (midLots m (rowS ss)).length ≤ 16 := Nat.le_trans (List.length_filter_le _ _) l16
  have c4 : exS (callN tab n) [] (.ite (.not (.call "_law_is" [.call "middle_lots" [.nm 7] [] [0], .blt false .tuple [.nm 9]] [] [0, 1])) [.ret (some (.cst (.bl false)))] []) (sg ns x2 x3 x4 x5 (some (.int m)) (some (.tup true sds)) (some (.lst ((lots m).map eL))) (some (.lst ((midLots m (rowS ss)).map eL))) x10 x11 x12 x13 x14 x15 x16) rw2 = .ok (.nx (sg ns x2 x3 x4 x5 (some (.int m)) (some (.tup true sds)) (some (.lst ((lots m).map eL))) (some (.lst ((midLots m (rowS ss)).map eL))) x10 x11 x12 x13 x14 x15 x16)) rw2 :=
    ex_iteF (ev_not (k := true) (ev_call (es_cons (ev_call (es_cons (ev_nm rfl) es_nil) rfl ml) (es_cons (ev_blt (d := .tup true ((midLots m (rowS ss)).map eL)) (es_cons (ev_nm rfl) es_nil) rfl) es_nil)) rfl (is_told tIs (by omega) (tells_lots hm mid_mem mlen) (tells_lots hm mid_mem mlen) (fine_lots hm mid_mem mlen) (by decide) (by decide) (by decide))))
  obtain ⟨line, lds, rw3, e3, s3, ql, ll, sl⟩ := some_line_run tO0 tDraw tL0 tLot (n := n) (by omega) hm s2 (by omega)
  obtain ⟨mds, e4, qm, lm, sm⟩ := mask_run (n := n) (ns := ns) (x2 := x2) (x3 := x3) (x4 := x4) (x5 := x5) (x6 := some (.int m)) (x7 := some (.tup true sds)) (x11 := x11) (x12 := x12) (x13 := x13) (x14 := x14) (x15 := x15) (x16 := x16) hm (rw := rw3) (ss := ss) ql ll sl
  obtain ⟨y12, y13, rw4, e5, s4⟩ := own_run (n := n) (ns := ns) (x2 := x2) (x3 := x3) (x4 := x4) (x5 := x5) (x10 := some (.tup true lds)) (x12 := x12) (x13 := x13) (x14 := x14) (x15 := x15) (x16 := x16) (by omega) hm s3 (by omega) qs ls ms ql ll sl
  obtain ⟨z12, z13, rw5, e6, s5⟩ := own_run (n := n) (ns := ns) (x2 := x2) (x3 := x3) (x4 := x4) (x5 := x5) (x10 := some (.tup true lds)) (x12 := y12) (x13 := y13) (x14 := x14) (x15 := x15) (x16 := x16) (by omega) hm s4 (by omega) qs ls ms qm lm sm
  have lp : exS (callN tab n) [] (.loop (.nm 11) (.seq (.lst false [.nm 10, .blt false .tuple [lMask]])) lOwn) (sg ns x2 x3 x4 x5 (some (.int m)) (some (.tup true sds)) (some (.lst ((lots m).map eL))) (some (.lst ((midLots m (rowS ss)).map eL))) (some (.tup true lds)) x11 x12 x13 x14 x15 x16) rw3 = .ok (.nx (sg ns x2 x3 x4 x5 (some (.int m)) (some (.tup true sds)) (some (.lst ((lots m).map eL))) (some (.lst ((midLots m (rowS ss)).map eL))) (some (.tup true lds)) (some (.tup true mds)) z12 z13 x14 x15 x16)) rw5 := by
    have src : evT (callN tab n) [] (.seq (.lst false [.nm 10, .blt false .tuple [lMask]])) (sg ns x2 x3 x4 x5 (some (.int m)) (some (.tup true sds)) (some (.lst ((lots m).map eL))) (some (.lst ((midLots m (rowS ss)).map eL))) (some (.tup true lds)) x11 x12 x13 x14 x15 x16) rw3 = .ok [.tup true lds, .tup true mds] rw3 := by
      unfold evT
      rw [bindM (ev_lst (es_cons (ev_nm rfl) (es_cons (ev_blt (d := .tup true mds) (es_cons e4 es_nil) rfl) es_nil)) rfl)]; rfl
    exact loop_two src rfl e5 rfl e6
  refine ⟨some (.int m), some (.tup true sds), some (.lst ((lots m).map eL)), some (.lst ((midLots m (rowS ss)).map eL)), some (.tup true lds), some (.tup true mds), z12, z13, rw5, ?_, s5.le (by omega)⟩
  refine (ex_nx (ex_set (ev_call (es_cons (ev_nm rfl) (es_cons ev_cst es_nil)) rfl e0) (show 6 < 17 by decide))).trans ((ex_nx (ex_set (ev_blt (d := .tup true sds) (es_cons e1 es_nil) rfl) (show 7 < 17 by decide))).trans ((ex_nx (ex_set (ev_call (es_cons (ev_nm rfl) es_nil) rfl p1) (show 8 < 17 by decide))).trans ((ex_nx (ex_set d1 (show 9 < 17 by decide))).trans ((ex_nx c4).trans ((ex_nx (ex_set (ev_call (es_cons (ev_nm rfl) (es_cons (ev_nm rfl) es_nil)) rfl e3) (show 10 < 17 by decide))).trans ((ex_nx lp).trans ?_))))))
  unfold exSs; rfl
end
end Lw

set_option Elab.async false
set_option linter.all false
set_option maxRecDepth 100000
set_option maxHeartbeats 2000000
/-! K56R: the law of middles, whole (k56). -/
namespace Lw
open PySem Mx
def toldD : D := .lst [.tup true [eL []], .tup true [eL []], .tup true [eL [], eL [0, 1, 2]], .tup true [eL [], eL [0, 1], eL [0, 1, 2]], .tup true [eL [], eL [0, 1]]]
theorem head_run {ns : List Int} {rw : MH} : exSs (callN tab 39) [] [.unp (.tup [.nm 4, .nm 5]) (.tup [.tup [.cst (.int 1), .cst (.int 1)], .tup [.cst (.int 0), .cst (.int 1)]]), .set 2 (.lst false [.call "middle_lots" [.tup []] [] [0], .call "middle_lots" [.tup [.nm 4, .nm 4]] [] [0], .call "middle_lots" [.tup [.nm 4, .nm 4, .nm 4]] [] [0], .call "middle_lots" [.tup [.nm 5, .nm 5, .nm 4]] [] [0], .call "middle_lots" [.tup [.nm 5, .nm 5]] [] [0]]), lTold] (sg ns none none none none none none none none none none none none none none none) rw = .ok (.nx (sg ns (some toldD) none (some (.tup true [.int 1, .int 1])) (some (.tup true [.int 0, .int 1])) none none none none none none none none none none none)) rw := by
  kernel_rfl
theorem laps_run {ns : List Int} (hn : ns.length ≤ 63) {rw : MH} (hs : St 0 [] rw) {x2 x4 x5 : Option D} : ∃ σ' rw', exS (callN tab 39) [] lLoop (sg ns x2 none x4 x5 none none none none none none none none none none none) rw = .ok (.nx σ') rw' := by
  obtain ⟨k, hk⟩ : ∃ k : Nat, k = 5 + min ns.length 7 := ⟨_, rfl⟩
  obtain ⟨σ', rw', e, _⟩ := loop_run (C := callN tab 39) (ro := []) (g := .nm 3) (it := .rng1 (.bin .add (.cst (.int 5)) (.blt false .min2 [.blt false .len [.nm 0], .cst (.int 7)]))) (b := lap) (s := (upto k).map .int) (rw := rw) (rw0 := rw) (σ := sg ns x2 none x4 x5 none none none none none none none none none none none)
    (fun pre σ rw' => ∃ x3 x6 x7 x8 x9 x10 x11 x12 x13 x14 x15 x16, σ = sg ns x2 x3 x4 x5 x6 x7 x8 x9 x10 x11 x12 x13 x14 x15 x16 ∧ St (pre.length * 200) [] rw')
    (rng_run (by omega) (ev_bin (z := .int k) ev_cst (ev_blt (d := .int (min ns.length 7 : Nat)) (es_cons (ev_blt (d := .int ns.length) (es_cons (ev_nm rfl) es_nil) (by
        show some (D.int (((ns.map D.int).length : Nat) : Int)) = _
        rw [List.length_map])) (es_cons ev_cst es_nil)) (by
        have q : (if (7 : Int) < (ns.length : Int) then 7 else (ns.length : Int)) = ((min ns.length 7 : Nat) : Int) := by split <;> omega
        show some (D.int (if (7 : Int) < (ns.length : Int) then 7 else (ns.length : Int))) = _
        rw [q])) (by
        have q : (5 + ((min ns.length 7 : Nat) : Int)) = (k : Int) := by omega
        show some (D.int (5 + ((min ns.length 7 : Nat) : Int))) = _
        rw [q]))) ⟨none, none, none, none, none, none, none, none, none, none, none, none, rfl, by simpa using hs⟩ (fun pre d post σ rw' e ⟨x3, x6, x7, x8, x9, x10, x11, x12, x13, x14, x15, x16, e1, s1⟩ => by
      subst e1
      have hp : pre.length < 12 := by
        have := congrArg List.length e
        simp [upto] at this
        omega
      obtain ⟨y6, y7, y8, y9, y10, y11, y12, y13, rw2, k1, k2⟩ := lap_run (n := 39) (by decide) (ns := ns) s1 (by omega) (x2 := x2) (x3 := some d) (x4 := x4) (x5 := x5) (x6 := x6) (x7 := x7) (x8 := x8) (x9 := x9) (x10 := x10) (x11 := x11) (x12 := x12) (x13 := x13) (x14 := x14) (x15 := x15) (x16 := x16)
      refine ⟨_, _, rw2, rfl, .inl k1, some d, y6, y7, y8, y9, y10, y11, y12, y13, x14, x15, x16, rfl, ?_⟩
      rw [List.length_append, List.length_singleton]
      exact k2.le (by omega))
  exact ⟨σ', rw', e⟩
theorem plainLaw : Plain tab (39 + 1) 63 := by
  intro ns hn _
  obtain ⟨rw1, e1, s1⟩ := begun_run tDraw (n := 39) (by decide) ns hn
  obtain ⟨σ', rw', e2⟩ := laps_run hn s1 (x2 := some toldD) (x4 := some (.tup true [.int 1, .int 1])) (x5 := some (.tup true [.int 0, .int 1]))
  refine ⟨rw', call_f (show tab "law" = some f_law by kernel_rfl) (by decide) rfl (by decide) (fl := .rt (.bl true)) (fun m hm => ?_) rfl⟩
  obtain rfl : m = 39 := by omega
  refine (ex_nx (ex_set (ev_call (es_cons (ev_nm rfl) es_nil) rfl e1) (show 1 < 17 by decide))).trans ?_
  refine (ex_app (bs := [lLoop, .ret (some (.cst (.bl true)))]) head_run).trans ?_
  exact (ex_nx e2).trans (ex_rt (ex_ret ev_cst))
end Lw

set_option Elab.async false
set_option linter.all false
set_option maxRecDepth 100000
set_option maxHeartbeats 0
/-! LwE: the end of the law (printed by tools/genle.py k56). -/
namespace Lw
open PySem PySem.Spec PySem.W PySem.Calls PyProof.Rows L2 Mx
theorem bindLaw : BindB d_law.rec_.params ⟨1, [], [], [0]⟩ ["script"] := by
  intro name qual body scope kV doc pm an cdv ct us ws dus as l1 l2 l3 hm
  match us, ws, dus, l1, l2, l3 with
  | [u1], [], [], _, _, _ =>
    have e : [u1] = as := Option.some.inj hm
    subst e
    exact ⟨fun _ => rfl, fun h => absurd rfl h⟩
end Lw
open PySem PySem.W PySem.Calls PyProof.Rows
theorem Lw.theEnd (hp : Mx.Plain Lw.tab (39 + 1) 63) : PySem.Challenge.rw_axlebook_k56_whole_middles.Holds := by
  w_on; o_law
  refine HandSHeadRun.head_imp (r := OpenLaw.row PySem.Challenge.rw_axlebook_k56_whole_middles) (q := Lw.vw) (H := Lw.hk) (ob := Lw.ob) (M := 6000) (loose := Lw.looseL) (d := HandSHeadRun.topDef Lw.prg 70) (kwd := []) Lw.ob_eq Lw.run
    (by kernel_rfl) (by kernel_rfl) (by kernel_rfl) (by rfl) (by first | assumption | decide +kernel) (by decide +kernel) ⟨rfl, rfl, rfl, rfl, rfl, by decide +kernel⟩ ?hw ?hc
  case hw => w_witness2
  case hc =>
    refine Mx.walk_G (l := PySem.Challenge.rw_axlebook_k56_whole_middles) (n := 63) (k := 39 + 4) (x := "script") rfl (by decide) (by kernel_rfl) ⟨rfl, by decide, by decide⟩ ?F
    intro w mg fa h Y G hmg0
    obtain ⟨K, KA, KX, KAX, c⟩ := Y
    have hmg : mg ("law" : PySem.Str) = some (.ref fa) := by
      have e : (HandSHeadRun.topDef Lw.prg 70).name = ("law" : PySem.Str) := by kernel_rfl
      rw [← e]
      exact hmg0
    exact ⟨K, KX, Mx.law_G KX KAX G (Mx.ask_ok c) Lw.planL Lw.in_law rfl Lw.dc_law Lw.namesRight Lw.bindLaw rfl hmg hp⟩

theorem PySem.Challenge.cw_axlebook_k56_whole_middles_holds : PySem.Challenge.rw_axlebook_k56_whole_middles.Holds := by
  exact Lw.theEnd Lw.plainLaw
