import PyProof.Rows.All
import PySem.Str
import KE.SortData
import HandS.ForMost
import HandS.Exc
import HandS.ExcOwn
import HandS.CallSlots
import HandS.ExcCtx
import HandS.Deep
import HandS.TupAny
import HandS.TupLe
import HandS.More
import KE.DataCmp
import HandS.Style
import HandS.Conv
import HandS.Flow
import HandS.IsInst
import HandS.Text
import HandS.Dict
import HandS.Iter
import HandS.Zip
import HandS.DictComp
import HandS.RevTup
import HandS.Rev
import HandS.Defaults
import HandS.HotCalls
import HandS.ExcIs
import PyProof.Rows.SumAny
import KE.KStateDown
import HandS.Ends
import HandS.Words
import HandS.WordsExc
import HandS.Head0
import HandS.Head1
import HandS.Head2
import HandS.HeadEnd
import HandS.HeadHook1
import HandS.HeadHook2
import KE.LtData
import KE.SortKeyed
import PySem.Challenge.RW_motionward_k54_whole_notices_of_meetings
set_option Elab.async false
section
set_option linter.all false
/-! MSem: a small core language over data trees, its evaluator. Plain Lean. -/
namespace M
open PySem (Str)

abbrev Key := Sum Int Str

/-- data -/
inductive D where
  | non
  | bl (b : Bool)
  | int (i : Int)
  | str (x : Str)
  | lst (xs : List D)
  | tup (xs : List D)
  | dct (kvs : List (Key × D))
  | dctT (kvs : List (List Key × D))
  | fn (name : Str)
  deriving Inhabited

namespace D
def flat : D → Bool
  | .non => true | .bl _ => true | .int _ => true | .str _ => true | .fn _ => true
  | _ => false
mutual
def py : D → PySem.PyData
  | .non => .none | .bl b => .bool b | .int i => .int i | .str x => .str x
  | .lst xs => .list (pys xs) | .tup xs => .tuple (pys xs)
  | .dct _ => .dict [] | .dctT _ => .dict [] | .fn _ => .dict []
def pys : List D → List PySem.PyData
  | [] => []
  | x :: xs => py x :: pys xs
end
/-- no dict within, at most n deep -/
def plain : Nat → D → Bool
  | _, .non => true | _, .bl _ => true | _, .int _ => true | _, .str _ => true
  | n + 1, .lst xs => xs.all (plain n)
  | n + 1, .tup xs => xs.all (plain n)
  | _, _ => false
def key? : D → Option Key
  | .int i => some (.inl i)
  | .str x => some (.inr x)
  | _ => none
def keys? : List D → Option (List Key)
  | [] => some []
  | x :: xs => match x.key?, keys? xs with
    | some k, some ks => some (k :: ks)
    | _, _ => none
def ofKey : Key → D
  | .inl i => .int i
  | .inr x => .str x
end D

inductive Out (α : Type) where
  | ok (a : α)
  | exc (c : Str) (p : D)
  | stuck
  deriving Inhabited
def Out.bind {α β : Type} (x : Out α) (f : α → Out β) : Out β :=
  match x with
  | .ok a => f a
  | .exc c p => .exc c p
  | .stuck => .stuck
instance : Monad Out where
  pure := Out.ok
  bind := Out.bind

inductive Slot where
  | none | val (d : D) | own (d : D) | lck (d : D)
  deriving Inhabited
abbrev Env := List Slot
inductive Res where
  | val (d : D) | own (d : D) | slot (i : Nat)
  deriving Inhabited

def deref (ρ : Env) : Res → Option D
  | .val d => some d
  | .own d => some d
  | .slot i => match ρ[i]? with
    | some (.own d) => some d
    | some (.val d) => some d
    | some (.lck d) => some d
    | _ => none
/-- the value is handed on: it may not change any more -/
def freeze (ρ : Env) : Res → Out (D × Env)
  | .val d => .ok (d, ρ)
  | .own d => .ok (d, ρ)
  | .slot i => match ρ[i]? with
    | some (.own d) => .ok (d, ρ.set i (.val d))
    | some (.val d) => .ok (d, ρ)
    | _ => .stuck
def freezes : Env → List Res → Out (List D × Env)
  | ρ, [] => .ok ([], ρ)
  | ρ, r :: rs => (freeze ρ r).bind fun p => (freezes p.2 rs).bind fun q => .ok (p.1 :: q.1, q.2)
def derefs (ρ : Env) : List Res → Option (List D)
  | [] => some []
  | r :: rs => match deref ρ r, derefs ρ rs with
    | some d, some ds => some (d :: ds)
    | _, _ => none

/-- a def: its name, how many of its first parameters it changes, what it does -/
structure FnE where
  name : Str
  nin : Nat
  star : Option Nat
  run : List D → Out (Res × List D)

inductive BinO | add | sub | mul | fdiv | mod | pow deriving DecidableEq
inductive CmpO | eq | ne | lt | le | gt | ge | is | isnot | inn | notin deriving DecidableEq
inductive BI | len | abs | int | str | sum | all | any | min | max | sorted | list | tuple | divmod | sortedRev | bool | sortedSet | lenSet | set | repr | dict deriving DecidableEq
inductive TyN | int | bool | str | list | tuple | dict | nonetype | cls (name : Str) deriving DecidableEq
inductive MM | append | pop | insert | extend | remove | update | reverse deriving DecidableEq

inductive CT where
  | n (i : Nat)
  | tup (ts : List CT)

mutual
inductive CE where
  | k (d : D)
  | v (i : Nat)
  | gl (x : Str) (d : D)
  | bin (op : BinO) (a b : CE)
  | neg (a : CE)
  | cmp (op : CmpO) (a b : CE)
  | chain (o p : CmpO) (a b c : CE)
  | and (es : List CE)
  | or (es : List CE)
  | not (a : CE)
  | ite (c a b : CE)
  | tup (es : List CE)
  | lst (es : List CE)
  | dct (kvs : List CE)
  | call (F : FnE) (es : List CE)
  | dyn (Fs : List FnE) (f : CE) (es : List CE)
  | bi (b : BI) (es : List CE)
  | biI (b : BI) (it : CI)
  | isi (e : CE) (ts : List TyN)
  | get1 (a k : CE)
  | get2 (a k d : CE)
  | mm (m : MM) (i : Nat) (es : List CE)
  | sub (a i : CE)
  | sl (a : CE) (lo hi : Option CE)
  | rev (a : CE)
  | lc (e : CE) (t : CT) (it : CI) (own : List Nat) (c : Option CE)
  | lc2 (e : CE) (t : CT) (it : CI) (c : Option CE) (t1 : CT) (it1 : CI) (c1 : Option CE) (own : List Nat) (own1 : List Nat)
  | dc (k e : CE) (t : CT) (it : CI) (own : List Nat) (c : Option CE)
  | fstr (es : List CE)
inductive CI where
  | e (e : CE)
  | range1 (a : CE)
  | range2 (a b : CE)
  | range3 (a b c : CE)
  | enum (e : CE)
  | zip (a b : CE)
  | items (e : CE)
  | values (e : CE)
  | reversed (e : CE)
end

inductive CS where
  | asg (i : Nat) (e : CE)
  | asgT (t : CT) (e : CE)
  | par (is : List Nat) (es : List CE)
  | aug (i : Nat) (op : BinO) (e : CE)
  | ex (e : CE)
  | ret (e : CE)
  | retN
  | ite (c : CE) (a b : List CS)
  | forr (t : CT) (it : CI) (body : List CS)
  | whil (c : CE) (body : List CS)
  | brk
  | cont
  | pass
  | raise (c : Str)
  | setIx (i : Nat) (k e : CE)
  | augIx (i : Nat) (k : CE) (op : BinO) (e : CE)
  | delIx (i : Nat) (k : CE)

/-! ### operations on data -/
def line : Nat := 16777216
def b2i (b : Bool) : Int := if b then 1 else 0
def smallF (i : Int) : Bool := decide (-(2 ^ 64) < i) && decide (i < 2 ^ 64)
def repList : Nat → List D → List D
  | 0, _ => []
  | n + 1, xs => xs ++ repList n xs
def binD : BinO → D → D → Option Res
  | .add, .int i, .int j => some (.val (.int (i + j)))
  | .add, .str x, .str y => if x.length + y.length ≤ line then some (.val (.str (x ++ y))) else none
  | .add, .lst xs, .lst ys => if xs.length + ys.length ≤ line then some (.own (.lst (xs ++ ys))) else none
  | .add, .tup xs, .tup ys => if xs.length + ys.length ≤ line then some (.val (.tup (xs ++ ys))) else none
  | .sub, .int i, .int j => some (.val (.int (i - j)))
  | .mul, .int i, .int j => if smallF i || smallF j then some (.val (.int (i * j))) else none
  | .mul, .lst xs, .int k => if decide (0 ≤ k) && decide (k < 2 ^ 62) && decide (xs.length * k.toNat ≤ line) then some (.own (.lst (repList k.toNat xs))) else none
  | .fdiv, .int i, .int j => if decide (0 < j) && decide (j < 1073741824) then some (.val (.int (i / j))) else none
  | .mod, .int i, .int j => if decide (0 < j) then some (.val (.int (i % j))) else none
  | .pow, .int i, .int j => if decide (0 ≤ j) && decide (j ≤ 1000000) && decide (i.natAbs < 2 ^ 64) then some (.val (.int (i ^ j.toNat))) else none
  | _, _, _ => none
/-- d op= e of a simple value -/
def augD : BinO → D → D → Option D
  | .add, .int i, .int j => some (.int (i + j))
  | .add, .str x, .str y => if x.length + y.length ≤ line then some (.str (x ++ y)) else none
  | .sub, .int i, .int j => some (.int (i - j))
  | .mul, .int i, .int j => if smallF i || smallF j then some (.int (i * j)) else none
  | .fdiv, .int i, .int j => if decide (0 < j) && decide (j < 1073741824) then some (.int (i / j)) else none
  | .mod, .int i, .int j => if decide (0 < j) then some (.int (i % j)) else none
  | _, _, _ => none
def eqD (d e : D) : Option Bool :=
  if d.plain 9 && e.plain 9 then some (PySem.PyData.eqv d.py e.py) else none
def isNonD : D → Bool
  | .non => true
  | _ => false
def ltD (d e : D) : Option Bool :=
  if d.plain 9 && e.plain 9 && PySem.W.alike d.py e.py && !isNonD d then some (PySem.W.dataLt d.py e.py) else none
def findK {κ : Type} [DecidableEq κ] (kvs : List (κ × D)) (k : κ) : Option D := (kvs.find? fun kv => decide (kv.1 = k)).map (·.2)
def putK {κ : Type} [DecidableEq κ] (kvs : List (κ × D)) (k : κ) (v : D) : List (κ × D) :=
  if kvs.any fun kv => decide (kv.1 = k) then kvs.map fun kv => if kv.1 = k then (kv.1, v) else kv else kvs ++ [(k, v)]
def dropK {κ : Type} [DecidableEq κ] (kvs : List (κ × D)) (k : κ) : List (κ × D) := kvs.filter fun kv => decide (kv.1 ≠ k)
def inD : D → D → Option Bool
  | x, .lst ys => if x.plain 8 && ys.all (D.plain 8) then some (ys.any fun y => PySem.PyData.eqv y.py x.py) else none
  | x, .tup ys => if x.plain 8 && ys.all (D.plain 8) then some (ys.any fun y => PySem.PyData.eqv y.py x.py) else none
  | x, .dct kvs => match x.key? with
    | some k => some (findK kvs k).isSome
    | none => none
  | .str x, .str y => some (!(PySem.Builtin.Str.occurrences y x 0 y.length 1).isEmpty)
  | _, _ => none
def cmpD : CmpO → D → D → Option Bool
  | .eq, d, e => eqD d e
  | .ne, d, e => (eqD d e).map (!·)
  | .lt, d, e => ltD d e
  | .gt, d, e => ltD e d
  | .le, d, e => (ltD e d).map (!·)
  | .ge, d, e => (ltD d e).map (!·)
  | .is, d, .non => match d with | .non => some true | _ => some false
  | .isnot, d, .non => match d with | .non => some false | _ => some true
  | .is, .bl a, .bl b => some (a == b)
  | .isnot, .bl a, .bl b => some (!(a == b))
  | .is, _, _ => none
  | .isnot, _, _ => none
  | .inn, d, e => inD d e
  | .notin, d, e => (inD d e).map (!·)
def truD : D → Option Bool
  | .non => some false
  | .bl b => some b
  | .int i => some (i != 0)
  | .str x => some ((x.length : Int) != 0)
  | .lst xs => some (!xs.isEmpty)
  | .tup xs => some (!xs.isEmpty)
  | .dct kvs => some (!kvs.isEmpty)
  | _ => none
def ixN (n : Nat) (i : Int) : Option Nat := if 0 ≤ i then (if i < n then some i.toNat else none) else if -(n : Int) ≤ i then some (i + n).toNat else none
def atI {α : Type} (xs : List α) (i : Int) : Option α := (ixN xs.length i).bind fun j => xs[j]?
def subD : D → D → Option D
  | .lst xs, .int i => atI xs i
  | .tup xs, .int i => atI xs i
  | .str x, .int i => (atI x.cps.toList i).map fun c => .str ⟨#[c]⟩
  | .dct kvs, k => k.key?.bind (findK kvs)
  | _, _ => none
def sIx (n d : Nat) : Option Int → Nat
  | none => d
  | some i => if i < 0 then (i + n).toNat else min i.toNat n
def cut {α : Type} (xs : List α) (lo hi : Option Int) : List α := (xs.drop (sIx xs.length 0 lo)).take (sIx xs.length xs.length hi - sIx xs.length 0 lo)
def slD : D → Option Int → Option Int → Option Res
  | .lst xs, lo, hi => some (.own (.lst (cut xs lo hi)))
  | .tup xs, lo, hi => some (.val (.tup (cut xs lo hi)))
  | .str x, lo, hi => some (.val (.str ⟨(cut x.cps.toList lo hi).toArray⟩))
  | _, _, _ => none
def revD : D → Option Res
  | .lst xs => some (.own (.lst xs.reverse))
  | _ => none
def tyOf : D → Option TyN
  | .non => some .nonetype
  | .bl _ => some .bool
  | .int _ => some .int
  | .str _ => some .str
  | .lst _ => some .list
  | .tup _ => some .tuple
  | .dct _ => some .dict
  | _ => none
def tySub : TyN → TyN → Bool
  | .bool, .int => true
  | a, b => decide (a = b)
def isClsN : TyN → Bool
  | .cls _ => true
  | .nonetype => true
  | _ => false
def tyAny (ts : List TyN) (d : D) : Option Bool := match tyOf d with
  | some t => if ts.any isClsN then none else some (ts.any fun u => tySub t u)
  | none => none
def ints? : List D → Option (List Int)
  | [] => some []
  | .int i :: xs => (ints? xs).map (i :: ·)
  | _ => none
def bools? : List D → Option (List Bool)
  | [] => some []
  | .bl b :: xs => (bools? xs).map (b :: ·)
  | _ => none
def alikeAll (ds : List D) : Bool := ds.all fun d => ds.all fun e => PySem.W.alike d.py e.py
def isTupNe : D → Bool
  | .tup (_ :: _) => true
  | _ => false
def isOther : D → Bool
  | .non => false
  | .tup _ => false
  | _ => true
def sortD (rev : Bool) (ds : List D) : Option (List D) :=
  if ds.all (D.plain 8) && alikeAll ds && (ds.all isTupNe || ds.all isOther) then some (ds.mergeSort (PySem.W.dataLe rev D.py)) else none
/-- the items that a value is walked through -/
def itemsD : D → Option (List D)
  | .lst xs => some xs
  | .tup xs => some xs
  | .str x => some (x.cps.toList.map fun c => .str ⟨#[c]⟩)
  | .dct kvs => some (kvs.map fun kv => D.ofKey kv.1)
  | _ => none
def maxD : D → List D → Option D
  | m, [] => some m
  | m, x :: xs => match ltD m x with
    | some true => maxD x xs
    | some false => maxD m xs
    | none => none
def minD : D → List D → Option D
  | m, [] => some m
  | m, x :: xs => match ltD x m with
    | some true => minD x xs
    | some false => minD m xs
    | none => none
def dedupD : List D → List D → List D
  | _, [] => []
  | seen, x :: xs => if seen.any fun y => PySem.PyData.eqv y.py x.py then dedupD seen xs else x :: dedupD (x :: seen) xs
/-- the different ones -/
def firsts : List Int → List Int
  | [] => []
  | x :: xs => x :: (firsts xs).filter fun y => decide (y ≠ x)
def biD : BI → List D → Option Res
  | .len, [.str x] => some (.val (.int x.length))
  | .len, [.lst xs] => some (.val (.int xs.length))
  | .len, [.tup xs] => some (.val (.int xs.length))
  | .len, [.dct xs] => some (.val (.int xs.length))
  | .abs, [.int i] => some (.val (.int (if i < 0 then -i else i)))
  | .int, [.int i] => some (.val (.int i))
  | .int, [.bl b] => some (.val (.int (b2i b)))
  | .str, [.int i] => if decide (i.natAbs.log2 < 1920) then some (.val (.str (toString i))) else none
  | .sum, [.lst xs] => (ints? xs).map fun ns => .val (.int ns.sum)
  | .all, [.lst xs] => (bools? xs).map fun bs => .val (.bl (bs.all id))
  | .any, [.lst xs] => (bools? xs).map fun bs => .val (.bl (bs.any id))
  | .max, [.int i, .int j] => some (.val (.int (if j > i then j else i)))
  | .min, [.int i, .int j] => some (.val (.int (if j < i then j else i)))
  | .sorted, [.lst xs] => (sortD false xs).map fun ys => .own (.lst ys)
  | .sortedSet, [.lst xs] => if decide (xs.length ≤ 4000) then (ints? xs).map fun ns => .own (.lst (((firsts ns).mergeSort fun a b => decide (a ≤ b)).map .int)) else none
  | .lenSet, [.lst xs] => if decide (xs.length ≤ 4000) then (ints? xs).map fun ns => .val (.int (firsts ns).length) else none
  | .list, [.lst xs] => some (.own (.lst xs))
  | .list, [.tup xs] => some (.own (.lst xs))
  | .list, [.dct kvs] => some (.own (.lst (kvs.map fun kv => D.ofKey kv.1)))
  | .tuple, [.lst xs] => some (.val (.tup xs))
  | .tuple, [.tup xs] => some (.val (.tup xs))
  | .divmod, [.int i, .int j] => if decide (0 < j) && decide (j < 1073741824) then some (.val (.tup [.int (i / j), .int (i % j)])) else none
  | _, _ => none
def getD1 : D → D → Option Res
  | .dct kvs, k => k.key?.map fun k => .val ((findK kvs k).getD .non)
  | _, _ => none
def getD2 (z : D) : D → D → Option Res
  | .dct kvs, k => k.key?.map fun k => .val ((findK kvs k).getD z)
  | _, _ => none

/-! ### the state -/
/-- a slot is stored; one that is walked may not be -/
def put (ρ : Env) (i : Nat) (s : Slot) : Out Env := match ρ[i]? with
  | some (.lck _) => .stuck
  | some _ => .ok (ρ.set i s)
  | none => .stuck
def setRes (ρ : Env) (i : Nat) : Res → Out Env
  | .val d => put ρ i (.val d)
  | .own d => put ρ i (.own d)
  | .slot j => match ρ[j]? with
    | some (.own d) => put (ρ.set j (.val d)) i (.val d)
    | some (.val d) => put ρ i (.val d)
    | _ => .stuck
mutual
def setT : CT → D → Env → Out Env
  | .n i, d, ρ => put ρ i (.val d)
  | .tup ts, .tup ds, ρ => setTs ts ds ρ
  | .tup _, _, _ => .stuck
def setTs : List CT → List D → Env → Out Env
  | [], [], ρ => .ok ρ
  | t :: ts, d :: ds, ρ => (setT t d ρ).bind (setTs ts ds)
  | _, _, _ => .stuck
end
def wipe : List Nat → Env → Out Env
  | [], ρ => .ok ρ
  | i :: is, ρ => (put ρ i .none).bind (wipe is)
/-- behind a block: its own slots as they were -/
def back (ρ₀ : Env) : List Nat → Env → Out Env
  | [], ρ => .ok ρ
  | i :: is, ρ => (put ρ i (match ρ₀[i]? with
    | some (.val d) => .val d
    | _ => .none)).bind (back ρ₀ is)

def ofOpt {α : Type} : Option α → Out α
  | some a => .ok a
  | none => .stuck
def mmD (m : MM) (d : D) (as : List D) : Option (D × Res) :=
  match m, d, as with
  | .append, .lst xs, [x] => if xs.length < line then some (.lst (xs ++ [x]), .val .non) else none
  | .pop, .lst xs, [] => match xs.getLast? with
    | some y => some (.lst xs.dropLast, .val y)
    | none => none
  | .pop, .lst xs, [.int i] => if -(2 ^ 63) ≤ i ∧ i < 2 ^ 63 then match ixN xs.length i with
    | some k => match xs[k]? with
      | some y => some (.lst (xs.eraseIdx k), .val y)
      | none => none
    | none => none
    else none
  | .insert, .lst xs, [.int i, x] => if xs.length < line ∧ 0 ≤ i ∧ i < 2 ^ 63 then some (.lst (xs.take i.toNat ++ [x] ++ xs.drop i.toNat), .val .non) else none
  | .extend, .lst xs, [.lst ys] => if xs.length + ys.length ≤ line then some (.lst (xs ++ ys), .val .non) else none
  | _, _, _ => none
def lent (ρ : Env) : List Res → Env
  | [] => ρ
  | .slot i :: rs => match ρ[i]? with
    | some (.own d) => lent (ρ.set i (.val d)) rs
    | _ => lent ρ rs
  | _ :: rs => lent ρ rs
def anyLck (ρ : Env) (rs : List Res) : Bool := rs.any fun r => match r with
  | .slot i => match ρ[i]? with
    | some (.lck _) => true
    | _ => false
  | _ => false
/-- the first n: slots that are owned; their places, what they hold -/
def inouts (ρ : Env) : Nat → List Res → Option (List Nat × List D × List Res)
  | 0, rs => some ([], [], rs)
  | n + 1, .slot i :: rs => match ρ[i]? with
    | some (.own d) => match inouts ρ n rs with
      | some (is, ds, rs') => if is.contains i then none else some (i :: is, d :: ds, rs')
      | none => none
    | _ => none
  | _ + 1, _ => none
def putBack (ρ : Env) : List Nat → List D → Env
  | i :: is, d :: ds => (putBack ρ is ds).set i (.own d)
  | _, _ => ρ
def flatR : Res → Bool
  | .val d => d.flat
  | _ => false
/-- a list of simple things -/
def flatL : D → Bool
  | .lst xs => xs.all D.flat
  | _ => false
/-- the last parameter takes the rest -/
def packed : Option Nat → List D → List D
  | none, ds => ds
  | some k, ds => ds.take k ++ [.tup (ds.drop k)]
def apart (is : List Nat) (rs : List Res) : Bool := rs.all fun r => match r with
  | .slot j => !is.contains j
  | _ => true
def callF (F : FnE) (rs : List Res) (ρ : Env) : Out (Res × Env) :=
  match inouts ρ F.nin rs with
  | some (is, ds, rs') => if apart is rs' then match derefs ρ rs' with
    | some es => (F.run (packed F.star (ds ++ es))).bind fun p =>
        if flatR p.1 && p.2.all flatL then .ok (p.1, putBack ρ is p.2)
        else if anyLck ρ rs' then .stuck else .ok (p.1, putBack (lent ρ rs') is p.2)
    | none => .stuck
    else .stuck
  | none => .stuck

inductive Flow where
  | next | brk | cont | ret (r : Res)

/-- a loop over items; lk: a slot that is walked and may not change -/
def forL (t : CT) (body : Env → Out (Flow × Env)) : List D → Env → Out (Flow × Env)
  | [], ρ => .ok (.next, ρ)
  | x :: xs, ρ => (setT t x ρ).bind fun ρ1 => (body ρ1).bind fun p => match p.1 with
    | .next => forL t body xs p.2
    | .cont => forL t body xs p.2
    | .brk => .ok (.next, p.2)
    | .ret r => .ok (.ret r, p.2)
def whileL (test : Env → Out (Bool × Env)) (body : Env → Out (Flow × Env)) : Nat → Env → Out (Flow × Env)
  | 0, _ => .stuck
  | n + 1, ρ => (test ρ).bind fun c => if c.1 then (body c.2).bind fun p => match p.1 with
      | .next => whileL test body n p.2
      | .cont => whileL test body n p.2
      | .brk => .ok (.next, p.2)
      | .ret r => .ok (.ret r, p.2)
    else .ok (.next, c.2)
def lcL (t : CT) (test : Env → Out (Bool × Env)) (elt : Env → Out (D × Env)) (own : List Nat) : List D → Env → Out (List D × Env)
  | [], ρ => .ok ([], ρ)
  | x :: xs, ρ => ((wipe own ρ).bind (setT t x)).bind fun ρ1 => (test ρ1).bind fun c =>
    if c.1 then (elt c.2).bind fun p => (lcL t test elt own xs p.2).bind fun q => .ok (p.1 :: q.1, q.2)
    else lcL t test elt own xs c.2
def lcL2 (t : CT) (test : Env → Out (Bool × Env)) (inner : Env → Out (List D × Env)) (own : List Nat) : List D → Env → Out (List D × Env)
  | [], ρ => .ok ([], ρ)
  | x :: xs, ρ => ((wipe own ρ).bind (setT t x)).bind fun ρ1 => (test ρ1).bind fun c =>
    if c.1 then (inner c.2).bind fun p => (lcL2 t test inner own xs p.2).bind fun q => .ok (p.1 ++ q.1, q.2)
    else lcL2 t test inner own xs c.2
def dcL (t : CT) (test : Env → Out (Bool × Env)) (ke : Env → Out ((D × D) × Env)) (own : List Nat) : List D → D → Env → Out (D × Env)
  | [], acc, ρ => .ok (acc, ρ)
  | x :: xs, acc, ρ => ((wipe own ρ).bind (setT t x)).bind fun ρ1 => (test ρ1).bind fun c =>
    if c.1 then (ke c.2).bind fun p => match acc, p.1.1.key? with
      | .dct kvs, some k => if kvs.length < line then dcL t test ke own xs (.dct (putK kvs k p.1.2)) p.2 else .stuck
      | _, _ => .stuck
    else dcL t test ke own xs acc c.2

def rangeN (lo : Int) : Nat → List D
  | 0 => []
  | n + 1 => .int lo :: rangeN (lo + 1) n
def smallB (i : Int) : Bool := decide (-(2 ^ 62) ≤ i) && decide (i < 2 ^ 62)
def enumFrom (k : Int) : List D → List D
  | [] => []
  | x :: xs => .tup [.int k, x] :: enumFrom (k + 1) xs
def zipD : List D → List D → List D
  | x :: xs, y :: ys => .tup [x, y] :: zipD xs ys
  | _, _ => []
def optInt : D → Option Int
  | .int i => some i
  | _ => none

/-- items; the slot that is walked -/
abbrev Items := List D × Option Nat
def slotOf : Res → Option Nat
  | .slot i => some i
  | _ => none
def lockSlot (ρ : Env) : Option Nat → Env
  | none => ρ
  | some i => match ρ[i]? with
    | some (.own d) => ρ.set i (.lck d)
    | _ => ρ
def unlockSlot (ρ₀ ρ : Env) : Option Nat → Env
  | none => ρ
  | some i => match ρ₀[i]?, ρ[i]? with
    | some (.own _), some (.lck d) => ρ.set i (.own d)
    | _, _ => ρ

def k1 (f : D → Option Res) (p : Res × Env) : Out (Res × Env) := match deref p.2 p.1 with
  | some d => match f d with
    | some r => .ok (r, p.2)
    | none => .stuck
  | none => .stuck
def k2 (f : D → D → Option Res) (p q : Res × Env) : Out (Res × Env) := match deref q.2 p.1 with
  | some d => match deref q.2 q.1 with
    | some e => match f d e with
      | some r => .ok (r, q.2)
      | none => .stuck
    | none => .stuck
  | none => .stuck
def kL (f : List D → Option Res) (p : List Res × Env) : Out (Res × Env) := match derefs p.2 p.1 with
  | some ds => match f ds with
    | some r => .ok (r, p.2)
    | none => .stuck
  | none => .stuck
def isDct : Option D → Bool
  | some (.dct _) => true
  | _ => false
/-- a list of one's own -/
def ownL (ρ : Env) (i : Nat) : Bool := match ρ[i]? with
  | some (.own (.lst _)) => true
  | _ => false
def kMut (m : MM) (i : Nat) (q : List D × Env) : Out (Res × Env) := match q.2[i]? with
  | some (.own d) => match mmD m d q.1 with
    | some (d', r) => .ok (r, q.2.set i (.own d'))
    | none => .stuck
  | _ => .stuck
/-- the slots that two operands are -/
def slot2 : Res → Res → Option (Option Nat)
  | .slot i, .slot j => if i = j then some (some i) else none
  | .slot i, _ => some (some i)
  | _, .slot j => some (some j)
  | _, _ => some none
def kI (f : D → Option (List D)) (p : Res × Env) : Out (Items × Env) := match deref p.2 p.1 with
  | some d => match f d with
    | some xs => .ok ((xs, slotOf p.1), p.2)
    | none => .stuck
  | none => .stuck
def kI2 (f : D → D → Option (List D)) (p q : Res × Env) : Out (Items × Env) := match deref q.2 p.1 with
  | some d => match deref q.2 q.1 with
    | some e => match f d e with
      | some xs => match slot2 p.1 q.1 with
        | some o => .ok ((xs, o), q.2)
        | none => .stuck
      | none => .stuck
    | none => .stuck
  | none => .stuck
def kR (f : D → Option (List D)) (p : Res × Env) : Out (Items × Env) := match deref p.2 p.1 with
  | some d => match f d with
    | some xs => .ok ((xs, none), p.2)
    | none => .stuck
  | none => .stuck
def kR2 (f : D → D → Option (List D)) (p q : Res × Env) : Out (Items × Env) := match deref q.2 p.1 with
  | some d => match deref q.2 q.1 with
    | some e => match f d e with
      | some xs => .ok ((xs, none), q.2)
      | none => .stuck
    | none => .stuck
  | none => .stuck
def range1D : D → Option (List D)
  | .int i => if smallB i then some (rangeN 0 i.toNat) else none
  | _ => none
def range2D : D → D → Option (List D)
  | .int i, .int j => if smallB i && smallB j then some (rangeN i (j - i).toNat) else none
  | _, _ => none
def enumD : D → Option (List D)
  | .lst xs => some (enumFrom 0 xs)
  | _ => none
def zip2D : D → D → Option (List D)
  | .lst xs, .lst ys => some (zipD xs ys)
  | .tup xs, .tup ys => some (zipD xs ys)
  | _, _ => none
def pairsD : D → Option (List D)
  | .dct kvs => some (kvs.map fun kv => .tup [D.ofKey kv.1, kv.2])
  | _ => none
def valuesD : D → Option (List D)
  | .dct kvs => some (kvs.map (·.2))
  | _ => none
def revItemsD : D → Option (List D)
  | .lst xs => some xs.reverse
  | _ => none
/-- list(x), tuple(x), x walked -/
def biFin (b : BI) (p : Items × Env) : Out (Res × Env) := if p.1.1.length ≤ line then match biD b [.lst p.1.1] with
    | some r => .ok (r, p.2)
    | none => .stuck
  else .stuck
/-- nothing is raised within a comprehension -/
def noexc {α : Type} : Out α → Out α
  | .exc _ _ => .stuck
  | x => x
def cmpR (op : CmpO) (d e : D) : Option Res := (cmpD op d e).map fun b => .val (.bl b)
def subR (d e : D) : Option Res := (subD d e).map .val
def negD : D → Option Res
  | .int i => some (.val (.int (-i)))
  | _ => none
def isiD (ts : List TyN) (d : D) : Option Res := (tyAny ts d).map fun b => .val (.bl b)
def isTt : Res → Bool
  | .val (.bl true) => true
  | _ => false
/-- a value's truth -/
def tru (p : Res × Env) : Out (Bool × Env) := match (deref p.2 p.1).bind truD with
  | some b => .ok (b, p.2)
  | none => .stuck
mutual
def ev : CE → Env → Out (Res × Env)
  | .k d, ρ => .ok (.val d, ρ)
  | .v i, ρ => match ρ[i]? with
    | some (.val d) => .ok (.val d, ρ)
    | some (.own _) => .ok (.slot i, ρ)
    | some (.lck _) => .ok (.slot i, ρ)
    | _ => .stuck
  | .gl _ d, ρ => .ok (.val d, ρ)
  | .bin op a b, ρ => (ev a ρ).bind fun p => (ev b p.2).bind fun q => k2 (binD op) p q
  | .neg a, ρ => (ev a ρ).bind fun p => k1 negD p
  | .cmp op a b, ρ => (ev a ρ).bind fun p => (ev b p.2).bind fun q => k2 (cmpR op) p q
  | .chain o o' a b c, ρ => (ev a ρ).bind fun p => (ev b p.2).bind fun q => (k2 (cmpR o) p q).bind fun r =>
      if isTt r.1 then (ev c r.2).bind fun s => k2 (cmpR o') (q.1, s.2) s else .ok r
  | .and es, ρ => evAnd es ρ
  | .or es, ρ => evOr es ρ
  | .not a, ρ => ((ev a ρ).bind tru).bind fun p => .ok (.val (.bl (!p.1)), p.2)
  | .ite c a b, ρ => ((ev c ρ).bind tru).bind fun p => if p.1 then ev a p.2 else ev b p.2
  | .tup es, ρ => (evs es ρ).bind fun p => (freezes p.2 p.1).bind fun q => .ok (.val (.tup q.1), q.2)
  | .lst es, ρ => (evs es ρ).bind fun p => (freezes p.2 p.1).bind fun q => .ok (.own (.lst q.1), q.2)
  | .dct kvs, ρ => (evKV kvs [] ρ).bind fun p => .ok (.own (.dct p.1), p.2)
  | .call F es, ρ => (evs es ρ).bind fun p => callF F p.1 p.2
  | .dyn Fs f es, ρ => (ev f ρ).bind fun q => match deref q.2 q.1 with
      | some (.fn x) => match Fs.find? fun F => decide (F.name = x) with
        | some F => (evs es q.2).bind fun p => callF F p.1 p.2
        | none => .stuck
      | _ => .stuck
  | .bi b es, ρ => (evs es ρ).bind fun p => kL (biD b) p
  | .biI b it, ρ => (evI it ρ).bind (biFin b)
  | .isi e ts, ρ => (ev e ρ).bind fun p => k1 (isiD ts) p
  | .get1 a k, ρ => (ev a ρ).bind fun p => if isDct (deref p.2 p.1) then (ev k p.2).bind fun q => k2 getD1 p q else .stuck
  | .get2 a k d, ρ => (ev a ρ).bind fun p => if isDct (deref p.2 p.1) then (ev k p.2).bind fun q => (ev d q.2).bind fun r => (freeze r.2 r.1).bind fun z => k2 (getD2 z.1) p (q.1, z.2) else .stuck
  | .mm m i es, ρ => if ownL ρ i then (evs es ρ).bind fun p => (freezes p.2 p.1).bind fun q => kMut m i q else .stuck
  | .sub a i, ρ => (ev a ρ).bind fun p => (ev i p.2).bind fun q => k2 subR p q
  | .sl a lo hi, ρ => (ev a ρ).bind fun p => (evO lo p.2).bind fun q => (evO hi q.2).bind fun r => k1 (fun d => slD d q.1 r.1) (p.1, r.2)
  | .rev a, ρ => (ev a ρ).bind fun p => k1 revD p
  | .lc e t it own c, ρ => (evI it ρ).bind fun p =>
      (noexc (lcL t (fun ρ => evC c ρ) (fun ρ => (ev e ρ).bind fun r => freeze r.2 r.1) own p.1.1 (lockSlot p.2 p.1.2))).bind fun q =>
        if q.1.length ≤ line then (back ρ own q.2).bind fun ρ' => .ok (.own (.lst q.1), unlockSlot p.2 ρ' p.1.2) else .stuck
  | .lc2 e t it c t1 it1 c1 own own1, ρ => (evI it ρ).bind fun p =>
      (noexc <| lcL2 t (fun ρ => evC c ρ) (fun ρ => (evI it1 ρ).bind fun p1 =>
        (lcL t1 (fun ρ => evC c1 ρ) (fun ρ => (ev e ρ).bind fun r => freeze r.2 r.1) own1 p1.1.1 (lockSlot p1.2 p1.1.2)).bind fun q1 => .ok (q1.1, unlockSlot p1.2 q1.2 p1.1.2)) own p.1.1 (lockSlot p.2 p.1.2)).bind fun q =>
        if q.1.length ≤ line then (back ρ own q.2).bind fun ρ' => .ok (.own (.lst q.1), unlockSlot p.2 ρ' p.1.2) else .stuck
  | .dc k e t it own c, ρ => (evI it ρ).bind fun p =>
      (noexc <| dcL t (fun ρ => evC c ρ) (fun ρ => (ev k ρ).bind fun r => (freeze r.2 r.1).bind fun r' => (ev e r'.2).bind fun s => (freeze s.2 s.1).bind fun s' => .ok ((r'.1, s'.1), s'.2)) own p.1.1 (.dct []) (lockSlot p.2 p.1.2)).bind fun q =>
        (back ρ own q.2).bind fun ρ' => .ok (.own q.1, unlockSlot p.2 ρ' p.1.2)
  | .fstr es, ρ => .stuck
def evs : List CE → Env → Out (List Res × Env)
  | [], ρ => .ok ([], ρ)
  | e :: es, ρ => (ev e ρ).bind fun p => (evs es p.2).bind fun q => .ok (p.1 :: q.1, q.2)
def evKV : List CE → List (Key × D) → Env → Out (List (Key × D) × Env)
  | [], acc, ρ => .ok (acc, ρ)
  | k :: v :: r, acc, ρ => (ev k ρ).bind fun p => (freeze p.2 p.1).bind fun p' => (ev v p'.2).bind fun q => (freeze q.2 q.1).bind fun q' =>
      match p'.1.key? with
      | some key => evKV r (putK acc key q'.1) q'.2
      | none => .stuck
  | _, _, _ => .stuck
def evAnd : List CE → Env → Out (Res × Env)
  | [], _ => .stuck
  | [e], ρ => ev e ρ
  | e :: e' :: es, ρ => (ev e ρ).bind fun p => (tru p).bind fun b => if b.1 then evAnd (e' :: es) p.2 else .ok p
def evOr : List CE → Env → Out (Res × Env)
  | [], _ => .stuck
  | [e], ρ => ev e ρ
  | e :: e' :: es, ρ => (ev e ρ).bind fun p => (tru p).bind fun b => if b.1 then .ok p else evOr (e' :: es) p.2
/-- a clause's test -/
def evC : Option CE → Env → Out (Bool × Env)
  | none, ρ => .ok (true, ρ)
  | some c, ρ => (ev c ρ).bind tru
/-- a part of a slice -/
def evO : Option CE → Env → Out (Option Int × Env)
  | none, ρ => .ok (none, ρ)
  | some e, ρ => (ev e ρ).bind fun p => match deref p.2 p.1 with
      | some (.int i) => .ok (some i, p.2)
      | _ => .stuck
def evI : CI → Env → Out (Items × Env)
  | .e e, ρ => (ev e ρ).bind fun p => kI itemsD p
  | .range1 a, ρ => (ev a ρ).bind fun p => kR range1D p
  | .range2 a b, ρ => (ev a ρ).bind fun p => (ev b p.2).bind fun q => kR2 range2D p q
  | .range3 a b c, ρ => .stuck
  | .enum e, ρ => (ev e ρ).bind fun p => kI enumD p
  | .zip a b, ρ => (ev a ρ).bind fun p => (ev b p.2).bind fun q => kI2 zip2D p q
  | .items e, ρ => (ev e ρ).bind fun p => kI pairsD p
  | .values e, ρ => (ev e ρ).bind fun p => kI valuesD p
  | .reversed e, ρ => (ev e ρ).bind fun p => kI revItemsD p
end

/-- as a test -/
def evT (c : CE) (ρ : Env) : Out (Bool × Env) := (ev c ρ).bind tru
/-- what a def hands back: a slot's own thing is handed over -/
def retRes (nin : Nat) (ρ : Env) : Res → Out Res
  | .slot i => match ρ[i]? with
    | some (.own d) => if i < nin then .stuck else .ok (.own d)
    | some (.val d) => .ok (.val d)
    | _ => .stuck
  | r => .ok r
def fuel : Nat := 4000000000
/-- slots' things are handed on, new things stay new -/
def settle : Env → List Res → Out (List Res × Env)
  | ρ, [] => .ok ([], ρ)
  | ρ, .slot i :: rs => (freeze ρ (.slot i)).bind fun p => (settle p.2 rs).bind fun q => .ok (.val p.1 :: q.1, q.2)
  | ρ, r :: rs => (settle ρ rs).bind fun q => .ok (r :: q.1, q.2)
def setSlots : List Nat → List Res → Env → Out Env
  | [], [], ρ => .ok ρ
  | i :: is, r :: rs, ρ => (setRes ρ i r).bind (setSlots is rs)
  | _, _, _ => .stuck
def setIxD : D → D → D → Option D
  | .lst xs, .int i, v => (ixN xs.length i).map fun j => .lst (xs.set j v)
  | .dct kvs, k, v => match k.key? with
    | some k => if kvs.length < line then some (.dct (putK kvs k v)) else none
    | none => none
  | _, _, _ => none
def isSet (ρ : Env) (i : Nat) : Bool := match ρ[i]? with
  | some (.val _) => true
  | some (.own _) => true
  | _ => false
/-- a list or a dict of one's own -/
def isOwnS (ρ : Env) (i : Nat) : Bool := match ρ[i]? with
  | some (.own _) => true
  | _ => false
mutual
def exec : CS → Env → Out (Flow × Env)
  | .asg i e, ρ => (ev e ρ).bind fun p => (setRes p.2 i p.1).bind fun ρ' => .ok (.next, ρ')
  | .asgT t e, ρ => (ev e ρ).bind fun p => (freeze p.2 p.1).bind fun q => (setT t q.1 q.2).bind fun ρ' => .ok (.next, ρ')
  | .par is es, ρ => (evs es ρ).bind fun p => (settle p.2 p.1).bind fun q => (setSlots is q.1 q.2).bind fun ρ' => .ok (.next, ρ')
  | .aug i op e, ρ => if isSet ρ i then (ev e ρ).bind fun p => match p.2[i]?, deref p.2 p.1 with
      | some (.val d), some d' => match augD op d d' with
        | some r => .ok (.next, p.2.set i (.val r))
        | none => .stuck
      | some (.own (.lst xs)), some (.lst ys) => match op with
        | .add => if xs.length + ys.length ≤ line then .ok (.next, p.2.set i (.own (.lst (xs ++ ys)))) else .stuck
        | _ => .stuck
      | _, _ => .stuck
      else .stuck
  | .ex e, ρ => (ev e ρ).bind fun p => .ok (.next, p.2)
  | .ret e, ρ => (ev e ρ).bind fun p => .ok (.ret p.1, p.2)
  | .retN, ρ => .ok (.ret (.val .non), ρ)
  | .ite c a b, ρ => (evT c ρ).bind fun p => if p.1 then execs a p.2 else execs b p.2
  | .forr t it body, ρ => (evI it ρ).bind fun p =>
      (forL t (fun ρ => execs body ρ) p.1.1 (lockSlot p.2 p.1.2)).bind fun q => .ok (q.1, unlockSlot p.2 q.2 p.1.2)
  | .whil c body, ρ => whileL (fun ρ => evT c ρ) (fun ρ => execs body ρ) fuel ρ
  | .brk, ρ => .ok (.brk, ρ)
  | .cont, ρ => .ok (.cont, ρ)
  | .pass, ρ => .ok (.next, ρ)
  | .raise c, ρ => .exc c .non
  | .setIx i k e, ρ => (ev e ρ).bind fun p => (freeze p.2 p.1).bind fun p' => if isOwnS p'.2 i then (ev k p'.2).bind fun q => (freeze q.2 q.1).bind fun q' => match q'.2[i]? with
      | some (.own d) => match setIxD d q'.1 p'.1 with
        | some d' => .ok (.next, q'.2.set i (.own d'))
        | none => .stuck
      | _ => .stuck
      else .stuck
  | .augIx i k op e, ρ => (ev k ρ).bind fun q => match deref q.2 q.1 with
      | some kd => (ev e q.2).bind fun p => match p.2[i]?, deref p.2 p.1 with
        | some (.own d), some y => match subD d kd with
          | some x => match binD op x y with
            | some (.val z) => match setIxD d kd z with
              | some d' => .ok (.next, p.2.set i (.own d'))
              | none => .stuck
            | _ => .stuck
          | none => .stuck
        | _, _ => .stuck
      | none => .stuck
  | .delIx i k, ρ => (ev k ρ).bind fun q => match deref q.2 q.1, q.2[i]? with
      | some kd, some (.own (.dct kvs)) => match kd.key? with
        | some key => if (findK kvs key).isSome then .ok (.next, q.2.set i (.own (.dct (dropK kvs key)))) else .stuck
        | none => .stuck
      | _, _ => .stuck
def execs : List CS → Env → Out (Flow × Env)
  | [], ρ => .ok (.next, ρ)
  | s :: ss, ρ => (exec s ρ).bind fun p => match p.1 with
      | .next => execs ss p.2
      | f => .ok (f, p.2)
end

/-- the first n slots' own things -/
def owns (ρ : Env) : Nat → Option (List D)
  | 0 => some []
  | n + 1 => match owns ρ n, ρ[n]? with
    | some ds, some (.own d) => some (ds ++ [d])
    | _, _ => none
/-- a def of m slots, np parameters, the first nin of which are changed -/
def fnRun (m np nin : Nat) (body : List CS) (ds : List D) : Out (Res × List D) :=
  if ds.length = np then
    (execs body ((ds.take nin).map .own ++ (ds.drop nin).map .val ++ List.replicate (m - np) .none)).bind fun p =>
      match owns p.2 nin with
      | some outs => match p.1 with
        | .ret r => (retRes nin p.2 r).bind fun r => .ok (r, outs)
        | .next => .ok (.val .non, outs)
        | _ => .stuck
      | none => .stuck
  else .stuck
/-- the star parameter's things are few -/
def starRun (k : Nat) (f : List D → Out (Res × List D)) (ds : List D) : Out (Res × List D) := match ds[k]? with
  | some (.tup r) => if r.length ≤ 5 then f ds else .stuck
  | _ => .stuck
end M
end
section
set_option linter.all false
set_option maxRecDepth 100000
set_option maxHeartbeats 1000000
/-! MRel: what a value of the layer HandS stands for (Rep), and how the evaluator's state lies in a heap (Sm). -/
namespace M
open PySem L2

/-- what is read at an address, a lock taken off -/
def unf : Option HO → Option HO
  | some (.frz _ u) => some u
  | o => o
def unfD (d : D) (o : Option HO) : Option HO := match d with
  | .lst _ => o
  | _ => unf o
def isDk : HO → Bool
  | .dK _ => true
  | .dT _ => true
  | _ => false
/-- it stands there, or (a dict) stands there locked -/
def Ro (H : Hp) (a : Addr) (o : HO) : Prop := H a = some o ∨ (isDk o = true ∧ ∃ ob, H a = some (.frz ob o))
theorem Ro.ne {H : Hp} {a : Addr} {o : HO} (h : Ro H a o) : H a ≠ none := by
  rcases h with h | ⟨_, ob, h⟩ <;> rw [h] <;> simp

/-- a text that fits, a key -/
def StrFit (x : Str) : Prop := PySem.PyData.strOk x = true ∧ x.length ≤ sizeLine
def KeyFit : Key → Prop
  | .inl _ => True
  | .inr x => StrFit x
section
variable (K : PySem.W.Frag) (mg : Str → Option Value)
mutual
def Rep (G : Hp) : D → V → Prop
  | .non, v => v = .non
  | .bl b, v => v = .bl b
  | .int i, v => v = .int i
  | .str x, v => v = .str x ∧ StrFit x
  | .lst xs, v => ∃ a vs, v = .ref a ∧ L2.Rd G a (.lst vs) ∧ RepL G xs vs
  | .tup xs, v => ∃ a vs, v = .ref a ∧ SqT K G a vs ∧ RepL G xs vs
  | .dct kvs, v => ∃ a vs, v = .ref a ∧ G a = some (.dK vs) ∧ RepK G kvs vs
  | .dctT kvs, v => ∃ a vs, v = .ref a ∧ G a = some (.dT vs) ∧ RepT G kvs vs
  | .fn x, v => ∃ a, mg x = some (.ref a) ∧ v = .ref a
def RepL (G : Hp) : List D → List V → Prop
  | [], vs => vs = []
  | x :: xs, vs => ∃ v r, vs = v :: r ∧ Rep G x v ∧ RepL G xs r
def RepK (G : Hp) : List (Key × D) → List (L2.Key × V) → Prop
  | [], vs => vs = []
  | kv :: r, vs => ∃ v s, vs = (kv.1, v) :: s ∧ (Rep G kv.2 v ∧ KeyFit kv.1) ∧ RepK G r s
def RepT (G : Hp) : List (List Key × D) → List (List L2.Key × V) → Prop
  | [], vs => vs = []
  | kv :: r, vs => ∃ v s, vs = (kv.1, v) :: s ∧ Rep G kv.2 v ∧ RepT G r s
end
end

section
variable {K : PySem.W.Frag} {mg : Str → Option Value} {G G' H H' : Hp}
theorem Rd.mono (s : Same G G') {a : Addr} {u : HO} (h : Rd G a u) : Rd G' a u := by
  rcases h with h | ⟨o, h⟩
  · exact .inl (s _ _ h)
  · exact .inr ⟨o, s _ _ h⟩
theorem SqL.mono (s : Same G G') {a : Addr} {vs : List V} (h : SqL K G a vs) : SqL K G' a vs := by
  rcases h with h | h
  · exact .inl (Rd.mono s h)
  · exact .inr h
theorem SqT.mono (s : Same G G') {a : Addr} {vs : List V} (h : SqT K G a vs) : SqT K G' a vs := by
  rcases h with h | h
  · exact .inl (Rd.mono s h)
  · exact .inr h
mutual
theorem Rep.mono (s : Same G G') : ∀ (d : D) {v : V}, Rep K mg G d v → Rep K mg G' d v
  | .non, _, h => by simpa only [Rep] using h
  | .bl b, _, h => by simpa only [Rep] using h
  | .int i, _, h => by simpa only [Rep] using h
  | .str x, _, h => by simpa only [Rep] using h
  | .lst xs, _, h => by
    simp only [Rep] at h ⊢
    obtain ⟨a, vs, e, q, r⟩ := h
    exact ⟨a, vs, e, M.Rd.mono s q, RepL.mono s xs r⟩
  | .tup xs, _, h => by
    simp only [Rep] at h ⊢
    obtain ⟨a, vs, e, q, r⟩ := h
    exact ⟨a, vs, e, SqT.mono s q, RepL.mono s xs r⟩
  | .dct xs, _, h => by
    simp only [Rep] at h ⊢
    obtain ⟨a, vs, e, q, r⟩ := h
    exact ⟨a, vs, e, s _ _ q, RepK.mono s xs r⟩
  | .dctT xs, _, h => by
    simp only [Rep] at h ⊢
    obtain ⟨a, vs, e, q, r⟩ := h
    exact ⟨a, vs, e, s _ _ q, RepT.mono s xs r⟩
  | .fn x, _, h => by simpa only [Rep] using h
theorem RepL.mono (s : Same G G') : ∀ (ds : List D) {vs : List V}, RepL K mg G ds vs → RepL K mg G' ds vs
  | [], _, h => by simpa only [RepL] using h
  | d :: ds, _, h => by
    simp only [RepL] at h ⊢
    obtain ⟨v, r, e, h1, h2⟩ := h
    exact ⟨v, r, e, Rep.mono s d h1, RepL.mono s ds h2⟩
theorem RepK.mono (s : Same G G') : ∀ (ds : List (Key × D)) {vs : List (L2.Key × V)}, RepK K mg G ds vs → RepK K mg G' ds vs
  | [], _, h => by simpa only [RepK] using h
  | d :: ds, _, h => by
    simp only [RepK] at h ⊢
    obtain ⟨v, r, e, h1, h2⟩ := h
    exact ⟨v, r, e, ⟨Rep.mono s d.2 h1.1, h1.2⟩, RepK.mono s ds h2⟩
theorem RepT.mono (s : Same G G') : ∀ (ds : List (List Key × D)) {vs : List (List L2.Key × V)}, RepT K mg G ds vs → RepT K mg G' ds vs
  | [], _, h => by simpa only [RepT] using h
  | d :: ds, _, h => by
    simp only [RepT] at h ⊢
    obtain ⟨v, r, e, h1, h2⟩ := h
    exact ⟨v, r, e, Rep.mono s d.2 h1, RepT.mono s ds h2⟩
end
theorem Rep.flat {d : D} {v : V} (f : d.flat = true) (h : Rep K mg G d v) : Rep K mg G' d v := by
  cases d <;> first
    | (simp [D.flat] at f; done)
    | (simpa only [Rep] using h)
theorem RepL.length : ∀ {ds : List D} {vs : List V}, RepL K mg G ds vs → ds.length = vs.length
  | [], _, h => by simp only [RepL] at h; simp [h]
  | d :: ds, _, h => by
    simp only [RepL] at h
    obtain ⟨v, r, e, h1, h2⟩ := h
    subst e
    simp [RepL.length h2]
theorem RepL.get : ∀ {ds : List D} {vs : List V} {i : Nat} {d : D}, RepL K mg G ds vs → ds[i]? = some d → ∃ v, vs[i]? = some v ∧ Rep K mg G d v
  | [], _, _, _, _, e => by simp at e
  | x :: xs, _, 0, d, h, e => by
    simp only [RepL] at h
    obtain ⟨v, r, e', h1, h2⟩ := h
    subst e'
    simp at e; subst e
    exact ⟨v, by simp, h1⟩
  | x :: xs, _, i + 1, d, h, e => by
    simp only [RepL] at h
    obtain ⟨v, r, e', h1, h2⟩ := h
    subst e'
    obtain ⟨w, hw, q⟩ := RepL.get (i := i) (d := d) h2 (by simpa using e)
    exact ⟨w, by simpa using hw, q⟩
theorem RepL.get' {ds : List D} {vs : List V} {i : Nat} {v : V} (h : RepL K mg G ds vs) (e : vs[i]? = some v) : ∃ d, ds[i]? = some d ∧ Rep K mg G d v := by
  obtain ⟨hi, _⟩ := List.getElem?_eq_some_iff.mp e
  have hl := h.length
  have hd : ds[i]? = some ds[i] := List.getElem?_eq_getElem (by omega)
  obtain ⟨w, hw, q⟩ := h.get hd
  rw [e] at hw; cases hw
  exact ⟨_, hd, q⟩
theorem RepL.append : ∀ {ds es : List D} {vs ws : List V}, RepL K mg G ds vs → RepL K mg G es ws → RepL K mg G (ds ++ es) (vs ++ ws)
  | [], _, _, _, h, h' => by simp only [RepL] at h; subst h; exact h'
  | d :: ds, es, _, ws, h, h' => by
    simp only [RepL] at h
    obtain ⟨v, r, e, h1, h2⟩ := h
    subst e
    show RepL K mg G (d :: (ds ++ es)) (v :: (r ++ ws))
    simp only [RepL]
    exact ⟨v, _, rfl, h1, RepL.append h2 h'⟩
theorem RepL.nil : RepL K mg G [] [] := by simp [RepL]
theorem RepL.cons {d : D} {ds : List D} {v : V} {vs : List V} (h : Rep K mg G d v) (h' : RepL K mg G ds vs) : RepL K mg G (d :: ds) (v :: vs) := by
  simp only [RepL]; exact ⟨v, vs, rfl, h, h'⟩
theorem RepL.inv {d : D} {ds : List D} {vs : List V} (h : RepL K mg G (d :: ds) vs) : ∃ v r, vs = v :: r ∧ Rep K mg G d v ∧ RepL K mg G ds r := by simpa only [RepL] using h
theorem RepL.nilinv {vs : List V} (h : RepL K mg G [] vs) : vs = [] := by simpa only [RepL] using h
theorem RepL.take : ∀ (n : Nat) {ds : List D} {vs : List V}, RepL K mg G ds vs → RepL K mg G (ds.take n) (vs.take n)
  | 0, _, _, _ => by simp [RepL]
  | _ + 1, [], _, h => by have := h.nilinv; subst this; simp [RepL]
  | n + 1, d :: ds, _, h => by
    obtain ⟨v, r, e, h1, h2⟩ := h.inv
    subst e
    exact RepL.cons h1 (RepL.take n h2)
theorem RepL.drop : ∀ (n : Nat) {ds : List D} {vs : List V}, RepL K mg G ds vs → RepL K mg G (ds.drop n) (vs.drop n)
  | 0, _, _, h => h
  | _ + 1, [], _, h => by have := h.nilinv; subst this; simp [RepL]
  | n + 1, d :: ds, _, h => by
    obtain ⟨v, r, e, h1, h2⟩ := h.inv
    subst e
    exact RepL.drop n h2
theorem RepL.set {d : D} {v : V} (hd : Rep K mg G d v) : ∀ (i : Nat) {ds : List D} {vs : List V}, RepL K mg G ds vs → RepL K mg G (ds.set i d) (vs.set i v)
  | _, [], _, h => by have := h.nilinv; subst this; simp [RepL]
  | 0, x :: ds, _, h => by
    obtain ⟨w, r, e, h1, h2⟩ := h.inv
    subst e
    exact RepL.cons hd h2
  | i + 1, x :: ds, _, h => by
    obtain ⟨w, r, e, h1, h2⟩ := h.inv
    subst e
    exact RepL.cons h1 (RepL.set hd i h2)
theorem RepL.reverse : ∀ {ds : List D} {vs : List V}, RepL K mg G ds vs → RepL K mg G ds.reverse vs.reverse
  | [], _, h => by have := h.nilinv; subst this; simp [RepL]
  | d :: ds, _, h => by
    obtain ⟨v, r, e, h1, h2⟩ := h.inv
    subst e
    rw [List.reverse_cons, List.reverse_cons]
    exact RepL.append (RepL.reverse h2) (RepL.cons h1 RepL.nil)
theorem RepL.eraseIdx : ∀ (i : Nat) {ds : List D} {vs : List V}, RepL K mg G ds vs → RepL K mg G (ds.eraseIdx i) (vs.eraseIdx i)
  | _, [], _, h => by have := h.nilinv; subst this; simp [RepL]
  | 0, x :: ds, _, h => by
    obtain ⟨w, r, e, h1, h2⟩ := h.inv
    subst e
    exact h2
  | i + 1, x :: ds, _, h => by
    obtain ⟨w, r, e, h1, h2⟩ := h.inv
    subst e
    exact RepL.cons h1 (RepL.eraseIdx i h2)
theorem RepL.flat (f : ∀ d ∈ ds, D.flat d = true) {vs : List V} (h : RepL K mg G ds vs) : RepL K mg G' ds vs := by
  induction ds generalizing vs with
  | nil => simpa only [RepL] using h
  | cons d ds ih =>
    obtain ⟨v, r, e, h1, h2⟩ := h.inv
    subst e
    exact RepL.cons (h1.flat (f d (by simp))) (ih (fun d hd => f d (by simp [hd])) h2)

theorem RepK.length : ∀ {ds : List (Key × D)} {vs : List (L2.Key × V)}, RepK K mg G ds vs → ds.length = vs.length
  | [], _, h => by simp only [RepK] at h; simp [h]
  | d :: ds, _, h => by
    simp only [RepK] at h
    obtain ⟨v, r, e, h1, h2⟩ := h
    subst e
    simp [RepK.length h2]
theorem RepK.nilinv {vs} (h : RepK K mg G [] vs) : vs = [] := by simpa only [RepK] using h
theorem RepK.inv {d : Key × D} {ds : List (Key × D)} {vs} (h : RepK K mg G (d :: ds) vs) : ∃ v r, vs = (d.1, v) :: r ∧ (Rep K mg G d.2 v ∧ KeyFit d.1) ∧ RepK K mg G ds r := by simpa only [RepK] using h
theorem RepK.nil : RepK K mg G [] [] := by simp [RepK]
theorem RepK.cons {k : Key} {d : D} {ds : List (Key × D)} {v : V} {vs} (h : Rep K mg G d v ∧ KeyFit k) (h' : RepK K mg G ds vs) : RepK K mg G ((k, d) :: ds) ((k, v) :: vs) := by
  simp only [RepK]; exact ⟨v, vs, rfl, h, h'⟩
theorem RepK.append : ∀ {ds es : List (Key × D)} {vs ws}, RepK K mg G ds vs → RepK K mg G es ws → RepK K mg G (ds ++ es) (vs ++ ws)
  | [], _, _, _, h, h' => by have := h.nilinv; subst this; exact h'
  | d :: ds, es, _, ws, h, h' => by
    obtain ⟨v, r, e, h1, h2⟩ := h.inv
    subst e
    exact RepK.cons (k := d.1) (d := d.2) h1 (RepK.append h2 h')
theorem RepK.find {k : Key} : ∀ {ds : List (Key × D)} {vs}, RepK K mg G ds vs → match findK ds k, valV vs k with
    | some d, some v => Rep K mg G d v
    | none, none => True
    | _, _ => False
  | [], _, h => by have := h.nilinv; subst this; simp [findK, valV]
  | d :: ds, _, h => by
    obtain ⟨v, r, e, h1, h2⟩ := h.inv
    subst e
    have ih := RepK.find (k := k) h2
    by_cases hk : d.1 = k
    · simpa [findK, valV, hk] using h1.1
    · simpa [findK, valV, hk] using ih
theorem RepK.any {k : Key} : ∀ {ds : List (Key × D)} {vs}, RepK K mg G ds vs → (ds.any fun kv => decide (kv.1 = k)) = (vs.any fun kv => decide (kv.1 = k))
  | [], _, h => by have := h.nilinv; subst this; rfl
  | d :: ds, _, h => by
    obtain ⟨v, r, e, h1, h2⟩ := h.inv
    subst e
    simp [RepK.any (k := k) h2]
theorem RepK.repl {k : Key} {d : D} {v : V} (hd : Rep K mg G d v) : ∀ {ds : List (Key × D)} {vs}, RepK K mg G ds vs →
    RepK K mg G (ds.map fun kv => if kv.1 = k then (kv.1, d) else kv) (vs.map fun kv => if kv.1 = k then (kv.1, v) else kv)
  | [], _, h => by have := h.nilinv; subst this; simp [RepK]
  | x :: ds, _, h => by
    obtain ⟨w, r, e, h1, h2⟩ := h.inv
    subst e
    have ih := RepK.repl (k := k) hd h2
    by_cases hk : x.1 = k
    · simp only [List.map_cons, hk, if_true]; exact RepK.cons ⟨hd, by rw [← hk]; exact h1.2⟩ ih
    · simp only [List.map_cons, if_neg hk]; exact RepK.cons (k := x.1) (d := x.2) h1 ih
theorem RepK.put {k : Key} {d : D} {v : V} (hk : KeyFit k) (hd : Rep K mg G d v) {ds : List (Key × D)} {vs} (h : RepK K mg G ds vs) : RepK K mg G (M.putK ds k d) (L2.putK vs k v) := by
  unfold M.putK L2.putK
  rw [h.any (k := k)]
  split
  · exact RepK.repl hd h
  · exact RepK.append h (RepK.cons ⟨hd, hk⟩ RepK.nil)
theorem RepK.dropK {k : Key} : ∀ {ds : List (Key × D)} {vs}, RepK K mg G ds vs → RepK K mg G (M.dropK ds k) (L2.dropK vs k)
  | [], _, h => by have := h.nilinv; subst this; simp [M.dropK, L2.dropK, RepK]
  | x :: ds, _, h => by
    obtain ⟨w, r, e, h1, h2⟩ := h.inv
    subst e
    have ih := RepK.dropK (k := k) h2
    unfold M.dropK L2.dropK at ih ⊢
    by_cases hk : x.1 = k
    · simpa [List.filter_cons, hk] using ih
    · simp only [List.filter_cons, decide_eq_true (p := x.1 ≠ k) hk, if_true]
      exact RepK.cons (k := x.1) (d := x.2) h1 ih
end

/-! ### the state -/
/-- what a def's body begins with: what is frozen, the heap, the places that it may change, the arguments there -/
structure Bs where
  G0 : Hp
  H0 : Hp
  nin : Nat
  vs0 : List V
  L : List (Nat × D × Addr)
  /-- what is locked by a walk -/
  F : List (Addr × PySem.Obj × HO)
def Bs.P (B : Bs) (a : Addr) : Prop := ∃ j, j < B.nin ∧ B.vs0[j]? = some (.ref a)

section
variable (K : PySem.W.Frag) (mg : Str → Option Value)
/-- an own thing lies so -/
def Cell (G : Hp) : D → Option HO → Prop
  | .lst xs, some (.lst vs) => RepL K mg G xs vs
  | .dct kvs, some (.dK vs) => RepK K mg G kvs vs
  | .dctT kvs, some (.dT vs) => RepT K mg G kvs vs
  | _, _ => False
def isOwn (ρ : Env) (i : Nat) : Prop := (∃ d, ρ[i]? = some (Slot.own d)) ∨ ∃ d, ρ[i]? = some (Slot.lck d)
structure Sm (B : Bs) (G : Hp) (ρ : Env) (σ : St) (H : Hp) (τ : List (D × Addr)) : Prop where
  len : ρ.length = σ.length
  fz : ∀ a o, G a = some o → Ro H a o
  val : ∀ (i : Nat) (d : D), ρ[i]? = some (Slot.val d) → ∃ v, σ[i]? = some (some v) ∧ Rep K mg G d v
  own : ∀ (i : Nat) (d : D), ρ[i]? = some (Slot.own d) → ∃ p, σ[i]? = some (some (.ref p)) ∧ G p = none ∧ Cell K mg G d (H p) ∧ (B.H0 p = none ∨ B.P p)
  lck : ∀ (i : Nat) (d : D), ρ[i]? = some (Slot.lck d) → ∃ p, σ[i]? = some (some (.ref p)) ∧ G p = none ∧ Cell K mg G d (unfD d (H p)) ∧ (B.H0 p = none ∨ B.P p)
  tmp : ∀ x ∈ τ, G x.2 = none ∧ Cell K mg G x.1 (H x.2) ∧ B.H0 x.2 = none
  sepS : ∀ (i j : Nat) (p : Addr), i ≠ j → isOwn ρ i → isOwn ρ j → σ[i]? = some (some (.ref p)) → σ[j]? ≠ some (some (.ref p))
  sepT : ∀ (i : Nat) (p : Addr), isOwn ρ i → σ[i]? = some (some (.ref p)) → p ∉ τ.map (·.2)
  ndT : (τ.map (·.2)).Nodup
  g0 : Same B.G0 G
  h0 : ∀ a o, B.H0 a = some o → ¬ B.P a → H a = some o ∨ ∃ ob, (a, ob, o) ∈ B.F
  n0 : ∀ a o, G a = some o → B.G0 a = some o ∨ B.H0 a = none ∨ B.P a
  p0 : ∀ a, B.P a → H a ≠ none
  in0 : ∀ j, j < B.nin → ∃ v, B.vs0[j]? = some v ∧ σ[j]? = some (some v)
  lk0 : ∀ x ∈ B.L, ρ[x.1]? = some (.lck x.2.1) ∧ σ[x.1]? = some (some (.ref x.2.2))
  lkc : ∀ (i : Nat) (d : D), ρ[i]? = some (Slot.lck d) → ∃ p, (i, d, p) ∈ B.L
  fx : ∀ x ∈ B.F, H x.1 = some (.frz x.2.1 x.2.2) ∧ (G x.1 = some x.2.2 ∨ ∃ i d, (i, d, x.1) ∈ B.L)
end
section
variable {K : PySem.W.Frag} {mg : Str → Option Value} {B : Bs} {G G' H H' : Hp} {ρ : Env} {σ : St} {τ : List (D × Addr)}
theorem Cell.ne {d : D} {o : Option HO} (h : Cell K mg G d o) : o ≠ none := by
  intro e; subst e; cases d <;> exact h
theorem Cell.mono (s : Same G G') {d : D} {o : Option HO} (h : Cell K mg G d o) : Cell K mg G' d o := by
  cases d with
  | lst xs => cases o with
    | none => exact h
    | some o => cases o with
      | lst vs => exact RepL.mono s xs h
      | _ => exact h
  | dct xs => cases o with
    | none => exact h
    | some o => cases o with
      | dK vs => exact RepK.mono s xs h
      | _ => exact h
  | dctT xs => cases o with
    | none => exact h
    | some o => cases o with
      | dT vs => exact RepT.mono s xs h
      | _ => exact h
  | _ => exact h
theorem Cell.unf {d : D} {o : Option HO} (h : Cell K mg G d o) : unf o = o := by
  cases o with
  | none => exact absurd rfl h.ne
  | some o => cases o with
    | frz _ _ => cases d <;> exact (show False from h).elim
    | _ => rfl
theorem unfD_none {d : D} : unfD d none = none := by
  cases d <;> rfl
theorem Cell.unfD {d : D} {o : Option HO} (h : Cell K mg G d o) : unfD d o = o := by
  cases d <;> first
    | rfl
    | exact h.unf
theorem Cell.ofD {d : D} {o : Option HO} (h : Cell K mg G d (M.unfD d o)) : Cell K mg G d (M.unf o) := by
  cases d <;> first
    | (have h : Cell K mg G _ o := h; rw [h.unf]; exact h)
    | exact h
theorem unf_none {o : Option HO} (h : unf o = none) : o = none := by
  cases o with
  | none => rfl
  | some o => cases o <;> simp [unf] at h
theorem Sm.fresh0 (S : Sm K mg B G ρ σ H τ) {p : Addr} (h : H p = none) : B.H0 p = none := by
  cases e : B.H0 p with
  | none => rfl
  | some o =>
    by_cases q : B.P p
    · exact absurd h (S.p0 p q)
    · rcases S.h0 p o e q with z | ⟨ob, z⟩
      · rw [z] at h; cases h
      · rw [(S.fx _ z).1] at h; cases h
theorem Sm.freshG (S : Sm K mg B G ρ σ H τ) {p : Addr} (h : H p = none) : G p = none := by
  cases e : G p with
  | none => rfl
  | some o => exact absurd h (S.fz p o e).ne
theorem Sm.ownne (S : Sm K mg B G ρ σ H τ) {i : Nat} {p : Addr} (ho : isOwn ρ i) (e : σ[i]? = some (some (.ref p))) : H p ≠ none := by
  rcases ho with ⟨d, h⟩ | ⟨d, h⟩
  · obtain ⟨q, e', _, c, _⟩ := S.own i d h
    rw [e] at e'; cases e'
    exact c.ne
  · obtain ⟨q, e', _, c, _⟩ := S.lck i d h
    rw [e] at e'; cases e'
    intro z; rw [z, unfD_none] at c; exact c.ne rfl
theorem Sm.ownG (S : Sm K mg B G ρ σ H τ) {i : Nat} {p : Addr} (ho : isOwn ρ i) (e : σ[i]? = some (some (.ref p))) : G p = none := by
  rcases ho with ⟨d, h⟩ | ⟨d, h⟩
  · obtain ⟨q, e', g, c, _⟩ := S.own i d h
    rw [e] at e'; cases e'
    exact g
  · obtain ⟨q, e', g, c, _⟩ := S.lck i d h
    rw [e] at e'; cases e'
    exact g
/-- temporary things forgotten -/
theorem Sm.drop (S : Sm K mg B G ρ σ H τ) {τ' : List (D × Addr)} (h : τ'.Sublist τ) : Sm K mg B G ρ σ H τ' :=
  { S with
    tmp := fun x hx => S.tmp x (h.subset hx)
    sepT := fun i p ho e hp => S.sepT i p ho e ((h.map (·.2)).subset hp)
    ndT := S.ndT.sublist (h.map (·.2)) }
theorem Sm.drop1 {x : D × Addr} (S : Sm K mg B G ρ σ H (x :: τ)) : Sm K mg B G ρ σ H τ := S.drop (List.sublist_cons_self _ _)
/-- a new thing, own -/
theorem Sm.new (S : Sm K mg B G ρ σ H τ) {p : Addr} {o : HO} {d : D} (h : H p = none) (c : Cell K mg G d (some o)) : Sm K mg B G ρ σ (upd H p o) ((d, p) :: τ) := by
  have h0 := S.fresh0 h
  have hg := S.freshG h
  refine ⟨S.len, fun a u e => ?_, S.val, fun i d' e => ?_, fun i d' e => ?_, fun x hx => ?_, S.sepS, fun i q ho e hm => ?_, ?_, S.g0, fun a u e np => ?_, S.n0, fun a q => ?_, S.in0, S.lk0, S.lkc, fun x hx => ⟨by
    have ne : x.1 ≠ p := fun z => by have := (S.fx x hx).1; rw [z, h] at this; cases this
    rw [upd_ne ne]; exact (S.fx x hx).1, (S.fx x hx).2⟩⟩
  · have ne : a ≠ p := fun z => by subst z; rw [hg] at e; cases e
    rcases S.fz a u e with z | ⟨z1, ob, z2⟩
    · exact .inl (by rw [upd_ne ne]; exact z)
    · exact .inr ⟨z1, ob, by rw [upd_ne ne]; exact z2⟩
  · obtain ⟨q, e1, e2, e3, e4⟩ := S.own i d' e
    have ne : q ≠ p := fun z => by subst z; rw [h] at e3; exact e3.ne rfl
    exact ⟨q, e1, e2, by rw [upd_ne ne]; exact e3, e4⟩
  · obtain ⟨q, e1, e2, e3, e4⟩ := S.lck i d' e
    have ne : q ≠ p := fun z => by subst z; rw [h, unfD_none] at e3; exact e3.ne rfl
    exact ⟨q, e1, e2, by rw [upd_ne ne]; exact e3, e4⟩
  · rcases List.mem_cons.mp hx with rfl | hx
    · exact ⟨hg, by rw [upd_same]; exact c, h0⟩
    · obtain ⟨e1, e2, e3⟩ := S.tmp x hx
      have ne : x.2 ≠ p := fun z => by rw [z, h] at e2; exact e2.ne rfl
      exact ⟨e1, by rw [upd_ne ne]; exact e2, e3⟩
  · rw [List.map_cons, List.mem_cons] at hm
    rcases hm with z | z
    · exact S.ownne ho e (by rw [z]; exact h)
    · exact S.sepT i q ho e z
  · rw [List.map_cons, List.nodup_cons]
    refine ⟨fun hm => ?_, S.ndT⟩
    obtain ⟨x, hx, e⟩ := List.mem_map.mp hm
    obtain ⟨_, e2, _⟩ := S.tmp x hx
    have e' : x.2 = p := e
    rw [e', h] at e2
    exact e2.ne rfl
  · have ne : a ≠ p := fun z => by subst z; rw [h0] at e; cases e
    rw [upd_ne ne]; exact S.h0 a u e np
  · have ne : a ≠ p := fun z => by subst z; exact S.p0 a q h
    rw [upd_ne ne]; exact S.p0 a q
/-- the object that a cell holds, as it is read when frozen -/
theorem Cell.rep {d : D} {p : Addr} {o : HO} (c : Cell K mg G d (some o)) (g : G p = none) : Rep K mg (upd G p o) d (.ref p) ∧ Same G (upd G p o) := by
  have s : Same G (upd G p o) := fun b u e => by
    have ne : b ≠ p := fun z => by subst z; rw [g] at e; cases e
    rw [upd_ne ne]; exact e
  refine ⟨?_, s⟩
  cases d with
  | lst xs => cases o with
    | lst vs => simp only [Rep]; exact ⟨p, vs, rfl, .inl upd_same, RepL.mono s xs c⟩
    | _ => exact (show False from c).elim
  | dct xs => cases o with
    | dK vs => simp only [Rep]; exact ⟨p, vs, rfl, upd_same, RepK.mono s xs c⟩
    | _ => exact (show False from c).elim
  | dctT xs => cases o with
    | dT vs => simp only [Rep]; exact ⟨p, vs, rfl, upd_same, RepT.mono s xs c⟩
    | _ => exact (show False from c).elim
  | _ => exact (show False from c).elim
/-- more is frozen: an address that no cell is -/
theorem Sm.freezeG (S : Sm K mg B G ρ σ H τ) {p : Addr} {o : HO} (g : G p = none) (h : Ro H p o) (hn : B.H0 p = none ∨ B.P p) (hs : ∀ i, isOwn ρ i → σ[i]? ≠ some (some (.ref p))) (ht : p ∉ τ.map (·.2)) :
    Sm K mg B (upd G p o) ρ σ H τ := by
  have s : Same G (upd G p o) := fun b u e => by
    have ne : b ≠ p := fun z => by subst z; rw [g] at e; cases e
    rw [upd_ne ne]; exact e
  refine ⟨S.len, fun a u e => ?_, fun i d e => ?_, fun i d e => ?_, fun i d e => ?_, fun x hx => ?_, S.sepS, S.sepT, S.ndT, S.g0.trans s, S.h0, fun a u e => ?_, S.p0, S.in0, S.lk0, S.lkc, fun x hx => ⟨(S.fx x hx).1, (S.fx x hx).2.imp (s _ _) id⟩⟩
  · by_cases ne : a = p
    · subst ne; rw [upd_same] at e; cases e; exact h
    · rw [upd_ne ne] at e; exact S.fz a u e
  · obtain ⟨v, e1, e2⟩ := S.val i d e
    exact ⟨v, e1, Rep.mono s d e2⟩
  · obtain ⟨q, e1, e2, e3, e4⟩ := S.own i d e
    have ne : q ≠ p := fun z => hs i (.inl ⟨d, e⟩) (by rw [e1, z])
    exact ⟨q, e1, by rw [upd_ne ne]; exact e2, e3.mono s, e4⟩
  · obtain ⟨q, e1, e2, e3, e4⟩ := S.lck i d e
    have ne : q ≠ p := fun z => hs i (.inr ⟨d, e⟩) (by rw [e1, z])
    exact ⟨q, e1, by rw [upd_ne ne]; exact e2, e3.mono s, e4⟩
  · obtain ⟨e1, e2, e3⟩ := S.tmp x hx
    have ne : x.2 ≠ p := fun z => ht (List.mem_map.mpr ⟨x, hx, z⟩)
    exact ⟨by rw [upd_ne ne]; exact e1, e2.mono s, e3⟩
  · by_cases ne : a = p
    · subst ne; exact .inr hn
    · rw [upd_ne ne] at e; exact S.n0 a u e
/-- a temporary thing is frozen -/
theorem Sm.freezeT {d : D} {p : Addr} (S : Sm K mg B G ρ σ H ((d, p) :: τ)) : ∃ G', Same G G' ∧ Sm K mg B G' ρ σ H τ ∧ Rep K mg G' d (.ref p) := by
  obtain ⟨g, c, h0⟩ := S.tmp (d, p) List.mem_cons_self
  cases e : H p with
  | none => rw [e] at c; exact absurd rfl c.ne
  | some o =>
    have c' : Cell K mg G d (some o) := by rw [← e]; exact c
    obtain ⟨r, s⟩ := c'.rep g
    refine ⟨upd G p o, s, (S.drop1).freezeG g (.inl e) (.inl h0) (fun i ho z => ?_) ?_, r⟩
    · exact S.sepT i p ho z (by simp)
    · have := S.ndT
      rw [List.map_cons, List.nodup_cons] at this
      exact this.1
/-- slots changed in the evaluator alone, to less -/
theorem Sm.less (S : Sm K mg B G ρ σ H τ) {ρ' : Env} (hl : ρ'.length = ρ.length) (h : ∀ (i : Nat) (s : Slot), ρ'[i]? = some s → s = Slot.none ∨ ρ[i]? = some s) (hk : ∀ (i : Nat) (d : D), ρ[i]? = some (.lck d) → ρ'[i]? = some (.lck d)) : Sm K mg B G ρ' σ H τ := by
  have ho : ∀ i, isOwn ρ' i → isOwn ρ i := fun i q => by
    rcases q with ⟨d, e⟩ | ⟨d, e⟩
    · rcases h i _ e with z | z
      · cases z
      · exact .inl ⟨d, z⟩
    · rcases h i _ e with z | z
      · cases z
      · exact .inr ⟨d, z⟩
  refine { S with lkc := fun i d e => (h i _ e).elim (fun z => nomatch z) fun z => S.lkc i d z, lk0 := fun x hx => ⟨hk _ _ (S.lk0 x hx).1, (S.lk0 x hx).2⟩, len := by rw [hl]; exact S.len, val := fun i d e => ?_, own := fun i d e => ?_, lck := fun i d e => ?_, sepS := fun i j p ne a b => S.sepS i j p ne (ho i a) (ho j b), sepT := fun i p a => S.sepT i p (ho i a) }
  · rcases h i _ e with z | z
    · cases z
    · exact S.val i d z
  · rcases h i _ e with z | z
    · cases z
    · exact S.own i d z
  · rcases h i _ e with z | z
    · cases z
    · exact S.lck i d z
theorem getset {α : Type} {l : List α} {i j : Nat} {x : α} (s : α) (h : (List.set l i x)[j]? = some s) : (j = i ∧ s = x) ∨ (j ≠ i ∧ l[j]? = some s) := by
  by_cases e : j = i
  · subst e
    rw [List.getElem?_set] at h
    split at h
    · split at h
      · cases h; exact .inl ⟨rfl, rfl⟩
      · cases h
    · contradiction
  · rw [List.getElem?_set_ne (Ne.symm e)] at h
    exact .inr ⟨e, h⟩
theorem setself {α : Type} {l : List α} {i : Nat} {x : α} (h : i < l.length) : (l.set i x)[i]? = some x := List.getElem?_set_self h
/-- an own slot is frozen -/
theorem Sm.freezeS {i : Nat} {d : D} (S : Sm K mg B G ρ σ H τ) (h : ρ[i]? = some (Slot.own d)) :
    ∃ G', Same G G' ∧ Sm K mg B G' (List.set ρ i (Slot.val d)) σ H τ ∧ ∃ v, σ[i]? = some (some v) ∧ Rep K mg G' d v := by
  obtain ⟨p, e1, g, c, hn⟩ := S.own i d h
  have hi : i < ρ.length := (List.getElem?_eq_some_iff.mp h).1
  cases e : H p with
  | none => rw [e] at c; exact absurd rfl c.ne
  | some o =>
    have c' : Cell K mg G d (some o) := by rw [← e]; exact c
    obtain ⟨r, s⟩ := c'.rep g
    have S1 : Sm K mg B G (List.set ρ i Slot.none) σ H τ := S.less (by simp) (fun j s' e' => by
      rcases getset _ e' with ⟨_, z⟩ | ⟨_, z⟩
      · exact .inl z
      · exact .inr z) fun j d' e' => by
        have ne : j ≠ i := fun z => by subst z; rw [h] at e'; cases e'
        rw [List.getElem?_set_ne (Ne.symm ne)]; exact e'
    have S2 : Sm K mg B (upd G p o) (List.set ρ i Slot.none) σ H τ := S1.freezeG g (.inl e) hn (fun j ho z => by
      by_cases ne : j = i
      · subst ne
        rcases ho with ⟨d', q⟩ | ⟨d', q⟩ <;> (rw [setself hi] at q; cases q)
      · have ho' : isOwn ρ j := by
          rcases ho with ⟨d', q⟩ | ⟨d', q⟩
          · rcases getset _ q with ⟨a, _⟩ | ⟨_, a⟩
            · exact absurd a ne
            · exact .inl ⟨d', a⟩
          · rcases getset _ q with ⟨a, _⟩ | ⟨_, a⟩
            · exact absurd a ne
            · exact .inr ⟨d', a⟩
        exact S.sepS i j p (Ne.symm ne) (.inl ⟨d, h⟩) ho' e1 z) (S.sepT i p (.inl ⟨d, h⟩) e1)
    have key : ∀ (j : Nat) (s' : Slot), (List.set ρ i (Slot.val d))[j]? = some s' → (j = i ∧ s' = Slot.val d) ∨ (List.set ρ i Slot.none)[j]? = some s' := fun j s' q => by
      rcases getset _ q with ⟨a, b⟩ | ⟨a, b⟩
      · exact .inl ⟨a, b⟩
      · exact .inr (by rw [List.getElem?_set_ne (Ne.symm a)]; exact b)
    have ho2 : ∀ j, isOwn (List.set ρ i (Slot.val d)) j → isOwn (List.set ρ i Slot.none) j := fun j q => by
      rcases q with ⟨d', q⟩ | ⟨d', q⟩
      · rcases key j _ q with ⟨_, z⟩ | z
        · cases z
        · exact .inl ⟨d', z⟩
      · rcases key j _ q with ⟨_, z⟩ | z
        · cases z
        · exact .inr ⟨d', z⟩
    refine ⟨upd G p o, s, { S2 with lkc := fun j d1 q => (key j _ q).elim (fun z => nomatch z.2) fun z => S2.lkc j d1 z, lk0 := fun x hx => ⟨by
      have := (S.lk0 x hx).1
      have ne : x.1 ≠ i := fun z => by rw [z, h] at this; cases this
      rw [List.getElem?_set_ne (Ne.symm ne)]; exact this, (S.lk0 x hx).2⟩, len := by simpa using S.len, val := fun j d' q => ?_, own := fun j d' q => ?_, lck := fun j d' q => ?_, sepS := fun a b q ne x y => S2.sepS a b q ne (ho2 a x) (ho2 b y), sepT := fun a q x => S2.sepT a q (ho2 a x) }, .ref p, e1, r⟩
    · rcases key j _ q with ⟨z, z2⟩ | z
      · subst z; cases z2; exact ⟨_, e1, r⟩
      · exact S2.val j d' z
    · rcases key j _ q with ⟨z, z2⟩ | z
      · cases z2
      · exact S2.own j d' z
    · rcases key j _ q with ⟨z, z2⟩ | z
      · cases z2
      · exact S2.lck j d' z
end
end M
end
section
set_option linter.all false
set_option maxRecDepth 100000
set_option maxHeartbeats 1000000
/-! MSt: steps of the state, views of values, what a core term's run wants. -/
namespace M
open PySem L2
section
variable {K : PySem.W.Frag} {mg : Str → Option Value} {B : Bs} {G G' H H' : Hp} {ρ : Env} {σ : St} {τ : List (D × Addr)}

theorem own_set {i j : Nat} {s : Slot} (hs : (∀ d, s ≠ .own d) ∧ ∀ d, s ≠ .lck d) (h : isOwn (List.set ρ i s) j) : j ≠ i ∧ isOwn ρ j := by
  rcases h with ⟨d, q⟩ | ⟨d, q⟩
  · rcases getset (l := ρ) _ q with ⟨_, z⟩ | ⟨n, z⟩
    · exact absurd z.symm (hs.1 d)
    · exact ⟨n, .inl ⟨d, z⟩⟩
  · rcases getset (l := ρ) _ q with ⟨_, z⟩ | ⟨n, z⟩
    · exact absurd z.symm (hs.2 d)
    · exact ⟨n, .inr ⟨d, z⟩⟩
theorem own_at {i j : Nat} {s : Slot} (h : isOwn (List.set ρ i s) j) : j = i ∨ (j ≠ i ∧ isOwn ρ j) := by
  rcases h with ⟨d, q⟩ | ⟨d, q⟩
  · rcases getset (l := ρ) _ q with ⟨n, z⟩ | ⟨n, z⟩
    · exact .inl n
    · exact .inr ⟨n, .inl ⟨d, z⟩⟩
  · rcases getset (l := ρ) _ q with ⟨n, z⟩ | ⟨n, z⟩
    · exact .inl n
    · exact .inr ⟨n, .inr ⟨d, z⟩⟩
theorem setne {α : Type} {l : List α} {i j : Nat} {x : α} (h : j ≠ i) : (List.set l i x)[j]? = l[j]? := List.getElem?_set_ne (Ne.symm h)

/-- a slot that is not walked -/
def NoLk (ρ : Env) (i : Nat) : Prop := ∀ d, ρ[i]? ≠ some (Slot.lck d)
theorem Sm.nlk (S : Sm K mg B G ρ σ H τ) {i : Nat} (h : NoLk ρ i) : ∀ x ∈ B.L, x.1 ≠ i := fun x hx z => by
  have := (S.lk0 x hx).1
  rw [z] at this
  exact h _ this
/-- a slot is stored -/
theorem Sm.setV {i : Nat} {d : D} {v : V} (S : Sm K mg B G ρ σ H τ) (hi : B.nin ≤ i) (hn : NoLk ρ i) (r : Rep K mg G d v) : Sm K mg B G (List.set ρ i (.val d)) (List.set σ i (some v)) H τ := by
  have ho : ∀ j, isOwn (List.set ρ i (Slot.val d)) j → j ≠ i ∧ isOwn ρ j := fun j q => own_set ⟨fun _ z => (by cases z), fun _ z => (by cases z)⟩ q
  refine { S with lkc := fun j d1 q => (getset (l := ρ) _ q).elim (fun z => nomatch z.2) fun z => S.lkc j d1 z.2, lk0 := fun x hx => ⟨by rw [setne (S.nlk hn x hx)]; exact (S.lk0 x hx).1, by rw [setne (S.nlk hn x hx)]; exact (S.lk0 x hx).2⟩, len := by simpa using S.len, val := fun j d' q => ?_, own := fun j d' q => ?_, lck := fun j d' q => ?_, sepS := fun a b p ne x y e1 e2 => ?_, sepT := fun a p x e => ?_, in0 := fun j hj => ?_ }
  · rcases getset (l := ρ) _ q with ⟨rfl, z⟩ | ⟨n, z⟩
    · cases z
      refine ⟨v, ?_, r⟩
      have := (List.getElem?_eq_some_iff.mp q).1
      exact setself (by rw [← S.len]; simpa using this)
    · obtain ⟨w, e1, e2⟩ := S.val j d' z
      exact ⟨w, by rw [setne n]; exact e1, e2⟩
  · rcases getset (l := ρ) _ q with ⟨rfl, z⟩ | ⟨n, z⟩
    · cases z
    · obtain ⟨w, e1, e2⟩ := S.own j d' z
      exact ⟨w, by rw [setne n]; exact e1, e2⟩
  · rcases getset (l := ρ) _ q with ⟨rfl, z⟩ | ⟨n, z⟩
    · cases z
    · obtain ⟨w, e1, e2⟩ := S.lck j d' z
      exact ⟨w, by rw [setne n]; exact e1, e2⟩
  · obtain ⟨n1, o1⟩ := ho a x
    obtain ⟨n2, o2⟩ := ho b y
    rw [setne n1] at e1
    rw [setne n2] at e2
    exact S.sepS a b p ne o1 o2 e1 e2
  · obtain ⟨n1, o1⟩ := ho a x
    rw [setne n1] at e
    exact S.sepT a p o1 e
  · obtain ⟨w, e1, e2⟩ := S.in0 j hj
    exact ⟨w, e1, by rw [setne (by omega)]; exact e2⟩
theorem Sm.setN {i : Nat} {o : Option V} (S : Sm K mg B G ρ σ H τ) (hi : B.nin ≤ i) (hn : NoLk ρ i) : Sm K mg B G (List.set ρ i .none) (List.set σ i o) H τ := by
  have ho : ∀ j, isOwn (List.set ρ i Slot.none) j → j ≠ i ∧ isOwn ρ j := fun j q => own_set ⟨fun _ z => (by cases z), fun _ z => (by cases z)⟩ q
  refine { S with lkc := fun j d1 q => (getset (l := ρ) _ q).elim (fun z => nomatch z.2) fun z => S.lkc j d1 z.2, lk0 := fun x hx => ⟨by rw [setne (S.nlk hn x hx)]; exact (S.lk0 x hx).1, by rw [setne (S.nlk hn x hx)]; exact (S.lk0 x hx).2⟩, len := by simpa using S.len, val := fun j d' q => ?_, own := fun j d' q => ?_, lck := fun j d' q => ?_, sepS := fun a b p ne x y e1 e2 => ?_, sepT := fun a p x e => ?_, in0 := fun j hj => ?_ }
  · rcases getset (l := ρ) _ q with ⟨rfl, z⟩ | ⟨n, z⟩
    · cases z
    · obtain ⟨w, e1, e2⟩ := S.val j d' z
      exact ⟨w, by rw [setne n]; exact e1, e2⟩
  · rcases getset (l := ρ) _ q with ⟨rfl, z⟩ | ⟨n, z⟩
    · cases z
    · obtain ⟨w, e1, e2⟩ := S.own j d' z
      exact ⟨w, by rw [setne n]; exact e1, e2⟩
  · rcases getset (l := ρ) _ q with ⟨rfl, z⟩ | ⟨n, z⟩
    · cases z
    · obtain ⟨w, e1, e2⟩ := S.lck j d' z
      exact ⟨w, by rw [setne n]; exact e1, e2⟩
  · obtain ⟨n1, o1⟩ := ho a x
    obtain ⟨n2, o2⟩ := ho b y
    rw [setne n1] at e1
    rw [setne n2] at e2
    exact S.sepS a b p ne o1 o2 e1 e2
  · obtain ⟨n1, o1⟩ := ho a x
    rw [setne n1] at e
    exact S.sepT a p o1 e
  · obtain ⟨w, e1, e2⟩ := S.in0 j hj
    exact ⟨w, e1, by rw [setne (by omega)]; exact e2⟩
/-- a slot takes a temporary thing -/
theorem Sm.setO {i : Nat} {d : D} {p : Addr} (S : Sm K mg B G ρ σ H ((d, p) :: τ)) (hi : B.nin ≤ i) (hn : NoLk ρ i) : Sm K mg B G (List.set ρ i (.own d)) (List.set σ i (some (.ref p))) H τ := by
  obtain ⟨g, c, h0⟩ := S.tmp (d, p) List.mem_cons_self
  have nd := S.ndT
  rw [List.map_cons, List.nodup_cons] at nd
  have hlt : ∀ {j : Nat} {s : Slot} {x : Option V}, (List.set ρ i s)[j]? ≠ none → j < (List.set σ i x).length := fun {j s x} h => by
    rw [List.length_set, ← S.len]
    cases q : (List.set ρ i s)[j]? with
    | none => exact absurd q h
    | some _ => have := (List.getElem?_eq_some_iff.mp q).1; simpa using this
  refine { S.drop1 with lkc := fun j d1 q => (getset (l := ρ) _ q).elim (fun z => nomatch z.2) fun z => S.lkc j d1 z.2, lk0 := fun x hx => ⟨by rw [setne (S.nlk hn x hx)]; exact (S.lk0 x hx).1, by rw [setne (S.nlk hn x hx)]; exact (S.lk0 x hx).2⟩, len := by simpa using S.len, val := fun j d' q => ?_, own := fun j d' q => ?_, lck := fun j d' q => ?_, sepS := fun a b q ne x y e1 e2 => ?_, sepT := fun a q x e => ?_, in0 := fun j hj => ?_ }
  · rcases getset (l := ρ) _ q with ⟨rfl, z⟩ | ⟨n, z⟩
    · cases z
    · obtain ⟨w, e1, e2⟩ := S.val j d' z
      exact ⟨w, by rw [setne n]; exact e1, e2⟩
  · rcases getset (l := ρ) _ q with ⟨rfl, z⟩ | ⟨n, z⟩
    · cases z
      have := (List.getElem?_eq_some_iff.mp q).1
      exact ⟨p, setself (by rw [← S.len]; simpa using this), g, c, .inl h0⟩
    · obtain ⟨w, e1, e2⟩ := S.own j d' z
      exact ⟨w, by rw [setne n]; exact e1, e2⟩
  · rcases getset (l := ρ) _ q with ⟨rfl, z⟩ | ⟨n, z⟩
    · cases z
    · obtain ⟨w, e1, e2⟩ := S.lck j d' z
      exact ⟨w, by rw [setne n]; exact e1, e2⟩
  · have st : ∀ {a : Nat} {q : Addr}, isOwn ρ a → σ[a]? = some (some (.ref q)) → q ≠ p := fun {a q} o e z => S.sepT a q o e (by rw [z]; simp)
    rcases own_at x with rfl | ⟨n1, o1⟩
    · rcases own_at y with rfl | ⟨n2, o2⟩
      · exact ne rfl
      · rw [setne n2] at e2
        rcases getset (l := σ) _ e1 with ⟨_, z⟩ | ⟨z, _⟩
        · cases z; exact st o2 e2 rfl
        · exact absurd rfl z
    · rcases own_at y with rfl | ⟨n2, o2⟩
      · rw [setne n1] at e1
        rcases getset (l := σ) _ e2 with ⟨_, z⟩ | ⟨z, _⟩
        · cases z; exact st o1 e1 rfl
        · exact absurd rfl z
      · rw [setne n1] at e1
        rw [setne n2] at e2
        exact S.sepS a b q ne o1 o2 e1 e2
  · rcases own_at x with rfl | ⟨n1, o1⟩
    · rcases getset (l := σ) _ e with ⟨_, z⟩ | ⟨z, _⟩
      · cases z; exact nd.1
      · exact absurd rfl z
    · rw [setne n1] at e
      exact fun hm => S.sepT a q o1 e (by rw [List.map_cons]; exact List.mem_cons_of_mem _ hm)
  · obtain ⟨w, e1, e2⟩ := S.in0 j hj
    exact ⟨w, e1, by rw [setne (by omega)]; exact e2⟩
/-- an own thing changes -/
theorem Sm.mut {i : Nat} {d d' : D} {p : Addr} {o : HO} (S : Sm K mg B G ρ σ H τ) (h : ρ[i]? = some (Slot.own d)) (e : σ[i]? = some (some (.ref p))) (c : Cell K mg G d' (some o)) :
    Sm K mg B G (List.set ρ i (.own d')) σ (upd H p o) τ := by
  obtain ⟨p', e', g, c0, hn⟩ := S.own i d h
  rw [e] at e'; cases e'
  have hi : i < ρ.length := (List.getElem?_eq_some_iff.mp h).1
  have oi : isOwn ρ i := .inl ⟨d, h⟩
  have ho : ∀ j, isOwn (List.set ρ i (Slot.own d')) j → isOwn ρ j := fun j q => by
    rcases own_at q with rfl | ⟨_, z⟩
    · exact oi
    · exact z
  have neG : ∀ {a u}, G a = some u → a ≠ p := fun {a u} z q => by subst q; rw [g] at z; cases z
  have hn' : NoLk ρ i := fun d1 z => by rw [h] at z; cases z
  have hfx : ∀ x ∈ B.F, x.1 ≠ p := fun x hx z => by
    rcases (S.fx x hx).2 with q | ⟨k, d1, q⟩
    · rw [z, g] at q; cases q
    · obtain ⟨k1, k2⟩ := S.lk0 _ q
      have k1 : ρ[k]? = some (.lck d1) := k1
      have k2 : σ[k]? = some (some (.ref x.1)) := k2
      exact S.sepS k i p (fun y => by rw [y, h] at k1; cases k1) (.inr ⟨d1, k1⟩) oi (by rw [k2, z]) e
  refine { S with fx := fun x hx => ⟨by rw [upd_ne (hfx x hx)]; exact (S.fx x hx).1, (S.fx x hx).2⟩, lkc := fun j d1 q => (getset (l := ρ) _ q).elim (fun z => nomatch z.2) fun z => S.lkc j d1 z.2, lk0 := fun x hx => ⟨by rw [setne (S.nlk hn' x hx)]; exact (S.lk0 x hx).1, (S.lk0 x hx).2⟩, len := by simpa using S.len, fz := fun a u z => ?_, val := fun j d1 q => ?_, own := fun j d1 q => ?_, lck := fun j d1 q => ?_, tmp := fun x hx => ?_, sepS := fun a b q ne x y => S.sepS a b q ne (ho a x) (ho b y), sepT := fun a q x => S.sepT a q (ho a x), h0 := fun a u z np => ?_, p0 := fun a q => ?_ }
  · rcases S.fz a u z with q | ⟨q1, ob, q2⟩
    · exact .inl (by rw [upd_ne (neG z)]; exact q)
    · exact .inr ⟨q1, ob, by rw [upd_ne (neG z)]; exact q2⟩
  · rcases getset (l := ρ) _ q with ⟨_, z⟩ | ⟨n, z⟩
    · cases z
    · exact S.val j d1 z
  · rcases getset (l := ρ) _ q with ⟨rfl, z⟩ | ⟨n, z⟩
    · cases z; exact ⟨p, e, g, by rw [upd_same]; exact c, hn⟩
    · obtain ⟨q1, e1, e2, e3, e4⟩ := S.own j d1 z
      have ne : q1 ≠ p := fun q => S.sepS j i q1 n (.inl ⟨d1, z⟩) oi e1 (by rw [e, q])
      exact ⟨q1, e1, e2, by rw [upd_ne ne]; exact e3, e4⟩
  · rcases getset (l := ρ) _ q with ⟨rfl, z⟩ | ⟨n, z⟩
    · cases z
    · obtain ⟨q1, e1, e2, e3, e4⟩ := S.lck j d1 z
      have ne : q1 ≠ p := fun q => S.sepS j i q1 n (.inr ⟨d1, z⟩) oi e1 (by rw [e, q])
      exact ⟨q1, e1, e2, by rw [upd_ne ne]; exact e3, e4⟩
  · obtain ⟨e1, e2, e3⟩ := S.tmp x hx
    have ne : x.2 ≠ p := fun q => S.sepT i p oi e (List.mem_map.mpr ⟨x, hx, q⟩)
    exact ⟨e1, by rw [upd_ne ne]; exact e2, e3⟩
  · have ne : a ≠ p := fun q => by
      subst q
      rcases hn with q | q
      · rw [q] at z; cases z
      · exact np q
    rw [upd_ne ne]; exact S.h0 a u z np
  · by_cases ne : a = p
    · subst ne; rw [upd_same]; simp
    · rw [upd_ne ne]; exact S.p0 a q
/-- the newest temporary thing changes -/
theorem Sm.mutT {d d' : D} {p : Addr} {o : HO} (S : Sm K mg B G ρ σ H ((d, p) :: τ)) (c : Cell K mg G d' (some o)) : Sm K mg B G ρ σ (upd H p o) ((d', p) :: τ) := by
  obtain ⟨g, c0, h0⟩ := S.tmp (d, p) List.mem_cons_self
  have nd := S.ndT
  rw [List.map_cons, List.nodup_cons] at nd
  have neG : ∀ {a u}, G a = some u → a ≠ p := fun {a u} z q => by subst q; rw [g] at z; cases z
  have neS : ∀ {j : Nat} {q : Addr}, isOwn ρ j → σ[j]? = some (some (.ref q)) → q ≠ p := fun {j q} o e z => S.sepT j q o e (by rw [z]; simp)
  have hfx : ∀ x ∈ B.F, x.1 ≠ p := fun x hx z => by
    rcases (S.fx x hx).2 with q | ⟨k, d1, q⟩
    · rw [z, g] at q; cases q
    · obtain ⟨k1, k2⟩ := S.lk0 _ q
      have k1 : ρ[k]? = some (.lck d1) := k1
      have k2 : σ[k]? = some (some (.ref x.1)) := k2
      exact neS (.inr ⟨d1, k1⟩) k2 z
  refine { S with fx := fun x hx => ⟨by rw [upd_ne (hfx x hx)]; exact (S.fx x hx).1, (S.fx x hx).2⟩, fz := fun a u z => ?_, own := fun j d1 q => ?_, lck := fun j d1 q => ?_, tmp := fun x hx => ?_, sepT := fun i q ho e => S.sepT i q ho e, ndT := S.ndT, h0 := fun a u z np => ?_, p0 := fun a q => ?_ }
  · rcases S.fz a u z with q | ⟨q1, ob, q2⟩
    · exact .inl (by rw [upd_ne (neG z)]; exact q)
    · exact .inr ⟨q1, ob, by rw [upd_ne (neG z)]; exact q2⟩
  · obtain ⟨q1, e1, e2, e3, e4⟩ := S.own j d1 q
    exact ⟨q1, e1, e2, by rw [upd_ne (neS (.inl ⟨d1, q⟩) e1)]; exact e3, e4⟩
  · obtain ⟨q1, e1, e2, e3, e4⟩ := S.lck j d1 q
    exact ⟨q1, e1, e2, by rw [upd_ne (neS (.inr ⟨d1, q⟩) e1)]; exact e3, e4⟩
  · rcases List.mem_cons.mp hx with rfl | hx
    · exact ⟨g, by rw [upd_same]; exact c, h0⟩
    · obtain ⟨e1, e2, e3⟩ := S.tmp x (List.mem_cons_of_mem _ hx)
      have ne : x.2 ≠ p := fun q => nd.1 (List.mem_map.mpr ⟨x, hx, q⟩)
      exact ⟨e1, by rw [upd_ne ne]; exact e2, e3⟩
  · have ne : a ≠ p := fun q => by subst q; rw [show B.H0 a = none from h0] at z; cases z
    rw [upd_ne ne]; exact S.h0 a u z np
  · have ne : a ≠ p ∨ a = p := by by_cases e : a = p <;> simp [e]
    rcases ne with ne | ne
    · rw [upd_ne ne]; exact S.p0 a q
    · subst ne; rw [upd_same]; simp
/-! ### views -/
variable (K mg) in
/-- what a builtin sees of a value: its top in H, its parts frozen -/
def View (G H : Hp) : D → V → Prop
  | .lst xs, v => ∃ a vs, v = .ref a ∧ L2.Rd H a (.lst vs) ∧ RepL K mg G xs vs
  | .tup xs, v => ∃ a vs, v = .ref a ∧ SqT K H a vs ∧ RepL K mg G xs vs ∧ SqT K G a vs
  | .dct kvs, v => ∃ a vs, v = .ref a ∧ Rd H a (.dK vs) ∧ RepK K mg G kvs vs
  | .dctT kvs, v => ∃ a vs, v = .ref a ∧ Rd H a (.dT vs) ∧ RepT K mg G kvs vs
  | .non, v => v = .non
  | .bl b, v => v = .bl b
  | .int i, v => v = .int i
  | .str x, v => v = .str x ∧ StrFit x
  | .fn x, v => ∃ a, mg x = some (.ref a) ∧ v = .ref a
variable (K mg) in
/-- a run's result at a value -/
def ResAt (G : Hp) (σ : St) (τ : List (D × Addr)) : Res → V → Prop
  | .val d, v => Rep K mg G d v
  | .own d, v => ∃ p, v = .ref p ∧ (d, p) ∈ τ
  | .slot i, v => σ[i]? = some (some v)
theorem fz_rd (fz : ∀ a o, G a = some o → Ro H a o) {a : Addr} {u : HO} (h : Rd G a u) : Rd H a u := by
  rcases h with h | ⟨ob, h⟩
  · rcases fz a u h with q | ⟨_, ob, q⟩
    · exact .inl q
    · exact .inr ⟨ob, q⟩
  · rcases fz a _ h with q | ⟨q, _⟩
    · exact .inr ⟨ob, q⟩
    · cases q
theorem Rep.view (fz : ∀ a o, G a = some o → Ro H a o) {d : D} {v : V} (h : Rep K mg G d v) : View K mg G H d v := by
  cases d with
  | lst xs =>
    simp only [Rep] at h
    obtain ⟨a, vs, e, q, r⟩ := h
    exact ⟨a, vs, e, fz_rd fz q, r⟩
  | tup xs =>
    simp only [Rep] at h
    obtain ⟨a, vs, e, q, r⟩ := h
    refine ⟨a, vs, e, ?_, r, q⟩
    rcases q with q | q
    · exact .inl (fz_rd fz q)
    · exact .inr q
  | dct xs =>
    simp only [Rep] at h
    obtain ⟨a, vs, e, q, r⟩ := h
    exact ⟨a, vs, e, fz_rd fz (.inl q), r⟩
  | dctT xs =>
    simp only [Rep] at h
    obtain ⟨a, vs, e, q, r⟩ := h
    exact ⟨a, vs, e, fz_rd fz (.inl q), r⟩
  | _ => simpa only [Rep, View] using h
theorem Cell.view {d : D} {p : Addr} (c : Cell K mg G d (M.unf (H p))) : View K mg G H d (.ref p) := by
  cases e : H p with
  | none => rw [e] at c; exact absurd rfl c.ne
  | some o =>
    have rd : ∀ u, M.unf (H p) = some u → Rd H p u := fun u q => by
      rw [e] at q
      cases o with
      | frz ob u' => simp only [M.unf] at q; cases q; exact .inr ⟨ob, e⟩
      | _ => simp only [M.unf] at q; cases q; exact .inl e
    cases d with
    | lst xs => cases q : M.unf (H p) with
      | none => rw [q] at c; exact absurd rfl c.ne
      | some u => rw [q] at c; cases u with
        | lst vs => exact ⟨p, vs, rfl, rd _ q, c⟩
        | _ => exact (show False from c).elim
    | dct xs => cases q : M.unf (H p) with
      | none => rw [q] at c; exact absurd rfl c.ne
      | some u => rw [q] at c; cases u with
        | dK vs => exact ⟨p, vs, rfl, rd _ q, c⟩
        | _ => exact (show False from c).elim
    | dctT xs => cases q : M.unf (H p) with
      | none => rw [q] at c; exact absurd rfl c.ne
      | some u => rw [q] at c; cases u with
        | dT vs => exact ⟨p, vs, rfl, rd _ q, c⟩
        | _ => exact (show False from c).elim
    | _ => exact (show False from c).elim
theorem Cell.view' {d : D} {p : Addr} (c : Cell K mg G d (H p)) : View K mg G H d (.ref p) := Cell.view (by rw [c.unf]; exact c)
theorem Sm.view (S : Sm K mg B G ρ σ H τ) {r : Res} {v : V} {d : D} (a : ResAt K mg G σ τ r v) (h : deref ρ r = some d) : View K mg G H d v := by
  cases r with
  | val d' => simp only [deref] at h; cases h; exact Rep.view S.fz a
  | own d' =>
    simp only [deref] at h; cases h
    obtain ⟨p, rfl, hm⟩ := a
    exact (S.tmp _ hm).2.1.view'
  | slot i =>
    have a : σ[i]? = some (some v) := a
    simp only [deref] at h
    cases q : ρ[i]? with
    | none => rw [q] at h; cases h
    | some s =>
      rw [q] at h
      cases s with
      | none => cases h
      | val d' =>
        cases h
        obtain ⟨w, e1, e2⟩ := S.val i _ q
        rw [a] at e1; cases e1
        exact Rep.view S.fz e2
      | own d' =>
        cases h
        obtain ⟨p, e1, _, c, _⟩ := S.own i _ q
        rw [a] at e1; cases e1
        exact c.view'
      | lck d' =>
        cases h
        obtain ⟨p, e1, _, c, _⟩ := S.lck i _ q
        rw [a] at e1; cases e1
        exact c.ofD.view
theorem ResAt.mono (s : Same G G') {τ' : List (D × Addr)} (hs : ∀ x ∈ τ, x ∈ τ') {r : Res} {v : V} (a : ResAt K mg G σ τ r v) : ResAt K mg G' σ τ' r v := by
  cases r with
  | val d => exact Rep.mono s d a
  | own d => obtain ⟨p, e, hm⟩ := a; exact ⟨p, e, hs _ hm⟩
  | slot i => exact a
def psh (r : Res) (v : V) (τ : List (D × Addr)) : List (D × Addr) := match r, v with
  | .own d, .ref p => (d, p) :: τ
  | _, _ => τ
theorem psh_sub (r : Res) (v : V) (τ : List (D × Addr)) : τ.Sublist (psh r v τ) := by
  unfold psh; split
  · exact List.sublist_cons_self _ _
  · exact List.Sublist.refl _
theorem psh_mem (r : Res) (v : V) {τ : List (D × Addr)} {x : D × Addr} (h : x ∈ τ) : x ∈ psh r v τ := (psh_sub r v τ).subset h

/-! ### what a run wants -/
variable (mg) in
/-- the exception c of an own class without a field, or with one -/
def XIs (c : Str) (q : D) (cls : Value) (d : Option Addr) (H : Hp) : Prop :=
  ∃ C, mg c = some (.ref C) ∧ cls = .ref C ∧ q = .non ∧ d = none
/-- what stands behind an exception -/
structure XSm (B : Bs) (H : Hp) : Prop where
  h0 : ∀ a o, B.H0 a = some o → ¬ B.P a → H a = some o ∨ ∃ ob, (a, ob, o) ∈ B.F ∧ H a = some (.frz ob o)
  p0 : ∀ a, B.P a → H a ≠ none
theorem Sm.x (S : Sm K mg B G ρ σ H τ) : XSm B H := ⟨fun a o e n => (S.h0 a o e n).imp id fun ⟨ob, h⟩ => ⟨ob, h, (S.fx _ h).1⟩, S.p0⟩
variable (K mg B) in
def After (W : WX) (σ : St) (Q : VK) (G : Hp) (τ : List (D × Addr)) : Out (Res × Env) → Prop
  | .ok p => ∀ v G' H', Same G G' → Sm K mg B G' p.2 σ H' (psh p.1 v τ) → ResAt K mg G' σ (psh p.1 v τ) p.1 v → Q v H'
  | .exc c q => ∀ cls d H', XIs mg c q cls d H' → XSm B H' → W cls d σ H'
  | .stuck => False
variable (K mg B) in
/-- an expression's reading by a run -/
def tE (W : WX) (f : Env → Out (Res × Env)) : TE := fun σ H Q => ∃ G ρ τ, Sm K mg B G ρ σ H τ ∧ After K mg B W σ Q G τ (f ρ)
variable {W : WX} {Q : VK} {f : Env → Out (Res × Env)} {g : Res × Env → Out (Res × Env)} {G0 : Hp} {τ0 : List (D × Addr)}
theorem tE_bind {R : VK} (S : Sm K mg B G ρ σ H τ) (h : After K mg B W σ Q G0 τ0 ((f ρ).bind g))
    (k : ∀ p v G' H', f ρ = .ok p → Same G G' → Sm K mg B G' p.2 σ H' (psh p.1 v τ) → ResAt K mg G' σ (psh p.1 v τ) p.1 v → After K mg B W σ Q G0 τ0 (g p) → R v H') : tE K mg B W f σ H R := by
  refine ⟨G, ρ, τ, S, ?_⟩
  cases e : f ρ with
  | ok p => rw [e] at h; exact fun v G' H' s S' a => k p v G' H' e s S' a h
  | exc c q => rw [e] at h; exact h
  | stuck => rw [e] at h; exact h
/-- the end: a value that needs no heap -/
theorem After.val {d : D} {v : V} {p : Env} (h : After K mg B W σ Q G0 τ0 (.ok (.val d, p))) (s : Same G0 G) (S : Sm K mg B G p σ H τ) (sub : τ0.Sublist τ) (r : Rep K mg G d v) : Q v H :=
  h v G H s (S.drop (by unfold psh; exact sub)) r
/-- the end: a new thing -/
theorem After.own {d : D} {p : Env} {a : Addr} (h : After K mg B W σ Q G0 τ0 (.ok (.own d, p))) (s : Same G0 G) (S : Sm K mg B G p σ H ((d, a) :: τ)) (sub : τ0.Sublist τ) : Q (.ref a) H :=
  h (.ref a) G H s (S.drop (by unfold psh; exact sub.cons_cons _)) ⟨a, rfl, List.mem_cons_self⟩
end
end M
end
section
set_option linter.all false
set_option maxRecDepth 100000
set_option maxHeartbeats 1000000
/-! MOps: the operations on values, as the evaluator's operations on data. -/
namespace M
open PySem L2 PyProof.Rows

theorem line_eq : line = sizeLine := by rw [sizeLine_eq]; rfl

/-! ### data as the library's data -/
mutual
theorem plain_can : ∀ (n : Nat) (d : D), d.plain n = true → d.py.depth ≤ n
  | n, .non, _ => by simp [D.py, PyData.depth]
  | n, .bl _, _ => by simp [D.py, PyData.depth]
  | n, .int _, _ => by simp [D.py, PyData.depth]
  | n, .str _, _ => by simp [D.py, PyData.depth]
  | 0, .lst xs, h => by simp [D.plain] at h
  | n + 1, .lst xs, h => by
    simp only [D.plain] at h
    simp only [D.py, PyData.depth]
    have := plains_can n xs h
    omega
  | 0, .tup xs, h => by simp [D.plain] at h
  | n + 1, .tup xs, h => by
    simp only [D.plain] at h
    simp only [D.py, PyData.depth]
    have := plains_can n xs h
    omega
  | n, .dct _, h => by cases n <;> simp [D.plain] at h
  | n, .dctT _, h => by cases n <;> simp [D.plain] at h
  | n, .fn _, h => by cases n <;> simp [D.plain] at h
theorem plains_can : ∀ (n : Nat) (ds : List D), ds.all (D.plain n) = true → PyData.depthAll (D.pys ds) ≤ n
  | n, [], _ => by simp [D.pys, PyData.depthAll]
  | n, d :: ds, h => by
    simp only [List.all_cons, Bool.and_eq_true] at h
    simp only [D.pys, PyData.depthAll]
    have h1 := plain_can n d h.1
    have h2 := plains_can n ds h.2
    omega
end
section
variable {K : PySem.W.Frag} {mg : Str → Option Value} {G H : Hp}
mutual
theorem Rep.lay (n : Nat) : ∀ (d : D) {v : V}, d.plain n = true → Rep K mg G d v → d.py.canLay0 = true
  | .non, _, _, _ => by simp [D.py, PyData.canLay0]
  | .bl _, _, _, _ => by simp [D.py, PyData.canLay0]
  | .int _, _, _, _ => by simp [D.py, PyData.canLay0]
  | .str x, _, _, r => by simp only [Rep] at r; simpa [D.py, PyData.canLay0] using r.2.1
  | .lst xs, _, h, r => by
    cases n with
    | zero => simp [D.plain] at h
    | succ n =>
      simp only [D.plain] at h
      simp only [Rep] at r
      obtain ⟨a, vs, _, _, r⟩ := r
      simpa [D.py, PyData.canLay0] using RepL.lay n xs h r
  | .tup xs, _, h, r => by
    cases n with
    | zero => simp [D.plain] at h
    | succ n =>
      simp only [D.plain] at h
      simp only [Rep] at r
      obtain ⟨a, vs, _, _, r⟩ := r
      simpa [D.py, PyData.canLay0] using RepL.lay n xs h r
  | .dct _, _, h, _ => by cases n <;> simp [D.plain] at h
  | .dctT _, _, h, _ => by cases n <;> simp [D.plain] at h
  | .fn _, _, h, _ => by cases n <;> simp [D.plain] at h
theorem RepL.lay (n : Nat) : ∀ (ds : List D) {vs : List V}, ds.all (D.plain n) = true → RepL K mg G ds vs → PyData.canLayAll0 (D.pys ds) = true
  | [], _, _, _ => by simp [D.pys, PyData.canLayAll0]
  | d :: ds, _, h, r => by
    simp only [List.all_cons, Bool.and_eq_true] at h
    obtain ⟨v, r', _, h1, h2⟩ := r.inv
    simp only [D.pys, PyData.canLayAll0, Bool.and_eq_true]
    exact ⟨Rep.lay n d h.1 h1, RepL.lay n ds h.2 h2⟩
end
mutual
theorem Rep.dp (fz : ∀ a o, G a = some o → Ro H a o) (n : Nat) : ∀ (d : D) {v : V}, d.plain n = true → Rep K mg G d v → Dp K H v d.py
  | .non, _, _, r => by simp only [Rep] at r; subst r; simp only [D.py]; exact .non
  | .bl _, _, _, r => by simp only [Rep] at r; subst r; simp only [D.py]; exact .bl _
  | .int _, _, _, r => by simp only [Rep] at r; subst r; simp only [D.py]; exact .int _
  | .str _, _, _, r => by simp only [Rep] at r; obtain ⟨r, _⟩ := r; subst r; simp only [D.py]; exact .str _
  | .lst xs, _, h, r => by
    cases n with
    | zero => simp [D.plain] at h
    | succ n =>
      simp only [D.plain] at h
      have q := Rep.view (H := H) fz r
      obtain ⟨a, vs, e, q, r2⟩ := q
      subst e
      simp only [D.py]
      exact .lst (.inl q) (RepL.dp fz n xs h r2)
  | .tup xs, _, h, r => by
    cases n with
    | zero => simp [D.plain] at h
    | succ n =>
      simp only [D.plain] at h
      have q := Rep.view (H := H) fz r
      obtain ⟨a, vs, e, q, r2, _⟩ := q
      subst e
      simp only [D.py]
      exact .tup q (RepL.dp fz n xs h r2)
  | .dct _, _, h, _ => by cases n <;> simp [D.plain] at h
  | .dctT _, _, h, _ => by cases n <;> simp [D.plain] at h
  | .fn _, _, h, _ => by cases n <;> simp [D.plain] at h
theorem RepL.dp (fz : ∀ a o, G a = some o → Ro H a o) (n : Nat) : ∀ (ds : List D) {vs : List V}, ds.all (D.plain n) = true → RepL K mg G ds vs → DpAll K H vs (D.pys ds)
  | [], _, _, r => by have := r.nilinv; subst this; simp only [D.pys]; exact .nil
  | d :: ds, _, h, r => by
    simp only [List.all_cons, Bool.and_eq_true] at h
    obtain ⟨v, r', e, h1, h2⟩ := r.inv
    subst e
    simp only [D.pys]
    exact .cons (Rep.dp fz n d h.1 h1) (RepL.dp fz n ds h.2 h2)
end
/-- a plain value, seen -/
theorem View.dp (fz : ∀ a o, G a = some o → Ro H a o) {n : Nat} {d : D} {v : V} (h : d.plain n = true) (w : View K mg G H d v) : Dp K H v d.py ∧ d.py.canLay0 = true := by
  cases d with
  | lst xs =>
    cases n with
    | zero => simp [D.plain] at h
    | succ n =>
      simp only [D.plain] at h
      obtain ⟨a, vs, e, q, r⟩ := w
      subst e
      exact ⟨by simp only [D.py]; exact .lst (.inl q) (RepL.dp fz n xs h r), by simpa [D.py, PyData.canLay0] using RepL.lay n xs h r⟩
  | tup xs =>
    cases n with
    | zero => simp [D.plain] at h
    | succ n =>
      simp only [D.plain] at h
      obtain ⟨a, vs, e, q, r, _⟩ := w
      subst e
      exact ⟨by simp only [D.py]; exact .tup q (RepL.dp fz n xs h r), by simpa [D.py, PyData.canLay0] using RepL.lay n xs h r⟩
  | non => exact ⟨by subst w; simp only [D.py]; exact .non, by simp [D.py, PyData.canLay0]⟩
  | bl b => exact ⟨by subst w; simp only [D.py]; exact .bl _, by simp [D.py, PyData.canLay0]⟩
  | int b => exact ⟨by subst w; simp only [D.py]; exact .int _, by simp [D.py, PyData.canLay0]⟩
  | str b => exact ⟨by obtain ⟨w, _⟩ := w; subst w; simp only [D.py]; exact .str _, by simpa [D.py, PyData.canLay0] using w.2.1⟩
  | dct _ => cases n <;> simp [D.plain] at h
  | dctT _ => cases n <;> simp [D.plain] at h
  | fn _ => cases n <;> simp [D.plain] at h
theorem shaped_of {n : Nat} (hn : n ≤ 64) {d : D} (h : d.plain n = true) (c : d.py.canLay0 = true) : SeqAt.shaped d.py = true := by
  unfold SeqAt.shaped
  rw [c, Bool.true_and, decide_eq_true_eq]
  exact Nat.le_trans (plain_can n d h) hn
theorem RepL.rest (h : RepL K mg G [] []) : True := trivial

/-! ### comparisons -/
def cop : CmpO → CmpOp
  | .eq => .Eq | .ne => .NotEq | .lt => .Lt | .le => .LtE | .gt => .Gt | .ge => .GtE | .is => .Is | .isnot => .IsNot | .inn => .In | .notin => .NotIn
variable (K mg) in
def rCmp (op : CmpO) : R2 := fun x y H Q => ∃ G d e b, (∀ a o, G a = some o → Ro H a o) ∧ View K mg G H d x ∧ View K mg G H e y ∧ cmpD op d e = some b ∧ Q (.bl b) H
theorem View.key {d : D} {v : V} {k : Key} (w : View K mg G H d v) (h : d.key? = some k) : v = kV k := by
  cases d <;> simp [D.key?] at h
  · subst h; exact w
  · subst h; exact w.1
theorem keys_of : ∀ {ds : List D} {vs : List V} {ks : List Key}, RepL K mg G ds vs → D.keys? ds = some ks → vs = ks.map kV
  | [], _, ks, r, h => by
    have := r.nilinv; subst this
    simp [D.keys?] at h; subst h; rfl
  | d :: ds, _, ks, r, h => by
    obtain ⟨v, s, e, h1, h2⟩ := r.inv
    subst e
    simp only [D.keys?] at h
    split at h
    · rename_i k ks' hk hks
      cases h
      rw [List.map_cons, keys_of h2 hks]
      congr 1
      cases d <;> simp [D.key?] at hk
      · subst hk; simp only [Rep] at h1; exact h1
      · subst hk; simp only [Rep] at h1; exact h1.1
    · cases h
theorem find_some {kvs : List (Key × D)} {vs} (r : RepK K mg G kvs vs) (k : Key) : (findK kvs k).isSome = (valV vs k).isSome := by
  have := r.find (k := k)
  cases h1 : findK kvs k <;> cases h2 : valV vs k <;> simp [h1, h2] at this ⊢
theorem RepT.nilinv {vs} (h : RepT K mg G [] vs) : vs = [] := by simpa only [RepT] using h
theorem RepT.inv {d : List Key × D} {ds : List (List Key × D)} {vs} (h : RepT K mg G (d :: ds) vs) : ∃ v r, vs = (d.1, v) :: r ∧ Rep K mg G d.2 v ∧ RepT K mg G ds r := by simpa only [RepT] using h
theorem RepT.find {k : List Key} : ∀ {ds : List (List Key × D)} {vs}, RepT K mg G ds vs → match findK ds k, valV vs k with
    | some d, some v => Rep K mg G d v
    | none, none => True
    | _, _ => False
  | [], _, h => by have := h.nilinv; subst this; simp [findK, valV]
  | d :: ds, _, h => by
    obtain ⟨v, r, e, h1, h2⟩ := h.inv
    subst e
    have ih := RepT.find (k := k) h2
    by_cases hk : d.1 = k
    · simpa [findK, valV, hk] using h1
    · simpa [findK, valV, hk] using ih
theorem findT_some {kvs : List (List Key × D)} {vs} (r : RepT K mg G kvs vs) (k : List Key) : (findK kvs k).isSome = (valV vs k).isSome := by
  have := r.find (k := k)
  cases h1 : findK kvs k <;> cases h2 : valV vs k <;> simp [h1, h2] at this ⊢
/-- a tuple in the tracked heap -/
theorem tup_there {X : Cx} {pins : List (Addr × Obj)} {σ : L2.St} {H : Hp} {s : Shared} {b : Addr} {xs : List V} (I : Inv X pins σ H s) (h : SqT X.K H b xs) : ∃ its : List Value, Vals xs its ∧ IsTup s.heap b its.toArray :=
  let ⟨its, r, p, _⟩ := I.tuple h; ⟨its, r, p⟩
end
section
variable {X : Cx}
theorem op_isNI : OpR X (compareOp .Is) (fun x y H Q => (y = .non ∧ Q (.bl (decide (x = .non))) H) ∨ ∃ a b, x = .bl a ∧ y = .bl b ∧ Q (.bl (decide (a = b))) H) := op_isN.or op_is_bl
theorem op_notNI : OpR X (compareOp .IsNot) (fun x y H Q => (y = .non ∧ Q (.bl (!decide (x = .non))) H) ∨ ∃ a b, x = .bl a ∧ y = .bl b ∧ Q (.bl (!decide (a = b))) H) := op_notN.or op_isnot_bl
theorem view_non {K : PySem.W.Frag} {mg : Str → Option Value} {G H : Hp} {d : D} {v : V} (w : View K mg G H d v) : decide (v = .non) = (match d with | .non => true | _ => false) := by
  cases d with
  | non => subst w; rfl
  | bl _ => subst w; rfl
  | int _ => subst w; rfl
  | str _ => obtain ⟨w, _⟩ := w; subst w; rfl
  | lst _ => obtain ⟨a, vs, e, _⟩ := w; subst e; rfl
  | tup _ => obtain ⟨a, vs, e, _⟩ := w; subst e; rfl
  | dct _ => obtain ⟨a, vs, e, _⟩ := w; subst e; rfl
  | dctT _ => obtain ⟨a, vs, e, _⟩ := w; subst e; rfl
  | fn _ => obtain ⟨a, _, e⟩ := w; subst e; rfl
theorem eqD_some {d e : D} {b : Bool} (h : eqD d e = some b) : d.plain 9 = true ∧ e.plain 9 = true ∧ b = PyData.eqv d.py e.py := by
  unfold eqD at h
  split at h
  · rename_i c; simp only [Bool.and_eq_true] at c; cases h; exact ⟨c.1, c.2, rfl⟩
  · cases h
theorem ltD_some {d e : D} {b : Bool} (h : ltD d e = some b) : d.plain 9 = true ∧ e.plain 9 = true ∧ PySem.W.alike d.py e.py = true ∧ d.py ≠ .none ∧ b = PySem.W.dataLt d.py e.py := by
  unfold ltD at h
  split at h
  · rename_i c
    simp only [Bool.and_eq_true] at c
    cases h
    refine ⟨c.1.1.1, c.1.1.2, c.1.2, ?_, rfl⟩
    intro z
    cases d <;> simp [D.py] at z
    simp [isNonD] at c
  · cases h
theorem alike_none {d e : PyData} (h : PySem.W.alike d e = true) (hn : e ≠ .none) : d ≠ .none := by
  intro z; subst z
  cases e <;> simp [PySem.W.alike] at h
  exact hn rfl
theorem alike_none' {d e : PyData} (h : PySem.W.alike d e = true) (hn : d ≠ .none) : e ≠ .none := by
  intro z; subst z
  cases d <;> simp [PySem.W.alike] at h
  exact hn rfl
mutual
theorem alike_comm : ∀ (d e : PyData), PySem.W.alike d e = PySem.W.alike e d
  | .list xs, .list ys => by simp only [PySem.W.alike]; exact alikeAll_comm xs ys
  | .tuple xs, .tuple ys => by simp only [PySem.W.alike]; exact alikeAll_comm xs ys
  | .none, e => by cases e <;> simp [PySem.W.alike]
  | .bool _, e => by cases e <;> simp [PySem.W.alike]
  | .int _, e => by cases e <;> simp [PySem.W.alike]
  | .str _, e => by cases e <;> simp [PySem.W.alike]
  | .dict _, e => by cases e <;> simp [PySem.W.alike]
  | .list _, .none => by simp [PySem.W.alike]
  | .list _, .bool _ => by simp [PySem.W.alike]
  | .list _, .int _ => by simp [PySem.W.alike]
  | .list _, .str _ => by simp [PySem.W.alike]
  | .list _, .tuple _ => by simp [PySem.W.alike]
  | .list _, .dict _ => by simp [PySem.W.alike]
  | .tuple _, .none => by simp [PySem.W.alike]
  | .tuple _, .bool _ => by simp [PySem.W.alike]
  | .tuple _, .int _ => by simp [PySem.W.alike]
  | .tuple _, .str _ => by simp [PySem.W.alike]
  | .tuple _, .list _ => by simp [PySem.W.alike]
  | .tuple _, .dict _ => by simp [PySem.W.alike]
theorem alikeAll_comm : ∀ (d e : List PyData), PySem.W.alikeAll d e = PySem.W.alikeAll e d
  | [], [] => rfl
  | [], _ :: _ => by simp [PySem.W.alikeAll]
  | _ :: _, [] => by simp [PySem.W.alikeAll]
  | x :: xs, y :: ys => by simp only [PySem.W.alikeAll]; rw [alike_comm x y, alikeAll_comm xs ys]
end
theorem room_min {n : Nat} {d e : D} (h : d.plain n = true) {A : Around} (hu : A.units + n < cLine) : A.units + min d.py.depth e.py.depth < cLine := by
  have := plain_can n d h
  omega
theorem pys_any (x : PyData) : ∀ ys : List D, ((D.pys ys).any fun z => PyData.eqv z x) = (ys.any fun y => PyData.eqv y.py x)
  | [] => rfl
  | y :: ys => by simp only [D.pys, List.any_cons]; rw [pys_any x ys]
theorem op_cmp (hu : X.A.units + 100 < cLine) (op : CmpO) : OpR X (compareOp (cop op)) (rCmp X.K X.mg op) := by
  intro pins s σ H x y v u Q I rx ry h
  obtain ⟨G, d, e, b, fz, w1, w2, hc, q⟩ := h
  have fin : EP X pins σ Q (.bool b) s := ⟨.bl b, H, I, rfl, q⟩
  have lt : ∀ {d e : D} {x y : V} {v u : Value} {b : Bool}, View X.K X.mg G H d x → View X.K X.mg G H e y → RelV x v → RelV y u → ltD d e = some b →
      ∃ as bs, Reads s.heap v d.py as ∧ Reads s.heap u e.py bs ∧ PySem.W.alike d.py e.py = true ∧ d.py ≠ .none ∧ e.py ≠ .none ∧ X.A.units + min d.py.depth e.py.depth < cLine ∧ X.A.units + min e.py.depth d.py.depth < cLine ∧ b = PySem.W.dataLt d.py e.py := fun {d e x y v u b} w1 w2 rx ry h => by
    obtain ⟨p1, p2, al, hn, rfl⟩ := ltD_some h
    obtain ⟨as, r1⟩ := Dp.reads I _ x v (w1.dp fz p1).1 rx
    obtain ⟨bs, r2⟩ := Dp.reads I _ y u (w2.dp fz p2).1 ry
    exact ⟨as, bs, r1, r2, al, hn, alike_none' al hn, room_min p1 (by omega), room_min p2 (by omega), rfl⟩
  cases op with
  | eq =>
    obtain ⟨p1, p2, rfl⟩ := eqD_some hc
    obtain ⟨a1, c1⟩ := w1.dp fz p1
    obtain ⟨a2, c2⟩ := w2.dp fz p2
    exact op_eqD (by omega) pins s σ H x y v u Q I rx ry ⟨_, _, a1, a2, shaped_of (by decide) p1 c1, shaped_of (by decide) p2 c2, q⟩
  | ne =>
    simp only [cmpD, Option.map_eq_some_iff] at hc
    obtain ⟨b', hc, rfl⟩ := hc
    obtain ⟨p1, p2, rfl⟩ := eqD_some hc
    obtain ⟨a1, c1⟩ := w1.dp fz p1
    obtain ⟨a2, c2⟩ := w2.dp fz p2
    exact op_neD (by omega) pins s σ H x y v u Q I rx ry ⟨_, _, a1, a2, shaped_of (by decide) p1 c1, shaped_of (by decide) p2 c2, q⟩
  | lt =>
    obtain ⟨as, bs, r1, r2, al, hn, hn', h1, h2, rfl⟩ := lt w1 w2 rx ry hc
    exact PySem.W.lt_data r1 r2 al hn h1 fin
  | gt =>
    obtain ⟨as, bs, r1, r2, al, hn, hn', h1, h2, rfl⟩ := lt w2 w1 ry rx hc
    exact PySem.W.gt_data r2 r1 (by rw [alike_comm]; exact al) hn' h2 fin
  | le =>
    simp only [cmpD, Option.map_eq_some_iff] at hc
    obtain ⟨b', hc, rfl⟩ := hc
    obtain ⟨as, bs, r1, r2, al, hn, hn', h1, h2, rfl⟩ := lt w2 w1 ry rx hc
    exact PySem.W.le_data r2 r1 (by rw [alike_comm]; exact al) hn' h2 fin
  | ge =>
    simp only [cmpD, Option.map_eq_some_iff] at hc
    obtain ⟨b', hc, rfl⟩ := hc
    obtain ⟨as, bs, r1, r2, al, hn, hn', h1, h2, rfl⟩ := lt w1 w2 rx ry hc
    exact PySem.W.ge_data r1 r2 al hn h1 fin
  | is =>
    refine op_isNI pins s σ H x y v u Q I rx ry ?_
    cases e with
    | non =>
      refine .inl ⟨w2, ?_⟩
      rw [view_non w1]
      cases d <;> simp [cmpD] at hc <;> (subst hc; exact q)
    | bl b2 =>
      cases d <;> simp [cmpD] at hc
      refine .inr ⟨_, _, w1, w2, ?_⟩
      rename_i b1
      cases b1 <;> cases b2 <;> cases b <;> simp_all
    | _ => cases d <;> simp [cmpD] at hc
  | isnot =>
    refine op_notNI pins s σ H x y v u Q I rx ry ?_
    cases e with
    | non =>
      refine .inl ⟨w2, ?_⟩
      rw [view_non w1]
      cases d <;> simp [cmpD] at hc <;> (subst hc; exact q)
    | bl b2 =>
      cases d <;> simp [cmpD] at hc
      refine .inr ⟨_, _, w1, w2, ?_⟩
      rename_i b1
      cases b1 <;> cases b2 <;> cases b <;> simp_all
    | _ => cases d <;> simp [cmpD] at hc
  | inn =>
    obtain ⟨b', hc, hb⟩ : ∃ b', inD d e = some b' ∧ b = b' := ⟨b, hc, rfl⟩
    rw [hb] at fin q
    cases e with
    | lst ys =>
      simp only [inD] at hc
      split at hc
      · rename_i c
        simp only [Bool.and_eq_true] at c
        cases hc
        obtain ⟨r1, c1⟩ := w1.dp fz c.1
        obtain ⟨r2, c2⟩ := w2.dp (n := 9) fz (by simpa [D.plain] using c.2)
        obtain ⟨as, q1⟩ := Dp.reads I _ x v r1 rx
        obtain ⟨bs, q2⟩ := Dp.reads I _ y u r2 ry
        refine SeqAt.in_list_reads (xs := D.pys ys) (by simpa only [D.py] using q2) q1 (by simpa [D.py, PyData.canLay0] using c2) c1 ?_ ?_
        · have := plain_can 8 d c.1
          omega
        · rw [pys_any]; exact fin
      · cases hc
    | tup ys =>
      simp only [inD] at hc
      split at hc
      · rename_i c
        simp only [Bool.and_eq_true] at c
        cases hc
        obtain ⟨r1, c1⟩ := w1.dp fz c.1
        obtain ⟨r2, c2⟩ := w2.dp (n := 9) fz (by simpa [D.plain] using c.2)
        obtain ⟨as, q1⟩ := Dp.reads I _ x v r1 rx
        obtain ⟨bs, q2⟩ := Dp.reads I _ y u r2 ry
        refine SeqAt.in_tuple_reads (xs := D.pys ys) (by simpa only [D.py] using q2) q1 (by simpa [D.py, PyData.canLay0] using c2) c1 ?_ ?_
        · have := plain_can 8 d c.1
          omega
        · rw [pys_any]; exact fin
      · cases hc
    | dct kvs =>
      obtain ⟨a, vs, e, rd, r⟩ := w2
      subst e
      cases (show u = Value.ref a from ry)
      simp only [inD] at hc
      split at hc
      · rename_i k hk
        cases hc
        have ek := w1.key hk
        subst ek
        exact d_in (o := valV vs k) (by omega) I (.inl ⟨vs, k, rd, rfl, rfl⟩) rx fun s' I' => ⟨.bl _, H, I', rfl, by rw [← find_some r]; exact q⟩
      · cases hc
    | str z =>
      cases d with
      | str z2 =>
        have hc : some (!(PySem.Builtin.Str.occurrences z z2 0 z.length 1).isEmpty) = some b' := hc
        cases hc
        exact op_in_str pins s σ H x y v u Q I rx ry ⟨_, _, w1.1, w2.1, q⟩
      | _ => simp [inD] at hc
    | _ => cases d <;> simp [inD] at hc
  | notin =>
    simp only [cmpD, Option.map_eq_some_iff] at hc
    obtain ⟨b', hc, hb⟩ := hc
    rw [← hb] at fin q
    cases e with
    | lst ys =>
      simp only [inD] at hc
      split at hc
      · rename_i c
        simp only [Bool.and_eq_true] at c
        cases hc
        obtain ⟨r1, c1⟩ := w1.dp fz c.1
        obtain ⟨r2, c2⟩ := w2.dp (n := 9) fz (by simpa [D.plain] using c.2)
        obtain ⟨as, q1⟩ := Dp.reads I _ x v r1 rx
        obtain ⟨bs, q2⟩ := Dp.reads I _ y u r2 ry
        refine SeqAt.notIn_list_reads (xs := D.pys ys) (by simpa only [D.py] using q2) q1 (by simpa [D.py, PyData.canLay0] using c2) c1 ?_ ?_
        · have := plain_can 8 d c.1
          omega
        · rw [pys_any]; exact fin
      · cases hc
    | tup ys =>
      simp only [inD] at hc
      split at hc
      · rename_i c
        simp only [Bool.and_eq_true] at c
        cases hc
        obtain ⟨r1, c1⟩ := w1.dp fz c.1
        obtain ⟨r2, c2⟩ := w2.dp (n := 9) fz (by simpa [D.plain] using c.2)
        obtain ⟨as, q1⟩ := Dp.reads I _ x v r1 rx
        obtain ⟨bs, q2⟩ := Dp.reads I _ y u r2 ry
        refine SeqAt.notIn_tuple_reads (xs := D.pys ys) (by simpa only [D.py] using q2) q1 (by simpa [D.py, PyData.canLay0] using c2) c1 ?_ ?_
        · have := plain_can 8 d c.1
          omega
        · rw [pys_any]; exact fin
      · cases hc
    | dct kvs =>
      obtain ⟨a, vs, e, rd, r⟩ := w2
      subst e
      cases (show u = Value.ref a from ry)
      simp only [inD] at hc
      split at hc
      · rename_i k hk
        cases hc
        have ek := w1.key hk
        subst ek
        exact d_notIn (o := valV vs k) (by omega) I (.inl ⟨vs, k, rd, rfl, rfl⟩) rx fun s' I' => ⟨.bl _, H, I', rfl, by rw [← find_some r]; exact q⟩
      · cases hc
    | str z =>
      cases d with
      | str z2 =>
        have hc : some (!(PySem.Builtin.Str.occurrences z z2 0 z.length 1).isEmpty) = some b' := hc
        cases hc
        exact op_notIn_str pins s σ H x y v u Q I rx ry ⟨_, _, w1.1, w2.1, q⟩
      | _ => simp [inD] at hc
    | _ => cases d <;> simp [inD] at hc
end
end M
end
section
set_option linter.all false
set_option maxRecDepth 100000
set_option maxHeartbeats 1000000
/-! MOps2: operators, subscripts, slices, truth. -/
namespace M
open PySem L2 PyProof.Rows

section
variable {K : PySem.W.Frag} {mg : Str → Option Value} {B : Bs} {G G' H H' : Hp} {ρ : Env} {σ : L2.St} {τ : List (D × Addr)}
variable (K mg) in
/-- what is wanted of a new result, the state as it is -/
def Wants (B : Bs) (G : Hp) (ρ : Env) (σ : L2.St) (τ : List (D × Addr)) (r : Res) (Q : VK) : Prop :=
  ∀ v G' H', Same G G' → Sm K mg B G' ρ σ H' (psh r v τ) → ResAt K mg G' σ (psh r v τ) r v → Q v H'
theorem Wants.val {d : D} {v : V} {Q : VK} (w : Wants K mg B G ρ σ τ (.val d) Q) (S : Sm K mg B G ρ σ H τ) (r : Rep K mg G d v) : Q v H := w v G H (Same.refl _) S r
theorem Wants.new {d : D} {o : HO} {p : Addr} {Q : VK} (w : Wants K mg B G ρ σ τ (.own d) Q) (S : Sm K mg B G ρ σ H τ) (h : H p = none) (c : Cell K mg G d (some o)) : Q (.ref p) (upd H p o) :=
  w (.ref p) G _ (Same.refl _) (S.new h c) ⟨p, rfl, List.mem_cons_self⟩
/-- a new tuple -/
theorem Sm.tup (S : Sm K mg B G ρ σ H τ) {p : Addr} {vs : List V} {ds : List D} (h : H p = none) (r : RepL K mg G ds vs) :
    ∃ G', Same G G' ∧ Sm K mg B G' ρ σ (upd H p (.tup vs)) τ ∧ Rep K mg G' (.tup ds) (.ref p) := by
  have hg := S.freshG h
  have h0 := S.fresh0 h
  have s : Same G (upd G p (.tup vs)) := fun b u e => by
    have ne : b ≠ p := fun z => by subst z; rw [hg] at e; cases e
    rw [upd_ne ne]; exact e
  refine ⟨upd G p (.tup vs), s, ?_, by simp only [Rep]; exact ⟨p, vs, rfl, SqT.of upd_same, RepL.mono s ds r⟩⟩
  refine ⟨S.len, fun a u e => ?_, fun i d e => ?_, fun i d e => ?_, fun i d e => ?_, fun x hx => ?_, S.sepS, S.sepT, S.ndT, S.g0.trans s, fun a u e np => ?_, fun a u e => ?_, fun a q => ?_, S.in0, S.lk0, S.lkc, fun x hx => ⟨by
    have ne : x.1 ≠ p := fun z => by have := (S.fx x hx).1; rw [z, h] at this; cases this
    rw [upd_ne ne]; exact (S.fx x hx).1, (S.fx x hx).2.imp (s _ _) fun z => z⟩⟩
  · by_cases ne : a = p
    · subst ne; rw [upd_same] at e; cases e; exact .inl upd_same
    · rw [upd_ne ne] at e
      rcases S.fz a u e with z | ⟨z1, ob, z2⟩
      · exact .inl (by rw [upd_ne ne]; exact z)
      · exact .inr ⟨z1, ob, by rw [upd_ne ne]; exact z2⟩
  · obtain ⟨v, e1, e2⟩ := S.val i d e
    exact ⟨v, e1, Rep.mono s d e2⟩
  · obtain ⟨q, e1, e2, e3, e4⟩ := S.own i d e
    have ne : q ≠ p := fun z => by subst z; rw [h] at e3; exact e3.ne rfl
    exact ⟨q, e1, by rw [upd_ne ne]; exact e2, by rw [upd_ne ne]; exact e3.mono s, e4⟩
  · obtain ⟨q, e1, e2, e3, e4⟩ := S.lck i d e
    have ne : q ≠ p := fun z => by subst z; rw [h, unfD_none] at e3; exact e3.ne rfl
    exact ⟨q, e1, by rw [upd_ne ne]; exact e2, by rw [upd_ne ne]; exact e3.mono s, e4⟩
  · obtain ⟨e1, e2, e3⟩ := S.tmp x hx
    have ne : x.2 ≠ p := fun z => by rw [z, h] at e2; exact e2.ne rfl
    exact ⟨by rw [upd_ne ne]; exact e1, by rw [upd_ne ne]; exact e2.mono s, e3⟩
  · have ne : a ≠ p := fun z => by subst z; rw [h0] at e; cases e
    rw [upd_ne ne]; exact S.h0 a u e np
  · by_cases ne : a = p
    · subst ne; exact .inr (.inl h0)
    · rw [upd_ne ne] at e; exact S.n0 a u e
  · have ne : a ≠ p := fun z => by subst z; exact S.p0 a q h
    rw [upd_ne ne]; exact S.p0 a q
theorem Wants.tup {ds : List D} {vs : List V} {p : Addr} {Q : VK} (w : Wants K mg B G ρ σ τ (.val (.tup ds)) Q) (S : Sm K mg B G ρ σ H τ) (h : H p = none) (r : RepL K mg G ds vs) : Q (.ref p) (upd H p (.tup vs)) := by
  obtain ⟨G', s, S', r'⟩ := S.tup h r
  exact w (.ref p) G' _ s S' r'
end

section
variable {X : Cx} {pins : List (Addr × Obj)} {σ : L2.St} {H : Hp} {s : Shared} {l b : Addr} {xs ys zs : List V}
theorem rdL (I : L2.Inv X pins σ H s) (hH : L2.Rd H l (.lst xs)) : xs.length ≤ sizeLine ∧ ∃ (its : List Value) (n : Nat), Vals xs its ∧ xs.length = its.length ∧ s.heap.get? l = some { cls := .type "list", data := .seq its.toArray n } := by
  obtain ⟨z, its, n, r, e⟩ := hH.ok I.hok
  exact ⟨z, its, n, r, r.length, e⟩
def rCatR : R2 := fun x y H Q => ∃ l b xs zs, x = .ref l ∧ y = .ref b ∧ L2.Rd H l (.lst xs) ∧ L2.Rd H b (.lst zs) ∧ xs.length + zs.length ≤ sizeLine ∧ ∀ p, H p = none → Q (.ref p) (upd H p (.lst (xs ++ zs)))
theorem op_catR : OpR X (binaryOp .Add) rCatR := by
  intro pins s σ H x y v u Q I rx ry h
  obtain ⟨l, b, xs, zs, rfl, rfl, hH, hB, hz, q⟩ := h
  cases rx
  cases ry
  obtain ⟨z, its, n, r, hl, e⟩ := rdL I hH
  obtain ⟨z2, its2, n2, r2, hl2, e2⟩ := rdL I hB
  refine PySem.P.add_list e e2 ?_ (by rw [List.size_toArray, List.size_toArray]; omega)
  have ea : its.toArray ++ its2.toArray = (its ++ its2).toArray := by simp
  rw [ea]
  exact ⟨.ref _, _, I.lnew (t' := s.toks) (r.append r2) (by rw [List.length_append]; omega), rfl, q _ I.fresh⟩
def rRepR : R2 := fun x y H Q => ∃ l k xs, x = .ref l ∧ y = .int k ∧ L2.Rd H l (.lst xs) ∧ -(2 ^ 63) ≤ k ∧ k < 2 ^ 63 ∧ xs.length * k.toNat ≤ sizeLine ∧
  ∀ p, H p = none → Q (.ref p) (upd H p (.lst (List.replicate k.toNat xs).flatten))
theorem op_repR : OpR X (binaryOp .Mult) rRepR := by
  intro pins s σ H x y v u Q I rx ry h
  obtain ⟨l, k, xs, rfl, rfl, hH, h1, h2, hz, q⟩ := h
  cases rx
  obtain ⟨t, rfl⟩ := ry
  obtain ⟨z, its, n, r, hl, e⟩ := rdL I hH
  have hlen : its.toArray.size * k.toNat ≤ sizeLine := by rw [List.size_toArray, ← hl]; exact hz
  have hcap : ¬ its.toArray.size * k.toNat > (2 ^ 63 - 1) / 8 := by
    have : (sizeLine : Nat) ≤ (2 ^ 63 - 1) / 8 := by decide
    omega
  have hfit : ¬ (!Builtin.List.listFitsIndex k) = true := by
    rw [fitsIndex_both h1 h2]
    exact Bool.false_ne_true
  have hlong : ¬ Builtin.List.listTooLong (its.toArray.size * k.toNat) = true := by
    rw [notLongL hlen]
    exact Bool.false_ne_true
  have hnew : List.foldl (fun x1 x2 => x1 ++ x2) #[] (List.replicate (if its.toArray.isEmpty = true then 0 else k.toNat) its.toArray) = (List.replicate k.toNat its).flatten.toArray := by
    have f0 : ∀ m : Nat, List.foldl (fun x1 x2 => x1 ++ x2) #[] (List.replicate m its.toArray) = (List.replicate m its).flatten.toArray := fun m => by
      have := foldl_rep its m []
      rw [List.nil_append] at this
      exact this
    rw [f0]
    cases its with
    | nil => simp
    | cons a r' => rw [if_neg (by simp)]
  refine wpAny_binaryOp_repeat_ref (T := "list") (U := "int") (by decide) ⟨_, e, rfl⟩ (fun s' => typeIs_int s' k t) noFill_list_mul F.fills_int_mul F.slot_int_rmul repeat_list F.slot_int_index.lookup
    (call_meets F.slot_int_rmul (typeIs_int s k t) F.entry_int_rmul (F.args_int_rmul_2 _ _) (int___rmul___int_list k t l its.toArray n)
      ⟨e, rfl, ⟨_, e, rfl⟩, call_meets F.slot_list_mul ⟨_, e, rfl⟩ F.entry_list_mul (F.args_list_mul_2 _ _) (AutoListH.list___mul___list_int_3 l its.toArray n k t hfit hcap hlong) ⟨e, ?_⟩⟩)
  rw [hnew]
  exact ⟨.ref _, _, I.lnew (t' := s.toks) (r.rep k.toNat) (by rw [PyProof.Rows.lm_len_rep_flat, Nat.mul_comm]; exact hz), rfl, q _ I.fresh⟩
end

/-! ### operators -/
def bop : BinO → Operator
  | .add => .Add | .sub => .Sub | .mul => .Mult | .fdiv => .FloorDiv | .mod => .Mod | .pow => .Pow
section
variable {X : Cx} {B : Bs} {G : Hp} {ρ : Env} {σ : L2.St} {H : Hp} {τ : List (D × Addr)}
variable (K : PySem.W.Frag) (mg : Str → Option Value) in
def rBin (op : BinO) : R2 := fun x y H Q => ∃ B G ρ σ τ d e r, Sm K mg B G ρ σ H τ ∧ View K mg G H d x ∧ View K mg G H e y ∧ binD op d e = some r ∧ Wants K mg B G ρ σ τ r Q
theorem strOk_append {x y : Str} (h1 : PyData.strOk x = true) (h2 : PyData.strOk y = true) : PyData.strOk (x ++ y) = true := by
  unfold PyData.strOk at h1 h2 ⊢
  show (x.cps ++ y.cps).all _ = true
  rw [Array.all_append, h1, h2]; rfl
theorem RepL.repl {K : PySem.W.Frag} {mg : Str → Option Value} {xs : List D} {vs : List V} (r : RepL K mg G xs vs) : ∀ n, RepL K mg G (repList n xs) (List.replicate n vs).flatten
  | 0 => by simp [repList, RepL]
  | n + 1 => by
    rw [List.replicate_succ, List.flatten_cons]
    exact RepL.append r (RepL.repl r n)
theorem smallF_iff {i : Int} (h : smallF i = true) : -(2 ^ 64) < i ∧ i < 2 ^ 64 := by
  simpa [smallF, Bool.and_eq_true, decide_eq_true_eq] using h
theorem op_bin (op : BinO) : OpR X (binaryOp (bop op)) (rBin X.K X.mg op) := by
  intro pins s σ' H x y v u Q I rx ry h
  obtain ⟨B, G, ρ, σ, τ, d, e, r, S, w1, w2, hb, w⟩ := h
  cases op with
  | add =>
    cases d <;> cases e <;> simp only [binD] at hb <;> try (cases hb; done)
    · cases hb
      exact op_add pins s σ' H x y v u Q I rx ry ⟨_, _, w1, w2, w.val S (by simp only [Rep])⟩
    · split at hb
      · rename_i hz
        cases hb
        refine op_add_str pins s σ' H x y v u Q I rx ry ⟨_, _, w1.1, w2.1, by rw [← line_eq]; exact hz, w.val S ?_⟩
        simp only [Rep]
        exact ⟨trivial, strOk_append w1.2.1 w2.2.1, by rw [← line_eq]; show (_ ++ _ : Array Nat).size ≤ _; rw [Array.size_append]; exact hz⟩
      · cases hb
    · split at hb
      · rename_i hz
        cases hb
        obtain ⟨a, vs, e1, r1, q1⟩ := w1
        obtain ⟨b, ws, e2, r2, q2⟩ := w2
        have l1 := q1.length
        have l2 := q2.length
        refine op_catR pins s σ' H x y v u Q I rx ry ⟨a, b, vs, ws, e1, e2, r1, r2, by rw [← line_eq]; omega, fun p hp => w.new S hp (RepL.append q1 q2)⟩
      · cases hb
    · split at hb
      · rename_i xs ys hz
        cases hb
        obtain ⟨a, vs, e1, r1, q1, g1⟩ := id w1
        obtain ⟨b, ws, e2, r2, q2, g2⟩ := id w2
        have l1 := q1.length
        have l2 := q2.length
        refine op_catA pins s σ' H x y v u Q I rx ry ⟨a, b, vs, ws, e1, e2, r1, r2, by rw [← line_eq]; omega, fun z => ?_, fun _ z => ?_, fun _ _ p hp => w.tup S hp (RepL.append q1 q2)⟩
        · subst z
          have z : xs = [] := List.length_eq_zero_iff.mp (by simpa using l1)
          subst z
          exact w.val S (by simp only [Rep]; exact ⟨b, ws, rfl, g2, q2⟩)
        · subst z
          have z : ys = [] := List.length_eq_zero_iff.mp (by simpa using l2)
          subst z
          rw [List.append_nil] at w
          exact w.val S (by simp only [Rep]; exact ⟨a, vs, rfl, g1, q1⟩)
      · cases hb
  | sub =>
    cases d <;> cases e <;> simp only [binD] at hb <;> try (cases hb; done)
    cases hb
    exact op_sub pins s σ' H x y v u Q I rx ry ⟨_, _, w1, w2, w.val S (by simp only [Rep])⟩
  | mul =>
    cases d <;> cases e <;> simp only [binD] at hb <;> try (cases hb; done)
    · split at hb
      · rename_i hz
        cases hb
        rw [Bool.or_eq_true] at hz
        exact op_mul pins s σ' H x y v u Q I rx ry ⟨_, _, w1, w2, hz.imp smallF_iff smallF_iff, w.val S (by simp only [Rep])⟩
      · cases hb
    · split at hb
      · rename_i hz
        cases hb
        simp only [Bool.and_eq_true, decide_eq_true_eq] at hz
        obtain ⟨a, vs, e1, r1, q1⟩ := w1
        have l1 := q1.length
        refine op_repR pins s σ' H x y v u Q I rx ry ⟨a, _, vs, e1, w2, r1, by omega, by omega, by rw [← line_eq, ← l1]; exact hz.2, fun p hp => w.new S hp (RepL.repl q1 _)⟩
      · cases hb
  | fdiv =>
    cases d <;> cases e <;> simp only [binD] at hb <;> try (cases hb; done)
    split at hb
    · rename_i hz
      cases hb
      simp only [Bool.and_eq_true, decide_eq_true_eq] at hz
      exact op_fdiv pins s σ' H x y v u Q I rx ry ⟨_, _, w1, w2, hz, w.val S (by simp only [Rep])⟩
    · cases hb
  | mod =>
    cases d <;> cases e <;> simp only [binD] at hb <;> try (cases hb; done)
    split at hb
    · rename_i hz
      cases hb
      simp only [decide_eq_true_eq] at hz
      exact op_mod pins s σ' H x y v u Q I rx ry ⟨_, _, w1, w2, hz, w.val S (by simp only [Rep])⟩
    · cases hb
  | pow =>
    cases d <;> cases e <;> simp only [binD] at hb <;> try (cases hb; done)
    split at hb
    · rename_i hz
      cases hb
      simp only [Bool.and_eq_true, decide_eq_true_eq] at hz
      exact op_pow pins s σ' H x y v u Q I rx ry ⟨_, _, w1, w2, ⟨hz.1.1, hz.1.2, hz.2⟩, w.val S (by simp only [Rep])⟩
    · cases hb
end
end M

/-! ### subscripts, slices -/
namespace M
open PySem L2 PyProof.Rows
section
variable {K : PySem.W.Frag} {mg : Str → Option Value} {G H : Hp}
theorem ixN_eq (n : Nat) (i : Int) : M.ixN n i = L2.ixN n i := rfl
theorem RepL.atI {xs : List D} {vs : List V} {i : Int} {d : D} (r : RepL K mg G xs vs) (h : M.atI xs i = some d) : ∃ v, L2.atI vs i = some v ∧ Rep K mg G d v := by
  unfold M.atI at h
  rw [ixN_eq, r.length] at h
  cases e : L2.ixN vs.length i with
  | none => rw [e] at h; cases h
  | some j =>
    rw [e] at h
    obtain ⟨v, hv, q⟩ := r.get (show xs[j]? = some d from h)
    exact ⟨v, by unfold L2.atI; rw [e]; exact hv, q⟩
theorem strOk_sub {x : Str} (h : PyData.strOk x = true) {cs : List Nat} (hc : ∀ c ∈ cs, c ∈ x.cps.toList) : PyData.strOk ⟨cs.toArray⟩ = true := by
  unfold PyData.strOk at h ⊢
  rw [Array.all_eq_true_iff_forall_mem] at h
  rw [Array.all_eq_true_iff_forall_mem]
  intro c hm
  exact h c (by have := hc c (by simpa using hm); simpa using this)
theorem atI_mem {α : Type} {xs : List α} {i : Int} {c : α} (h : M.atI xs i = some c) : c ∈ xs := by
  unfold M.atI at h
  cases e : M.ixN xs.length i with
  | none => rw [e] at h; cases h
  | some j => rw [e] at h; exact List.mem_of_getElem? h
end
section
variable {X : Cx}
variable (K : PySem.W.Frag) (mg : Str → Option Value) in
def rIxA : R2 := fun x y H Q => ∃ G d e r, (∀ a o, G a = some o → Ro H a o) ∧ View K mg G H d x ∧ View K mg G H e y ∧ subD d e = some r ∧ ∀ v, Rep K mg G r v → Q v H
def rIxD : R2 := fun x y H Q => ∃ a v, x = .ref a ∧ DGet H a y (some v) ∧ Q v H
theorem ix_dict (hu : X.A.units + 1 < cLine) : IxR X rIxD := by
  intro value slice pins s σ H x y o i Q I rx ry h hs
  obtain ⟨a, v, rfl, g, q⟩ := h
  obtain rfl : o = Value.ref a := rx
  have hT := dict_typeIs I g
  have h₂ : wpAny (model X.prog X.w) X.A (getItem (.ref a) i) (EP X pins σ Q) X.xe s := d_getItem hu I g ry fun w' s3 I3 rw' => ⟨v, H, I3, rw', q⟩
  unfold subscriptTail
  refine wpAny_bind ?_
  rw [getitemInPython_of_ne hT.not_modules]
  refine wpAny_bind (wpAny_specialOf hT PySem.F.slot_dict_getitem.lookup ?_)
  have fin : wpAny (model X.prog X.w) X.A (subscripted slice false (.ref a) i) (fun r s₃ => wpAny (model X.prog X.w) X.A (letTemporaryGo value (.ref a) r >>= fun _ => pure r) (EP X pins σ Q) X.xe s₃) X.xe s := by
    rw [hs]
    exact wpAny_operating (wpAny_mono h₂ (fun r s₃ h₃ => wpAny_bind (wpAny_letTemporaryGo (wpAny_pure h₃))) fun _ _ x => x)
  first
    | exact wpAny_pure (wpAny_bind fin)
    | exact wpAny_bind (wpAny_pure (wpAny_bind fin))
    | exact wpAny_bind fin
theorem ix_all (hu : X.A.units + 100 < cLine) : IxR X (rIxA X.K X.mg) := by
  intro value slice pins s σ H x y v u Q I rx ry h hs
  obtain ⟨G, d, e, r, fz, w1, w2, hr, q⟩ := h
  cases d with
  | lst xs =>
    cases e <;> simp only [subD] at hr <;> try (cases hr; done)
    obtain ⟨a, vs, e1, r1, q1⟩ := w1
    obtain ⟨z, hz, rz⟩ := q1.atI hr
    exact ix_list value slice pins s σ H x y v u Q I rx ry ⟨a, vs, _, z, e1, w2, .inl r1, hz, q z rz⟩ hs
  | tup xs =>
    cases e <;> simp only [subD] at hr <;> try (cases hr; done)
    obtain ⟨a, vs, e1, r1, q1, _⟩ := w1
    obtain ⟨z, hz, rz⟩ := q1.atI hr
    exact ix_tup value slice pins s σ H x y v u Q I rx ry ⟨a, vs, _, z, e1, w2, r1, hz, q z rz⟩ hs
  | str z =>
    cases e <;> simp only [subD] at hr <;> try (cases hr; done)
    rename_i i
    rw [Option.map_eq_some_iff] at hr
    obtain ⟨c, hc, rfl⟩ := hr
    have hl : z.length ≤ sizeLine := w1.2.2
    refine ix_str value slice pins s σ H x y v u Q I rx ry ⟨z, i, c, w1.1, w2, hl, hc, q _ ?_⟩ hs
    simp only [Rep]
    exact ⟨trivial, strOk_sub w1.2.1 (cs := [c]) (by intro c' h'; simp at h'; subst h'; exact atI_mem hc), by rw [sizeLine_eq]; show 1 ≤ 16777216; decide⟩
  | dct kvs =>
    have hr : e.key?.bind (findK kvs) = some r := hr
    rw [Option.bind_eq_some_iff] at hr
    obtain ⟨k, hk, hf⟩ := hr
    obtain ⟨a, vs, e1, r1, q1⟩ := w1
    have ek := w2.key hk
    have := q1.find (k := k)
    rw [hf] at this
    cases hv : valV vs k with
    | none => rw [hv] at this; exact this.elim
    | some z =>
      rw [hv] at this
      exact ix_dict (by omega) value slice pins s σ H x y v u Q I rx ry ⟨a, z, e1, .inl ⟨vs, k, r1, ek, hv.symm⟩, q z this⟩ hs
  | _ => cases e <;> simp [subD] at hr
end
end M
end
section
set_option linter.all false
set_option maxRecDepth 100000
set_option maxHeartbeats 1000000
/-! MBi: truth, built-in functions. -/
namespace M
open PySem L2 PyProof.Rows
section
variable {K : PySem.W.Frag} {mg : Str → Option Value} {B : Bs} {G G' H H' : Hp} {ρ : Env} {σ : L2.St} {τ : List (D × Addr)}
variable (K mg) in
def Views (G H : Hp) : List D → List V → Prop
  | [], vs => vs = []
  | d :: ds, vs => ∃ v r, vs = v :: r ∧ View K mg G H d v ∧ Views G H ds r
theorem Views.one {d : D} {vs : List V} (h : Views K mg G H [d] vs) : ∃ v, vs = [v] ∧ View K mg G H d v := by
  obtain ⟨v, r, e, w, h⟩ := h
  have : r = [] := h
  subst this
  exact ⟨v, e, w⟩
theorem Views.two {d e : D} {vs : List V} (h : Views K mg G H [d, e] vs) : ∃ v u, vs = [v, u] ∧ View K mg G H d v ∧ View K mg G H e u := by
  obtain ⟨v, r, e1, w, h⟩ := h
  obtain ⟨u, e2, w2⟩ := Views.one h
  subst e2
  exact ⟨v, u, e1, w, w2⟩
theorem isEmpty_len {α β : Type} {xs : List α} {ys : List β} (h : xs.length = ys.length) : xs.isEmpty = ys.isEmpty := by
  cases xs <;> cases ys <;> simp at h ⊢
end
section
variable {X : Cx}
variable (K : PySem.W.Frag) (mg : Str → Option Value) in
def rTru : V → Hp → (Bool → Hp → Prop) → Prop := fun x H Q => ∃ G d b, (∀ a o, G a = some o → Ro H a o) ∧ View K mg G H d x ∧ truD d = some b ∧ Q b H
theorem tru_all : TruR X (rTru X.K X.mg) := by
  intro pins s σ H x v Q I rx h
  obtain ⟨G, d, b, fz, w, hb, q⟩ := h
  cases d with
  | non => cases hb; subst w; exact tru_ok pins s σ H _ v Q I rx ⟨_, rfl, q⟩
  | bl _ => cases hb; subst w; exact tru_ok pins s σ H _ v Q I rx ⟨_, rfl, q⟩
  | int _ => cases hb; subst w; exact tru_ok pins s σ H _ v Q I rx ⟨_, rfl, q⟩
  | str z => cases hb; obtain ⟨rfl, w⟩ := w; exact tru_ok pins s σ H _ v Q I rx ⟨_, ⟨w.2, rfl⟩, q⟩
  | lst xs =>
    cases hb
    obtain ⟨a, vs, rfl, r1, q1⟩ := w
    rw [isEmpty_len q1.length] at q
    exact tru_ok pins s σ H _ v Q I rx ⟨_, .inl ⟨vs, .inl r1, rfl⟩, q⟩
  | tup xs =>
    cases hb
    obtain ⟨a, vs, rfl, r1, q1, _⟩ := w
    rw [isEmpty_len q1.length] at q
    exact tru_ok pins s σ H _ v Q I rx ⟨_, .inr (.inl ⟨vs, r1, rfl⟩), q⟩
  | dct xs =>
    cases hb
    obtain ⟨a, vs, rfl, r1, q1⟩ := w
    rw [isEmpty_len q1.length] at q
    cases (show v = Value.ref a from rx)
    exact d_truth I r1 fun s' I' => ⟨H, I', q⟩
  | _ => cases hb

/-! ### built-ins -/
def bval : BI → Value
  | .len => .builtin "len" | .abs => .builtin "abs" | .int => .type "int" | .str => .type "str" | .sum => .builtin "sum" | .all => .builtin "all" | .any => .builtin "any"
  | .min => .builtin "min" | .max => .builtin "max" | .sorted => .builtin "sorted" | .list => .type "list" | .tuple => .type "tuple" | .divmod => .builtin "divmod" | .bool => .type "bool"
  | _ => .none
variable (K : PySem.W.Frag) (mg : Str → Option Value) in
def rBI (b : BI) : List V → Hp → VK → Prop := fun vs H Q => ∃ B G ρ σ τ ds r, Sm K mg B G ρ σ H τ ∧ Views K mg G H ds vs ∧ biD b ds = some r ∧ Wants K mg B G ρ σ τ r Q
theorem ints_vals {K : PySem.W.Frag} {mg : Str → Option Value} {G : Hp} : ∀ {xs : List D} {ns : List Int} {vs : List V}, ints? xs = some ns → RepL K mg G xs vs → vs = ns.map V.int
  | [], ns, vs, h, r => by cases h; have := r.nilinv; subst this; rfl
  | d :: xs, ns, vs, h, r => by
    obtain ⟨v, s, rfl, h1, h2⟩ := r.inv
    cases d <;> simp only [ints?] at h <;> try (cases h; done)
    rw [Option.map_eq_some_iff] at h
    obtain ⟨ms, hm, rfl⟩ := h
    simp only [Rep] at h1
    subst h1
    rw [ints_vals hm h2]; rfl
theorem bools_vals {K : PySem.W.Frag} {mg : Str → Option Value} {G : Hp} : ∀ {xs : List D} {ns : List Bool} {vs : List V}, bools? xs = some ns → RepL K mg G xs vs → vs = ns.map V.bl
  | [], ns, vs, h, r => by cases h; have := r.nilinv; subst this; rfl
  | d :: xs, ns, vs, h, r => by
    obtain ⟨v, s, rfl, h1, h2⟩ := r.inv
    cases d <;> simp only [bools?] at h <;> try (cases h; done)
    rw [Option.map_eq_some_iff] at h
    obtain ⟨ms, hm, rfl⟩ := h
    simp only [Rep] at h1
    subst h1
    rw [bools_vals hm h2]; rfl
theorem call_lenD' {pins : List (Addr × Obj)} {s : Shared} {σ : L2.St} {H : Hp} {u : Value} {a : Addr} {kvs : List (L2.Key × V)} {Q : VK} (I : L2.Inv X pins σ H s) (e : L2.Rd H a (.dK kvs)) (q : Q (.int kvs.length) H) :
    wpAny (model X.prog X.w) X.A (call (.builtin "len") [.ref a]) (EP X pins σ Q) X.xe s := d_len I e fun t s' I' => ⟨.int kvs.length, H, I', ⟨t, rfl⟩, q⟩
theorem each_zip {K : PySem.W.Frag} {mg : Str → Option Value} {G : Hp} {s : Shared} (rd : ∀ d v u, Rep K mg G d v → RelV v u → d.plain 8 = true → ∃ as, Reads s.heap u d.py as) :
    ∀ {ds : List D} {vs : List V} {us : List Value}, RepL K mg G ds vs → Vals vs us → ds.all (D.plain 8) = true →
    PySem.W.EachIs (fun u (b : D × V) => RelV b.2 u) us (ds.zip vs) ∧ PySem.W.EachIs (fun u (b : D × V) => ∃ as, Reads s.heap u b.1.py as) us (ds.zip vs)
  | [], _, _, r, rv, _ => by have := r.nilinv; subst this; cases rv; exact ⟨.nil, .nil⟩
  | d :: ds, _, _, r, rv, h => by
    obtain ⟨v, s', rfl, h1, h2⟩ := r.inv
    cases rv with
    | cons q1 q2 =>
      simp only [List.all_cons, Bool.and_eq_true] at h
      obtain ⟨e1, e2⟩ := each_zip rd h2 q2 h.2
      exact ⟨.cons q1 e1, .cons (rd d v _ h1 q1 h.1) e2⟩
theorem each_vals : ∀ {us : List Value} {bs : List (D × V)}, PySem.W.EachIs (fun u (b : D × V) => RelV b.2 u) us bs → Vals (bs.map (·.2)) us
  | _, _, .nil => .nil
  | _, _, .cons h t => .cons h (each_vals t)
theorem repL_mem {K : PySem.W.Frag} {mg : Str → Option Value} {G : Hp} : ∀ {bs : List (D × V)}, (∀ b ∈ bs, Rep K mg G b.1 b.2) → RepL K mg G (bs.map (·.1)) (bs.map (·.2))
  | [], _ => by simp [RepL]
  | b :: bs, h => RepL.cons (h b (by simp)) (repL_mem fun x hx => h x (by simp [hx]))
theorem zip_mem {K : PySem.W.Frag} {mg : Str → Option Value} {G : Hp} : ∀ {ds : List D} {vs : List V}, RepL K mg G ds vs → ∀ b ∈ ds.zip vs, Rep K mg G b.1 b.2
  | [], _, _, b, hb => by simp at hb
  | d :: ds, _, r, b, hb => by
    obtain ⟨v, s', rfl, h1, h2⟩ := r.inv
    simp only [List.zip_cons_cons, List.mem_cons] at hb
    rcases hb with rfl | hb
    · exact h1
    · exact zip_mem h2 b hb
theorem zip_fst {α β : Type} : ∀ {xs : List α} {ys : List β}, xs.length = ys.length → (xs.zip ys).map (·.1) = xs
  | [], [], _ => rfl
  | x :: xs, y :: ys, h => by simp only [List.zip_cons_cons, List.map_cons]; rw [zip_fst (by simpa using h)]
  | [], _ :: _, h => by simp at h
  | _ :: _, [], h => by simp at h
theorem strOk_ofString (s : String) : PyData.strOk (Str.ofString s) = true := by
  rw [Str.ofString_eq_toList]
  unfold PyData.strOk
  rw [Array.all_eq_true_iff_forall_mem]
  intro c hc
  simp only [List.mem_toArray, List.mem_map] at hc
  obtain ⟨a, _, rfl⟩ := hc
  have h := a.valid
  simp only [UInt32.isValidChar, Nat.isValidChar] at h
  show decide (a.toNat < 0x110000) = true
  rw [decide_eq_true_eq]
  show a.val.toNat < 0x110000
  omega
theorem call_list_dKR (hc : X.calm = true) : CallR X (.type "list") (fun xs H Q => ∃ p kvs, xs = [.ref p] ∧ L2.Rd H p (.dK kvs) ∧ ∀ q, H q = none → Q (.ref q) (upd H q (.lst (kvs.map fun kv => kV kv.1)))) := by
  intro pins s σ H xs us Q I r h
  obtain ⟨p, kvs, e, hk, q⟩ := h
  subst e
  obtain ⟨u, eu, rx⟩ := vals1 r
  subst eu
  obtain rfl : u = Value.ref p := rx
  obtain ⟨z, lo, vs, rk, hd⟩ := dk_rd I.hok hk
  obtain ⟨ep, hat⟩ := hd.dictAt
  have hl : kvs.length = vs.length := Paired.length rk
  refine PySem.W.kdl_call (PySem.W.kdl_dict (knd := mixKind X.prog X.w) (kvs := vs) (ep := ep) lo) (I.ok.hd hc) hat (by rw [← hl]; exact z) fun h' tk acc' c' hkeep hS hacc => ?_
  refine ⟨.ref s.heap.objs.size, upd H s.heap.objs.size (.lst (kvs.map fun kv => kV kv.1)), I.laid hkeep (Nat.le_refl _) (show ObjOk X.prog X.w _ _ _ (.lst (kvs.map fun kv => kV kv.1)) from ⟨?_, acc'.toList, c', ?_, ?_⟩), rfl, q _ (I.hok.fresh (Nat.le_refl _))⟩
  · rw [List.length_map]; exact z
  · have el : acc'.toList.length = acc'.size := by simp
    refine vals_of_at (by rw [List.length_map, el, hacc.1, hl]) fun j x w h1 h2 => ?_
    obtain ⟨k, y, hky, hi⟩ := hacc.2 j w (by rw [← Array.getElem?_toList]; exact h2)
    have e1 : (kvs.map (·.1))[j]? = some k := by
      rw [KV.keys rk, List.getElem?_map, hky] <;> rfl
    have e2 : (kvs.map fun kv => kV kv.1)[j]? = some (kV k) := by
      have e3 : (kvs.map fun kv => kV kv.1) = (kvs.map (·.1)).map kV := by rw [List.map_map] <;> rfl
      rw [e3, List.getElem?_map, e1] <;> rfl
    rw [e2] at h1
    cases h1
    exact keyIs_rel hi
  · rw [Array.toArray_toList]; exact hS
theorem rep_key {K : PySem.W.Frag} {mg : Str → Option Value} {G : Hp} {k : Key} (h : KeyFit k) : Rep K mg G (D.ofKey k) (kV k) := by
  cases k with
  | inl i => simp only [D.ofKey, Rep]; rfl
  | inr x => simp only [D.ofKey, Rep]; exact ⟨rfl, h⟩
theorem RepK.keys {K : PySem.W.Frag} {mg : Str → Option Value} {G : Hp} : ∀ {kvs : List (Key × D)} {vs}, RepK K mg G kvs vs → RepL K mg G (kvs.map fun kv => D.ofKey kv.1) (vs.map fun kv => kV kv.1)
  | [], _, h => by have := h.nilinv; subst this; simp [RepL]
  | d :: ds, _, h => by
    obtain ⟨v, r, e, h1, h2⟩ := h.inv
    subst e
    exact RepL.cons (rep_key h1.2) (RepK.keys h2)
theorem RepK.values {K : PySem.W.Frag} {mg : Str → Option Value} {G : Hp} : ∀ {kvs : List (Key × D)} {vs}, RepK K mg G kvs vs → RepL K mg G (kvs.map fun kv => kv.2) (vs.map fun kv => kv.2)
  | [], _, h => by have := h.nilinv; subst this; simp [RepL]
  | d :: ds, _, h => by
    obtain ⟨v, r, e, h1, h2⟩ := h.inv
    subst e
    exact RepL.cons h1.1 (RepK.values h2)
theorem op_bi (hu : X.A.units + 100 < cLine) (hc : X.calm = true) (b : BI) (hb1 : b ≠ .sortedSet) (hb2 : b ≠ .lenSet) : CallR X (bval b) (rBI X.K X.mg b) := by
  intro pins s σ' H vs us Q I r h
  obtain ⟨B, G, ρ, σ, τ, ds, res, S, w0, hb, wt⟩ := h
  cases b with
  | len =>
    cases ds with
    | nil => cases hb
    | cons d ds' => cases ds' with
      | cons _ _ => cases d <;> cases hb
      | nil =>
        obtain ⟨v, rfl, w⟩ := w0.one
        cases d with
        | str x =>
          cases hb
          have w' : v = .str x ∧ StrFit x := w
          exact call_len pins s σ' H _ us Q I r ⟨v, x.length, rfl, by rw [w'.1]; exact ⟨w'.2.2, rfl⟩, wt.val S (by simp only [Rep])⟩
        | lst xs =>
          cases hb
          obtain ⟨a, ws, rfl, r1, q1⟩ := w
          exact call_len pins s σ' H _ us Q I r ⟨_, _, rfl, .inl ⟨ws, .inl r1, rfl⟩, wt.val S (by simp only [Rep]; rw [q1.length])⟩
        | tup xs =>
          cases hb
          obtain ⟨a, ws, rfl, r1, q1, _⟩ := w
          exact call_len pins s σ' H _ us Q I r ⟨_, _, rfl, .inr ⟨ws, r1, rfl⟩, wt.val S (by simp only [Rep]; rw [q1.length])⟩
        | dct xs =>
          cases hb
          obtain ⟨a, ws, rfl, r1, q1⟩ := w
          obtain ⟨u, rfl, ru⟩ := vals1 r
          cases (show u = Value.ref a from ru)
          exact call_lenD' (u := .ref a) I r1 (wt.val S (by simp only [Rep]; rw [q1.length]))
        | _ => cases hb
  | abs =>
    cases ds with
    | nil => cases hb
    | cons d ds' => cases ds' with
      | cons _ _ => cases d <;> cases hb
      | nil =>
        obtain ⟨v, rfl, w⟩ := w0.one
        cases d <;> try (cases hb; done)
        cases hb
        exact call_abs pins s σ' H _ us Q I r ⟨_, by rw [show v = _ from w], wt.val S (by simp only [Rep])⟩
  | int =>
    cases ds with
    | nil => cases hb
    | cons d ds' => cases ds' with
      | cons _ _ => cases d <;> cases hb
      | nil =>
        obtain ⟨v, rfl, w⟩ := w0.one
        cases d <;> try (cases hb; done)
        · cases hb
          exact call_int1 pins s σ' H _ us Q I r (.inr ⟨_, by rw [show v = _ from w], wt.val S (by simp only [Rep]; rfl)⟩)
        · cases hb
          exact call_int1 pins s σ' H _ us Q I r (.inl ⟨_, by rw [show v = _ from w], wt.val S (by simp only [Rep])⟩)
  | str =>
    cases ds with
    | nil => cases hb
    | cons d ds' => cases ds' with
      | cons _ _ => cases d <;> cases hb
      | nil =>
        obtain ⟨v, rfl, w⟩ := w0.one
        cases d <;> try (cases hb; done)
        simp only [biD] at hb
        split at hb
        · rename_i hz
          cases hb
          simp only [decide_eq_true_eq] at hz
          refine call_str_int pins s σ' H _ us Q I r ⟨_, by rw [show v = _ from w], hz, wt.val S ?_⟩
          simp only [Rep]
          exact ⟨trivial, strOk_ofString _, int_text_fits hz⟩
        · cases hb
  | sum =>
    cases ds with
    | nil => cases hb
    | cons d ds' => cases ds' with
      | cons _ _ => cases d <;> cases hb
      | nil =>
        obtain ⟨v, rfl, w⟩ := w0.one
        cases d <;> try (cases hb; done)
        have hb := hb
        simp only [biD, Option.map_eq_some_iff] at hb
        obtain ⟨ns, hn, rfl⟩ := hb
        obtain ⟨a, ws, rfl, r1, q1⟩ := w
        have e := ints_vals hn q1
        subst e
        exact cr_sum hc pins s σ' H _ us Q I r ⟨a, ns, rfl, .inl r1, wt.val S (by simp only [Rep])⟩
  | all =>
    cases ds with
    | nil => cases hb
    | cons d ds' => cases ds' with
      | cons _ _ => cases d <;> cases hb
      | nil =>
        obtain ⟨v, rfl, w⟩ := w0.one
        cases d <;> try (cases hb; done)
        simp only [biD, Option.map_eq_some_iff] at hb
        obtain ⟨ns, hn, rfl⟩ := hb
        obtain ⟨a, ws, rfl, r1, q1⟩ := w
        have e := bools_vals hn q1
        subst e
        exact cr_all hc pins s σ' H _ us Q I r ⟨a, ns, rfl, .inl r1, wt.val S (by simp only [Rep])⟩
  | any =>
    cases ds with
    | nil => cases hb
    | cons d ds' => cases ds' with
      | cons _ _ => cases d <;> cases hb
      | nil =>
        obtain ⟨v, rfl, w⟩ := w0.one
        cases d <;> try (cases hb; done)
        simp only [biD, Option.map_eq_some_iff] at hb
        obtain ⟨ns, hn, rfl⟩ := hb
        obtain ⟨a, ws, rfl, r1, q1⟩ := w
        have e := bools_vals hn q1
        subst e
        exact cr_any hc pins s σ' H _ us Q I r ⟨a, ns, rfl, .inl r1, wt.val S (by simp only [Rep])⟩
  | max =>
    cases ds with
    | nil => cases hb
    | cons d ds' => cases ds' with
      | nil => cases d <;> cases hb
      | cons e ds'' => cases ds'' with
        | cons _ _ => cases d <;> cases e <;> cases hb
        | nil =>
          obtain ⟨v, u, rfl, w1, w2⟩ := w0.two
          cases d <;> cases e <;> try (cases hb; done)
          cases hb
          exact call_max2 hc pins s σ' H _ us Q I r ⟨_, _, by rw [show v = _ from w1, show u = _ from w2], wt.val S (by simp only [Rep])⟩
  | min =>
    cases ds with
    | nil => cases hb
    | cons d ds' => cases ds' with
      | nil => cases d <;> cases hb
      | cons e ds'' => cases ds'' with
        | cons _ _ => cases d <;> cases e <;> cases hb
        | nil =>
          obtain ⟨v, u, rfl, w1, w2⟩ := w0.two
          cases d <;> cases e <;> try (cases hb; done)
          cases hb
          exact call_min2 hc pins s σ' H _ us Q I r ⟨_, _, by rw [show v = _ from w1, show u = _ from w2], wt.val S (by simp only [Rep])⟩
  | divmod =>
    cases ds with
    | nil => cases hb
    | cons d ds' => cases ds' with
      | nil => cases d <;> cases hb
      | cons e ds'' => cases ds'' with
        | cons _ _ => cases d <;> cases e <;> cases hb
        | nil =>
          obtain ⟨v, u, rfl, w1, w2⟩ := w0.two
          cases d <;> cases e <;> try (cases hb; done)
          simp only [biD] at hb
          split at hb
          · rename_i hz
            cases hb
            simp only [Bool.and_eq_true, decide_eq_true_eq] at hz
            exact call_divmod pins s σ' H _ us Q I r ⟨_, _, by rw [show v = _ from w1, show u = _ from w2], hz, fun p hp => wt.tup S hp (RepL.cons (by simp only [Rep]) (RepL.cons (by simp only [Rep]) RepL.nil))⟩
          · cases hb
  | list =>
    cases ds with
    | nil => cases hb
    | cons d ds' => cases ds' with
      | cons _ _ => cases d <;> cases hb
      | nil =>
        obtain ⟨v, rfl, w⟩ := w0.one
        cases d with
        | lst xs =>
          cases hb
          obtain ⟨a, ws, rfl, r1, q1⟩ := w
          exact call_list_of pins s σ' H _ us Q I r ⟨a, ws, rfl, .inl (.inl r1), fun p hp => wt.new S hp q1⟩
        | tup xs =>
          cases hb
          obtain ⟨a, ws, rfl, r1, q1, _⟩ := w
          exact call_list_of pins s σ' H _ us Q I r ⟨a, ws, rfl, .inr r1, fun p hp => wt.new S hp q1⟩
        | dct xs =>
          cases hb
          obtain ⟨a, ws, rfl, r1, q1⟩ := w
          exact call_list_dKR hc pins s σ' H _ us Q I r ⟨a, ws, rfl, r1, fun p hp => wt.new S hp (RepK.keys q1)⟩
        | _ => cases hb
  | tuple =>
    cases ds with
    | nil => cases hb
    | cons d ds' => cases ds' with
      | cons _ _ => cases d <;> cases hb
      | nil =>
        obtain ⟨v, rfl, w⟩ := w0.one
        cases d with
        | lst xs =>
          cases hb
          obtain ⟨a, ws, rfl, r1, q1⟩ := w
          exact call_tuple_of pins s σ' H _ us Q I r ⟨a, ws, rfl, .inl ⟨.inl r1, fun p hp => wt.tup S hp q1⟩⟩
        | tup xs =>
          cases hb
          obtain ⟨a, ws, rfl, r1, q1, g1⟩ := w
          exact call_tuple_of pins s σ' H _ us Q I r ⟨a, ws, rfl, .inr ⟨r1, wt.val S (by simp only [Rep]; exact ⟨a, ws, rfl, g1, q1⟩)⟩⟩
        | _ => cases hb
  | sorted =>
    cases ds with
    | nil => cases hb
    | cons d ds' => cases ds' with
      | cons _ _ => cases d <;> cases hb
      | nil =>
        obtain ⟨v, rfl, w⟩ := w0.one
        cases d <;> try (cases hb; done)
        rename_i xs
        simp only [biD, Option.map_eq_some_iff] at hb
        obtain ⟨ys, hy, rfl⟩ := hb
        obtain ⟨a, ws, rfl, r1, q1⟩ := w
        unfold sortD at hy
        split at hy
        · rename_i hz
          cases hy
          simp only [Bool.and_eq_true] at hz
          obtain ⟨⟨hp, hal⟩, hk⟩ := hz
          obtain ⟨its, rv, hl, hsz⟩ := I.list (X := X) (.inl r1 : SqL X.K H a ws)
          rw [Vals.ref1 r]
          have rd : ∀ d v u, Rep X.K X.mg G d v → RelV v u → d.plain 8 = true → ∃ as, Reads s.heap u d.py as := fun d v u h1 h2 h3 => Dp.reads I _ v u (Rep.dp S.fz 8 d h3 h1) h2
          obtain ⟨e1, e2⟩ := each_zip (s := s) rd q1 rv hp
          have hmem : ∀ b ∈ xs.zip ws, b.1 ∈ xs := fun b hb => (List.of_mem_zip (show (b.1, b.2) ∈ xs.zip ws from hb)).1
          have hlen : (xs.zip ws).length = xs.length := by rw [List.length_zip, q1.length]; omega
          refine PySem.W.sorted_data (enc := fun b : D × V => b.1.py) hl.isList e1 e2 ?_ ?_ (by rw [hlen, q1.length]; exact hsz) ?_ fun out ho eo => ?_
          · intro d hd d' hd'
            obtain ⟨b, hb, rfl⟩ := List.mem_map.mp hd
            obtain ⟨b', hb', rfl⟩ := List.mem_map.mp hd'
            have := List.all_eq_true.mp hal b.1 (hmem b hb)
            exact List.all_eq_true.mp this b'.1 (hmem b' hb')
          · rcases Bool.or_eq_true_iff.mp hk with hk | hk
            · refine .inl fun d hd => ?_
              obtain ⟨b, hb, rfl⟩ := List.mem_map.mp hd
              have := List.all_eq_true.mp hk b.1 (hmem b hb)
              revert this
              cases b.1 <;> simp [isTupNe]
              rename_i l
              cases l <;> simp [isTupNe, D.py, D.pys]
            · refine .inr fun d hd => ?_
              obtain ⟨b, hb, rfl⟩ := List.mem_map.mp hd
              have := List.all_eq_true.mp hk b.1 (hmem b hb)
              revert this
              cases b.1 <;> simp [isOther, D.py]
          · intro b hb
            have := plain_can 8 b.1 (List.all_eq_true.mp hp b.1 (hmem b hb))
            omega
          · obtain ⟨ep, he'⟩ := PyProof.Rows.sortedAll_at s.heap its out.toArray
            have hv := each_vals eo
            have em : ((xs.zip ws).mergeSort (PySem.W.dataLe false fun b : D × V => b.1.py)).map (·.1) = xs.mergeSort (PySem.W.dataLe false D.py) := by
              exact (List.map_mergeSort (r := PySem.W.dataLe false fun b : D × V => b.1.py) (s := PySem.W.dataLe false D.py) (f := fun b : D × V => b.1) (fun a _ b _ => rfl)).trans (by rw [zip_fst q1.length])
            have hr : RepL X.K X.mg G (xs.mergeSort (PySem.W.dataLe false D.py)) (((xs.zip ws).mergeSort (PySem.W.dataLe false fun b : D × V => b.1.py)).map (·.2)) := by
              rw [← em]
              exact repL_mem fun b hb => zip_mem q1 b ((List.mergeSort_perm _ _).mem_iff.mp hb)
            have hn : H (s.heap.objs.size + 1) = none := I.hok.fresh (Nat.le_succ _)
            refine ⟨.ref _, upd H (s.heap.objs.size + 1) (.lst (((xs.zip ws).mergeSort (PySem.W.dataLe false fun b : D × V => b.1.py)).map fun b : D × V => b.2)), I.laid (t' := s.toks) (fun _ _ => PyProof.Rows.sortedAll_old) (Nat.le_succ _) ⟨?_, out, ep, hv, he'⟩, rfl, wt.new S hn hr⟩
            rw [List.length_map, List.length_mergeSort, hlen, q1.length]; exact hsz
        · cases hy
  | bool => cases ds <;> cases hb
  | sortedRev => cases ds <;> cases hb
  | sortedSet => exact absurd rfl hb1
  | lenSet => exact absurd rfl hb2
  | set => cases ds <;> cases hb
  | repr => cases ds <;> cases hb
  | dict => cases ds <;> cases hb
end
end M
end
section
set_option linter.all false
set_option maxRecDepth 100000
set_option maxHeartbeats 1000000
/-! MEx: expressions, from their parts. -/
namespace M
open PySem L2 PyProof.Rows
section
variable {X : Cx} {B : Bs} {W : WX} {a b e c : Expr} {ca cb cc : CE} {pos : Pos}
abbrev DE (X : Cx) (B : Bs) (W : WX) (e : Expr) (f : Env → Out (Res × Env)) : Prop := PE X e (tE X.K X.mg B W f)

theorem sub_psh {r : Res} {v : V} {τ0 τ : List (D × Addr)} (h : τ0.Sublist τ) : τ0.Sublist (psh r v τ) := h.trans (psh_sub r v τ)
/-- a value that is there -/
theorem de_pure {t : TE} {d : D} (h : PE X e t) (conv : ∀ σ H Q, (∀ v, (∀ G, Rep X.K X.mg G d v) → Q v H) → t σ H Q) : DE X B W e (fun ρ => .ok (.val d, ρ)) := by
  refine ⟨fun pins s σ H Q I hw => h.run pins s σ H Q I ?_⟩
  obtain ⟨G, ρ, τ, S, hw⟩ := hw
  exact conv σ H Q fun v r => hw v G H (Same.refl _) S (r G)
theorem de_var {i : Nat} (h : PE X e (tVar i)) : DE X B W e (ev (.v i)) := by
  refine ⟨fun pins s σ H Q I hw => h.run pins s σ H Q I ?_⟩
  obtain ⟨G, ρ, τ, S, hw⟩ := hw
  simp only [ev] at hw
  cases q : ρ[i]? with
  | none => rw [q] at hw; exact hw.elim
  | some x =>
    rw [q] at hw
    cases x with
    | none => exact hw.elim
    | val d =>
      obtain ⟨v, e1, e2⟩ := S.val i d q
      exact ⟨v, e1, hw v G H (Same.refl _) S e2⟩
    | own d =>
      obtain ⟨p, e1, _⟩ := S.own i d q
      exact ⟨_, e1, hw _ G H (Same.refl _) S e1⟩
    | lck d =>
      obtain ⟨p, e1, _⟩ := S.lck i d q
      exact ⟨_, e1, hw _ G H (Same.refl _) S e1⟩
/-- the state behind two operands -/
theorem tE_two {fa fb : Env → Out (Res × Env)} {g : Res × Env → Res × Env → Out (Res × Env)} {σ : L2.St} {H : Hp} {Q : VK} {R : V → V → Hp → Prop}
    (hw : tE X.K X.mg B W (fun ρ => (fa ρ).bind fun p => (fb p.2).bind fun q => g p q) σ H Q)
    (k : ∀ (p q : Res × Env) (v u : V) (G0 G : Hp) (H' : Hp) (τ0 τ : List (D × Addr)), Same G0 G → τ0.Sublist τ → Sm X.K X.mg B G q.2 σ H' τ → ResAt X.K X.mg G σ τ p.1 v → ResAt X.K X.mg G σ τ q.1 u → After X.K X.mg B W σ Q G0 τ0 (g p q) → R v u H') :
    tE X.K X.mg B W fa σ H fun v H1 => tE X.K X.mg B W fb σ H1 fun u H2 => R v u H2 := by
  obtain ⟨G, ρ, τ, S, hw⟩ := hw
  refine tE_bind S hw fun p v G1 H1 e1 s1 S1 a1 h1 => ?_
  refine tE_bind S1 h1 fun q u G2 H2 e2 s2 S2 a2 h2 => ?_
  exact k p q v u G G2 H2 τ _ (s1.trans s2) (sub_psh (psh_sub _ _ _)) S2 (a1.mono s2 fun x hx => psh_mem _ _ hx) a2 h2
/-- an operation's result, where its run says so -/
theorem wants_of {σ : L2.St} {Q : VK} {G0 G : Hp} {τ0 τ : List (D × Addr)} {r : Res} {ρ : Env} (s : Same G0 G) (sub : τ0.Sublist τ) (h : After X.K X.mg B W σ Q G0 τ0 (.ok (r, ρ))) : Wants X.K X.mg B G ρ σ τ r Q := by
  intro v G' H' s' S' a'
  have hs : (psh r v τ0).Sublist (psh r v τ) := by
    unfold psh; split
    · exact sub.cons_cons _
    · exact sub
  refine h v G' H' (s.trans s') (S'.drop hs) ?_
  cases r with
  | val d => exact a'
  | own d =>
    obtain ⟨p, rfl, _⟩ := a'
    exact ⟨p, rfl, List.mem_cons_self⟩
  | slot i => exact a'
theorem After.k2 {f : D → D → Option Res} {p q : Res × Env} {σ : L2.St} {Q : VK} {G0 : Hp} {τ0 : List (D × Addr)} (h : After X.K X.mg B W σ Q G0 τ0 (M.k2 f p q)) :
    ∃ d e r, deref q.2 p.1 = some d ∧ deref q.2 q.1 = some e ∧ f d e = some r ∧ After X.K X.mg B W σ Q G0 τ0 (.ok (r, q.2)) := by
  unfold M.k2 at h
  split at h
  · rename_i d h1
    split at h
    · rename_i e h2
      split at h
      · rename_i r h3; exact ⟨d, e, r, h1, h2, h3, h⟩
      · exact h.elim
    · exact h.elim
  · exact h.elim
theorem After.k1 {f : D → Option Res} {p : Res × Env} {σ : L2.St} {Q : VK} {G0 : Hp} {τ0 : List (D × Addr)} (h : After X.K X.mg B W σ Q G0 τ0 (M.k1 f p)) :
    ∃ d r, deref p.2 p.1 = some d ∧ f d = some r ∧ After X.K X.mg B W σ Q G0 τ0 (.ok (r, p.2)) := by
  unfold M.k1 at h
  split at h
  · rename_i d h1
    split at h
    · rename_i r h3; exact ⟨d, r, h1, h3, h⟩
    · exact h.elim
  · exact h.elim
theorem tE_ev {f g : Env → Out (Res × Env)} (e : ∀ ρ, f ρ = g ρ) {σ : L2.St} {H : Hp} {Q : VK} (h : tE X.K X.mg B W f σ H Q) : tE X.K X.mg B W g σ H Q := by
  have : f = g := funext e
  rw [← this]; exact h
theorem de_bin {op : BinO} (ha : DE X B W a (ev ca)) (hb : DE X B W b (ev cb)) : DE X B W (.BinOp a (bop op) b pos) (ev (.bin op ca cb)) := by
  refine ⟨fun pins s σ H Q I hw => (pe_op (op_bin op) ha hb).run pins s σ H Q I ?_⟩
  refine tE_two (g := k2 (binD op)) (tE_ev (fun ρ => by simp only [ev]) hw) fun p q v u G0 G H' τ0 τ s sub S a1 a2 h => ?_
  obtain ⟨d, e, r, h1, h2, h3, h⟩ := h.k2
  exact ⟨B, G, q.2, σ, τ, d, e, r, S, S.view a1 h1, S.view a2 h2, h3, wants_of s sub h⟩
theorem cmpR_some {op : CmpO} {d e : D} {r : Res} (h : cmpR op d e = some r) : ∃ b, cmpD op d e = some b ∧ r = .val (.bl b) := by
  unfold cmpR at h
  rw [Option.map_eq_some_iff] at h
  obtain ⟨b, h1, h2⟩ := h
  exact ⟨b, h1, h2.symm⟩
theorem de_cmp {op : CmpO} (hu : X.A.units + 100 < cLine) (ha : DE X B W a (ev ca)) (hb : DE X B W b (ev cb)) (hm : behindInMarks (cop op) b = false) : DE X B W (.Compare a [cop op] [b] pos) (ev (.cmp op ca cb)) := by
  refine ⟨fun pins s σ H Q I hw => (pe_cmpR (op_cmp hu op) ha hb hm).run pins s σ H Q I ?_⟩
  refine tE_two (g := k2 (cmpR op)) (tE_ev (fun ρ => by simp only [ev]) hw) fun p q v u G0 G H' τ0 τ s sub S a1 a2 h => ?_
  obtain ⟨d, e, r, h1, h2, h3, h⟩ := h.k2
  obtain ⟨b, hb3, rfl⟩ := cmpR_some h3
  exact ⟨G, d, e, b, S.fz, S.view a1 h1, S.view a2 h2, hb3, (wants_of s sub h).val S (by simp only [Rep])⟩
theorem de_chain {o o' : CmpO} (hu : X.A.units + 100 < cLine) (ha : DE X B W a (ev ca)) (hb : DE X B W b (ev cb)) (hc : DE X B W c (ev cc)) (hm : lastMarks [cop o, cop o'] [b, c] = false) :
    DE X B W (.Compare a [cop o, cop o'] [b, c] pos) (ev (.chain o o' ca cb cc)) := by
  refine ⟨fun pins s σ H Q I hw => (pe_chain (op_cmp hu o) (op_cmp hu o') ha hb hc hm).run pins s σ H Q I ?_⟩
  refine tE_two (g := fun p q => (k2 (cmpR o) p q).bind fun r => if isTt r.1 then (ev cc r.2).bind fun s => k2 (cmpR o') (q.1, s.2) s else .ok r) (tE_ev (fun ρ => by simp only [ev]) hw) fun p q v u G0 G H' τ0 τ s sub S a1 a2 h => ?_
  cases hk : k2 (cmpR o) p q with
  | exc c x =>
    unfold k2 at hk
    split at hk
    · split at hk
      · split at hk <;> cases hk
      · cases hk
    · cases hk
  | stuck => simp only [hk] at h; exact h.elim
  | ok r =>
    simp only [hk] at h
    have hk' : After X.K X.mg B (fun _ _ _ _ => True) σ (fun _ _ => True) G0 τ0 (k2 (cmpR o) p q) := by rw [hk]; exact fun _ _ _ _ _ _ => trivial
    obtain ⟨d, e, r', h1, h2, h3, _⟩ := hk'.k2
    obtain ⟨x, hb3, rfl⟩ := cmpR_some h3
    have er : r = (.val (.bl x), q.2) := by
      unfold k2 at hk
      simp only [h1, h2, cmpR, hb3, Option.map_some] at hk
      cases hk; rfl
    subst er
    refine ⟨G, d, e, x, S.fz, S.view a1 h1, S.view a2 h2, hb3, x, rfl, ?_⟩
    cases x with
    | true =>
      rw [if_pos rfl]
      simp only [isTt, if_true] at h
      refine tE_bind S h fun r w G3 H3 e3 s3 S3 a3 h3 => ?_
      obtain ⟨d', e', r', h4, h5, h6, h⟩ := h3.k2
      obtain ⟨y, hb6, rfl⟩ := cmpR_some h6
      exact ⟨G3, d', e', y, S3.fz, S3.view (a2.mono s3 fun x hx => psh_mem _ _ hx) h4, S3.view a3 h5, hb6, (wants_of (s.trans s3) (sub_psh sub) h).val S3 (by simp only [Rep])⟩
    | false =>
      rw [if_neg Bool.false_ne_true]
      exact (wants_of s sub h).val S (by simp only [Rep])
theorem de_sub (hu : X.A.units + 100 < cLine) (ha : DE X B W a (ev ca)) (hb : DE X B W b (ev cb)) (hs : PlainIx b) : DE X B W (.Subscript a b pos) (ev (.sub ca cb)) := by
  refine ⟨fun pins s σ H Q I hw => (pe_ix (ix_all hu) ha hb hs).run pins s σ H Q I ?_⟩
  refine tE_two (g := k2 subR) (tE_ev (fun ρ => by simp only [ev]) hw) fun p q v u G0 G H' τ0 τ s sub S a1 a2 h => ?_
  obtain ⟨d, e, r, h1, h2, h3, h⟩ := h.k2
  unfold subR at h3
  rw [Option.map_eq_some_iff] at h3
  obtain ⟨z, h3, rfl⟩ := h3
  exact ⟨G, d, e, z, S.fz, S.view a1 h1, S.view a2 h2, h3, fun v rv => (wants_of s sub h).val S rv⟩
theorem de_neg (ha : DE X B W a (ev ca)) : DE X B W (.UnaryOp .USub a pos) (ev (.neg ca)) := by
  refine ⟨fun pins s σ H Q I hw => (pe_un un_neg ha).run pins s σ H Q I ?_⟩
  obtain ⟨G, ρ, τ, S, hw⟩ := hw
  simp only [ev] at hw
  refine tE_bind S hw fun p v G1 H1 e1 s1 S1 a1 h1 => ?_
  obtain ⟨d, r, h1', h2, h⟩ := h1.k1
  cases d <;> simp only [negD] at h2 <;> try (cases h2; done)
  cases h2
  exact ⟨_, S1.view a1 h1', (wants_of s1 (psh_sub _ _ _) h).val S1 (by simp only [Rep])⟩

/-! ### tests -/
/-- a test's reading by a run -/
def AfterT (K : PySem.W.Frag) (mg : Str → Option Value) (B : Bs) (W : WX) (σ : L2.St) (Q : Bool → Hp → Prop) (G : Hp) (τ : List (D × Addr)) : Out (Bool × Env) → Prop
  | .ok p => ∀ G' H', Same G G' → Sm K mg B G' p.2 σ H' τ → Q p.1 H'
  | .exc c q => ∀ cls d H', XIs mg c q cls d H' → XSm B H' → W cls d σ H'
  | .stuck => False
def tTst (K : PySem.W.Frag) (mg : Str → Option Value) (B : Bs) (W : WX) (f : Env → Out (Bool × Env)) : TT := fun σ H Q => ∃ G ρ τ, Sm K mg B G ρ σ H τ ∧ AfterT K mg B W σ Q G τ (f ρ)
abbrev DT (X : Cx) (B : Bs) (W : WX) (e : Expr) (f : Env → Out (Bool × Env)) : Prop := PT X e (tTst X.K X.mg B W f)
variable {Q' : Bool → Hp → Prop}
theorem tE_bindT {f : Env → Out (Res × Env)} {g : Res × Env → Out (Bool × Env)} {G G0 : Hp} {ρ : Env} {σ : L2.St} {H : Hp} {τ τ0 : List (D × Addr)} {R : VK} (S : Sm X.K X.mg B G ρ σ H τ) (h : AfterT X.K X.mg B W σ Q' G0 τ0 ((f ρ).bind g))
    (k : ∀ p v G' H', f ρ = .ok p → Same G G' → Sm X.K X.mg B G' p.2 σ H' (psh p.1 v τ) → ResAt X.K X.mg G' σ (psh p.1 v τ) p.1 v → AfterT X.K X.mg B W σ Q' G0 τ0 (g p) → R v H') : tE X.K X.mg B W f σ H R := by
  refine ⟨G, ρ, τ, S, ?_⟩
  cases e : f ρ with
  | ok p => rw [e] at h; exact fun v G' H' s S' a => k p v G' H' e s S' a h
  | exc c q => rw [e] at h; exact h
  | stuck => rw [e] at h; exact h
theorem tT_bindT {f : Env → Out (Bool × Env)} {g : Bool × Env → Out (Bool × Env)} {G G0 : Hp} {ρ : Env} {σ : L2.St} {H : Hp} {τ τ0 : List (D × Addr)} {R : Bool → Hp → Prop} (S : Sm X.K X.mg B G ρ σ H τ) (h : AfterT X.K X.mg B W σ Q' G0 τ0 ((f ρ).bind g))
    (k : ∀ p G' H', f ρ = .ok p → Same G G' → Sm X.K X.mg B G' p.2 σ H' τ → AfterT X.K X.mg B W σ Q' G0 τ0 (g p) → R p.1 H') : tTst X.K X.mg B W f σ H R := by
  refine ⟨G, ρ, τ, S, ?_⟩
  cases e : f ρ with
  | ok p => rw [e] at h; exact fun G' H' s S' => k p G' H' e s S' h
  | exc c q => rw [e] at h; exact h
  | stuck => rw [e] at h; exact h
theorem tT_bindE {f : Env → Out (Bool × Env)} {g : Bool × Env → Out (Res × Env)} {Q : VK} {G G0 : Hp} {ρ : Env} {σ : L2.St} {H : Hp} {τ τ0 : List (D × Addr)} {R : Bool → Hp → Prop} (S : Sm X.K X.mg B G ρ σ H τ) (h : After X.K X.mg B W σ Q G0 τ0 ((f ρ).bind g))
    (k : ∀ p G' H', f ρ = .ok p → Same G G' → Sm X.K X.mg B G' p.2 σ H' τ → After X.K X.mg B W σ Q G0 τ0 (g p) → R p.1 H') : tTst X.K X.mg B W f σ H R := by
  refine ⟨G, ρ, τ, S, ?_⟩
  cases e : f ρ with
  | ok p => rw [e] at h; exact fun G' H' s S' => k p G' H' e s S' h
  | exc c q => rw [e] at h; exact h
  | stuck => rw [e] at h; exact h
theorem AfterT.fin {b : Bool} {p : Env} {G G0 : Hp} {σ : L2.St} {H : Hp} {τ τ0 : List (D × Addr)} (h : AfterT X.K X.mg B W σ Q' G0 τ0 (.ok (b, p))) (s : Same G0 G) (S : Sm X.K X.mg B G p σ H τ) (sub : τ0.Sublist τ) : Q' b H := h G H s (S.drop sub)
/-- by the value's truth -/
theorem dt_truth (ha : DE X B W a (ev ca)) (he : ∀ whole, isTrue a X.env whole = (do let v ← whole; standAt a.pos; holding [v] (truthy v))) : DT X B W a (evT ca) := by
  refine ⟨fun pins s σ H Q I hw => ?_⟩
  refine isTrue_plain (thn (ha.run pins s σ H (fun x H' => rTru X.K X.mg x H' Q) I ?_) fun v s1 ⟨x, H1, I1, r1, q1⟩ => tru_all pins s1 σ H1 x v Q I1 r1 q1) (he _)
  obtain ⟨G, ρ, τ, S, hw⟩ := hw
  simp only [evT] at hw
  refine tE_bindT S hw fun p v G1 H1 e1 s1 S1 a1 h1 => ?_
  simp only [tru] at h1
  split at h1
  · rename_i b hb
    cases hd : deref p.2 p.1 with
    | none => rw [hd] at hb; cases hb
    | some d =>
      rw [hd] at hb
      exact ⟨G1, d, b, S1.fz, S1.view a1 hd, hb, h1.fin s1 S1 (psh_sub _ _ _)⟩
  · exact h1.elim
/-- by the value's being a bool -/
theorem dt_bool (f : CE) (ha : PT X a (tTest (tE X.K X.mg B W (ev f)))) (hb : ∀ ρ p, ev f ρ = .ok p → ∃ b, p.1 = .val (.bl b)) : DT X B W a (evT f) := by
  refine ⟨fun pins s σ H Q I hw => ha.run pins s σ H Q I ?_⟩
  obtain ⟨G, ρ, τ, S, hw⟩ := hw
  simp only [evT] at hw
  refine tE_bindT S hw fun p v G1 H1 e1 s1 S1 a1 h1 => ?_
  obtain ⟨b, hb⟩ := hb ρ p e1
  rw [hb] at a1 S1
  refine ⟨b, a1, ?_⟩
  have : tru p = .ok (b, p.2) := by simp [tru, hb, deref, truD]
  rw [this] at h1
  exact h1.fin s1 S1 (List.Sublist.refl _)
theorem k2_bool {op : CmpO} {p q r : Res × Env} (h : k2 (cmpR op) p q = .ok r) : ∃ b, r.1 = .val (.bl b) := by
  unfold k2 at h
  split at h
  · split at h
    · split at h
      · rename_i x hx
        obtain ⟨b, _, rfl⟩ := cmpR_some hx
        cases h; exact ⟨b, rfl⟩
      · cases h
    · cases h
  · cases h
theorem bind_ok {α β : Type} {x : Out α} {f : α → Out β} {r : β} (h : x.bind f = .ok r) : ∃ a, x = .ok a ∧ f a = .ok r := by
  cases x with
  | ok a => exact ⟨a, rfl, h⟩
  | exc _ _ => cases h
  | stuck => cases h
theorem dt_cmp {op : CmpO} (hu : X.A.units + 100 < cLine) (ha : DE X B W a (ev ca)) (hb : DE X B W b (ev cb)) (hm : behindInMarks (cop op) b = false) : DT X B W (.Compare a [cop op] [b] pos) (evT (.cmp op ca cb)) := by
  refine dt_bool _ ⟨fun pins s σ H Q I hw => (pt_cmpR (op_cmp hu op) ha hb hm).run pins s σ H Q I ?_⟩ fun ρ p h => ?_
  · refine tE_two (g := k2 (cmpR op)) (tE_ev (fun ρ => by simp only [ev]) hw) fun p q v u G0 G H' τ0 τ s sub S a1 a2 h => ?_
    obtain ⟨d, e, r, h1, h2, h3, h⟩ := h.k2
    obtain ⟨b, hb3, rfl⟩ := cmpR_some h3
    exact ⟨G, d, e, b, S.fz, S.view a1 h1, S.view a2 h2, hb3, (wants_of s sub h).val S (by simp only [Rep])⟩
  · simp only [ev] at h
    obtain ⟨p1, _, h⟩ := bind_ok h
    obtain ⟨p2, _, h⟩ := bind_ok h
    exact k2_bool h
theorem dt_chain {o o' : CmpO} (hu : X.A.units + 100 < cLine) (ha : DE X B W a (ev ca)) (hb : DE X B W b (ev cb)) (hc : DE X B W c (ev cc)) (hm : lastMarks [cop o, cop o'] [b, c] = false) :
    DT X B W (.Compare a [cop o, cop o'] [b, c] pos) (evT (.chain o o' ca cb cc)) := by
  refine dt_bool _ ⟨fun pins s σ H Q I hw => (pt_chain (op_cmp hu o) (op_cmp hu o') ha hb hc hm).run pins s σ H Q I ?_⟩ fun ρ p h => ?_
  · -- as de_chain
    refine tE_two (g := fun p q => (k2 (cmpR o) p q).bind fun r => if isTt r.1 then (ev cc r.2).bind fun s => k2 (cmpR o') (q.1, s.2) s else .ok r) (tE_ev (fun ρ => by simp only [ev]) hw) fun p q v u G0 G H' τ0 τ s sub S a1 a2 h => ?_
    cases hk : k2 (cmpR o) p q with
    | exc c x =>
      unfold k2 at hk
      split at hk
      · split at hk
        · split at hk <;> cases hk
        · cases hk
      · cases hk
    | stuck => simp only [hk] at h; exact h.elim
    | ok r =>
      simp only [hk] at h
      have hk' : After X.K X.mg B (fun _ _ _ _ => True) σ (fun _ _ => True) G0 τ0 (k2 (cmpR o) p q) := by rw [hk]; exact fun _ _ _ _ _ _ => trivial
      obtain ⟨d, e, r', h1, h2, h3, _⟩ := hk'.k2
      obtain ⟨x, hb3, rfl⟩ := cmpR_some h3
      have er : r = (.val (.bl x), q.2) := by
        unfold k2 at hk
        simp only [h1, h2, cmpR, hb3, Option.map_some] at hk
        cases hk; rfl
      subst er
      refine ⟨G, d, e, x, S.fz, S.view a1 h1, S.view a2 h2, hb3, x, rfl, ?_⟩
      cases x with
      | true =>
        rw [if_pos rfl]
        simp only [isTt, if_true] at h
        refine tE_bind S h fun r w G3 H3 e3 s3 S3 a3 h3 => ?_
        obtain ⟨d', e', r', h4, h5, h6, h⟩ := h3.k2
        obtain ⟨y, hb6, rfl⟩ := cmpR_some h6
        exact ⟨G3, d', e', y, S3.fz, S3.view (a2.mono s3 fun x hx => psh_mem _ _ hx) h4, S3.view a3 h5, hb6, (wants_of (s.trans s3) (sub_psh sub) h).val S3 (by simp only [Rep])⟩
      | false =>
        rw [if_neg Bool.false_ne_true]
        exact (wants_of s sub h).val S (by simp only [Rep])
  · simp only [ev] at h
    obtain ⟨p1, _, h⟩ := bind_ok h
    obtain ⟨p2, _, h⟩ := bind_ok h
    obtain ⟨p3, h3, h⟩ := bind_ok h
    split at h
    · obtain ⟨p4, _, h⟩ := bind_ok h
      exact k2_bool h
    · cases h; exact k2_bool h3
end
end M
end
section
set_option linter.all false
set_option maxRecDepth 100000
set_option maxHeartbeats 1000000
/-! MEx2: and, or, not, displays, built-ins, isinstance, slices. -/
namespace M
open PySem L2 PyProof.Rows
section
variable {X : Cx} {B : Bs} {W : WX} {a b e c : Expr} {ca cb cc : CE} {pos : Pos} {rest : List Expr} {cs : List CE}

/-! ### tests: and, or, not -/
theorem tru_ok2 {p : Res × Env} {r : Bool × Env} (h : tru p = .ok r) : r.2 = p.2 ∧ ∃ d, deref p.2 p.1 = some d ∧ truD d = some r.1 := by
  unfold tru at h
  split at h
  · rename_i b hb
    cases h
    rw [Option.bind_eq_some_iff] at hb
    obtain ⟨d, h1, h2⟩ := hb
    exact ⟨rfl, d, h1, h2⟩
  · cases h
theorem tru_noexc {p : Res × Env} {c : Str} {q : D} (h : tru p = .exc c q) : False := by
  unfold tru at h
  split at h <;> cases h
theorem evT_ok {ce : CE} {ρ : Env} {r : Bool × Env} (h : evT ce ρ = .ok r) : ∃ p, ev ce ρ = .ok p ∧ tru p = .ok r := bind_ok h

theorem After.later {K : PySem.W.Frag} {mg : Str → Option Value} {σ : L2.St} {Q : VK} {G G1 : Hp} {τ : List (D × Addr)} (s : Same G G1) {o : Out (Res × Env)} (h : After K mg B W σ Q G τ o) : After K mg B W σ Q G1 τ o := by
  cases o with
  | ok p => exact fun v G' H' s' S' a' => h v G' H' (s.trans s') S' a'
  | exc _ _ => exact h
  | stuck => exact h
theorem AfterT.later {K : PySem.W.Frag} {mg : Str → Option Value} {σ : L2.St} {Q : Bool → Hp → Prop} {G G1 : Hp} {τ : List (D × Addr)} (s : Same G G1) {o : Out (Bool × Env)} (h : AfterT K mg B W σ Q G τ o) : AfterT K mg B W σ Q G1 τ o := by
  cases o with
  | ok p => exact fun G' H' s' S' => h G' H' (s.trans s') S'
  | exc _ _ => exact h
  | stuck => exact h
abbrev DW (X : Cx) (B : Bs) (W : WX) (e : Expr) (f : Env → Out (Bool × Env)) : Prop := PW X e (tTst X.K X.mg B W f)
theorem dw_and1 (ha : DT X B W a (evT ca)) : DW X B W (.BoolOp .And [a] pos) (fun ρ => (evAnd [ca] ρ).bind tru) := by
  have e : (fun ρ => (evAnd [ca] ρ).bind tru) = evT ca := by funext ρ; simp only [evAnd, evT]
  rw [e]; exact pw_and1 (pos := pos) ha
theorem dw_or1 (ha : DT X B W a (evT ca)) : DW X B W (.BoolOp .Or [a] pos) (fun ρ => (evOr [ca] ρ).bind tru) := by
  have e : (fun ρ => (evOr [ca] ρ).bind tru) = evT ca := by funext ρ; simp only [evOr, evT]
  rw [e]; exact pw_or1 (pos := pos) ha
theorem dw_and2 (ha : DT X B W a (evT ca)) (hb : DW X B W (.BoolOp .And (b :: rest) pos) (fun ρ => (evAnd (cb :: cs) ρ).bind tru)) :
    DW X B W (.BoolOp .And (a :: b :: rest) pos) (fun ρ => (evAnd (ca :: cb :: cs) ρ).bind tru) := by
  refine ⟨fun wh pins s σ H Q I hw => (pw_and ha hb).run wh pins s σ H Q I ?_⟩
  obtain ⟨G, ρ, τ, S, hw⟩ := hw
  refine ⟨G, ρ, τ, S, ?_⟩
  simp only [evAnd] at hw
  show AfterT X.K X.mg B W σ _ G τ ((ev ca ρ).bind tru)
  cases h1 : ev ca ρ with
  | exc c q => rw [h1] at hw; exact hw
  | stuck => rw [h1] at hw; exact hw
  | ok p =>
    rw [h1] at hw
    simp only [Out.bind] at hw ⊢
    cases h2 : tru p with
    | exc c q => exact (tru_noexc h2).elim
    | stuck => rw [h2] at hw; exact hw
    | ok r =>
      rw [h2] at hw
      obtain ⟨e2, d, hd, ht⟩ := tru_ok2 h2
      intro G' H' s' S'
      rw [e2] at S'
      cases hr : r.1 with
      | true =>
        rw [if_pos rfl]
        simp only [hr, if_true] at hw
        refine ⟨G', p.2, τ, S', ?_⟩
        exact AfterT.later s' hw
      | false =>
        rw [if_neg Bool.false_ne_true]
        simp only [hr, Bool.false_eq_true, if_false, h2] at hw
        have := hw G' H' s' (by rw [e2]; exact S')
        rw [hr] at this
        exact this
theorem dw_or2 (ha : DT X B W a (evT ca)) (hb : DW X B W (.BoolOp .Or (b :: rest) pos) (fun ρ => (evOr (cb :: cs) ρ).bind tru)) :
    DW X B W (.BoolOp .Or (a :: b :: rest) pos) (fun ρ => (evOr (ca :: cb :: cs) ρ).bind tru) := by
  refine ⟨fun wh pins s σ H Q I hw => (pw_or ha hb).run wh pins s σ H Q I ?_⟩
  obtain ⟨G, ρ, τ, S, hw⟩ := hw
  refine ⟨G, ρ, τ, S, ?_⟩
  simp only [evOr] at hw
  show AfterT X.K X.mg B W σ _ G τ ((ev ca ρ).bind tru)
  cases h1 : ev ca ρ with
  | exc c q => rw [h1] at hw; exact hw
  | stuck => rw [h1] at hw; exact hw
  | ok p =>
    rw [h1] at hw
    simp only [Out.bind] at hw ⊢
    cases h2 : tru p with
    | exc c q => exact (tru_noexc h2).elim
    | stuck => rw [h2] at hw; exact hw
    | ok r =>
      rw [h2] at hw
      obtain ⟨e2, d, hd, ht⟩ := tru_ok2 h2
      intro G' H' s' S'
      rw [e2] at S'
      cases hr : r.1 with
      | false =>
        rw [if_neg Bool.false_ne_true]
        simp only [hr, Bool.false_eq_true, if_false] at hw
        refine ⟨G', p.2, τ, S', ?_⟩
        exact AfterT.later s' hw
      | true =>
        rw [if_pos rfl]
        simp only [hr, if_true, h2] at hw
        have := hw G' H' s' (by rw [e2]; exact S')
        rw [hr] at this
        exact this
theorem dt_not (ha : DT X B W a (evT ca)) : DT X B W (.UnaryOp .Not a pos) (evT (.not ca)) := by
  refine ⟨fun pins s σ H Q I hw => (pt_not ha).run pins s σ H Q I ?_⟩
  obtain ⟨G, ρ, τ, S, hw⟩ := hw
  refine ⟨G, ρ, τ, S, ?_⟩
  simp only [evT, ev] at hw
  show AfterT X.K X.mg B W σ _ G τ ((ev ca ρ).bind tru)
  cases h1 : (ev ca ρ).bind tru with
  | exc c q => rw [h1] at hw; exact hw
  | stuck => rw [h1] at hw; exact hw
  | ok p =>
    rw [h1] at hw
    intro G' H' s' S'
    exact hw G' H' s' S'

/-! ### as values -/
/-- the truth of a value, the heap as it is -/
theorem tru_at {pins : List (Addr × Obj)} {s : Shared} {σ : L2.St} {H : Hp} {x : V} {v : Value} {G : Hp} {d : D} {k : Bool} (I : L2.Inv X pins σ H s) (rx : RelV x v) (fz : ∀ a o, G a = some o → Ro H a o) (w : View X.K X.mg G H d x) (h : truD d = some k)
    {Q : Bool → Shared → Prop} (q : ∀ s', L2.Inv X pins σ H s' → Q k s') : wpAny (model X.prog X.w) X.A (truthy v) Q X.xe s :=
  thn (tru_all pins s σ H x v (fun c H2 => c = k ∧ H2 = H) I rx ⟨G, d, k, fz, w, h, rfl, rfl⟩) fun c s2 ⟨H2, I2, e1, e2⟩ => by rw [e1]; rw [e2] at I2; exact q s2 I2
theorem tru_of {f : Env → Out (Res × Env)} {g : Res × Env → Out (Res × Env)} {h : Bool × Env → Out (Res × Env)} : True := trivial
theorem de_and1 (ha : DE X B W a (ev ca)) : DE X B W (.BoolOp .And [a] pos) (evAnd [ca]) := by
  have := pe_one (op := .And) (pos := pos) ha
  exact ⟨fun pins s σ H Q I hw => this.run pins s σ H Q I (tE_ev (fun ρ => by simp only [evAnd]) hw)⟩
theorem de_or1 (ha : DE X B W a (ev ca)) : DE X B W (.BoolOp .Or [a] pos) (evOr [ca]) := by
  have := pe_one (op := .Or) (pos := pos) ha
  exact ⟨fun pins s σ H Q I hw => this.run pins s σ H Q I (tE_ev (fun ρ => by simp only [evOr]) hw)⟩
theorem de_and2 (ha : DE X B W a (ev ca)) (hb : DE X B W (.BoolOp .And (b :: rest) pos) (evAnd (cb :: cs))) : DE X B W (.BoolOp .And (a :: b :: rest) pos) (evAnd (ca :: cb :: cs)) := by
  refine ⟨fun pins s σ H Q I hw => ?_⟩
  obtain ⟨G, ρ, τ, S, hw⟩ := hw
  simp only [evAnd] at hw
  refine BoolOp_and (thn (ha.run pins s σ H (fun v H1 => ∃ G1 p k, Sm X.K X.mg B G1 p.2 σ H1 (psh p.1 v τ) ∧ Same G G1 ∧ ResAt X.K X.mg G1 σ (psh p.1 v τ) p.1 v ∧ tru p = .ok k ∧
    After X.K X.mg B W σ Q G τ (if k.1 then evAnd (cb :: cs) p.2 else .ok p)) I (tE_bind S hw fun p v G1 H1 e1 s1 S1 a1 h1 => ?_)) fun v s1 ⟨x, H1, I1, r1, G1, p, k, S1, s1', a1, hk, h1⟩ => ?_)
  · cases hk : tru p with
    | ok k => rw [hk] at h1; exact ⟨G1, p, k, S1, s1, a1, hk, h1⟩
    | exc _ _ => exact (tru_noexc hk).elim
    | stuck => rw [hk] at h1; exact h1.elim
  · obtain ⟨_, d, hd, ht⟩ := tru_ok2 hk
    refine tru_at I1 r1 S1.fz (S1.view a1 hd) ht fun s2 I2 => ?_
    cases hc : k.1 with
    | true =>
      simp only [hc, if_true] at h1 ⊢
      refine hb.run pins s2 σ H1 Q I2 ⟨G1, p.2, τ, S1.drop (psh_sub _ _ _), ?_⟩
      cases h2 : evAnd (cb :: cs) p.2 with
      | ok z => rw [h2] at h1; exact fun v G2 H2 s2 S2 a2 => h1 v G2 H2 (s1'.trans s2) S2 a2
      | exc _ _ => rw [h2] at h1; exact h1
      | stuck => rw [h2] at h1; exact h1
    | false =>
      simp only [hc, Bool.false_eq_true, if_false] at h1 ⊢
      exact ⟨x, H1, I2, r1, h1 x G1 H1 s1' S1 a1⟩
theorem de_or2 (ha : DE X B W a (ev ca)) (hb : DE X B W (.BoolOp .Or (b :: rest) pos) (evOr (cb :: cs))) : DE X B W (.BoolOp .Or (a :: b :: rest) pos) (evOr (ca :: cb :: cs)) := by
  refine ⟨fun pins s σ H Q I hw => ?_⟩
  obtain ⟨G, ρ, τ, S, hw⟩ := hw
  simp only [evOr] at hw
  refine BoolOp_or (thn (ha.run pins s σ H (fun v H1 => ∃ G1 p k, Sm X.K X.mg B G1 p.2 σ H1 (psh p.1 v τ) ∧ Same G G1 ∧ ResAt X.K X.mg G1 σ (psh p.1 v τ) p.1 v ∧ tru p = .ok k ∧
    After X.K X.mg B W σ Q G τ (if k.1 then .ok p else evOr (cb :: cs) p.2)) I (tE_bind S hw fun p v G1 H1 e1 s1 S1 a1 h1 => ?_)) fun v s1 ⟨x, H1, I1, r1, G1, p, k, S1, s1', a1, hk, h1⟩ => ?_)
  · cases hk : tru p with
    | ok k => rw [hk] at h1; exact ⟨G1, p, k, S1, s1, a1, hk, h1⟩
    | exc _ _ => exact (tru_noexc hk).elim
    | stuck => rw [hk] at h1; exact h1.elim
  · obtain ⟨_, d, hd, ht⟩ := tru_ok2 hk
    refine tru_at I1 r1 S1.fz (S1.view a1 hd) ht fun s2 I2 => ?_
    cases hc : k.1 with
    | false =>
      simp only [hc, Bool.false_eq_true, if_false] at h1 ⊢
      refine hb.run pins s2 σ H1 Q I2 ⟨G1, p.2, τ, S1.drop (psh_sub _ _ _), ?_⟩
      cases h2 : evOr (cb :: cs) p.2 with
      | ok z => rw [h2] at h1; exact fun v G2 H2 s2 S2 a2 => h1 v G2 H2 (s1'.trans s2) S2 a2
      | exc _ _ => rw [h2] at h1; exact h1
      | stuck => rw [h2] at h1; exact h1
    | true =>
      simp only [hc, if_true] at h1 ⊢
      exact ⟨x, H1, I2, r1, h1 x G1 H1 s1' S1 a1⟩
theorem de_not (ha : DE X B W a (ev ca)) : DE X B W (.UnaryOp .Not a pos) (ev (.not ca)) := by
  refine ⟨fun pins s σ H Q I hw => ?_⟩
  obtain ⟨G, ρ, τ, S, hw⟩ := hw
  simp only [ev] at hw
  have hw : After X.K X.mg B W σ Q G τ ((ev ca ρ).bind fun p => (tru p).bind fun p => Out.ok (Res.val (D.bl (!p.1)), p.2)) := by
    cases h1 : ev ca ρ with
    | ok p => rw [h1] at hw; exact hw
    | exc _ _ => rw [h1] at hw; exact hw
    | stuck => rw [h1] at hw; exact hw
  refine UnaryOp_ (thn (ha.run pins s σ H (fun v H1 => ∃ G1 p k, Sm X.K X.mg B G1 p.2 σ H1 (psh p.1 v τ) ∧ Same G G1 ∧ ResAt X.K X.mg G1 σ (psh p.1 v τ) p.1 v ∧ tru p = .ok k ∧
    Q (.bl (!k.1)) H1) I (tE_bind S hw fun p v G1 H1 e1 s1 S1 a1 h1 => ?_)) fun v s1 ⟨x, H1, I1, r1, G1, p, k, S1, s1', a1, hk, h1⟩ => ?_)
  · cases hk : tru p with
    | ok k =>
      rw [hk] at h1
      obtain ⟨e2, _⟩ := tru_ok2 hk
      exact ⟨G1, p, k, S1, s1, a1, hk, h1.val s1 (by rw [e2]; exact S1) (psh_sub _ _ _) (by simp only [Rep])⟩
    | exc _ _ => exact (tru_noexc hk).elim
    | stuck => rw [hk] at h1; exact h1.elim
  · obtain ⟨_, d, hd, ht⟩ := tru_ok2 hk
    exact not_of (tru_at I1 r1 S1.fz (S1.view a1 hd) ht fun s2 I2 => ⟨.bl _, H1, I2, rfl, h1⟩)
theorem de_ite (hc : DT X B W c (evT cc)) (ha : DE X B W a (ev ca)) (hb : DE X B W b (ev cb)) : DE X B W (.IfExp c a b pos) (ev (.ite cc ca cb)) := by
  refine ⟨fun pins s σ H Q I hw => (pe_ifExp hc ha hb).run pins s σ H Q I ?_⟩
  obtain ⟨G, ρ, τ, S, hw⟩ := hw
  simp only [ev] at hw
  refine tT_bindE (f := evT cc) S hw fun p G1 H1 e1 s1 S1 h1 => ?_
  have up : ∀ {f : Env → Out (Res × Env)}, After X.K X.mg B W σ Q G τ (f p.2) → tE X.K X.mg B W f σ H1 Q := fun {f} h => by
    refine ⟨G1, p.2, τ, S1, ?_⟩
    cases h2 : f p.2 with
    | ok z => rw [h2] at h; exact fun v G2 H2 s2 S2 a2 => h v G2 H2 (s1.trans s2) S2 a2
    | exc _ _ => rw [h2] at h; exact h
    | stuck => rw [h2] at h; exact h
  cases hp : p.1 with
  | true => rw [if_pos rfl]; simp only [hp, if_true] at h1; exact up h1
  | false => rw [if_neg Bool.false_ne_true]; simp only [hp, Bool.false_eq_true, if_false] at h1; exact up h1

/-! ### lists of expressions -/
variable (K : PySem.W.Frag) (mg : Str → Option Value) in
def ResAts (G : Hp) (σ : L2.St) (τ : List (D × Addr)) : List Res → List V → Prop
  | [], vs => vs = []
  | r :: rs, vs => ∃ v s, vs = v :: s ∧ ResAt K mg G σ τ r v ∧ ResAts G σ τ rs s
theorem ResAts.mono {K : PySem.W.Frag} {mg : Str → Option Value} {G G' : Hp} {σ : L2.St} {τ τ' : List (D × Addr)} (s : Same G G') (hs : ∀ x ∈ τ, x ∈ τ') : ∀ {rs : List Res} {vs : List V}, ResAts K mg G σ τ rs vs → ResAts K mg G' σ τ' rs vs
  | [], _, h => h
  | r :: rs, _, ⟨v, t, e, h1, h2⟩ => ⟨v, t, e, h1.mono s hs, ResAts.mono s hs h2⟩
/-- what a single result adds -/
def pushd : Res → V → List (D × Addr)
  | .own d, .ref p => [(d, p)]
  | _, _ => []
/-- what several results add -/
def tmsOf : List Res → List V → List (D × Addr)
  | r :: rs, v :: vs => tmsOf rs vs ++ pushd r v
  | _, _ => []
def AfterL (K : PySem.W.Frag) (mg : Str → Option Value) (B : Bs) (W : WX) (σ : L2.St) (Q : List V → Hp → Prop) (G : Hp) (τ : List (D × Addr)) : Out (List Res × Env) → Prop
  | .ok p => ∀ vs G' H', Same G G' → Sm K mg B G' p.2 σ H' (tmsOf p.1 vs ++ τ) → ResAts K mg G' σ (tmsOf p.1 vs) p.1 vs → Q vs H'
  | .exc c q => ∀ cls d H', XIs mg c q cls d H' → XSm B H' → W cls d σ H'
  | .stuck => False
def tA (K : PySem.W.Frag) (mg : Str → Option Value) (B : Bs) (W : WX) (f : Env → Out (List Res × Env)) : TA := fun σ H Q => ∃ G ρ τ, Sm K mg B G ρ σ H τ ∧ AfterL K mg B W σ Q G τ (f ρ)
abbrev DA (X : Cx) (B : Bs) (W : WX) (es : List Expr) (f : Env → Out (List Res × Env)) : Prop := PA X es (tA X.K X.mg B W f)
theorem psh_eq (r : Res) (v : V) (τ : List (D × Addr)) : psh r v τ = pushd r v ++ τ := by
  cases r <;> cases v <;> rfl
theorem ResAt.local {K : PySem.W.Frag} {mg : Str → Option Value} {G : Hp} {σ : L2.St} {τ : List (D × Addr)} {r : Res} {v : V} (h : ResAt K mg G σ (psh r v τ) r v) : ResAt K mg G σ (pushd r v) r v := by
  cases r with
  | val d => exact h
  | slot i => exact h
  | own d => obtain ⟨p, rfl, _⟩ := h; exact ⟨p, rfl, List.mem_cons_self⟩
theorem da_nil : DA X B W [] (evs []) := by
  refine ⟨fun pos pins s σ H Q I hw => pa_nil.run pos pins s σ H Q I ?_⟩
  obtain ⟨G, ρ, τ, S, hw⟩ := hw
  simp only [evs] at hw
  exact hw [] G H (Same.refl _) S rfl
theorem da_cons {es : List Expr} (ha : DE X B W a (ev ca)) (hr : DA X B W es (evs cs)) (hs : starEach (a :: es) X.env = (false, eval a X.env) :: starEach es X.env) : DA X B W (a :: es) (evs (ca :: cs)) := by
  refine ⟨fun pos pins s σ H Q I hw => (pa_cons ha hr hs).run pos pins s σ H Q I ?_⟩
  obtain ⟨G, ρ, τ, S, hw⟩ := hw
  simp only [evs] at hw
  refine ⟨G, ρ, τ, S, ?_⟩
  cases h1 : ev ca ρ with
  | exc _ _ => rw [h1] at hw; exact hw
  | stuck => rw [h1] at hw; exact hw
  | ok p =>
    rw [h1] at hw
    simp only [Out.bind] at hw
    intro v G1 H1 s1 S1 a1
    refine ⟨G1, p.2, _, S1, ?_⟩
    cases h2 : evs cs p.2 with
    | exc _ _ => rw [h2] at hw; exact hw
    | stuck => rw [h2] at hw; exact hw
    | ok q =>
      rw [h2] at hw
      intro vs G2 H2 s2 S2 a2
      refine hw (v :: vs) G2 H2 (s1.trans s2) (by simp only [tmsOf]; rw [List.append_assoc, ← psh_eq]; exact S2) ⟨v, vs, rfl, ?_, ?_⟩
      · exact a1.local.mono s2 fun x hx => List.mem_append_right _ hx
      · exact a2.mono (Same.refl _) fun x hx => List.mem_append_left _ hx
end
end M
end
section
set_option linter.all false
set_option maxRecDepth 100000
set_option maxHeartbeats 1000000
/-! MEx3: things handed on, displays, built-ins, isinstance. -/
namespace M
open PySem L2 PyProof.Rows
section
variable {K : PySem.W.Frag} {mg : Str → Option Value} {B : Bs} {G G' H H' : Hp} {ρ ρ' : Env} {σ : L2.St} {τ tm : List (D × Addr)}
/-- one of the temporary things is frozen -/
theorem Sm.freezeM {d : D} {p : Addr} (S : Sm K mg B G ρ σ H (tm ++ τ)) (h : (d, p) ∈ tm) :
    ∃ G', Same G G' ∧ Sm K mg B G' ρ σ H (tm.filter (fun x => decide (x.2 ≠ p)) ++ τ) ∧ ∀ d', (d', p) ∈ tm → Rep K mg G' d' (.ref p) := by
  have hm : (d, p) ∈ tm ++ τ := List.mem_append_left _ h
  obtain ⟨g, c, h0⟩ := S.tmp _ hm
  have nd := S.ndT
  rw [List.map_append, List.nodup_append] at nd
  cases e : H p with
  | none => rw [show H (d, p).2 = H p from rfl, e] at c; exact absurd rfl c.ne
  | some o =>
    have g : G p = none := g
    refine ⟨upd G p o, ?_, ?_, fun d' h' => ?_⟩
    · have c' : Cell K mg G d (some o) := by rw [← e]; exact c
      exact (c'.rep g).2
    · refine (S.drop (List.filter_sublist.append (List.Sublist.refl _))).freezeG g (.inl e) (.inl h0) (fun i ho z => ?_) ?_
      · exact S.sepT i p ho z (List.mem_map.mpr ⟨_, hm, rfl⟩)
      · rw [List.map_append, List.mem_append]
        intro z
        rcases z with z | z
        · obtain ⟨x, hx, ex⟩ := List.mem_map.mp z
          have := (List.mem_filter.mp hx).2
          simp at this
          exact this ex
        · exact nd.2.2 p (List.mem_map.mpr ⟨_, h, rfl⟩) p z rfl
    · obtain ⟨_, c2, _⟩ := S.tmp (d', p) (List.mem_append_left _ h')
      have c' : Cell K mg G d' (some o) := by rw [← e]; exact c2
      exact (c'.rep g).1
/-- a result, or what it was frozen to -/
def RA (K : PySem.W.Frag) (mg : Str → Option Value) (G : Hp) (σ : L2.St) (tm : List (D × Addr)) : Res → V → Prop
  | .val d, v => Rep K mg G d v
  | .own d, v => ∃ p, v = .ref p ∧ ((d, p) ∈ tm ∨ Rep K mg G d (.ref p))
  | .slot i, v => σ[i]? = some (some v)
def RAs (K : PySem.W.Frag) (mg : Str → Option Value) (G : Hp) (σ : L2.St) (tm : List (D × Addr)) : List Res → List V → Prop
  | [], vs => vs = []
  | r :: rs, vs => ∃ v s, vs = v :: s ∧ RA K mg G σ tm r v ∧ RAs K mg G σ tm rs s
theorem ResAt.ra {r : Res} {v : V} (h : ResAt K mg G σ tm r v) : RA K mg G σ tm r v := by
  cases r with
  | val d => exact h
  | own d => obtain ⟨p, e, h⟩ := h; exact ⟨p, e, .inl h⟩
  | slot i => exact h
theorem ResAts.ra : ∀ {rs : List Res} {vs : List V}, ResAts K mg G σ tm rs vs → RAs K mg G σ tm rs vs
  | [], _, h => h
  | r :: rs, _, ⟨v, s, e, h1, h2⟩ => ⟨v, s, e, h1.ra, h2.ra⟩
theorem RA.mono {tm' : List (D × Addr)} (s : Same G G') (h' : ∀ d p, (d, p) ∈ tm → (d, p) ∈ tm' ∨ Rep K mg G' d (.ref p)) {r : Res} {v : V} (h : RA K mg G σ tm r v) : RA K mg G' σ tm' r v := by
  cases r with
  | val d => exact Rep.mono s d h
  | own d =>
    obtain ⟨p, e, h⟩ := h
    rcases h with h | h
    · exact ⟨p, e, h' d p h⟩
    · exact ⟨p, e, .inr (Rep.mono s d h)⟩
  | slot i => exact h
theorem RAs.mono {tm' : List (D × Addr)} (s : Same G G') (h' : ∀ d p, (d, p) ∈ tm → (d, p) ∈ tm' ∨ Rep K mg G' d (.ref p)) : ∀ {rs : List Res} {vs : List V}, RAs K mg G σ tm rs vs → RAs K mg G' σ tm' rs vs
  | [], _, h => h
  | r :: rs, _, ⟨v, t, e, h1, h2⟩ => ⟨v, t, e, h1.mono s h', RAs.mono s h' h2⟩
/-- a result is handed on -/
theorem Sm.fz1 (S : Sm K mg B G ρ σ H (tm ++ τ)) {r : Res} {v : V} {q : D × Env} (a : RA K mg G σ tm r v) (h : freeze ρ r = .ok q) :
    ∃ G' tm', Same G G' ∧ Sm K mg B G' q.2 σ H (tm' ++ τ) ∧ Rep K mg G' q.1 v ∧ ∀ d p, (d, p) ∈ tm → (d, p) ∈ tm' ∨ Rep K mg G' d (.ref p) := by
  cases r with
  | val d =>
    simp only [freeze] at h; cases h
    exact ⟨G, tm, Same.refl _, S, a, fun d p h => .inl h⟩
  | own d =>
    simp only [freeze] at h; cases h
    obtain ⟨p, rfl, a⟩ := a
    rcases a with a | a
    · obtain ⟨G', s, S', r⟩ := S.freezeM a
      refine ⟨G', _, s, S', r d a, fun d' p' h' => ?_⟩
      by_cases e : p' = p
      · subst e; exact .inr (r d' h')
      · exact .inl (List.mem_filter.mpr ⟨h', by simpa using e⟩)
    · exact ⟨G, tm, Same.refl _, S, a, fun d p h => .inl h⟩
  | slot i =>
    simp only [freeze] at h
    split at h
    · rename_i d e
      cases h
      obtain ⟨G', s, S', w, e1, r⟩ := S.freezeS e
      have a : σ[i]? = some (some v) := a
      rw [a] at e1; cases e1
      exact ⟨G', tm, s, S', r, fun d p h => .inl h⟩
    · rename_i d e
      cases h
      obtain ⟨w, e1, r⟩ := S.val i _ e
      have a : σ[i]? = some (some v) := a
      rw [a] at e1; cases e1
      exact ⟨G, tm, Same.refl _, S, r, fun d p h => .inl h⟩
    · cases h
theorem Sm.fzs : ∀ {rs : List Res} {vs : List V} {G : Hp} {ρ : Env} {tm : List (D × Addr)} {q : List D × Env}, Sm K mg B G ρ σ H (tm ++ τ) → RAs K mg G σ tm rs vs → freezes ρ rs = .ok q →
    ∃ G' tm', Same G G' ∧ Sm K mg B G' q.2 σ H (tm' ++ τ) ∧ RepL K mg G' q.1 vs
  | [], _, G, ρ, tm, q, S, a, h => by
    simp only [freezes] at h; cases h
    have a : _ = [] := a
    subst a
    exact ⟨G, tm, Same.refl _, S, RepL.nil⟩
  | r :: rs, _, G, ρ, tm, q, S, ⟨v, t, e, a1, a2⟩, h => by
    subst e
    simp only [freezes] at h
    obtain ⟨p, h1, h⟩ := bind_ok h
    obtain ⟨p2, h2, h⟩ := bind_ok h
    cases h
    obtain ⟨G1, tm1, s1, S1, r1, k1⟩ := S.fz1 a1 h1
    obtain ⟨G2, tm2, s2, S2, r2⟩ := Sm.fzs S1 (a2.mono s1 k1) h2
    exact ⟨G2, tm2, s1.trans s2, S2, RepL.cons (Rep.mono s2 _ r1) r2⟩
theorem freeze_noexc {r : Res} {c : Str} {q : D} (h : freeze ρ r = .exc c q) : False := by
  unfold freeze at h
  split at h
  · cases h
  · cases h
  · split at h <;> cases h
theorem freezes_noexc : ∀ {rs : List Res} {ρ : Env} {c : Str} {q : D}, freezes ρ rs = .exc c q → False
  | [], _, _, _, h => by simp only [freezes] at h; cases h
  | r :: rs, ρ, c, q, h => by
    simp only [freezes] at h
    cases h1 : freeze ρ r with
    | exc _ _ => exact freeze_noexc h1
    | stuck => rw [h1] at h; cases h
    | ok p =>
      rw [h1] at h
      cases h2 : freezes p.2 rs with
      | exc _ _ => exact freezes_noexc h2
      | stuck => have h : ((freezes p.2 rs).bind fun q => Out.ok (p.1 :: q.1, q.2)) = .exc c q := h; rw [h2] at h; cases h
      | ok p3 => have h : ((freezes p.2 rs).bind fun q => Out.ok (p.1 :: q.1, q.2)) = .exc c q := h; rw [h2] at h; cases h
end

section
variable {X : Cx} {B : Bs} {W : WX} {a b e c : Expr} {ca cb cc : CE} {pos : Pos} {es : List Expr} {cs : List CE}
theorem evs_length : ∀ {cs : List CE} {ρ : Env} {p : List Res × Env}, evs cs ρ = .ok p → p.1.length = cs.length
  | [], ρ, p, h => by simp only [evs] at h; cases h; rfl
  | c :: cs, ρ, p, h => by
    simp only [evs] at h
    obtain ⟨p1, _, h⟩ := bind_ok h
    obtain ⟨p2, h2, h⟩ := bind_ok h
    cases h
    simp [evs_length h2]
theorem ResAts.length {K : PySem.W.Frag} {mg : Str → Option Value} {G : Hp} {σ : L2.St} {tm : List (D × Addr)} : ∀ {rs : List Res} {vs : List V}, ResAts K mg G σ tm rs vs → vs.length = rs.length
  | [], _, h => by have h : _ = [] := h; subst h; rfl
  | r :: rs, _, ⟨v, s, e, _, h⟩ => by subst e; simp [h.length]
/-- the reading of a list of operands, ahead of a further step -/
theorem tA_bind {g : List Res × Env → Out (Res × Env)} {σ : L2.St} {H : Hp} {Q : VK} {R : List V → Hp → Prop}
    (hw : tE X.K X.mg B W (fun ρ => (evs cs ρ).bind g) σ H Q)
    (k : ∀ p vs G0 G H' tm τ, evs cs = evs cs → (∃ ρ, evs cs ρ = .ok p) → Same G0 G → Sm X.K X.mg B G p.2 σ H' (tm ++ τ) → ResAts X.K X.mg G σ tm p.1 vs → After X.K X.mg B W σ Q G0 τ (g p) → R vs H') :
    tA X.K X.mg B W (evs cs) σ H R := by
  obtain ⟨G, ρ, τ, S, hw⟩ := hw
  have hw : After X.K X.mg B W σ Q G τ ((evs cs ρ).bind g) := hw
  refine ⟨G, ρ, τ, S, ?_⟩
  cases h1 : evs cs ρ with
  | exc _ _ => rw [h1] at hw; exact hw
  | stuck => rw [h1] at hw; exact hw
  | ok p =>
    rw [h1] at hw
    exact fun vs G' H' s' S' a => k p vs G G' H' (tmsOf p.1 vs) τ rfl ⟨ρ, h1⟩ s' S' a hw
theorem after_freezes {p : List Res × Env} {f : List D → Res} {σ : L2.St} {H : Hp} {Q : VK} {G0 G : Hp} {tm τ : List (D × Addr)} {vs : List V} (s : Same G0 G) (S : Sm X.K X.mg B G p.2 σ H (tm ++ τ)) (a : ResAts X.K X.mg G σ tm p.1 vs)
    {g : List D × Env → Out (Res × Env)} (h : After X.K X.mg B W σ Q G0 τ ((freezes p.2 p.1).bind g)) :
    ∃ q G', Same G0 G' ∧ Sm X.K X.mg B G' q.2 σ H τ ∧ RepL X.K X.mg G' q.1 vs ∧ After X.K X.mg B W σ Q G0 τ (g q) := by
  cases h1 : freezes p.2 p.1 with
  | exc _ _ => exact (freezes_noexc h1).elim
  | stuck => rw [h1] at h; exact h.elim
  | ok q =>
    rw [h1] at h
    obtain ⟨G', tm', s', S', r⟩ := S.fzs a.ra h1
    exact ⟨q, G', s.trans s', S'.drop (List.sublist_append_right _ _), r, h⟩
theorem de_tup {x1} (hl : cs.length ≤ 1000) (ha : DA X B W es (evs cs)) : DE X B W (.Tuple es x1 pos) (ev (.tup cs)) := by
  refine ⟨fun pins s σ H Q I hw => (pe_tup ha).run pins s σ H Q I ?_⟩
  refine tA_bind (g := fun p => (freezes p.2 p.1).bind fun q => .ok (.val (.tup q.1), q.2)) (tE_ev (fun ρ => by simp only [ev]) hw) fun p vs G0 G H' tm τ _ ⟨ρ, hp⟩ s S a h => ?_
  obtain ⟨q, G1, s1, S1, r1, h⟩ := after_freezes (f := fun _ => .val .non) s S a h
  refine ⟨by rw [a.length, evs_length hp, sizeLine_eq]; omega, fun x hx => ?_⟩
  obtain ⟨G2, s2, S2, r2⟩ := S1.tup hx r1
  exact h.val (s1.trans s2) S2 (List.Sublist.refl _) r2
theorem de_lst (hl : cs.length ≤ 1000) (ha : DA X B W es (evs cs)) : DE X B W (.List es pos) (ev (.lst cs)) := by
  refine ⟨fun pins s σ H Q I hw => (pe_lst ha).run pins s σ H Q I ?_⟩
  refine tA_bind (g := fun p => (freezes p.2 p.1).bind fun q => .ok (.own (.lst q.1), q.2)) (tE_ev (fun ρ => by simp only [ev]) hw) fun p vs G0 G H' tm τ _ ⟨ρ, hp⟩ s S a h => ?_
  obtain ⟨q, G1, s1, S1, r1, h⟩ := after_freezes (f := fun _ => .val .non) s S a h
  refine ⟨by rw [a.length, evs_length hp, sizeLine_eq]; omega, fun x hx => ?_⟩
  exact h.own s1 (S1.new hx (d := .lst q.1) (o := .lst vs) r1) (List.Sublist.refl _)

/-! ### built-ins -/
theorem Sm.views {G H : Hp} {ρ : Env} {σ : L2.St} {τ : List (D × Addr)} (S : Sm X.K X.mg B G ρ σ H τ) : ∀ {rs : List Res} {vs : List V} {ds : List D}, ResAts X.K X.mg G σ τ rs vs → derefs ρ rs = some ds → Views X.K X.mg G H ds vs
  | [], _, ds, h, e => by
    simp only [derefs] at e; cases e
    exact h
  | r :: rs, _, ds, ⟨v, s, ev, h1, h2⟩, e => by
    simp only [derefs] at e
    cases q1 : deref ρ r with
    | none => rw [q1] at e; cases e
    | some d =>
      cases q2 : derefs ρ rs with
      | none => rw [q1, q2] at e; cases e
      | some ds' =>
        rw [q1, q2] at e; cases e
        exact ⟨v, s, ev, S.view h1 q1, S.views h2 q2⟩
theorem After.kL {f : List D → Option Res} {p : List Res × Env} {σ : L2.St} {Q : VK} {G0 : Hp} {τ0 : List (D × Addr)} (h : After X.K X.mg B W σ Q G0 τ0 (M.kL f p)) :
    ∃ ds r, derefs p.2 p.1 = some ds ∧ f ds = some r ∧ After X.K X.mg B W σ Q G0 τ0 (.ok (r, p.2)) := by
  unfold M.kL at h
  split at h
  · rename_i d h1
    split at h
    · rename_i r h3; exact ⟨d, r, h1, h3, h⟩
    · exact h.elim
  · exact h.elim
def bname : BI → Str
  | .len => "len" | .abs => "abs" | .int => "int" | .str => "str" | .sum => "sum" | .all => "all" | .any => "any" | .min => "min" | .max => "max" | .sorted => "sorted" | .list => "list" | .tuple => "tuple"
  | .divmod => "divmod" | .bool => "bool" | .set => "set" | .repr => "repr" | .dict => "dict" | .sortedRev => "" | .sortedSet => "" | .lenSet => ""
def bplain : BI → Bool
  | .sortedSet => false | .lenSet => false | .sortedRev => false
  | .set => false | .repr => false | .dict => false | .bool => false
  | _ => true
theorem de_bi {bi : BI} {p : Pos} (hu : X.A.units + 100 < cLine) (hc : X.calm = true) (hb : bplain bi = true) (hg : Gl X (bname bi)) (hm : X.mg (bname bi) = none) (ha : DA X B W (e :: es) (evs cs))
    (he : starEach (e :: es) X.env = (false, eval e X.env) :: starEach es X.env) (hpl : (backTo pos (starEach es X.env)).any (·.1) = false) :
    DE X B W (.Call (.Name (bname bi) p) (e :: es) [] pos) (ev (.bi bi cs)) := by
  have key : ∀ {σ : L2.St} {H : Hp} {Q : VK}, tE X.K X.mg B W (ev (.bi bi cs)) σ H Q → tCB (rBI X.K X.mg bi) (tA X.K X.mg B W (evs cs)) σ H Q := by
    intro σ H Q hw
    refine tA_bind (g := kL (biD bi)) (tE_ev (fun ρ => by simp only [ev]) hw) fun p vs G0 G H' tm τ _ ⟨ρ, hp⟩ s S a h => ?_
    obtain ⟨ds, r, h1, h2, h⟩ := h.kL
    exact ⟨B, G, p.2, σ, tm ++ τ, ds, r, S, S.views (a.mono (Same.refl _) fun x hx => List.mem_append_left _ hx) h1, h2, wants_of s (List.sublist_append_right _ _) h⟩
  refine ⟨fun pins s σ H Q I hw => ?_⟩
  have op := op_bi (X := X) hu hc bi (by intro z; subst z; simp [bplain] at hb) (by intro z; subst z; simp [bplain] at hb)
  cases bi <;> first
    | (simp [bplain] at hb; done)
    | exact (pe_callB (id := _) (p := p) op hg hm rfl ha (by decide) (by decide) he hpl).run pins s σ H Q I (key hw)
    | exact (pe_callTy (T := _) (p := p) op hg hm rfl ha (by decide) (by decide) he hpl).run pins s σ H Q I (key hw)
end
end M
end
section
set_option linter.all false
set_option maxRecDepth 100000
set_option maxHeartbeats 1000000
/-! MEx4: isinstance, slices, d.get, methods that change. -/
namespace M
open PySem L2 PyProof.Rows
section
variable {X : Cx} {B : Bs} {W : WX} {a b e c : Expr} {ca cb cc : CE} {pos : Pos} {es : List Expr} {cs : List CE}

/-! ### isinstance -/
def tyStr : TyN → String
  | .int => "int" | .bool => "bool" | .str => "str" | .list => "list" | .tuple => "tuple" | .dict => "dict" | .nonetype => "NoneType" | .cls _ => ""
theorem view_tyx {G H : Hp} {d : D} {v : V} {t : TyN} (h : View X.K X.mg G H d v) (ht : tyOf d = some t) : TyX X.K H v (.type (tyStr t)) := by
  cases d with
  | non => simp only [tyOf] at ht; cases ht; have h : v = .non := h; subst h; exact .base .non
  | bl b => simp only [tyOf] at ht; cases ht; have h : v = .bl b := h; subst h; exact .base (.bl _)
  | int b => simp only [tyOf] at ht; cases ht; have h : v = .int b := h; subst h; exact .base (.int _)
  | str b => simp only [tyOf] at ht; cases ht; obtain ⟨rfl, _⟩ := h; exact .base (.str _)
  | lst xs =>
    simp only [tyOf] at ht; cases ht
    obtain ⟨a, vs, rfl, hr, _⟩ := h
    rcases hr with hr | ⟨o, hr⟩
    · exact .base (.lst hr)
    · exact .base (.frz hr)
  | tup xs =>
    simp only [tyOf] at ht; cases ht
    obtain ⟨a, vs, rfl, hr, _⟩ := h
    rcases hr with hr | ⟨o, its, n, h1, h2, _⟩
    · rcases hr with hr | ⟨o, hr⟩
      · exact .base (.tup hr)
      · exact .fTuple hr
    · exact .kTuple h1 h2
  | dct xs =>
    simp only [tyOf] at ht; cases ht
    obtain ⟨a, vs, rfl, hr, _⟩ := h
    rcases hr with hr | ⟨o, hr⟩
    · exact .base (.dK hr)
    · exact .fDict hr
  | dctT xs => simp [tyOf] at ht
  | fn x => simp [tyOf] at ht
theorem kitB_all (t u : TyN) (hu : isClsN u = false) (ht : ∀ x, t ≠ .cls x) : kitB (tyStr t) (tyStr u) = some (tySub t u) := by
  cases u <;> (try (simp [isClsN] at hu; done)) <;> cases t <;> first
    | exact absurd rfl (ht _)
    | decide +kernel
theorem tyOf_cls {d : D} {t : TyN} (h : tyOf d = some t) : ∀ x, t ≠ .cls x := by
  intro x z; subst z
  cases d <;> simp [tyOf] at h
theorem de_isi {t : TyN} {p p2 : Pos} (hg : Gl X "isinstance") (hm : X.mg "isinstance" = none) (hg2 : Gl X (tyStr t)) (hm2 : X.mg (tyStr t) = none) (ht : isClsN t = false) (ha : DE X B W e (ev ca))
    (he : starEach [e, .Name (tyStr t) p2] X.env = (false, eval e X.env) :: starEach [.Name (tyStr t) p2] X.env)
    (he2 : starEach [.Name (tyStr t) p2] X.env = (false, eval (.Name (tyStr t) p2) X.env) :: starEach [] X.env)
    (hpl : (backTo pos (starEach [.Name (tyStr t) p2] X.env)).any (·.1) = false) :
    DE X B W (.Call (.Name "isinstance" p) [e, .Name (tyStr t) p2] [] pos) (ev (.isi ca [t])) := by
  have hty : PE X (.Name (tyStr t) p2) (tC (.ty (tyStr t))) := by
    cases t <;> first
      | (simp [isClsN] at ht; done)
      | exact pe_bltn hg2 hm2 rfl (rfl : RelV (.ty _) (.type _))
  have hA : PA X [e, .Name (tyStr t) p2] (tCons (tE X.K X.mg B W (ev ca)) (tCons (tC (.ty (tyStr t))) tNil)) := pa_cons ha (pa_cons hty pa_nil he2) he
  refine ⟨fun pins s σ H Q I hw => (pe_callB (id := "isinstance") (p := p) call_isi hg hm rfl hA (by decide) (by decide) he hpl).run pins s σ H Q I ?_⟩
  obtain ⟨G, ρ, τ, S, hw⟩ := hw
  simp only [ev] at hw
  refine tE_bind S hw fun p v G1 H1 e1 s1 S1 a1 h1 => ?_
  obtain ⟨d, r, h1', h2, h⟩ := h1.k1
  unfold isiD tyAny at h2
  cases hd : tyOf d with
  | none => simp [hd] at h2
  | some t' =>
    have ec : ([t].any isClsN) = false := by simp [ht]
    simp only [hd, ec, Bool.false_eq_true, if_false, Option.map_some, List.any_cons, List.any_nil, Bool.or_false] at h2
    cases h2
    refine ⟨v, .ty (tyStr t), _, _, tySub t' t, rfl, .ty _, view_tyx (S1.view a1 h1') hd, kit_ty (kitB_all t' t ht (tyOf_cls hd)), ?_⟩
    exact (wants_of s1 (psh_sub _ _ _) h).val S1 (by simp only [Rep])

/-! ### slices -/
/-- an option's reading -/
def AfterO (K : PySem.W.Frag) (mg : Str → Option Value) (B : Bs) (W : WX) (σ : L2.St) (Q : Option Int → Hp → Prop) (G : Hp) (τ : List (D × Addr)) : Out (Option Int × Env) → Prop
  | .ok p => ∀ G' H', Same G G' → Sm K mg B G' p.2 σ H' τ → Q p.1 H'
  | .exc c q => ∀ cls d H', XIs mg c q cls d H' → XSm B H' → W cls d σ H'
  | .stuck => False
def tO (K : PySem.W.Frag) (mg : Str → Option Value) (B : Bs) (W : WX) (f : Env → Out (Option Int × Env)) : TO := fun σ H Q => ∃ G ρ τ, Sm K mg B G ρ σ H τ ∧ AfterO K mg B W σ Q G τ (f ρ)
abbrev DO (X : Cx) (B : Bs) (W : WX) (e : Option Expr) (f : Env → Out (Option Int × Env)) : Prop := PO X e (tO X.K X.mg B W f)
theorem do_none : DO X B W none (evO none) := by
  refine ⟨fun pins s σ H Q I hw => po_none.run pins s σ H Q I ?_⟩
  obtain ⟨G, ρ, τ, S, hw⟩ := hw
  simp only [evO] at hw
  exact hw G H (Same.refl _) S
theorem do_some (ha : DE X B W a (ev ca)) : DO X B W (some a) (evO (some ca)) := by
  refine ⟨fun pins s σ H Q I hw => (po_some ha).run pins s σ H Q I ?_⟩
  obtain ⟨G, ρ, τ, S, hw⟩ := hw
  simp only [evO] at hw
  refine ⟨G, ρ, τ, S, ?_⟩
  cases h1 : ev ca ρ with
  | exc _ _ => rw [h1] at hw; exact hw
  | stuck => rw [h1] at hw; exact hw
  | ok p =>
    rw [h1] at hw
    simp only [Out.bind] at hw
    intro v G1 H1 s1 S1 a1
    split at hw
    · rename_i i hi
      have w := S1.view a1 hi
      exact ⟨i, w, hw G1 H1 s1 (S1.drop (psh_sub _ _ _))⟩
    · exact hw.elim
def rSlD (K : PySem.W.Frag) (mg : Str → Option Value) : V → Option Int → Option Int → Hp → VK → Prop := fun x lo hi H Q => ∃ B G ρ σ τ d r, Sm K mg B G ρ σ H τ ∧ View K mg G H d x ∧ slD d lo hi = some r ∧ Wants K mg B G ρ σ τ r Q
theorem sIx_eq (n d : Nat) (o : Option Int) : sIx n d o = HT.sIx n d o := by
  cases o <;> rfl
theorem RepL.cut {K : PySem.W.Frag} {mg : Str → Option Value} {G : Hp} {xs : List D} {vs : List V} (h : RepL K mg G xs vs) (lo hi : Option Int) : RepL K mg G (cut xs lo hi) (cutV vs lo hi) := by
  unfold M.cut cutV
  rw [sIx_eq, sIx_eq, h.length]
  exact (h.drop _).take _
theorem sl_all : SlR X (rSlD X.K X.mg) := by
  intro pins s σ H x v vl vu lo hi sl Q I rx hs pl pu h
  obtain ⟨B, G, ρ, σ', τ, d, r, S, w, hr, wt⟩ := h
  cases d with
  | lst xs =>
    simp only [slD] at hr; cases hr
    obtain ⟨a, vs, rfl, h1, h2⟩ := w
    exact sl_list pins s σ H _ v vl vu lo hi sl Q I rx hs pl pu ⟨a, vs, rfl, .inl h1, fun p hp => wt.new S hp (d := .lst _) (o := .lst _) (h2.cut lo hi)⟩
  | tup xs =>
    simp only [slD] at hr; cases hr
    obtain ⟨a, vs, rfl, h1, h2, h3⟩ := w
    refine sl_tupA pins s σ H _ v vl vu lo hi sl Q I rx hs pl pu ⟨a, vs, rfl, h1, fun hw => ?_, fun hw p hp => wt.tup S hp (h2.cut lo hi)⟩
    refine wt.val S ?_
    have e : M.cut xs lo hi = xs := by
      unfold M.cut
      rw [sIx_eq, sIx_eq, h2.length, hw.1, hw.2, ← h2.length]
      simp
    rw [e]
    simp only [Rep]
    exact ⟨a, vs, rfl, h3, h2⟩
  | str z =>
    simp only [slD] at hr; cases hr
    obtain ⟨rfl, f1, f2⟩ := w
    refine sl_str pins s σ H _ v vl vu lo hi sl Q I rx hs pl pu ⟨z, rfl, f2, wt.val S ?_⟩
    have e : cutS z lo hi = ⟨(M.cut z.cps.toList lo hi).toArray⟩ := by
      unfold cutS M.cut
      have hl : z.cps.toList.length = z.length := by simp [Str.length]
      rw [sIx_eq, sIx_eq, hl]
    simp only [Rep]
    rw [← e]
    refine ⟨rfl, ?_, Nat.le_trans (cutS_length z lo hi) f2⟩
    rw [e]
    exact strOk_sub f1 fun c hc => List.mem_of_mem_drop (List.mem_of_mem_take hc)
  | _ => simp [slD] at hr
theorem de_slice {lo hi : Option Expr} {cl ch : Option CE} {p2 : Pos} (ha : DE X B W a (ev ca)) (hl : DO X B W lo (evO cl)) (hh : DO X B W hi (evO ch)) : DE X B W (.Subscript a (.Slice lo hi none p2) pos) (ev (.sl ca cl ch)) := by
  refine ⟨fun pins s σ H Q I hw => (pe_slice sl_all ha hl hh).run pins s σ H Q I ?_⟩
  obtain ⟨G, ρ, τ, S, hw⟩ := hw
  simp only [ev] at hw
  refine tE_bind S hw fun p v G1 H1 e1 s1 S1 a1 h1 => ?_
  refine ⟨G1, p.2, _, S1, ?_⟩
  cases h2 : evO cl p.2 with
  | exc _ _ => rw [h2] at h1; exact h1
  | stuck => rw [h2] at h1; exact h1
  | ok q =>
    rw [h2] at h1
    have h1 : After X.K X.mg B W σ Q G τ ((evO ch q.2).bind fun r => k1 (fun d => slD d q.1 r.1) (p.1, r.2)) := h1
    intro G2 H2 s2 S2
    refine ⟨G2, q.2, _, S2, ?_⟩
    cases h3 : evO ch q.2 with
    | exc _ _ => rw [h3] at h1; exact h1
    | stuck => rw [h3] at h1; exact h1
    | ok r =>
      rw [h3] at h1
      have h1 : After X.K X.mg B W σ Q G τ (k1 (fun d => slD d q.1 r.1) (p.1, r.2)) := h1
      intro G3 H3 s3 S3
      obtain ⟨d, rr, h4, h5, h⟩ := h1.k1
      exact ⟨B, G3, r.2, σ, _, d, rr, S3, S3.view (a1.mono (s2.trans s3) fun x hx => hx) h4, h5, wants_of (s1.trans (s2.trans s3)) (psh_sub _ _ _) h⟩
/-- xs[::-1], a list -/
theorem de_rev {k : Nat} {p1 p2 p3 : Pos} (ha : DE X B W a (ev ca)) : DE X B W (.Subscript a (.Slice none none (some (.UnaryOp .USub (.Constant (.int 1) k p1) p2)) p3) pos) (ev (.rev ca)) := by
  refine ⟨fun pins s σ H Q I hw => (pe_revL ha).run pins s σ H Q I ?_⟩
  obtain ⟨G, ρ, τ, S, hw⟩ := hw
  simp only [ev] at hw
  refine tE_bind S hw fun p v G1 H1 e1 s1 S1 a1 h1 => ?_
  obtain ⟨d, rr, h4, h5, h⟩ := h1.k1
  cases d with
  | lst xs =>
    simp only [revD] at h5; cases h5
    obtain ⟨x, vs, rfl, h2, h3⟩ := S1.view a1 h4
    exact ⟨x, vs, rfl, .inl h2, fun q hq => (wants_of s1 (psh_sub _ _ _) h).new S1 hq (d := .lst _) (o := .lst _) h3.reverse⟩
  | _ => simp [revD] at h5
end
end M
end
section
set_option linter.all false
set_option maxRecDepth 100000
set_option maxHeartbeats 1000000
/-! MEx5: methods, dict displays. -/
namespace M
open PySem L2 PyProof.Rows
section
variable {X : Cx} {B : Bs} {W : WX} {a b e c o : Expr} {ca cb cc : CE} {pos : Pos} {es : List Expr} {cs : List CE}

/-! ### methods that change a list of one's own -/
theorem mt_extendR : MtM X "list.extend" (fun x vs H Q => ∃ l b xs zs, x = .ref l ∧ vs = [.ref b] ∧ H l = some (.lst xs) ∧ L2.Rd H b (.lst zs) ∧ xs.length + zs.length ≤ sizeLine ∧ Q .non (upd H l (.lst (xs ++ zs)))) := by
  intro pins s σ H x vs v us Q I rx rv h
  obtain ⟨l, b, xs, zs, rfl, rfl, hH, hB, hz, q⟩ := h
  cases rx
  obtain ⟨u, rfl, ru⟩ := rv.one
  cases ru
  obtain ⟨z, its, n, r, hl, e⟩ := I.lstM hH
  obtain ⟨z2, its2, n2, r2, hl2, e2⟩ := rdL I hB
  have hsz : its.toArray.size + its2.toArray.size ≤ sizeLine := by rw [List.size_toArray, List.size_toArray]; omega
  have hlong : ¬ (!its.toArray.isEmpty && Builtin.List.listTooLong (its.toArray.size + its2.toArray.size)) = true := by
    rw [notLongL hsz, Bool.and_false]
    exact Bool.false_ne_true
  refine call_meets PySem.F.slot_list_extend ⟨_, e, rfl⟩ PySem.F.entry_list_extend (PySem.F.args_list_extend_2 _ _)
    (AutoSeq1.list_extend_list_list_0 l its.toArray n b its2.toArray n2 hlong (by rw [List.size_toArray]; omega) (by omega)) ⟨e, e2, ?_⟩
  refine ⟨.non, _, I.lset (its' := its ++ its2) hH e (by simp) (r.append r2) ?_, rfl, q⟩
  rw [List.length_append]
  omega
def mname : MM → Str
  | .append => "append" | .pop => "pop" | .insert => "insert" | .extend => "extend" | .remove => "remove" | .update => "update" | .reverse => "reverse"
def mplain : MM → Bool
  | .append => true | .pop => true | .insert => true | .extend => true
  | _ => false
def mid : MM → String
  | .append => "list.append" | .pop => "list.pop" | .insert => "list.insert" | .extend => "list.extend" | _ => ""
/-- what such a method asks -/
def rMM (K : PySem.W.Frag) (mg : Str → Option Value) (m : MM) : V → List V → Hp → VK → Prop := fun x vs H Q => ∃ (B : Bs) (G : Hp) (ρ : Env) (σ : L2.St) (τ : List (D × Addr)) (i : Nat) (p : Addr) (d : D) (ds : List D) (d' : D) (r : Res), x = V.ref p ∧ Sm K mg B G ρ σ H τ ∧ RepL K mg G ds vs ∧ ρ[i]? = some (Slot.own d) ∧ σ[i]? = some (some (.ref p)) ∧
  mmD m d ds = some (d', r) ∧ ∀ v o, Cell K mg G d' (some o) → (∃ y, r = .val y ∧ Rep K mg G y v) → Q v (upd H p o)
theorem seqIndex_ixN {n : Nat} {i : Int} {k : Nat} (h : ixN n i = some k) : seqIndex? i n = some k := by
  unfold ixN at h
  unfold seqIndex?
  split at h
  · split at h
    · cases h
      simp_all
      omega
    · cases h
  · split at h
    · cases h
      simp_all
      omega
    · cases h
theorem mt_all (m : MM) (hm : mplain m = true) : MtM X (mid m) (rMM X.K X.mg m) := by
  intro pins s σ H x vs v us Q I rx rv h
  obtain ⟨B, G, ρ, σ', τ, i, p, d, ds, d', r, rfl, S, rl, ho, es, hd, q⟩ := h
  obtain ⟨p', e', g, c, hn⟩ := S.own i d ho
  rw [es] at e'; cases e'
  cases hp : H p with
  | none => rw [hp] at c; exact absurd rfl c.ne
  | some ob =>
  rw [hp] at c
  cases m <;> (try (simp [mplain] at hm; done)) <;> cases d <;> (try (simp [mmD] at hd; done))
  all_goals (rename_i xs; cases ob <;> (try exact (show False from c).elim); rename_i ws)
  · -- append
    cases ds with
    | nil => simp [mmD] at hd
    | cons y t =>
      cases t with
      | cons _ _ => simp [mmD] at hd
      | nil =>
        obtain ⟨w, rr, rfl, h1, h2⟩ := rl.inv
        have := h2.nilinv; subst this
        simp only [mmD] at hd
        split at hd
        · rename_i hl
          cases hd
          have hlen := RepL.length c
          refine mt_append pins s σ H _ _ v us Q I rx rv ⟨p, ws, w, rfl, rfl, hp, by rw [← hlen, sizeLine_eq]; exact hl, q _ _ ?_ ⟨_, rfl, by simp only [Rep]⟩⟩
          exact RepL.append c (RepL.cons h1 RepL.nil)
        · cases hd
  · -- pop
    cases ds with
    | nil =>
      have := rl.nilinv; subst this
      simp only [mmD] at hd
      split at hd
      · rename_i y hy
        cases hd
        have hlen := RepL.length c
        rw [List.getLast?_eq_getElem?] at hy
        obtain ⟨w, hw, rw'⟩ := RepL.get c hy
        rw [hlen] at hw
        refine mt_pop pins s σ H _ _ v us Q I rx rv ⟨p, ws, w, rfl, rfl, hp, hw, q _ _ ?_ ⟨_, rfl, rw'⟩⟩
        show RepL X.K X.mg G xs.dropLast ws.dropLast
        rw [List.dropLast_eq_take, List.dropLast_eq_take, hlen]
        exact RepL.take _ c
      · cases hd
    | cons y t =>
      cases t with
      | cons _ _ => cases y <;> simp [mmD] at hd
      | nil =>
        cases y <;> (try (simp [mmD] at hd; done))
        rename_i j
        obtain ⟨w, rr, rfl, h1, h2⟩ := rl.inv
        have := h2.nilinv; subst this
        have h1 : w = .int j := h1
        subst h1
        simp only [mmD] at hd
        split at hd
        · rename_i hj
          split at hd
          · rename_i k hk
            split at hd
            · rename_i y hy
              cases hd
              have hlen := RepL.length c
              obtain ⟨w, hw, rw'⟩ := RepL.get c hy
              refine mt_popAt pins s σ H _ _ v us Q I rx rv ⟨p, ws, j, k, w, rfl, rfl, hp, hj.1, hj.2, by rw [← hlen]; exact seqIndex_ixN hk, hw, q _ _ ?_ ⟨_, rfl, rw'⟩⟩
              exact RepL.eraseIdx k c
            · cases hd
          · cases hd
        · cases hd
  · -- insert
    cases ds with
    | nil => simp [mmD] at hd
    | cons y t =>
      cases y <;> (try (simp [mmD] at hd; done))
      rename_i j
      cases t with
      | nil => simp [mmD] at hd
      | cons y t =>
        cases t with
        | cons _ _ => simp [mmD] at hd
        | nil =>
          obtain ⟨w, rr, rfl, h1, h2⟩ := rl.inv
          have h1 : w = .int j := h1
          subst h1
          obtain ⟨w, rr, rfl, h1, h2⟩ := h2.inv
          have := h2.nilinv; subst this
          simp only [mmD] at hd
          split at hd
          · rename_i hj
            cases hd
            have hlen := RepL.length c
            refine mt_insert pins s σ H _ _ v us Q I rx rv ⟨p, ws, j, w, rfl, rfl, hp, by rw [← hlen, sizeLine_eq]; exact hj.1, hj.2.1, hj.2.2, q _ _ ?_ ⟨_, rfl, by simp only [Rep]⟩⟩
            exact RepL.append (RepL.append (RepL.take _ c) (RepL.cons h1 RepL.nil)) (RepL.drop _ c)
          · cases hd
  · -- extend
    cases ds with
    | nil => simp [mmD] at hd
    | cons y t =>
      cases y <;> (try (simp [mmD] at hd; done))
      rename_i ys
      cases t with
      | cons _ _ => simp [mmD] at hd
      | nil =>
        obtain ⟨w, rr, rfl, h1, h2⟩ := rl.inv
        have := h2.nilinv; subst this
        simp only [mmD] at hd
        split at hd
        · rename_i hj
          cases hd
          have hlen := RepL.length c
          obtain ⟨b, zs, rfl, hb, hz⟩ := Rep.view S.fz h1
          refine mt_extendR pins s σ H _ _ v us Q I rx rv ⟨p, b, ws, zs, rfl, rfl, hp, hb, by rw [← hlen, ← hz.length, sizeLine_eq]; exact hj, q _ _ ?_ ⟨_, rfl, by simp only [Rep]⟩⟩
          exact RepL.append c hz
        · cases hd
theorem freeze_slot {ρ : Env} {r : Res} {q : D × Env} (h : freeze ρ r = .ok q) (i : Nat) {d : D} (e : q.2[i]? = some (Slot.own d)) : ρ[i]? = some (Slot.own d) := by
  unfold freeze at h
  split at h
  · cases h; exact e
  · cases h; exact e
  · split at h
    · cases h
      rcases getset (l := ρ) _ e with ⟨_, z⟩ | ⟨_, z⟩
      · cases z
      · exact z
    · cases h; exact e
    · cases h
def pmpos (apos cpos : Pos) : Bool := apos.endLine == cpos.line
theorem de_mm {m : MM} {i : Nat} {x : Str} {apos cpos : Pos} (hmp : mplain m = true) (hv : PE X o (tVar i)) (ha : DA X B W (e :: es) (evs cs))
    (hbase : attributeBase o (mname m) X.env (eval o X.env) = eval o X.env)
    (hfew : ((backTo cpos (starEach (e :: es) X.env)).all (fun x => !x.1) && (backToKw cpos (keywordEach [] X.env)).all (fun x => x.1.isSome)
      && decide ((e :: es).length + ([] : List Keyword).length + (if ([] : List Keyword).isEmpty then 0 else 1) < 30)) = true)
    (hline : (apos.endLine == cpos.line) = true) (hs : starEach (e :: es) X.env = (false, eval e X.env) :: starEach es X.env) (hplain : (backTo cpos (starEach es X.env)).any (·.1) = false) :
    DE X B W (.Call (.Attribute o (mname m) apos) (e :: es) [] cpos) (ev (.mm m i cs)) := by
  have key : ∀ {σ : L2.St} {H : Hp} {Q : VK}, tE X.K X.mg B W (ev (.mm m i cs)) σ H Q → tBM X.K "list" (rMM X.K X.mg m) (tVar i) (tA X.K X.mg B W (evs cs)) σ H Q := by
    intro σ H Q hw
    obtain ⟨G, ρ, τ, S, hw⟩ := hw
    simp only [ev] at hw
    split at hw
    · rename_i ho
      unfold ownL at ho
      split at ho
      · rename_i xs hx
        obtain ⟨p, e1, g, c, hn⟩ := S.own i _ hx
        refine ⟨.ref p, e1, ?_, ?_⟩
        · obtain ⟨a, vs, e2, h2, _⟩ := c.view'
          cases e2
          exact .inl ⟨rfl, vs, .inl h2⟩
        · refine tA_bind (g := fun p => (freezes p.2 p.1).bind fun q => kMut m i q) ⟨G, ρ, τ, S, hw⟩ fun p' vs G0 G' H' tm τ' _ hp s S' a h => ?_
          obtain ⟨q, G1, s1, S1, r1, h⟩ := after_freezes (f := fun _ => .val .non) s S' a h
          unfold kMut at h
          split at h
          · rename_i d hd
            split at h
            · rename_i d' r hmd
              refine ⟨B, G1, q.2, σ, τ', i, p, d, q.1, d', r, rfl, S1, r1, hd, e1, hmd, fun v o c' hr => ?_⟩
              obtain ⟨y, rfl, ry⟩ := hr
              exact h.val s1 (S1.mut hd e1 c') (List.Sublist.refl _) ry
            · exact h.elim
          · exact h.elim
      · cases ho
    · exact hw.elim
  refine ⟨fun pins s σ H Q I hw => ?_⟩
  have mt := mt_all (X := X) m hmp
  cases m <;> first
    | (simp [mplain] at hmp; done)
    | exact (pe_bm PySem.F.plainAttrs_list PySem.F.slot_list_append PySem.F.type_list_append mt hv ha hbase hfew hline hs hplain).run pins s σ H Q I (key hw)
    | exact (pe_bm PySem.F.plainAttrs_list PySem.F.slot_list_pop PySem.F.type_list_pop mt hv ha hbase hfew hline hs hplain).run pins s σ H Q I (key hw)
    | exact (pe_bm PySem.F.plainAttrs_list PySem.F.slot_list_insert PySem.F.type_list_insert mt hv ha hbase hfew hline hs hplain).run pins s σ H Q I (key hw)
    | exact (pe_bm PySem.F.plainAttrs_list PySem.F.slot_list_extend PySem.F.type_list_extend mt hv ha hbase hfew hline hs hplain).run pins s σ H Q I (key hw)
/-- xs.pop() -/
theorem de_pop0 {i : Nat} {apos cpos : Pos} (hv : PE X o (tVar i)) (hbase : attributeBase o "pop" X.env (eval o X.env) = eval o X.env) (hline : (apos.endLine == cpos.line) = true) :
    DE X B W (.Call (.Attribute o "pop" apos) [] [] cpos) (ev (.mm .pop i [])) := by
  refine ⟨fun pins s σ H Q I hw => (pe_bm0 PySem.F.plainAttrs_list PySem.F.slot_list_pop PySem.F.type_list_pop (mt_all (X := X) .pop rfl) hv hbase hline).run pins s σ H Q I ?_⟩
  obtain ⟨G, ρ, τ, S, hw⟩ := hw
  simp only [ev] at hw
  split at hw
  · rename_i ho
    unfold ownL at ho
    split at ho
    · rename_i xs hx
      obtain ⟨p, e1, g, c, hn⟩ := S.own i _ hx
      refine ⟨.ref p, e1, ?_, ?_⟩
      · obtain ⟨a, vs, e2, h2, _⟩ := c.view'
        cases e2
        exact .inl ⟨rfl, vs, .inl h2⟩
      · simp only [evs, freezes, Out.bind] at hw
        unfold kMut at hw
        simp only [hx] at hw
        split at hw
        · rename_i d' r hmd
          refine ⟨B, G, ρ, σ, τ, i, p, _, [], d', r, rfl, S, RepL.nil, hx, e1, hmd, fun v o c' hr => ?_⟩
          obtain ⟨y, rfl, ry⟩ := hr
          exact hw.val (Same.refl _) (S.mut hx e1 c') (List.Sublist.refl _) ry
        · exact hw.elim
    · cases ho
  · exact hw.elim
end
end M
end
section
set_option linter.all false
set_option maxRecDepth 100000
set_option maxHeartbeats 1000000
/-! MEx6: d.get, dict displays, list(range(..)). -/
namespace M
open PySem L2 PyProof.Rows
section
variable {X : Cx} {B : Bs} {W : WX} {a b e c o f : Expr} {ca cb cc : CE} {pos : Pos} {es : List Expr} {cs : List CE}
theorem view_isD {G H : Hp} {kvs : List (Key × D)} {v : V} (w : View X.K X.mg G H (.dct kvs) v) : ∃ a, v = .ref a ∧ IsD H a := by
  obtain ⟨a, vs, rfl, h, _⟩ := w
  exact ⟨a, rfl, .inl ⟨vs, h⟩⟩
theorem key_kV {G H : Hp} {d : D} {v : V} {k : Key} (hk : d.key? = some k) (w : View X.K X.mg G H d v) : v = kV k ∧ KeyFit k := by
  cases d <;> simp only [D.key?] at hk <;> cases hk
  · exact ⟨w, trivial⟩
  · exact ⟨w.1, w.2⟩
theorem get_dget {G H : Hp} {kvs : List (Key × D)} {v y : V} {d : D} {k : Key} (w : View X.K X.mg G H (.dct kvs) v) (hk : d.key? = some k) (wy : View X.K X.mg G H d y) :
    ∃ a o, v = .ref a ∧ DGet H a y o ∧ match findK kvs k, o with
      | some d, some v => Rep X.K X.mg G d v
      | none, none => True
      | _, _ => False := by
  obtain ⟨a, vs, rfl, h, r⟩ := w
  obtain ⟨rfl, _⟩ := key_kV hk wy
  exact ⟨a, _, rfl, .inl ⟨vs, k, h, rfl, rfl⟩, r.find⟩
theorem isDct_some {o : Option D} (h : isDct o = true) : ∃ kvs, o = some (.dct kvs) := by
  unfold isDct at h
  split at h
  · exact ⟨_, rfl⟩
  · cases h
theorem de_get1 {apos cpos : Pos} (hu : X.A.units + 100 < cLine) (ho : DE X B W o (ev ca)) (he : DE X B W e (ev cb)) (m : M1 X o "get" apos e cpos) : DE X B W (.Call (.Attribute o "get" apos) [e] [] cpos) (ev (.get1 ca cb)) := by
  refine ⟨fun pins s σ H Q I hw => (pe_dget1 (by omega) ho he m).run pins s σ H Q I ?_⟩
  obtain ⟨G, ρ, τ, S, hw⟩ := hw
  simp only [ev] at hw
  refine tE_bind S hw fun p v G1 H1 e1 s1 S1 a1 h1 => ?_
  split at h1
  · rename_i hd
    obtain ⟨kvs0, hd⟩ := isDct_some hd
    obtain ⟨a, rfl, dd⟩ := view_isD (S1.view a1 hd)
    refine ⟨a, rfl, dd, ?_⟩
    refine tE_bind S1 h1 fun q u G2 H2 e2 s2 S2 a2 h2 => ?_
    obtain ⟨d, k, r, h3, h4, h5, h⟩ := h2.k2
    cases d <;> simp only [getD1] at h5 <;> (try (cases h5; done))
    rename_i kvs
    rw [Option.map_eq_some_iff] at h5
    obtain ⟨key, hk, rfl⟩ := h5
    obtain ⟨a', o', e', g, r⟩ := get_dget (S2.view (a1.mono s2 fun x hx => psh_mem _ _ hx) h3) hk (S2.view a2 h4)
    cases e'
    refine ⟨o', g, (wants_of (s1.trans s2) (sub_psh (psh_sub _ _ _)) h).val S2 ?_⟩
    cases h6 : findK kvs key with
    | none =>
      rw [h6] at r
      cases o' with
      | none => simp only [Option.getD_none, Rep]
      | some _ => exact r.elim
    | some z =>
      rw [h6] at r
      cases o' with
      | none => exact r.elim
      | some _ => simpa only [Option.getD_some] using r
  · exact h1.elim
theorem de_get2 {apos cpos : Pos} (hu : X.A.units + 100 < cLine) (ho : DE X B W o (ev ca)) (he : DE X B W e (ev cb)) (hf : DE X B W f (ev cc)) (m : M2 X o "get" apos e f cpos) : DE X B W (.Call (.Attribute o "get" apos) [e, f] [] cpos) (ev (.get2 ca cb cc)) := by
  refine ⟨fun pins s σ H Q I hw => (pe_dget2 (by omega) ho he hf m).run pins s σ H Q I ?_⟩
  obtain ⟨G, ρ, τ, S, hw⟩ := hw
  simp only [ev] at hw
  refine tE_bind S hw fun p v G1 H1 e1 s1 S1 a1 h1 => ?_
  split at h1
  · rename_i hd
    obtain ⟨kvs0, hd⟩ := isDct_some hd
    obtain ⟨a, rfl, dd⟩ := view_isD (S1.view a1 hd)
    refine ⟨a, rfl, dd, ?_⟩
    refine tE_bind S1 h1 fun q u G2 H2 e2 s2 S2 a2 h2 => ?_
    refine tE_bind S2 h2 fun w z G3 H3 e3 s3 S3 a3 h3 => ?_
    cases h4 : freeze w.2 w.1 with
    | exc _ _ => exact (freeze_noexc h4).elim
    | stuck => rw [h4] at h3; exact h3.elim
    | ok zz =>
      rw [h4] at h3
      obtain ⟨G4, tm', s4, S4, rz, k4⟩ := Sm.fz1 (tm := pushd w.1 z) (by rw [← psh_eq]; exact S3) a3.local.ra h4
      have S4 : Sm X.K X.mg B G4 zz.2 σ H3 (psh q.1 u (psh p.1 (.ref a) τ)) := S4.drop (List.sublist_append_right _ _)
      have s34 := s3.trans s4
      obtain ⟨d, k, r, h3, h4, h5, h⟩ := (show After X.K X.mg B W σ Q G τ (k2 (getD2 zz.1) p (q.1, zz.2)) from h3).k2
      cases d <;> simp only [getD2] at h5 <;> (try (cases h5; done))
      rename_i kvs
      rw [Option.map_eq_some_iff] at h5
      obtain ⟨key, hk, rfl⟩ := h5
      obtain ⟨a', o', e', g, r⟩ := get_dget (S4.view (a1.mono (s2.trans s34) fun x hx => psh_mem _ _ hx) h3) hk (S4.view (a2.mono s34 fun x hx => hx) h4)
      cases e'
      refine ⟨o', g, (wants_of (s1.trans (s2.trans s34)) (sub_psh (psh_sub _ _ _)) h).val S4 ?_⟩
      cases h6 : findK kvs key with
      | none =>
        rw [h6] at r
        cases o' with
        | none => exact rz
        | some _ => exact r.elim
      | some z =>
        rw [h6] at r
        cases o' with
        | none => exact r.elim
        | some _ => simpa only [Option.getD_some] using r
  · exact h1.elim

/-! ### dict displays -/
/-- the pairs -/
inductive DP (X : Cx) (B : Bs) (W : WX) (pos : Pos) : List (Option Expr) → List Expr → List CE → Prop where
  | nil : DP X B W pos [] [] []
  | cons {k v : Expr} {ks vs ck cv cs} (hk : DE X B W k (ev ck)) (hv : DE X B W v (ev cv)) (hr : DP X B W pos ks vs cs) : DP X B W pos (some k :: ks) (v :: vs) (ck :: cv :: cs)
def dpT (K : PySem.W.Frag) (mg : Str → Option Value) (B : Bs) (W : WX) : List CE → List (TE × TE)
  | ck :: cv :: r => (tE K mg B W (ev ck), tE K mg B W (ev cv)) :: dpT K mg B W r
  | _ => []
theorem DP.pps {ks : List (Option Expr)} {vs : List Expr} {cs : List CE} (h : DP X B W pos ks vs cs) : PPs X pos ks vs (dpT X.K X.mg B W cs) := by
  induction h with
  | nil => exact pps_nil
  | cons hk hv _ ih => exact pps_cons hk hv ih
theorem DP.len {ks : List (Option Expr)} {vs : List Expr} {cs : List CE} (h : DP X B W pos ks vs cs) : ks.length = vs.length ∧ ks.all (·.isSome) = true ∧ cs.length = 2 * ks.length := by
  induction h with
  | nil => exact ⟨rfl, rfl, rfl⟩
  | cons _ _ _ ih => exact ⟨by simp [ih.1], by simp [ih.2.1], by simp only [List.length_cons]; omega⟩
theorem mergeK_snoc (kvs more : List (L2.Key × V)) : mergeK kvs more = more.foldl (fun acc kv => L2.putK acc kv.1 kv.2) kvs := rfl
theorem After.fz1 {σ : L2.St} {H : Hp} {Q : VK} {G0 G1 : Hp} {τ τ' : List (D × Addr)} {r : Res × Env} {v : V} (S : Sm X.K X.mg B G1 r.2 σ H (psh r.1 v τ')) (a : ResAt X.K X.mg G1 σ (psh r.1 v τ') r.1 v)
    {g : D × Env → Out (Res × Env)} (h : After X.K X.mg B W σ Q G0 τ ((freeze r.2 r.1).bind g)) :
    ∃ q G2, freeze r.2 r.1 = .ok q ∧ Same G1 G2 ∧ Sm X.K X.mg B G2 q.2 σ H τ' ∧ Rep X.K X.mg G2 q.1 v ∧ After X.K X.mg B W σ Q G0 τ (g q) := by
  cases h4 : freeze r.2 r.1 with
  | exc _ _ => exact (freeze_noexc h4).elim
  | stuck => rw [h4] at h; exact h.elim
  | ok q =>
    rw [h4] at h
    obtain ⟨G4, tm', s4, S4, rz, k4⟩ := Sm.fz1 (tm := pushd r.1 v) (by rw [← psh_eq]; exact S) a.local.ra h4
    exact ⟨q, G4, rfl, s4, S4.drop (List.sublist_append_right _ _), rz, h⟩
theorem Rep.key {G : Hp} {d : D} {v : V} {k : Key} (hk : d.key? = some k) (w : Rep X.K X.mg G d v) : v = kV k ∧ KeyFit k := by
  cases d <;> simp only [D.key?] at hk <;> cases hk
  · simp only [Rep] at w; exact ⟨w, trivial⟩
  · simp only [Rep] at w; exact ⟨w.1, w.2⟩
theorem bind_bind {α β γ : Type} (x : Out α) (f : α → Out β) (g : β → Out γ) : (x.bind f).bind g = x.bind fun a => (f a).bind g := by
  cases x <;> rfl
/-- the walk of the pairs; pv: what has been met -/
theorem kv_walk {σ : L2.St} {Q : VK} {G0 : Hp} {τ : List (D × Addr)} {p : Addr} {g : List (Key × D) × Env → Out (Res × Env)} {R : List (V × V) → Hp → Prop} :
    ∀ {cs : List CE} {acc : List (Key × D)} {pv : List (L2.Key × V)} {G : Hp} {ρ : Env} {H : Hp}, Same G0 G → Sm X.K X.mg B G ρ σ H ((.dct [], p) :: τ) → RepK X.K X.mg G acc (mergeK [] pv) →
      After X.K X.mg B W σ Q G0 τ ((evKV cs acc ρ).bind g) →
      (∀ acc' pv' G' H' ρ', Same G0 G' → Sm X.K X.mg B G' ρ' σ H' ((.dct [], p) :: τ) → RepK X.K X.mg G' acc' (mergeK [] (pv ++ pv')) → pv'.length * 2 = cs.length → After X.K X.mg B W σ Q G0 τ (g (acc', ρ')) → R (pv'.map fun kv => (kV kv.1, kv.2)) H') →
      tPairs (dpT X.K X.mg B W cs) σ H R
  | [], acc, pv, G, ρ, H, s, S, r, h, k => by
    simp only [evKV] at h
    exact k acc [] G H ρ s S (by rw [List.append_nil]; exact r) rfl h
  | [_], acc, pv, G, ρ, H, s, S, r, h, k => by
    simp only [evKV] at h
    exact h.elim
  | ck :: cv :: cs, acc, pv, G, ρ, H, s, S, r, h, k => by
    simp only [evKV, bind_bind] at h
    refine tE_bind S h fun p1 v1 G1 H1 e1 s1 S1 a1 h1 => ?_
    obtain ⟨q1, G2, _, s2, S2, r2, h2⟩ := After.fz1 S1 a1 h1
    refine tE_bind S2 h2 fun p3 v3 G3 H3 e3 s3 S3 a3 h3 => ?_
    obtain ⟨q3, G4, _, s4, S4, r4, h4⟩ := After.fz1 S3 a3 h3
    split at h4
    · rename_i key hk
      obtain ⟨rfl, kf⟩ := Rep.key hk r2
      have s04 := ((s1.trans s2).trans s3).trans s4
      refine kv_walk (pv := pv ++ [(key, v3)]) (s.trans s04) S4 ?_ h4 fun acc' pv' G' H' ρ' s' S' r' hl h' => ?_
      · have : mergeK [] (pv ++ [(key, v3)]) = L2.putK (mergeK [] pv) key v3 := by simp [mergeK, List.foldl_append]
        rw [this]
        exact RepK.put kf r4 (RepK.mono s04 _ r)
      · refine k acc' ((key, v3) :: pv') G' H' ρ' s' S' (by simpa using r') (by simp only [List.length_cons]; omega) h'
    · exact h4.elim
theorem de_dct {ks : List (Option Expr)} {vs : List Expr} (h : DP X B W pos ks vs cs) (h0 : cs ≠ []) (h15 : cs.length ≤ 30) : DE X B W (.Dict ks vs pos) (ev (.dct cs)) := by
  obtain ⟨l1, l2, l3⟩ := h.len
  have k0 : ks ≠ [] := by intro z; subst z; simp at l3; exact h0 l3
  refine ⟨fun pins s σ H Q I hw => (pe_disp h.pps l2 l1 k0 (by omega)).run pins s σ H Q I ?_⟩
  intro p hp
  obtain ⟨G, ρ, τ, S, hw⟩ := hw
  simp only [ev] at hw
  refine kv_walk (pv := []) (g := fun p => .ok (.own (.dct p.1), p.2)) (Same.refl _) (S.new hp (d := .dct []) (o := .dK []) (RepK.nil (K := X.K) (mg := X.mg) (G := G))) RepK.nil hw fun acc pv G' H' ρ' s' S' r' hl h' => ?_
  have c := (S'.tmp _ List.mem_cons_self).2.1
  have e : H' p = some (.dK []) := by
    have c : Cell X.K X.mg G' (.dct []) (H' p) := c
    cases q : H' p with
    | none => rw [q] at c; exact absurd rfl c.ne
    | some o =>
      rw [q] at c
      cases o with
      | dK ws => have c : RepK X.K X.mg G' [] ws := c; rw [c.nilinv]
      | _ => exact (show False from c).elim
  refine ⟨e, pv, rfl, by omega, ?_⟩
  exact h'.own s' (S'.mutT (d' := .dct acc) (o := .dK (mergeK [] pv)) (show RepK X.K X.mg G' acc (mergeK [] pv) from by simpa using r')) (List.Sublist.refl _)
theorem de_dct0 : DE X B W (.Dict [] [] pos) (ev (.dct [])) := by
  refine ⟨fun pins s σ H Q I hw => pe_dnewK.run pins s σ H Q I ?_⟩
  obtain ⟨G, ρ, τ, S, hw⟩ := hw
  simp only [ev, evKV, Out.bind] at hw
  exact fun p hp => hw.own (Same.refl _) (S.new hp (d := .dct []) (o := .dK []) (RepK.nil (K := X.K) (mg := X.mg) (G := G))) (List.Sublist.refl _)
end
end M
end
section
set_option linter.all false
set_option maxRecDepth 100000
set_option maxHeartbeats 1000000
/-! MIt: slots stored, targets, things walked. -/
namespace M
open PySem L2 PyProof.Rows
def Bs.lk (B : Bs) (l : List (Nat × D × Addr)) : Bs := { B with L := l }
section
variable {K : PySem.W.Frag} {mg : Str → Option Value} {B : Bs} {G G' H H' : Hp} {ρ ρ' : Env} {σ : L2.St} {τ tm : List (D × Addr)}
theorem put_ok {i : Nat} {s : Slot} (h : put ρ i s = .ok ρ') : NoLk ρ i ∧ ρ' = List.set ρ i s ∧ i < ρ.length := by
  unfold put at h
  split at h
  · cases h
  · rename_i x hn hx
    cases h
    refine ⟨fun d z => ?_, rfl, (List.getElem?_eq_some_iff.mp hx).1⟩
    rw [hx] at z
    cases z
    exact hn d rfl
  · cases h
theorem put_noexc {i : Nat} {s : Slot} {c : Str} {q : D} (h : put ρ i s = .exc c q) : False := by
  unfold put at h
  split at h <;> cases h
/-- a result is stored -/
theorem Sm.res {r : Res} {v : V} (S : Sm K mg B G ρ σ H (psh r v τ)) {i : Nat} (hi : B.nin ≤ i) (a : ResAt K mg G σ (psh r v τ) r v) (h : setRes ρ i r = .ok ρ') :
    ∃ G', Same G G' ∧ Sm K mg B G' ρ' (List.set σ i (some v)) H τ := by
  cases r with
  | val d =>
    simp only [setRes] at h
    obtain ⟨n, rfl, _⟩ := put_ok h
    exact ⟨G, Same.refl _, Sm.setV S hi n a⟩
  | own d =>
    simp only [setRes] at h
    obtain ⟨n, rfl, _⟩ := put_ok h
    obtain ⟨p, rfl, _⟩ := a
    exact ⟨G, Same.refl _, Sm.setO S hi n⟩
  | slot j =>
    have a : σ[j]? = some (some v) := a
    simp only [setRes] at h
    split at h
    · rename_i d hd
      obtain ⟨G1, s1, S1, w, e1, r1⟩ := S.freezeS hd
      rw [a] at e1; cases e1
      obtain ⟨n, rfl, _⟩ := put_ok h
      exact ⟨G1, s1, Sm.setV S1 hi n r1⟩
    · rename_i d hd
      obtain ⟨w, e1, r1⟩ := S.val j d hd
      rw [a] at e1; cases e1
      obtain ⟨n, rfl, _⟩ := put_ok h
      exact ⟨G, Same.refl _, Sm.setV S hi n r1⟩
    · cases h
theorem setRes_noexc {i : Nat} {r : Res} {c : Str} {q : D} (h : setRes ρ i r = .exc c q) : False := by
  unfold setRes at h
  split at h
  · exact put_noexc h
  · exact put_noexc h
  · split at h
    · exact put_noexc h
    · exact put_noexc h
    · cases h
mutual
theorem setT_noexc : ∀ {t : CT} {d : D} {ρ : Env} {c : Str} {q : D}, setT t d ρ = .exc c q → False
  | .n i, d, ρ, c, q, h => by simp only [setT] at h; exact put_noexc h
  | .tup ts, d, ρ, c, q, h => by
    cases d <;> simp only [setT] at h <;> (try (cases h; done))
    exact setTs_noexc h
theorem setTs_noexc : ∀ {ts : List CT} {ds : List D} {ρ : Env} {c : Str} {q : D}, setTs ts ds ρ = .exc c q → False
  | [], ds, ρ, c, q, h => by cases ds <;> simp only [setTs] at h <;> cases h
  | t :: ts, ds, ρ, c, q, h => by
    cases ds with
    | nil => simp only [setTs] at h; cases h
    | cons d ds =>
      simp only [setTs] at h
      cases h1 : setT t d ρ with
      | exc _ _ => exact setT_noexc h1
      | stuck => rw [h1] at h; cases h
      | ok p => rw [h1] at h; exact setTs_noexc h
end

/-! ### a list that is walked -/
/-- a slot of one's own is locked for a walk -/
theorem Sm.lockL {i : Nat} {d : D} {p : Addr} (S : Sm K mg B G ρ σ H τ) (h : ρ[i]? = some (Slot.own d)) (e : σ[i]? = some (some (.ref p))) : Sm K mg (B.lk ((i, d, p) :: B.L)) G (List.set ρ i (.lck d)) σ H τ := by
  have oi : isOwn ρ i := .inl ⟨d, h⟩
  have ho : ∀ j, isOwn (List.set ρ i (Slot.lck d)) j → isOwn ρ j := fun j q => by
    rcases own_at q with rfl | ⟨_, z⟩
    · exact oi
    · exact z
  have hi : i < ρ.length := (List.getElem?_eq_some_iff.mp h).1
  have hn : NoLk ρ i := fun d1 z => by rw [h] at z; cases z
  exact { S with
    len := by simpa using S.len
    val := fun j d1 q => by
      rcases getset (l := ρ) _ q with ⟨_, z⟩ | ⟨n, z⟩
      · cases z
      · exact S.val j d1 z
    own := fun j d1 q => by
      rcases getset (l := ρ) _ q with ⟨_, z⟩ | ⟨n, z⟩
      · cases z
      · exact S.own j d1 z
    lck := fun j d1 q => by
      rcases getset (l := ρ) _ q with ⟨rfl, z⟩ | ⟨n, z⟩
      · cases z
        obtain ⟨p, e1, e2, e3, e4⟩ := S.own j d h
        exact ⟨p, e1, e2, by rw [e3.unfD]; exact e3, e4⟩
      · exact S.lck j d1 z
    sepS := fun a b q ne x y => S.sepS a b q ne (ho a x) (ho b y)
    sepT := fun a q x => S.sepT a q (ho a x)
    lk0 := fun x hx => by
      rcases List.mem_cons.mp hx with rfl | hx
      · exact ⟨setself hi, e⟩
      · exact ⟨by rw [setne (S.nlk hn x hx)]; exact (S.lk0 x hx).1, (S.lk0 x hx).2⟩
    lkc := fun j d1 q => by
      rcases getset (l := ρ) _ q with ⟨rfl, z⟩ | ⟨n, z⟩
      · cases z; exact ⟨p, List.mem_cons_self⟩
      · obtain ⟨p1, h1⟩ := S.lkc j d1 z
        exact ⟨p1, List.mem_cons_of_mem _ h1⟩
    fx := fun x hx => ⟨(S.fx x hx).1, (S.fx x hx).2.imp id fun ⟨k, d1, z⟩ => ⟨k, d1, List.mem_cons_of_mem _ z⟩⟩ }
/-- and is own again -/
theorem Sm.unlockL {i : Nat} {d : D} {p : Addr} (S : Sm K mg (B.lk ((i, d, p) :: B.L)) G ρ σ H τ) (hd : ∃ xs, d = .lst xs) (hn : ∀ x ∈ B.L, x.1 ≠ i) : Sm K mg B G (List.set ρ i (.own d)) σ H τ := by
  obtain ⟨h, e⟩ := S.lk0 (i, d, p) List.mem_cons_self
  have h : ρ[i]? = some (.lck d) := h
  have e : σ[i]? = some (some (.ref p)) := e
  obtain ⟨p', e1, g, c, hb⟩ := S.lck i d h
  rw [e] at e1; cases e1
  have hi : i < ρ.length := (List.getElem?_eq_some_iff.mp h).1
  obtain ⟨xs, rfl⟩ := hd
  have c' : Cell K mg G (.lst xs) (H p) := c
  have oi : isOwn ρ i := .inr ⟨_, h⟩
  have ho : ∀ j, isOwn (List.set ρ i (Slot.own (.lst xs))) j → isOwn ρ j := fun j q => by
    rcases own_at q with rfl | ⟨_, z⟩
    · exact oi
    · exact z
  exact { S with
    len := by simpa using S.len
    val := fun j d1 q => by
      rcases getset (l := ρ) _ q with ⟨_, z⟩ | ⟨n, z⟩
      · cases z
      · exact S.val j d1 z
    own := fun j d1 q => by
      rcases getset (l := ρ) _ q with ⟨rfl, z⟩ | ⟨n, z⟩
      · cases z; exact ⟨p, e, g, c', hb⟩
      · exact S.own j d1 z
    lck := fun j d1 q => by
      rcases getset (l := ρ) _ q with ⟨_, z⟩ | ⟨n, z⟩
      · cases z
      · exact S.lck j d1 z
    sepS := fun a b q ne x y => S.sepS a b q ne (ho a x) (ho b y)
    sepT := fun a q x => S.sepT a q (ho a x)
    lk0 := fun x hx => ⟨by rw [setne (hn x hx)]; exact (S.lk0 x (List.mem_cons_of_mem _ hx)).1, (S.lk0 x (List.mem_cons_of_mem _ hx)).2⟩
    lkc := fun j d1 q => by
      rcases getset (l := ρ) _ q with ⟨_, z⟩ | ⟨n, z⟩
      · cases z
      · obtain ⟨p1, h1⟩ := S.lkc j d1 z
        rcases List.mem_cons.mp h1 with z2 | z2
        · cases z2; exact absurd rfl n
        · exact ⟨p1, z2⟩
    fx := fun x hx => ⟨(S.fx x hx).1, (S.fx x hx).2.imp id fun ⟨k, d1, z⟩ => by
      rcases List.mem_cons.mp z with z2 | z2
      · cases z2
        have := (S.fx x hx).1
        rw [this] at c'; exact (show False from c').elim
      · exact ⟨k, d1, z2⟩⟩ }
end

/-! ### targets -/
mutual
def slotsT : CT → List Nat
  | .n i => [i]
  | .tup ts => slotsTs ts
def slotsTs : List CT → List Nat
  | [] => []
  | t :: ts => slotsT t ++ slotsTs ts
end
/-- the same but there -/
def Off (is : List Nat) (σ σ' : L2.St) : Prop := σ'.length = σ.length ∧ ∀ j, j ∉ is → σ'[j]? = σ[j]?
theorem Off.trans {is js : List Nat} {a b c : L2.St} (h : Off is a b) (k : Off js b c) : Off (is ++ js) a c :=
  ⟨k.1.trans h.1, fun j hj => by
    rw [List.mem_append, not_or] at hj
    rw [k.2 j hj.2, h.2 j hj.1]⟩
section
variable {X : Cx} {B : Bs} {W : WX} {a b e : Expr} {ca cb : CE} {pos : Pos} {es : List Expr}
def AfterG (K : PySem.W.Frag) (mg : Str → Option Value) (B : Bs) (Q : L2.St → Hp → Prop) (G : Hp) (σ : L2.St) (H : Hp) (τ : List (D × Addr)) (is : List Nat) : Out Env → Prop
  | .ok ρ' => ∀ σ', Sm K mg B G ρ' σ' H τ → Off is σ σ' → Q σ' H
  | _ => False
def tG (K : PySem.W.Frag) (mg : Str → Option Value) (B : Bs) (t : CT) : TG := fun v σ H Q => ∃ G ρ τ d, Sm K mg B G ρ σ H τ ∧ Rep K mg G d v ∧ AfterG K mg B Q G σ H τ (slotsT t) (setT t d ρ)
def tGs (K : PySem.W.Frag) (mg : Str → Option Value) (B : Bs) (ts : List CT) : TGs := fun vs σ H Q => ∃ G ρ τ ds, Sm K mg B G ρ σ H τ ∧ RepL K mg G ds vs ∧ AfterG K mg B Q G σ H τ (slotsTs ts) (setTs ts ds ρ)
abbrev DG (X : Cx) (B : Bs) (e : Expr) (t : CT) : Prop := PG X e (tG X.K X.mg B t)
abbrev DGs (X : Cx) (B : Bs) (es : List Expr) (ts : List CT) : Prop := PGs X es (tGs X.K X.mg B ts)
theorem dg_name {i : Nat} (hi : B.nin ≤ i) (h : PG X e (gName i)) : DG X B e (.n i) := by
  refine ⟨fun pins s σ H v u Q I r hw => h.run pins s σ H v u Q I r ?_⟩
  obtain ⟨G, ρ, τ, d, S, rd, hw⟩ := hw
  simp only [setT] at hw
  cases h1 : put ρ i (.val d) with
  | exc _ _ => rw [h1] at hw; exact hw.elim
  | stuck => rw [h1] at hw; exact hw.elim
  | ok ρ' =>
    rw [h1] at hw
    obtain ⟨n, rfl, _⟩ := put_ok h1
    exact hw _ (S.setV hi n rd) ⟨by simp, fun j hj => setne (by simpa [slotsT] using hj)⟩
theorem dgs_nil : DGs X B [] [] := by
  refine ⟨fun pins s σ H vs us Q I r hw => pgs_nil.run pins s σ H vs us Q I r ?_⟩
  obtain ⟨G, ρ, τ, ds, S, rd, hw⟩ := hw
  cases ds with
  | nil =>
    simp only [setTs] at hw
    exact ⟨rd.nilinv, hw σ S ⟨rfl, fun _ _ => rfl⟩⟩
  | cons _ _ => simp only [setTs] at hw; exact hw.elim
theorem dgs_cons {t : CT} {ts : List CT} (h1 : DG X B e t) (h2 : DGs X B es ts) (hs : (assignEach (e :: es) X.env).map (·.2) = assign e X.env :: (assignEach es X.env).map (·.2)) : DGs X B (e :: es) (t :: ts) := by
  refine ⟨fun pins s σ H vs us Q I r hw => (pgs_cons h1 h2 hs).run pins s σ H vs us Q I r ?_⟩
  obtain ⟨G, ρ, τ, ds, S, rd, hw⟩ := hw
  cases ds with
  | nil => simp only [setTs] at hw; exact hw.elim
  | cons d ds =>
    obtain ⟨v, vr, rfl, r1, r2⟩ := rd.inv
    simp only [setTs] at hw
    refine ⟨v, vr, rfl, G, ρ, τ, d, S, r1, ?_⟩
    cases k1 : setT t d ρ with
    | exc _ _ => rw [k1] at hw; exact hw.elim
    | stuck => rw [k1] at hw; exact hw.elim
    | ok ρ1 =>
      rw [k1] at hw
      intro σ1 S1 o1
      refine ⟨G, ρ1, τ, ds, S1, r2, ?_⟩
      have hw : AfterG X.K X.mg B Q G σ H τ (slotsTs (t :: ts)) (setTs ts ds ρ1) := hw
      cases k2 : setTs ts ds ρ1 with
      | exc _ _ => rw [k2] at hw; exact hw.elim
      | stuck => rw [k2] at hw; exact hw.elim
      | ok ρ2 => rw [k2] at hw; exact fun σ2 S2 o2 => hw σ2 S2 (by simpa [slotsTs] using o1.trans o2)
theorem setTs_len : ∀ {ts : List CT} {ds : List D} {ρ ρ' : Env}, setTs ts ds ρ = .ok ρ' → ds.length = ts.length
  | [], [], _, _, _ => rfl
  | [], _ :: _, _, _, h => by simp only [setTs] at h; cases h
  | _ :: _, [], _, _, h => by simp only [setTs] at h; cases h
  | t :: ts, d :: ds, ρ, ρ', h => by
    simp only [setTs] at h
    obtain ⟨ρ1, _, h⟩ := bind_ok h
    simp [setTs_len h]
theorem dg_tup {ts : List CT} {k : Nat} (hc : X.calm = true) (h : DGs X B es ts) (hl : es.length = ts.length) (hn : (assignEach es X.env).length = es.length) (hst : (assignEach es X.env).findIdx? (·.1) = none) : DG X B (.Tuple es k pos) (.tup ts) := by
  refine ⟨fun pins s σ H v u Q I r hw => (pg_tup hc h hn hst).run pins s σ H v u Q I r ?_⟩
  obtain ⟨G, ρ, τ, d, S, rd, hw⟩ := hw
  cases d <;> simp only [setT] at hw <;> (try exact hw.elim)
  rename_i ds
  obtain ⟨a, vs, rfl, h1, h2, _⟩ := rd.view S.fz
  refine ⟨a, vs, rfl, h1, ?_, G, ρ, τ, ds, S, h2, hw⟩
  cases k2 : setTs ts ds ρ with
  | exc _ _ => rw [k2] at hw; exact hw.elim
  | stuck => rw [k2] at hw; exact hw.elim
  | ok ρ2 => rw [hl, ← setTs_len k2, h2.length]

/-! ### what is walked -/
/-- locks that a walk laid are taken off -/
def UnlH (nf : Addr → Prop) (H H2 : Hp) : Prop := H2 = H ∨ ∃ d od u, H d = some (.frz od u) ∧ nf d ∧ H2 = upd H d u
/-- no caller has locked it -/
def nfr (X : Cx) (d : Addr) : Prop := ∀ o' u', X.H_0 d ≠ some (.frz o' u')
def Bs.fk (B : Bs) (l : List (Nat × D × Addr)) (F : List (Addr × PySem.Obj × HO)) : Bs := { B with L := l, F := F }
def Walk (K : PySem.W.Frag) (mg : Str → Option Value) (J : It) (ds : List D) (B : Bs) (G1 : Hp) (τ0 : List (D × Addr)) : Prop := ∀ i G ρ σ H τ, τ0.Sublist τ → Same G1 G → Sm K mg B G ρ σ H τ →
  (ds.length ≤ i → J.stop i H) ∧ ∀ d, ds[i]? = some d → J.go i H ∧ ∀ x H', J.yld i H x H' → ∃ G', Same G G' ∧ Sm K mg B G' ρ σ H' τ ∧ Rep K mg G' d x
/-- the state within a walk, the way back -/
structure Way (K : PySem.W.Frag) (mg : Str → Option Value) (nf : Addr → Prop) (B B' : Bs) (G1 : Hp) (ρ0 : Env) (o : Option Nat) : Prop where
  nin : B'.nin = B.nin
  un : ∀ G ρ σ H τ, Same G1 G → Sm K mg B' G ρ σ H τ → ∃ H2, UnlH nf H H2 ∧ Sm K mg B G (unlockSlot ρ0 ρ o) σ H2 τ
  ex : ∀ H, XSm B' H → ∃ H2, UnlH nf H H2 ∧ XSm B H2
def AfterI (K : PySem.W.Frag) (mg : Str → Option Value) (nf : Addr → Prop) (B : Bs) (W : WX) (σ : L2.St) (R : It → Hp → Prop) (G : Hp) (τ : List (D × Addr)) : Out (Items × Env) → Prop
  | .ok p => ∀ J B' G' H' τ', Same G G' → Sm K mg B' G' (lockSlot p.2 p.1.2) σ H' (τ' ++ τ) → Way K mg nf B B' G' p.2 p.1.2 → Walk K mg J p.1.1 B' G' (τ' ++ τ) → R J H'
  | .exc c q => ∀ cls d H', XIs mg c q cls d H' → XSm B H' → W cls d σ H'
  | .stuck => False
def tI (K : PySem.W.Frag) (mg : Str → Option Value) (nf : Addr → Prop) (B : Bs) (W : WX) (f : Env → Out (Items × Env)) : TI := fun σ H R => ∃ G ρ τ, Sm K mg B G ρ σ H τ ∧ AfterI K mg nf B W σ R G τ (f ρ)
abbrev DI (X : Cx) (B : Bs) (W : WX) (tg e : Expr) (f : Env → Out (Items × Env)) : Prop := PI X tg e (tI X.K X.mg (nfr X) B W f)
section
variable {K : PySem.W.Frag} {mg : Str → Option Value} {nf : Addr → Prop} {B B' : Bs} {G G1 H : Hp} {ρ ρ0 : Env} {σ : L2.St} {τ : List (D × Addr)}
theorem Way.triv : Way K mg nf B B G1 ρ0 none := ⟨rfl, fun _ _ _ H _ _ S => ⟨H, .inl rfl, S⟩, fun H x => ⟨H, .inl rfl, x⟩⟩
/-- a way with no lock in the heap -/
structure WayL (K : PySem.W.Frag) (mg : Str → Option Value) (B B' : Bs) (ρ0 : Env) (o : Option Nat) : Prop where
  nin : B'.nin = B.nin
  un : ∀ G ρ σ H τ, Sm K mg B' G ρ σ H τ → Sm K mg B G (unlockSlot ρ0 ρ o) σ H τ
  ex : ∀ H, XSm B' H → XSm B H
theorem WayL.way {o : Option Nat} (h : WayL K mg B B' ρ0 o) : Way K mg nf B B' G1 ρ0 o := ⟨h.nin, fun G ρ σ H τ _ S => ⟨H, .inl rfl, h.un _ _ _ _ _ S⟩, fun H x => ⟨H, .inl rfl, h.ex H x⟩⟩
/-- the way back when the slot is no lock's -/
theorem Way.none {o : Option Nat} (h : Way K mg nf B B' G1 ρ0 none) (e : ∀ ρ', unlockSlot ρ0 ρ' o = ρ') : Way K mg nf B B' G1 ρ0 o :=
  ⟨h.nin, fun G ρ σ H τ s S => by rw [e]; exact h.un G ρ σ H τ s S, h.ex⟩
theorem WayL.list {i : Nat} {d : D} {p : Addr} (hq : ρ[i]? = some (Slot.own d)) (hd : ∃ xs, d = .lst xs) (hn : ∀ x ∈ B.L, x.1 ≠ i) : WayL K mg B (B.lk ((i, d, p) :: B.L)) ρ (some i) :=
  ⟨rfl, fun G' ρ' σ' H' τ' S' => by
    have h1 := (S'.lk0 (i, d, p) List.mem_cons_self).1
    have : unlockSlot ρ ρ' (some i) = ρ'.set i (.own d) := by
      have h1 : ρ'[i]? = some (.lck d) := h1
      simp [unlockSlot, hq, h1]
    rw [this]; exact S'.unlockL hd hn, fun H x => ⟨x.h0, x.p0⟩⟩
theorem Sm.unP (S : Sm K mg B G ρ σ H τ) {p : Addr} {u : HO} (hG : G p = some u) {i : Nat} (o : isOwn ρ i) : σ[i]? ≠ some (some (.ref p)) := fun e => by
  rw [S.ownG o e] at hG; cases hG
/-- what is frozen and stands locked already -/
theorem Sm.fixd (S : Sm K mg B G ρ σ H τ) {p : Addr} {ob : PySem.Obj} {u : HO} (hG : G p = some u) (hu : isDk u = true) (h : H p = some (.frz ob u)) : Sm K mg (B.fk B.L ((p, ob, u) :: B.F)) G ρ σ H τ ∧ Way K mg nf B (B.fk B.L ((p, ob, u) :: B.F)) G ρ0 none := by
  have side : B.H0 p = some u → ¬ B.P p → (p, ob, u) ∈ B.F := fun e np => by
    rcases S.h0 p u e np with z | ⟨ob', z⟩
    · rw [h] at z
      have z := Option.some.inj z
      rw [← z] at hu
      cases hu
    · have := (S.fx _ z).1
      have this : H p = some (.frz ob' u) := this
      rw [h] at this; cases this
      exact z
  refine ⟨{ S with
    h0 := fun a o e n => (S.h0 a o e n).imp id fun ⟨ob', z⟩ => ⟨ob', List.mem_cons_of_mem _ z⟩
    fx := fun x hx => by
      rcases List.mem_cons.mp hx with rfl | hx
      · exact ⟨h, .inl hG⟩
      · exact S.fx x hx }, rfl, fun G' ρ' σ' H' τ' _ S' => ⟨H', .inl rfl, { S' with
    h0 := fun a o e n => (S'.h0 a o e n).imp id fun ⟨ob', z⟩ => by
      rcases List.mem_cons.mp z with z | z
      · cases z; exact ⟨ob, side e n⟩
      · exact ⟨ob', z⟩
    fx := fun x hx => S'.fx x (List.mem_cons_of_mem _ hx) }⟩, fun H' x => ⟨H', .inl rfl, ⟨fun a o e n => (x.h0 a o e n).imp id fun ⟨ob', z, z2⟩ => ?_, x.p0⟩⟩⟩
  rcases List.mem_cons.mp z with z | z
  · cases z; exact ⟨ob, side e n, z2⟩
  · exact ⟨ob', z, z2⟩
/-- what is frozen is locked -/
theorem Sm.lockF (S : Sm K mg B G ρ σ H τ) {p : Addr} {ob : PySem.Obj} {u : HO} (hG : G p = some u) (hu : isDk u = true) (h : H p = some u) (hn : nf p) :
    Sm K mg (B.fk B.L ((p, ob, u) :: B.F)) G ρ σ (upd H p (.frz ob u)) τ ∧ Way K mg nf B (B.fk B.L ((p, ob, u) :: B.F)) G ρ0 none := by
  have nfz : ∀ o' u', u ≠ .frz o' u' := fun o' u' z => by subst z; cases hu
  have hF : ∀ x ∈ B.F, x.1 ≠ p := fun x hx z => by
    have := (S.fx x hx).1
    rw [z, h] at this; cases this; cases hu
  have hB : ∀ o, B.H0 p = some o → ¬ B.P p → o = u := fun o e np => by
    rcases S.h0 p o e np with z | ⟨ob', z⟩
    · rw [h] at z; cases z; rfl
    · exact absurd rfl (hF _ z)
  have neG : ∀ {q : Addr}, G q = none → q ≠ p := fun {q} g z => by rw [z, hG] at g; cases g
  refine ⟨{ S with
    fz := fun a o e => by
      by_cases ne : a = p
      · subst ne; rw [hG] at e; cases e; exact .inr ⟨hu, ob, upd_same⟩
      · rcases S.fz a o e with z | ⟨z1, ob', z⟩
        · exact .inl (by rw [upd_ne ne]; exact z)
        · exact .inr ⟨z1, ob', by rw [upd_ne ne]; exact z⟩
    own := fun i d e => by
      obtain ⟨q, e1, e2, e3, e4⟩ := S.own i d e
      exact ⟨q, e1, e2, by rw [upd_ne (neG e2)]; exact e3, e4⟩
    lck := fun i d e => by
      obtain ⟨q, e1, e2, e3, e4⟩ := S.lck i d e
      exact ⟨q, e1, e2, by rw [upd_ne (neG e2)]; exact e3, e4⟩
    tmp := fun x hx => by
      obtain ⟨e1, e2, e3⟩ := S.tmp x hx
      exact ⟨e1, by rw [upd_ne (neG e1)]; exact e2, e3⟩
    h0 := fun a o e n => by
      by_cases ne : a = p
      · subst ne
        obtain rfl := hB o e n
        exact .inr ⟨ob, List.mem_cons_self⟩
      · rcases S.h0 a o e n with z | ⟨ob', z⟩
        · exact .inl (by rw [upd_ne ne]; exact z)
        · exact .inr ⟨ob', List.mem_cons_of_mem _ z⟩
    p0 := fun a q => by
      by_cases ne : a = p
      · subst ne; rw [upd_same]; simp
      · rw [upd_ne ne]; exact S.p0 a q
    fx := fun x hx => by
      rcases List.mem_cons.mp hx with rfl | hx
      · exact ⟨upd_same, .inl hG⟩
      · exact ⟨by rw [upd_ne (hF x hx)]; exact (S.fx x hx).1, (S.fx x hx).2⟩ }, rfl, fun G' ρ' σ' H' τ' s S' => ?_, fun H' x => ?_⟩
  · have hG' : G' p = some u := s _ _ hG
    have neG' : ∀ {q : Addr}, G' q = Option.none → q ≠ p := fun {q} g z => by rw [z, hG'] at g; cases g
    have h' : H' p = some (.frz ob u) := (S'.fx (p, ob, u) List.mem_cons_self).1
    refine ⟨upd H' p u, .inr ⟨p, ob, u, h', hn, rfl⟩, { S' with
      fz := fun a o e => by
        by_cases ne : a = p
        · subst ne; rw [hG'] at e; cases e; exact .inl upd_same
        · rcases S'.fz a o e with z | ⟨z1, ob', z⟩
          · exact .inl (by rw [upd_ne ne]; exact z)
          · exact .inr ⟨z1, ob', by rw [upd_ne ne]; exact z⟩
      own := fun i d e => by
        obtain ⟨q, e1, e2, e3, e4⟩ := S'.own i d e
        exact ⟨q, e1, e2, by rw [upd_ne (neG' e2)]; exact e3, e4⟩
      lck := fun i d e => by
        obtain ⟨q, e1, e2, e3, e4⟩ := S'.lck i d e
        exact ⟨q, e1, e2, by rw [upd_ne (neG' e2)]; exact e3, e4⟩
      tmp := fun x hx => by
        obtain ⟨e1, e2, e3⟩ := S'.tmp x hx
        exact ⟨e1, by rw [upd_ne (neG' e1)]; exact e2, e3⟩
      h0 := fun a o e n => by
        by_cases ne : a = p
        · subst ne
          obtain rfl := hB o e n
          exact .inl upd_same
        · rcases S'.h0 a o e n with z | ⟨ob', z⟩
          · exact .inl (by rw [upd_ne ne]; exact z)
          · rcases List.mem_cons.mp z with z | z
            · cases z; exact absurd rfl ne
            · exact .inr ⟨ob', z⟩
      p0 := fun a q => by
        by_cases ne : a = p
        · subst ne; rw [upd_same]; simp
        · rw [upd_ne ne]; exact S'.p0 a q
      fx := fun x hx => ⟨by rw [upd_ne (hF x hx)]; exact (S'.fx x (List.mem_cons_of_mem _ hx)).1, (S'.fx x (List.mem_cons_of_mem _ hx)).2⟩ }⟩
  · by_cases hc : H' p = some (.frz ob u) ∧ B.H0 p = some u
    · refine ⟨upd H' p u, .inr ⟨p, ob, u, hc.1, hn, rfl⟩, fun a o e n => ?_, fun a q => ?_⟩
      · by_cases ne : a = p
        · subst ne
          obtain rfl := hB o e n
          exact .inl upd_same
        · rw [upd_ne ne]
          rcases x.h0 a o e n with z | ⟨ob', z, z2⟩
          · exact .inl z
          · rcases List.mem_cons.mp z with z | z
            · cases z; exact absurd rfl ne
            · exact .inr ⟨ob', z, z2⟩
      · by_cases ne : a = p
        · subst ne; rw [upd_same]; simp
        · rw [upd_ne ne]; exact x.p0 a q
    · refine ⟨H', .inl rfl, fun a o e n => ?_, x.p0⟩
      rcases x.h0 a o e n with z | ⟨ob', z, z2⟩
      · exact .inl z
      · rcases List.mem_cons.mp z with z | z
        · cases z; exact absurd ⟨z2, e⟩ hc
        · exact .inr ⟨ob', z, z2⟩
/-- a dict of one's own is locked -/
theorem Sm.lockO {i : Nat} {d : D} {p : Addr} {ob : PySem.Obj} {u : HO} (S : Sm K mg B G ρ σ H τ) (hq : ρ[i]? = some (Slot.own d)) (e : σ[i]? = some (some (.ref p))) (hu : isDk u = true) (h : H p = some u) (hn : nf p) (hd : ∀ xs, d ≠ .lst xs) :
    Sm K mg (B.fk ((i, d, p) :: B.L) ((p, ob, u) :: B.F)) G (List.set ρ i (.lck d)) σ (upd H p (.frz ob u)) τ ∧ Way K mg nf B (B.fk ((i, d, p) :: B.L) ((p, ob, u) :: B.F)) G ρ (some i) := by
  have S1 := S.lockL hq e
  have uD : ∀ o, unfD d o = unf o := fun o => by
    cases d <;> first
      | rfl
      | exact absurd rfl (hd _)
  obtain ⟨p', e1, g, c0, hb⟩ := S.own i d hq
  rw [e] at e1; cases e1
  have hi : i < ρ.length := (List.getElem?_eq_some_iff.mp hq).1
  have oi : isOwn ρ i := .inl ⟨d, hq⟩
  have hnk : ∀ x ∈ B.L, x.1 ≠ i := S.nlk fun d1 z => by rw [hq] at z; cases z
  have ulk : ∀ ρ', ρ'[i]? = some (Slot.lck d) → unlockSlot ρ ρ' (some i) = ρ'.set i (.own d) := fun ρ' h1 => by simp [unlockSlot, hq, h1]
  have hF : ∀ x ∈ B.F, x.1 ≠ p := fun x hx z => by
    have := (S.fx x hx).1
    rw [z, h] at this; cases this; cases hu
  have hH0 : ∀ o, B.H0 p = some o → B.P p := fun o z => by
    rcases hb with q | q
    · rw [q] at z; cases z
    · exact q
  have ho : ∀ j, isOwn (List.set ρ i (Slot.lck d)) j → isOwn ρ j := fun j q => by
    rcases own_at q with rfl | ⟨_, z⟩
    · exact oi
    · exact z
  have neG : ∀ {a u'}, G a = some u' → a ≠ p := fun {a u'} z q => by rw [q, g] at z; cases z
  refine ⟨{ S1 with
    fz := fun a o z => by
      rcases S.fz a o z with y | ⟨y1, ob', y⟩
      · exact .inl (by rw [upd_ne (neG z)]; exact y)
      · exact .inr ⟨y1, ob', by rw [upd_ne (neG z)]; exact y⟩
    own := fun j d1 q => by
      rcases getset (l := ρ) _ q with ⟨_, z⟩ | ⟨n, z⟩
      · cases z
      · obtain ⟨q1, e1, e2, e3, e4⟩ := S.own j d1 z
        have ne : q1 ≠ p := fun y => S.sepS j i q1 n (.inl ⟨d1, z⟩) oi e1 (by rw [e, y])
        exact ⟨q1, e1, e2, by rw [upd_ne ne]; exact e3, e4⟩
    lck := fun j d1 q => by
      rcases getset (l := ρ) _ q with ⟨rfl, z⟩ | ⟨n, z⟩
      · cases z
        refine ⟨p, e, g, ?_, hb⟩
        rw [uD, upd_same]
        rw [h] at c0
        exact c0
      · obtain ⟨q1, e1, e2, e3, e4⟩ := S.lck j d1 z
        have ne : q1 ≠ p := fun y => S.sepS j i q1 n (.inr ⟨d1, z⟩) oi e1 (by rw [e, y])
        exact ⟨q1, e1, e2, by rw [upd_ne ne]; exact e3, e4⟩
    tmp := fun x hx => by
      obtain ⟨e1, e2, e3⟩ := S.tmp x hx
      have ne : x.2 ≠ p := fun y => S.sepT i p oi e (List.mem_map.mpr ⟨x, hx, y⟩)
      exact ⟨e1, by rw [upd_ne ne]; exact e2, e3⟩
    h0 := fun a o z n => by
      have ne : a ≠ p := fun y => by subst y; exact n (hH0 o z)
      rcases S.h0 a o z n with z | ⟨ob', z⟩
      · exact .inl (by rw [upd_ne ne]; exact z)
      · exact .inr ⟨ob', List.mem_cons_of_mem _ z⟩
    p0 := fun a q => by
      by_cases ne : a = p
      · subst ne; rw [upd_same]; simp
      · rw [upd_ne ne]; exact S.p0 a q
    lk0 := S1.lk0
    lkc := S1.lkc
    fx := fun x hx => by
      rcases List.mem_cons.mp hx with rfl | hx
      · exact ⟨upd_same, .inr ⟨i, d, List.mem_cons_self⟩⟩
      · exact ⟨by rw [upd_ne (hF x hx)]; exact (S.fx x hx).1, (S.fx x hx).2.imp id fun ⟨k, d1, z⟩ => ⟨k, d1, List.mem_cons_of_mem _ z⟩⟩ }, rfl, fun G' ρ' σ' H' τ' s S' => ?_, fun H' x => ?_⟩
  · obtain ⟨h1, h2⟩ := S'.lk0 (i, d, p) List.mem_cons_self
    have h1 : ρ'[i]? = some (.lck d) := h1
    have h2 : σ'[i]? = some (some (.ref p)) := h2
    have h' : H' p = some (.frz ob u) := (S'.fx (p, ob, u) List.mem_cons_self).1
    obtain ⟨p', e1, g', c', _⟩ := S'.lck i d h1
    rw [h2] at e1; cases e1
    have hi' : i < ρ'.length := (List.getElem?_eq_some_iff.mp h1).1
    have oi' : isOwn ρ' i := .inr ⟨d, h1⟩
    have ho' : ∀ j, isOwn (List.set ρ' i (Slot.own d)) j → isOwn ρ' j := fun j q => by
      rcases own_at q with rfl | ⟨_, z⟩
      · exact oi'
      · exact z
    have neG' : ∀ {a u'}, G' a = some u' → a ≠ p := fun {a u'} z q => by rw [q, g'] at z; cases z
    rw [ulk ρ' h1]
    refine ⟨upd H' p u, .inr ⟨p, ob, u, h', hn, rfl⟩, { S' with
      len := by simpa using S'.len
      fz := fun a o z => by
        rcases S'.fz a o z with y | ⟨y1, ob', y⟩
        · exact .inl (by rw [upd_ne (neG' z)]; exact y)
        · exact .inr ⟨y1, ob', by rw [upd_ne (neG' z)]; exact y⟩
      val := fun j d1 q => by
        rcases getset (l := ρ') _ q with ⟨_, z⟩ | ⟨n, z⟩
        · cases z
        · exact S'.val j d1 z
      own := fun j d1 q => by
        rcases getset (l := ρ') _ q with ⟨rfl, z⟩ | ⟨n, z⟩
        · cases z
          refine ⟨p, h2, g', ?_, hb⟩
          rw [uD, h'] at c'
          rw [upd_same]; exact c'
        · obtain ⟨q1, e1, e2, e3, e4⟩ := S'.own j d1 z
          have ne : q1 ≠ p := fun y => S'.sepS j i q1 n (.inl ⟨d1, z⟩) oi' e1 (by rw [h2, y])
          exact ⟨q1, e1, e2, by rw [upd_ne ne]; exact e3, e4⟩
      lck := fun j d1 q => by
        rcases getset (l := ρ') _ q with ⟨_, z⟩ | ⟨n, z⟩
        · cases z
        · obtain ⟨q1, e1, e2, e3, e4⟩ := S'.lck j d1 z
          have ne : q1 ≠ p := fun y => S'.sepS j i q1 n (.inr ⟨d1, z⟩) oi' e1 (by rw [h2, y])
          exact ⟨q1, e1, e2, by rw [upd_ne ne]; exact e3, e4⟩
      tmp := fun x hx => by
        obtain ⟨e1, e2, e3⟩ := S'.tmp x hx
        have ne : x.2 ≠ p := fun y => S'.sepT i p oi' h2 (List.mem_map.mpr ⟨x, hx, y⟩)
        exact ⟨e1, by rw [upd_ne ne]; exact e2, e3⟩
      sepS := fun a b q ne x y => S'.sepS a b q ne (ho' a x) (ho' b y)
      sepT := fun a q x => S'.sepT a q (ho' a x)
      h0 := fun a o z n => by
        have ne : a ≠ p := fun y => by subst y; exact n (hH0 o z)
        rcases S'.h0 a o z n with z | ⟨ob', z⟩
        · exact .inl (by rw [upd_ne ne]; exact z)
        · rcases List.mem_cons.mp z with z | z
          · cases z; exact absurd rfl ne
          · exact .inr ⟨ob', z⟩
      p0 := fun a q => by
        by_cases ne : a = p
        · subst ne; rw [upd_same]; simp
        · rw [upd_ne ne]; exact S'.p0 a q
      lk0 := fun x hx => ⟨by rw [setne (hnk x hx)]; exact (S'.lk0 x (List.mem_cons_of_mem _ hx)).1, (S'.lk0 x (List.mem_cons_of_mem _ hx)).2⟩
      lkc := fun j d1 q => by
        rcases getset (l := ρ') _ q with ⟨_, z⟩ | ⟨n, z⟩
        · cases z
        · obtain ⟨p1, h1⟩ := S'.lkc j d1 z
          rcases List.mem_cons.mp h1 with z2 | z2
          · cases z2; exact absurd rfl n
          · exact ⟨p1, z2⟩
      fx := fun x hx => ⟨by rw [upd_ne (hF x hx)]; exact (S'.fx x (List.mem_cons_of_mem _ hx)).1, (S'.fx x (List.mem_cons_of_mem _ hx)).2.imp id fun ⟨k, d1, z⟩ => by
        rcases List.mem_cons.mp z with z2 | z2
        · cases z2; exact absurd rfl (hF x hx)
        · exact ⟨k, d1, z2⟩⟩ }⟩
  · refine ⟨H', .inl rfl, fun a o z n => ?_, x.p0⟩
    have ne : a ≠ p := fun y => by subst y; exact n (hH0 o z)
    rcases x.h0 a o z n with z | ⟨ob', z, z2⟩
    · exact .inl z
    · rcases List.mem_cons.mp z with z | z
      · cases z; exact absurd rfl ne
      · exact .inr ⟨ob', z, z2⟩
/-- a list's walk: a thing that stays as it is while it is walked -/
theorem Sm.walked (S : Sm K mg B G ρ σ H τ) {r : Res} {v : V} {d : D} (a : ResAt K mg G σ τ r v) (h : deref ρ r = some d) (hl : ∀ kvs, d ≠ .dct kvs) (hl2 : ∀ kvs, d ≠ .dctT kvs) :
    ∃ B', Sm K mg B' G (lockSlot ρ (slotOf r)) σ H τ ∧ WayL K mg B B' ρ (slotOf r) ∧ ∀ G' ρ' σ' H', Same G G' → Sm K mg B' G' ρ' σ' H' τ → View K mg G' H' d v := by
  have id : ∀ {o : Option Nat}, lockSlot ρ o = ρ → (∀ ρ', unlockSlot ρ ρ' o = ρ') → (∀ G' ρ' σ' H', Same G G' → Sm K mg B G' ρ' σ' H' τ → View K mg G' H' d v) → ∃ B', Sm K mg B' G (lockSlot ρ o) σ H τ ∧ WayL K mg B B' ρ o ∧ ∀ G' ρ' σ' H', Same G G' → Sm K mg B' G' ρ' σ' H' τ → View K mg G' H' d v := fun {o} e1 e2 e3 =>
    ⟨B, by rw [e1]; exact S, ⟨rfl, fun _ _ _ _ _ S => by rw [e2]; exact S, fun _ x => x⟩, e3⟩
  cases r with
  | val d' =>
    simp only [deref] at h; cases h
    exact id rfl (fun _ => rfl) fun G' ρ' σ' H' s S' => Rep.view S'.fz (Rep.mono s _ a)
  | own d' =>
    simp only [deref] at h; cases h
    obtain ⟨p, rfl, hm⟩ := a
    exact id rfl (fun _ => rfl) fun G' ρ' σ' H' s S' => (S'.tmp _ hm).2.1.view'
  | slot i =>
    have a : σ[i]? = some (some v) := a
    simp only [deref] at h
    cases q : ρ[i]? with
    | none => rw [q] at h; cases h
    | some s =>
      rw [q] at h
      cases s with
      | none => cases h
      | val d' =>
        cases h
        obtain ⟨w, e1, e2⟩ := S.val i _ q
        rw [a] at e1; cases e1
        exact id (by simp [lockSlot, slotOf, q]) (fun ρ' => by simp [unlockSlot, slotOf, q]) fun G' ρ' σ' H' s S' => Rep.view S'.fz (Rep.mono s _ e2)
      | lck d' =>
        cases h
        obtain ⟨p, hm⟩ := S.lkc i _ q
        have e1 := (S.lk0 _ hm).2
        have e1 : σ[i]? = some (some (.ref p)) := e1
        rw [a] at e1; cases e1
        refine id (by simp [lockSlot, slotOf, q]) (fun ρ' => by simp [unlockSlot, slotOf, q]) fun G' ρ' σ' H' s S' => ?_
        obtain ⟨h1, h2⟩ := S'.lk0 _ hm
        obtain ⟨p', e1, _, c', _⟩ := S'.lck i d h1
        have h2 : σ'[i]? = some (some (.ref p)) := h2
        rw [h2] at e1; cases e1
        exact c'.ofD.view
      | own d' =>
        cases h
        obtain ⟨p, e1, e2, c, e3⟩ := S.own i _ q
        rw [a] at e1; cases e1
        have hn : ∀ x ∈ B.L, x.1 ≠ i := S.nlk fun d1 z => by rw [q] at z; cases z
        have hd : ∃ xs, d = .lst xs := by
          cases d with
          | lst xs => exact ⟨xs, rfl⟩
          | dct kvs => exact absurd rfl (hl kvs)
          | dctT kvs => exact absurd rfl (hl2 kvs)
          | _ => exact (c.elim)
        refine ⟨B.lk ((i, d, p) :: B.L), ?_, WayL.list q hd hn, fun G' ρ' σ' H' s S' => ?_⟩
        · have : lockSlot ρ (slotOf (.slot i)) = ρ.set i (.lck d) := by simp [lockSlot, slotOf, q]
          rw [this]; exact S.lockL q a
        · obtain ⟨h1, h2⟩ := S'.lk0 (i, d, p) List.mem_cons_self
          obtain ⟨p', e1, _, c', _⟩ := S'.lck i d h1
          have h2 : σ'[i]? = some (some (.ref p)) := h2
          rw [h2] at e1; cases e1
          exact c'.ofD.view
/-- a dict's walk: it stands locked, or it is locked -/
theorem Sm.walkedD (S : Sm K mg B G ρ σ H τ) {tm : List (D × Addr)} {r : Res} {v : V} {kvs : List (Key × D)} (ht : τ = pushd r v ++ tm) (a : ResAt K mg G σ τ r v) (h : deref ρ r = some (.dct kvs)) :
    ∃ p vs, v = .ref p ∧ ((∃ ob, H p = some (.frz ob (.dK vs)) ∧ ∃ B' G1, Same G G1 ∧ Sm K mg B' G1 (lockSlot ρ (slotOf r)) σ H tm ∧ Way K mg nf B B' G1 ρ (slotOf r) ∧ (p, ob, .dK vs) ∈ B'.F ∧ RepK K mg G1 kvs vs) ∨
      (H p = some (.dK vs) ∧ ∀ ob, nf p → ∃ B' G1, Same G G1 ∧ Sm K mg B' G1 (lockSlot ρ (slotOf r)) σ (upd H p (.frz ob (.dK vs))) tm ∧ Way K mg nf B B' G1 ρ (slotOf r) ∧ (p, ob, .dK vs) ∈ B'.F ∧ RepK K mg G1 kvs vs)) := by
  -- a frozen one
  have frozen : ∀ {G1 : Hp} {o : Option Nat}, Same G G1 → lockSlot ρ o = ρ → (∀ ρ', unlockSlot ρ ρ' o = ρ') → Sm K mg B G1 ρ σ H tm → Rep K mg G1 (.dct kvs) v →
      ∃ p vs, v = .ref p ∧ ((∃ ob, H p = some (.frz ob (.dK vs)) ∧ ∃ B' G1, Same G G1 ∧ Sm K mg B' G1 (lockSlot ρ o) σ H tm ∧ Way K mg nf B B' G1 ρ o ∧ (p, ob, .dK vs) ∈ B'.F ∧ RepK K mg G1 kvs vs) ∨
        (H p = some (.dK vs) ∧ ∀ ob, nf p → ∃ B' G1, Same G G1 ∧ Sm K mg B' G1 (lockSlot ρ o) σ (upd H p (.frz ob (.dK vs))) tm ∧ Way K mg nf B B' G1 ρ o ∧ (p, ob, .dK vs) ∈ B'.F ∧ RepK K mg G1 kvs vs)) := fun {G1 o} s e1 e2 S1 r1 => by
    simp only [Rep] at r1
    obtain ⟨p, vs, rfl, hG, rk⟩ := r1
    refine ⟨p, vs, rfl, ?_⟩
    rcases S1.fz p _ hG with z | ⟨_, ob, z⟩
    · refine .inr ⟨z, fun ob hn => ?_⟩
      obtain ⟨y1, y2⟩ := S1.lockF (nf := nf) (ρ0 := ρ) (ob := ob) hG rfl z hn
      exact ⟨_, G1, s, by rw [e1]; exact y1, y2.none e2, List.mem_cons_self, rk⟩
    · obtain ⟨y1, y2⟩ := S1.fixd (nf := nf) (ρ0 := ρ) hG rfl z
      exact .inl ⟨ob, z, _, G1, s, by rw [e1]; exact y1, y2.none e2, List.mem_cons_self, rk⟩
  subst ht
  cases r with
  | val d' =>
    simp only [deref] at h; cases h
    exact frozen (Same.refl _) rfl (fun _ => rfl) (S.drop (List.sublist_append_right _ _)) a
  | own d' =>
    simp only [deref] at h; cases h
    obtain ⟨p, rfl, hm⟩ := a
    obtain ⟨G1, s, S1, r1⟩ := Sm.freezeT (show Sm K mg B G ρ σ H ((_, p) :: tm) from S)
    exact frozen s rfl (fun _ => rfl) S1 r1
  | slot i =>
    have a : σ[i]? = some (some v) := a
    have S := S.drop (List.sublist_append_right _ _)
    simp only [deref] at h
    cases q : ρ[i]? with
    | none => rw [q] at h; cases h
    | some s =>
      rw [q] at h
      cases s with
      | none => cases h
      | val d' =>
        cases h
        obtain ⟨w, e1, e2⟩ := S.val i _ q
        rw [a] at e1; cases e1
        exact frozen (Same.refl _) (by simp [lockSlot, slotOf, q]) (fun ρ' => by simp [unlockSlot, slotOf, q]) S e2
      | lck d' =>
        cases h
        obtain ⟨p, e1, g, c, hb⟩ := S.lck i _ q
        rw [a] at e1; cases e1
        have c : Cell K mg G (.dct kvs) (unf (H p)) := c
        have elk : lockSlot ρ (slotOf (.slot i)) = ρ := by simp [lockSlot, slotOf, q]
        have eul : ∀ ρ', unlockSlot ρ ρ' (slotOf (.slot i)) = ρ' := fun ρ' => by simp [unlockSlot, slotOf, q]
        obtain ⟨p', hL⟩ := S.lkc i _ q
        obtain rfl : p = p' := by
          have e1 := (S.lk0 _ hL).2
          have e1 : σ[i]? = some (some (.ref p')) := e1
          rw [a] at e1; cases e1; rfl
        have hH0 : ∀ o, B.H0 p = some o → B.P p := fun o z => by
          rcases hb with q | q
          · rw [q] at z; cases z
          · exact q
        -- it is walked a second time
        cases e : H p with
        | none => rw [e] at c; exact (show False from c).elim
        | some o =>
          cases o with
          | frz ob u =>
            rw [e] at c
            cases u with
            | dK vs =>
              refine ⟨p, vs, rfl, .inl ⟨ob, e, B.fk B.L ((p, ob, .dK vs) :: B.F), G, Same.refl _, ?_, ⟨rfl, fun G' ρ' σ' H' τ' _ S' => ⟨H', .inl rfl, ?_⟩, fun H' x => ⟨H', .inl rfl, fun a o e n => (x.h0 a o e n).imp id fun ⟨ob', z, z2⟩ => ?_, x.p0⟩⟩, List.mem_cons_self, c⟩⟩
              · rw [elk]
                exact { S with
                  h0 := fun a o e n => (S.h0 a o e n).imp id fun ⟨ob', z⟩ => ⟨ob', List.mem_cons_of_mem _ z⟩
                  fx := fun x hx => by
                    rcases List.mem_cons.mp hx with rfl | hx
                    · exact ⟨e, .inr ⟨i, _, hL⟩⟩
                    · exact S.fx x hx }
              · rw [eul]
                exact { S' with
                  h0 := fun a o e n => (S'.h0 a o e n).imp id fun ⟨ob', z⟩ => by
                    rcases List.mem_cons.mp z with z | z
                    · cases z; exact absurd (hH0 _ e) n
                    · exact ⟨ob', z⟩
                  fx := fun x hx => S'.fx x (List.mem_cons_of_mem _ hx) }
              · rcases List.mem_cons.mp z with z | z
                · cases z; exact absurd (hH0 _ e) n
                · exact ⟨ob', z, z2⟩
            | _ => exact (show False from c).elim
          | dK vs =>
            rw [e] at c
            have c : RepK K mg G kvs vs := c
            have hF : ∀ x ∈ B.F, x.1 ≠ p := fun x hx z => by
              have := (S.fx x hx).1
              rw [z, e] at this; cases this
            have neG : ∀ {a u'}, G a = some u' → a ≠ p := fun {a u'} z q => by rw [q, g] at z; cases z
            have oi : isOwn ρ i := .inr ⟨_, q⟩
            refine ⟨p, vs, rfl, .inr ⟨e, fun ob hn => ⟨B.fk B.L ((p, ob, .dK vs) :: B.F), G, Same.refl _, ?_, ⟨rfl, fun G' ρ' σ' H' τ' _ S' => ⟨upd H' p (.dK vs), .inr ⟨p, ob, _, (S'.fx (p, ob, .dK vs) List.mem_cons_self).1, hn, rfl⟩, ?_⟩, fun H' x => ⟨H', .inl rfl, fun a o e n => (x.h0 a o e n).imp id fun ⟨ob', z, z2⟩ => ?_, x.p0⟩⟩, List.mem_cons_self, c⟩⟩⟩
            · rw [elk]
              exact { S with
                fz := fun a o z => by
                  rcases S.fz a o z with y | ⟨y1, ob', y⟩
                  · exact .inl (by rw [upd_ne (neG z)]; exact y)
                  · exact .inr ⟨y1, ob', by rw [upd_ne (neG z)]; exact y⟩
                own := fun j d1 z => by
                  obtain ⟨q1, e1, e2, e3, e4⟩ := S.own j d1 z
                  have ne : q1 ≠ p := fun y => S.sepS j i q1 (fun y => by rw [y, q] at z; cases z) (.inl ⟨d1, z⟩) oi e1 (by rw [a, y])
                  exact ⟨q1, e1, e2, by rw [upd_ne ne]; exact e3, e4⟩
                lck := fun j d1 z => by
                  obtain ⟨q1, e1, e2, e3, e4⟩ := S.lck j d1 z
                  by_cases ne : q1 = p
                  · subst ne
                    refine ⟨q1, e1, e2, ?_, e4⟩
                    rw [upd_same]
                    rw [e] at e3
                    cases d1 <;> exact e3
                  · exact ⟨q1, e1, e2, by rw [upd_ne ne]; exact e3, e4⟩
                tmp := fun x hx => by
                  obtain ⟨e1, e2, e3⟩ := S.tmp x hx
                  have ne : x.2 ≠ p := fun y => S.sepT i p oi a (List.mem_map.mpr ⟨x, hx, y⟩)
                  exact ⟨e1, by rw [upd_ne ne]; exact e2, e3⟩
                h0 := fun a o z n => by
                  have ne : a ≠ p := fun y => by subst y; exact n (hH0 o z)
                  rcases S.h0 a o z n with z | ⟨ob', z⟩
                  · exact .inl (by rw [upd_ne ne]; exact z)
                  · exact .inr ⟨ob', List.mem_cons_of_mem _ z⟩
                p0 := fun a q => by
                  by_cases ne : a = p
                  · subst ne; rw [upd_same]; simp
                  · rw [upd_ne ne]; exact S.p0 a q
                fx := fun x hx => by
                  rcases List.mem_cons.mp hx with rfl | hx
                  · exact ⟨upd_same, .inr ⟨i, _, hL⟩⟩
                  · exact ⟨by rw [upd_ne (hF x hx)]; exact (S.fx x hx).1, (S.fx x hx).2⟩ }
            · rw [eul]
              obtain ⟨h1, h2⟩ := S'.lk0 (i, _, p) hL
              have h1 : ρ'[i]? = some (.lck _) := h1
              have h2 : σ'[i]? = some (some (.ref p)) := h2
              have h' : H' p = some (.frz ob (.dK vs)) := (S'.fx (p, ob, .dK vs) List.mem_cons_self).1
              obtain ⟨p', e1, g', c', _⟩ := S'.lck i _ h1
              rw [h2] at e1; cases e1
              have oi' : isOwn ρ' i := .inr ⟨_, h1⟩
              have neG' : ∀ {a u'}, G' a = some u' → a ≠ p := fun {a u'} z q => by rw [q, g'] at z; cases z
              exact { S' with
                fz := fun a o z => by
                  rcases S'.fz a o z with y | ⟨y1, ob', y⟩
                  · exact .inl (by rw [upd_ne (neG' z)]; exact y)
                  · exact .inr ⟨y1, ob', by rw [upd_ne (neG' z)]; exact y⟩
                own := fun j d1 z => by
                  obtain ⟨q1, e1, e2, e3, e4⟩ := S'.own j d1 z
                  have ne : q1 ≠ p := fun y => S'.sepS j i q1 (fun y => by rw [y, h1] at z; cases z) (.inl ⟨d1, z⟩) oi' e1 (by rw [h2, y])
                  exact ⟨q1, e1, e2, by rw [upd_ne ne]; exact e3, e4⟩
                lck := fun j d1 z => by
                  obtain ⟨q1, e1, e2, e3, e4⟩ := S'.lck j d1 z
                  by_cases ne : q1 = p
                  · subst ne
                    refine ⟨q1, e1, e2, ?_, e4⟩
                    rw [upd_same]
                    rw [h'] at e3
                    cases d1 <;> exact e3
                  · exact ⟨q1, e1, e2, by rw [upd_ne ne]; exact e3, e4⟩
                tmp := fun x hx => by
                  obtain ⟨e1, e2, e3⟩ := S'.tmp x hx
                  have ne : x.2 ≠ p := fun y => S'.sepT i p oi' h2 (List.mem_map.mpr ⟨x, hx, y⟩)
                  exact ⟨e1, by rw [upd_ne ne]; exact e2, e3⟩
                h0 := fun a o z n => by
                  have ne : a ≠ p := fun y => by subst y; exact n (hH0 o z)
                  rcases S'.h0 a o z n with z | ⟨ob', z⟩
                  · exact .inl (by rw [upd_ne ne]; exact z)
                  · rcases List.mem_cons.mp z with z | z
                    · cases z; exact absurd rfl ne
                    · exact .inr ⟨ob', z⟩
                p0 := fun a q => by
                  by_cases ne : a = p
                  · subst ne; rw [upd_same]; simp
                  · rw [upd_ne ne]; exact S'.p0 a q
                fx := fun x hx => ⟨by rw [upd_ne (hF x hx)]; exact (S'.fx x (List.mem_cons_of_mem _ hx)).1, (S'.fx x (List.mem_cons_of_mem _ hx)).2⟩ }
            · rcases List.mem_cons.mp z with z | z
              · cases z; exact absurd (hH0 _ e) n
              · exact ⟨ob', z, z2⟩
          | _ => rw [e] at c; exact (show False from c).elim
      | own d' =>
        cases h
        obtain ⟨p, e1, g, c, hb⟩ := S.own i _ q
        rw [a] at e1; cases e1
        cases e : H p with
        | none => rw [e] at c; exact (show False from c).elim
        | some o =>
          rw [e] at c
          cases o with
          | dK vs =>
            refine ⟨p, vs, rfl, .inr ⟨e, fun ob hn => ?_⟩⟩
            obtain ⟨y1, y2⟩ := S.lockO (nf := nf) (ob := ob) q a rfl e hn (fun xs z => nomatch z)
            have : lockSlot ρ (slotOf (.slot i)) = ρ.set i (.lck (.dct kvs)) := by simp [lockSlot, slotOf, q]
            exact ⟨_, G, Same.refl _, by rw [this]; exact y1, y2, List.mem_cons_self, c⟩
          | _ => exact (show False from c).elim
end
end
end M
end
section
set_option linter.all false
set_option maxRecDepth 100000
set_option maxHeartbeats 1000000
/-! MIt2: the iterators. -/
namespace M
open PySem L2 PyProof.Rows
section
variable {X : Cx} {B : Bs} {W : WX} {a b e tg : Expr} {ca cb : CE} {pos : Pos} {es : List Expr}
theorem tE_bindI {f : Env → Out (Res × Env)} {g : Res × Env → Out (Items × Env)} {G G0 : Hp} {ρ : Env} {σ : L2.St} {H : Hp} {τ τ0 : List (D × Addr)} {R : It → Hp → Prop} {Q : VK} (S : Sm X.K X.mg B G ρ σ H τ) (h : AfterI X.K X.mg (nfr X) B W σ R G0 τ0 ((f ρ).bind g))
    (k : ∀ p v G' H', f ρ = .ok p → Same G G' → Sm X.K X.mg B G' p.2 σ H' (psh p.1 v τ) → ResAt X.K X.mg G' σ (psh p.1 v τ) p.1 v → AfterI X.K X.mg (nfr X) B W σ R G0 τ0 (g p) → Q v H') : tE X.K X.mg B W f σ H Q := by
  refine ⟨G, ρ, τ, S, ?_⟩
  cases e : f ρ with
  | ok p => rw [e] at h; exact fun v G' H' s S' a => k p v G' H' e s S' a h
  | exc c q => rw [e] at h; exact h
  | stuck => rw [e] at h; exact h
theorem AfterI.kI {f : D → Option (List D)} {p : Res × Env} {σ : L2.St} {R : It → Hp → Prop} {G0 : Hp} {τ0 : List (D × Addr)} (h : AfterI X.K X.mg (nfr X) B W σ R G0 τ0 (M.kI f p)) :
    ∃ d xs, deref p.2 p.1 = some d ∧ f d = some xs ∧ AfterI X.K X.mg (nfr X) B W σ R G0 τ0 (.ok ((xs, slotOf p.1), p.2)) := by
  unfold M.kI at h
  split at h
  · rename_i d h1
    split at h
    · rename_i r h3; exact ⟨d, r, h1, h3, h⟩
    · exact h.elim
  · exact h.elim
/-- the end: a walk of what stays -/
theorem AfterI.fin {xs : List D} {r : Res} {d : D} {v : V} {ρ : Env} {σ : L2.St} {H : Hp} {R : It → Hp → Prop} {G0 G : Hp} {τ0 tm : List (D × Addr)} (h : AfterI X.K X.mg (nfr X) B W σ R G0 τ0 (.ok ((xs, slotOf r), ρ))) (s : Same G0 G) (S : Sm X.K X.mg B G ρ σ H (tm ++ τ0)) (a : ResAt X.K X.mg G σ (tm ++ τ0) r v) (hd : deref ρ r = some d)
    (hl : ∀ kvs, d ≠ .dct kvs) (hl2 : ∀ kvs, d ≠ .dctT kvs) {J : It} (hJ : ∀ (B' : Bs) (i : Nat) (G' : Hp) (ρ' : Env) (σ' : L2.St) (H' : Hp) (τ' : List (D × Addr)), Sm X.K X.mg B' G' ρ' σ' H' τ' → View X.K X.mg G' H' d v → (xs.length ≤ i → J.stop i H') ∧ ∀ x, xs[i]? = some x → J.go i H' ∧ ∀ w H2, J.yld i H' w H2 → ∃ G2, Same G' G2 ∧ Sm X.K X.mg B' G2 ρ' σ' H2 τ' ∧ Rep X.K X.mg G2 x w) : R J H := by
  obtain ⟨l, S1, u, st⟩ := S.walked a hd hl hl2
  exact h J l G H tm s S1 u.way fun i G' ρ' σ' H' τ' sb s' S' => hJ _ i G' ρ' σ' H' _ S' (st G' ρ' σ' H' s' (S'.drop sb))
theorem RepL.at {K : PySem.W.Frag} {mg : Str → Option Value} {G : Hp} {xs : List D} {vs : List V} (h : RepL K mg G xs vs) {i : Nat} {x : D} {v : V} (hx : xs[i]? = some x) (hv : vs[i]? = some v) : Rep K mg G x v := by
  obtain ⟨w, e, r⟩ := h.get hx
  rw [hv] at e; cases e
  exact r
theorem rev_at {α : Type} {xs : List α} {i : Nat} {x : α} (h : xs.reverse[i]? = some x) : i < xs.length ∧ xs[xs.length - 1 - i]? = some x := by
  have hi : i < xs.length := by
    have := (List.getElem?_eq_some_iff.mp h).1
    simpa using this
  rw [List.getElem?_reverse hi] at h
  exact ⟨hi, h⟩
/-- a dict that stands locked, or is locked now -/
def lkD (nf : Addr → Prop) (J : Addr → PySem.Obj → List (L2.Key × V) → It) (x : V) (H1 : Hp) (R : It → Hp → Prop) : Prop := ∃ d kvs, x = .ref d ∧ ((∃ ob, H1 d = some (.frz ob (.dK kvs)) ∧ R (J d ob kvs) H1) ∨ (H1 d = some (.dK kvs) ∧ ∀ ob, nf d → R (J d ob kvs) (upd H1 d (.frz ob (.dK kvs)))))
/-- the dict that an expression gives stands locked, or is locked now -/
def tLk (nf : Addr → Prop) (t : TE) : TE := fun σ H Q => t σ H fun x H1 => ∃ d kvs, x = .ref d ∧ ((∃ ob, H1 d = some (.frz ob (.dK kvs)) ∧ Q x H1) ∨ (H1 d = some (.dK kvs) ∧ ∀ ob, nf d → Q x (upd H1 d (.frz ob (.dK kvs)))))
theorem pe_lk {t : TE} (h : PE X e t) : PE X e (tLk (nfr X) t) := by
  refine ⟨fun pins s σ H Q I hw => thn (h.run pins s σ H _ I hw) fun u s1 ⟨x, H1, I1, rx, d, kvs, ex, q⟩ => ?_⟩
  rcases q with ⟨ob, h1, q⟩ | ⟨h1, q⟩
  · exact ⟨x, H1, I1, rx, q⟩
  · obtain ⟨ob, I2⟩ := I1.lock h1 trivial
    exact ⟨x, _, I2, rx, q ob (I1.nofrz h1 trivial)⟩
theorem lkD_tLk {J : Addr → PySem.Obj → List (L2.Key × V) → It} {x : V} {H1 : Hp} {R : It → Hp → Prop} {Q : VK} (h : lkD (nfr X) J x H1 R) (hq : ∀ d ob kvs H2, H2 d = some (.frz ob (.dK kvs)) → R (J d ob kvs) H2 → Q (.ref d) H2) :
    ∃ d kvs, x = .ref d ∧ ((∃ ob, H1 d = some (.frz ob (.dK kvs)) ∧ Q x H1) ∨ (H1 d = some (.dK kvs) ∧ ∀ ob, nfr X d → Q x (upd H1 d (.frz ob (.dK kvs))))) := by
  obtain ⟨d, kvs, rfl, ⟨ob, h1, q⟩ | ⟨h1, q⟩⟩ := h
  · exact ⟨d, kvs, rfl, .inl ⟨ob, h1, hq _ _ _ _ h1 q⟩⟩
  · exact ⟨d, kvs, rfl, .inr ⟨h1, fun ob hn => hq _ _ _ _ upd_same (q ob hn)⟩⟩
/-- the end: a walk of a dict -/
theorem AfterI.dct {xs : List D} {r : Res} {kvs : List (Key × D)} {v : V} {ρ : Env} {σ : L2.St} {H : Hp} {R : It → Hp → Prop} {G0 G : Hp} {τ0 : List (D × Addr)} {J : Addr → PySem.Obj → List (L2.Key × V) → It} (h : AfterI X.K X.mg (nfr X) B W σ R G0 τ0 (.ok ((xs, slotOf r), ρ))) (s : Same G0 G) (S : Sm X.K X.mg B G ρ σ H (pushd r v ++ τ0)) (a : ResAt X.K X.mg G σ (pushd r v ++ τ0) r v) (hd : deref ρ r = some (.dct kvs))
    (hJ : ∀ (B' : Bs) (p : Addr) (ob : PySem.Obj) (vs : List (L2.Key × V)) (i : Nat) (G' : Hp) (ρ' : Env) (σ' : L2.St) (H' : Hp) (τ' : List (D × Addr)), Sm X.K X.mg B' G' ρ' σ' H' τ' → H' p = some (.frz ob (.dK vs)) → RepK X.K X.mg G' kvs vs → (xs.length ≤ i → (J p ob vs).stop i H') ∧ ∀ x, xs[i]? = some x → (J p ob vs).go i H' ∧ ∀ w H2, (J p ob vs).yld i H' w H2 → ∃ G2, Same G' G2 ∧ Sm X.K X.mg B' G2 ρ' σ' H2 τ' ∧ Rep X.K X.mg G2 x w) : lkD (nfr X) J v H R := by
  obtain ⟨p, vs, rfl, q⟩ := S.walkedD (nf := nfr X) rfl a hd
  have walk : ∀ {ob : PySem.Obj} {B' : Bs} {G1 : Hp}, (p, ob, .dK vs) ∈ B'.F → RepK X.K X.mg G1 kvs vs → Walk X.K X.mg (J p ob vs) xs B' G1 ([] ++ τ0) := fun {ob B' G1} hF rk i G' ρ' σ' H' τ' _ s' S' => hJ B' p ob vs i G' ρ' σ' H' τ' S' (S'.fx _ hF).1 (RepK.mono s' _ rk)
  rcases q with ⟨ob, h1, B', G1, s1, S1, wy, hF, rk⟩ | ⟨h1, q⟩
  · exact ⟨p, vs, rfl, .inl ⟨ob, h1, h _ B' G1 H [] (s.trans s1) S1 wy (walk hF rk)⟩⟩
  · refine ⟨p, vs, rfl, .inr ⟨h1, fun ob hn => ?_⟩⟩
    obtain ⟨B', G1, s1, S1, wy, hF, rk⟩ := q ob hn
    exact h _ B' G1 _ [] (s.trans s1) S1 wy (walk hF rk)
theorem RepK.get {K : PySem.W.Frag} {mg : Str → Option Value} {G : Hp} : ∀ {ds : List (Key × D)} {vs : List (L2.Key × V)} {i : Nat} {d : Key × D}, RepK K mg G ds vs → ds[i]? = some d → ∃ v, vs[i]? = some (d.1, v) ∧ Rep K mg G d.2 v ∧ KeyFit d.1
  | [], _, _, _, _, e => by simp at e
  | x :: xs, _, 0, d, h, e => by
    obtain ⟨v, r, rfl, h1, h2⟩ := h.inv
    simp at e; subst e
    exact ⟨v, by simp, h1.1, h1.2⟩
  | x :: xs, _, i + 1, d, h, e => by
    obtain ⟨v, r, rfl, h1, h2⟩ := h.inv
    simpa using RepK.get h2 (by simpa using e)
theorem KeyFit.rep {K : PySem.W.Frag} {mg : Str → Option Value} {G : Hp} {k : Key} (h : KeyFit k) : Rep K mg G (D.ofKey k) (kV k) := by
  cases k with
  | inl i => simp only [D.ofKey, Rep]; rfl
  | inr x => simp only [D.ofKey, Rep]; exact ⟨rfl, h⟩
/-- a list, a tuple, a text, a dict -/
def iAll (K : PySem.W.Frag) (nf : Addr → Prop) (te : TE) : TI := fun σ H R => te σ H fun x H1 => (∃ a xs, x = .ref a ∧ SqL K H1 a xs ∧ R (Itl K a) H1) ∨ (∃ a xs, x = .ref a ∧ SqT K H1 a xs ∧ R (Itt K a) H1) ∨ (∃ z, x = .str z ∧ R (Its z) H1) ∨ lkD nf Itk x H1 R
theorem pi_all {te : TE} (he : PE X e te) : PI X tg e (iAll X.K (nfr X) te) := by
  refine ⟨fun pins s σ H R I h => ?_⟩
  refine thn (he.run pins s σ H _ I h) fun v s1 ⟨x, H1, I1, r1, q1⟩ => ?_
  rcases q1 with ⟨a, xs, rfl, hq, q⟩ | ⟨a, xs, rfl, hq, q⟩ | ⟨z, rfl, q⟩ | q1
  · cases r1
    obtain ⟨its, rv, p, hz⟩ := I1.list hq
    refine wpAny_pyIter_list p.isList ?_
    refine ⟨s1.heap.objs.size, [s1.heap.objs.size], _, _, H1, rfl, I1.kept (t' := s1.toks) fun b o e => Heap.get?_push_of_some _ e, turn_list a _, ⟨_, Heap.get?_push_size _ rfl, rfl, rfl⟩, fun b hb => ?_, q⟩
    have e : b = s1.heap.objs.size := by simpa using hb
    subst e
    exact I1.fpOk (Nat.le_refl _) (I1.hok.fresh (Nat.le_refl _))
  · cases r1
    obtain ⟨its, rv, p, hz⟩ := I1.tuple hq
    refine wpAny_pyIter_tuple (show s1.heap.IsTuple a its.toArray from p) ?_
    refine ⟨s1.heap.objs.size, [s1.heap.objs.size], _, _, H1, rfl, I1.kept (t' := s1.toks) fun b o e => Heap.get?_push_of_some _ e, turn_tuple a _, ⟨_, Heap.get?_push_size _ rfl, rfl, rfl⟩, fun b hb => ?_, q⟩
    have e : b = s1.heap.objs.size := by simpa using hb
    subst e
    exact I1.fpOk (Nat.le_refl _) (I1.hok.fresh (Nat.le_refl _))
  · obtain ⟨t, rfl⟩ := r1
    cases ha : z.cps.all (· < 128)
    · exact wpAny_pyIter_wide ha (pi_one (tk := s1.toks) I1 _ (turn_str _ z t "str_iterator" (.inr rfl)) ⟨_, Heap.get?_push_size _ rfl, rfl, rfl⟩ q)
    · exact wpAny_pyIter_ascii ha (pi_one (tk := s1.toks) I1 _ (turn_str _ z t "str_ascii_iterator" (.inl rfl)) ⟨_, Heap.get?_push_size _ rfl, rfl, rfl⟩ q)
  · obtain ⟨d, kvs, rfl, ⟨ob, hd, q⟩ | ⟨hd, q⟩⟩ := q1
    · obtain rfl : v = Value.ref d := r1
      obtain ⟨y1, y2, y3, es, ep, vs, y4, y5, _, _⟩ := I1.frzK hd
      exact iter_keys y1 y2 y3 y4 (pi_one (tk := s1.toks) I1 _ (turn_keys _ y4) ⟨_, Heap.get?_push_size _ rfl, rfl, by rw [y5] <;> rfl⟩ q)
    · obtain rfl : v = Value.ref d := r1
      obtain ⟨ob, I2⟩ := I1.lock hd trivial
      obtain ⟨y1, y2, y3, es, ep, vs, y4, y5, _, _⟩ := I2.frzK upd_same
      exact iter_keys y1 y2 y3 y4 (pi_one (tk := s1.toks) I2 _ (turn_keys _ y4) ⟨_, Heap.get?_push_size _ rfl, rfl, by rw [y5] <;> rfl⟩ (q ob (I1.nofrz hd trivial)))
theorem di_e (he : DE X B W e (ev ca)) : DI X B W tg e (evI (.e ca)) := by
  refine ⟨fun pins s σ H R I hw => (pi_all he).run pins s σ H R I ?_⟩
  obtain ⟨G, ρ, τ, S, hw⟩ := hw
  simp only [evI] at hw
  refine tE_bindI S hw fun p v G1 H1 e1 s1 S1 a1 h1 => ?_
  obtain ⟨d, xs, h2, h3, h⟩ := h1.kI
  rw [psh_eq] at S1 a1
  cases d with
  | lst ds =>
    simp only [itemsD] at h3; cases h3
    obtain ⟨a, vs, rfl, hv, hr⟩ := S1.view a1 h2
    refine .inl ⟨a, vs, rfl, .inl hv, h.fin s1 S1 a1 h2 (fun _ z => nomatch z) (fun _ z => nomatch z) fun B' i G' ρ' σ' H' τ' S' w => ?_⟩
    obtain ⟨a', vs', e', hv', hr'⟩ := w
    cases e'
    have hl := hr'.length
    refine ⟨fun hi => ⟨vs', .inl hv', by omega⟩, fun x hx => ?_⟩
    obtain ⟨w, hw, rw'⟩ := hr'.get hx
    refine ⟨⟨vs', w, .inl hv', hw⟩, fun w2 H2 y => ?_⟩
    obtain ⟨rfl, y⟩ := y
    have := y vs' (.inl hv')
    rw [hw] at this; cases this
    exact ⟨G', Same.refl _, S', rw'⟩
  | tup ds =>
    simp only [itemsD] at h3; cases h3
    obtain ⟨a, vs, rfl, hv, hr, _⟩ := S1.view a1 h2
    refine .inr (.inl ⟨a, vs, rfl, hv, h.fin s1 S1 a1 h2 (fun _ z => nomatch z) (fun _ z => nomatch z) fun B' i G' ρ' σ' H' τ' S' w => ?_⟩)
    obtain ⟨a', vs', e', hv', hr', _⟩ := w
    cases e'
    have hl := hr'.length
    refine ⟨fun hi => ⟨vs', hv', by omega⟩, fun x hx => ?_⟩
    obtain ⟨w, hw, rw'⟩ := hr'.get hx
    refine ⟨⟨vs', w, hv', hw⟩, fun w2 H2 y => ?_⟩
    obtain ⟨rfl, y⟩ := y
    have := y vs' hv'
    rw [hw] at this; cases this
    exact ⟨G', Same.refl _, S', rw'⟩
  | dct kvs =>
    simp only [itemsD] at h3; cases h3
    refine .inr (.inr (.inr (h.dct s1 S1 a1 h2 fun B' p ob vs i G' ρ' σ' H' τ' S' hd rk => ?_)))
    have hl := rk.length
    refine ⟨fun hi => ⟨hd, by rw [List.length_map] at hi; omega⟩, fun x hx => ?_⟩
    rw [List.getElem?_map, Option.map_eq_some_iff] at hx
    obtain ⟨kv, hk, rfl⟩ := hx
    obtain ⟨w, hw, r1, r2⟩ := rk.get hk
    refine ⟨⟨hd, (List.getElem?_eq_some_iff.mp hw).1⟩, fun x2 H2 y => ?_⟩
    obtain ⟨rfl, k2, v2, e2, rfl⟩ := y
    rw [hw] at e2; cases e2
    exact ⟨G', Same.refl _, S', r2.rep⟩
  | str z =>
    simp only [itemsD] at h3; cases h3
    obtain ⟨rfl, f1, f2⟩ := S1.view a1 h2
    refine .inr (.inr (.inl ⟨z, rfl, h.fin s1 S1 a1 h2 (fun _ z => nomatch z) (fun _ z => nomatch z) fun B' i G' ρ' σ' H' τ' S' w => ?_⟩))
    refine ⟨fun hi => (show z.cps.size ≤ i by simpa using hi), fun x hx => ?_⟩
    rw [List.getElem?_map, Option.map_eq_some_iff] at hx
    obtain ⟨c, hc, rfl⟩ := hx
    have hc' : z.cps[i]? = some c := by rw [← Array.getElem?_toList]; exact hc
    refine ⟨(Array.getElem?_eq_some_iff.mp hc').1, fun w2 H2 y => ?_⟩
    obtain ⟨rfl, c', e1, rfl⟩ := y
    rw [hc'] at e1; cases e1
    refine ⟨G', Same.refl _, S', ?_⟩
    simp only [Rep]
    refine ⟨trivial, strOk_sub f1 (cs := [c]) (by intro c' h'; simp at h'; subst h'; exact Array.mem_toList_iff.mpr (Array.mem_of_getElem? hc')), by rw [sizeLine_eq]; show 1 ≤ 16777216; decide⟩
  | _ => simp [itemsD] at h3
theorem di_values {apos cpos : Pos} (he : DE X B W e (ev ca)) (hbase : attributeBase e "values" X.env (eval e X.env) = eval e X.env) (hline : (apos.endLine == cpos.line) = true) : DI X B W tg (.Call (.Attribute e "values" apos) [] [] cpos) (evI (.values ca)) := by
  refine ⟨fun pins s σ H R I hw => (pi_values (pe_lk he) hbase hline).run pins s σ H R I ?_⟩
  obtain ⟨G, ρ, τ, S, hw⟩ := hw
  simp only [evI] at hw
  refine tE_bindI S hw fun p v G1 H1 e1 s1 S1 a1 h1 => ?_
  obtain ⟨d, xs, h2, h3, h⟩ := h1.kI
  rw [psh_eq] at S1 a1
  cases d <;> simp only [valuesD] at h3 <;> (try (cases h3; done))
  cases h3
  refine lkD_tLk (J := Itd) (Q := fun x H1 => ∃ d o kvs, x = .ref d ∧ H1 d = some (.frz o (.dK kvs)) ∧ R (Itd d o kvs) H1) (h.dct s1 S1 a1 h2 fun B' p ob vs i G' ρ' σ' H' τ' S' hd rk => ?_) fun d ob kvs H2 h4 h5 => ⟨d, ob, kvs, rfl, h4, h5⟩
  have hl := rk.length
  refine ⟨fun hi => ⟨hd, by rw [List.length_map] at hi; omega⟩, fun x hx => ?_⟩
  rw [List.getElem?_map, Option.map_eq_some_iff] at hx
  obtain ⟨kv, hk, rfl⟩ := hx
  obtain ⟨w, hw, r1, r2⟩ := rk.get hk
  refine ⟨⟨hd, (List.getElem?_eq_some_iff.mp hw).1⟩, fun x2 H2 y => ?_⟩
  obtain ⟨rfl, k2, e2⟩ := y
  rw [hw] at e2; cases e2
  exact ⟨G', Same.refl _, S', r1⟩
theorem di_items {apos cpos tpos : Pos} {elts : List Expr} {kk : Nat} (he : DE X B W e (ev ca)) (hbase : attributeBase e "items" X.env (eval e X.env) = eval e X.env) (hline : (apos.endLine == cpos.line) = true) : DI X B W (.Tuple elts kk tpos) (.Call (.Attribute e "items" apos) [] [] cpos) (evI (.items ca)) := by
  refine ⟨fun pins s σ H R I hw => (pi_items (pe_lk he) hbase hline).run pins s σ H R I ?_⟩
  obtain ⟨G, ρ, τ, S, hw⟩ := hw
  simp only [evI] at hw
  refine tE_bindI S hw fun p v G1 H1 e1 s1 S1 a1 h1 => ?_
  obtain ⟨d, xs, h2, h3, h⟩ := h1.kI
  rw [psh_eq] at S1 a1
  cases d <;> simp only [pairsD] at h3 <;> (try (cases h3; done))
  cases h3
  refine lkD_tLk (J := Iti) (Q := fun x H1 => ∃ d o kvs, x = .ref d ∧ H1 d = some (.frz o (.dK kvs)) ∧ R (Iti d o kvs) H1) (h.dct s1 S1 a1 h2 fun B' p ob vs i G' ρ' σ' H' τ' S' hd rk => ?_) fun d ob kvs H2 h4 h5 => ⟨d, ob, kvs, rfl, h4, h5⟩
  have hl := rk.length
  refine ⟨fun hi => ⟨hd, by rw [List.length_map] at hi; omega⟩, fun x hx => ?_⟩
  rw [List.getElem?_map, Option.map_eq_some_iff] at hx
  obtain ⟨kv, hk, rfl⟩ := hx
  obtain ⟨w, hw, r1, r2⟩ := rk.get hk
  refine ⟨⟨hd, (List.getElem?_eq_some_iff.mp hw).1⟩, fun x2 H2 y => ?_⟩
  obtain ⟨T, k2, v2, e2, rfl, hT, rfl⟩ := y
  rw [hw] at e2; cases e2
  exact S'.tup hT (RepL.cons r2.rep (RepL.cons r1 RepL.nil))
theorem rangeN_get : ∀ {n : Nat} {lo : Int} {i : Nat}, (rangeN lo n)[i]? = if i < n then some (.int (lo + i)) else none
  | 0, lo, i => by simp [rangeN]
  | n + 1, lo, 0 => by simp [rangeN]
  | n + 1, lo, i + 1 => by
    simp only [rangeN, List.getElem?_cons_succ]
    rw [rangeN_get]
    by_cases h : i < n
    · rw [if_pos h, if_pos (by omega)]; congr 2; omega
    · rw [if_neg h, if_neg (by omega)]
theorem rangeN_length : ∀ {n : Nat} {lo : Int}, (rangeN lo n).length = n
  | 0, _ => rfl
  | n + 1, lo => by simp [rangeN, rangeN_length]
theorem smallB_of {i : Int} (h : smallB i = true) : -(2 ^ 62) ≤ i ∧ i < 2 ^ 62 := by
  unfold smallB at h
  simpa using h
theorem walk_range {K : PySem.W.Frag} {mg : Str → Option Value} {lo : Int} {n : Nat} {G1 : Hp} {τ : List (D × Addr)} : Walk K mg (Itr lo n) (rangeN lo n) B G1 τ := by
  intro i G ρ σ H τ _ s S
  rw [rangeN_length, rangeN_get]
  refine ⟨fun h => h, fun d hd => ?_⟩
  by_cases h : i < n
  · rw [if_pos h] at hd; cases hd
    refine ⟨h, fun x H' y => ?_⟩
    obtain ⟨rfl, rfl⟩ := y
    exact ⟨G, Same.refl _, S, by simp only [Rep]⟩
  · rw [if_neg h] at hd; cases hd
theorem AfterI.range {lo : Int} {n : Nat} {ρ : Env} {σ : L2.St} {H : Hp} {R : It → Hp → Prop} {G0 G : Hp} {τ0 τ : List (D × Addr)} (h : AfterI X.K X.mg (nfr X) B W σ R G0 τ0 (.ok ((rangeN lo n, none), ρ))) (s : Same G0 G) (S : Sm X.K X.mg B G ρ σ H τ) (sub : τ0.Sublist τ) : R (Itr lo n) H :=
  h (Itr lo n) B G H [] s (S.drop sub) Way.triv walk_range
theorem AfterI.kR {f : D → Option (List D)} {p : Res × Env} {σ : L2.St} {R : It → Hp → Prop} {G0 : Hp} {τ0 : List (D × Addr)} (h : AfterI X.K X.mg (nfr X) B W σ R G0 τ0 (M.kR f p)) :
    ∃ d xs, deref p.2 p.1 = some d ∧ f d = some xs ∧ AfterI X.K X.mg (nfr X) B W σ R G0 τ0 (.ok ((xs, none), p.2)) := by
  unfold M.kR at h
  split at h
  · rename_i d h1
    split at h
    · rename_i r h3; exact ⟨d, r, h1, h3, h⟩
    · exact h.elim
  · exact h.elim
theorem AfterI.kR2 {f : D → D → Option (List D)} {p q : Res × Env} {σ : L2.St} {R : It → Hp → Prop} {G0 : Hp} {τ0 : List (D × Addr)} (h : AfterI X.K X.mg (nfr X) B W σ R G0 τ0 (M.kR2 f p q)) :
    ∃ d e xs, deref q.2 p.1 = some d ∧ deref q.2 q.1 = some e ∧ f d e = some xs ∧ AfterI X.K X.mg (nfr X) B W σ R G0 τ0 (.ok ((xs, none), q.2)) := by
  unfold M.kR2 at h
  split at h
  · rename_i d h1
    split at h
    · rename_i e h2
      split at h
      · rename_i r h3; exact ⟨d, e, r, h1, h2, h3, h⟩
      · exact h.elim
    · exact h.elim
  · exact h.elim
theorem AfterI.kI2 {f : D → D → Option (List D)} {p q : Res × Env} {σ : L2.St} {R : It → Hp → Prop} {G0 : Hp} {τ0 : List (D × Addr)} (h : AfterI X.K X.mg (nfr X) B W σ R G0 τ0 (M.kI2 f p q)) :
    ∃ d e xs o, deref q.2 p.1 = some d ∧ deref q.2 q.1 = some e ∧ f d e = some xs ∧ slot2 p.1 q.1 = some o ∧ AfterI X.K X.mg (nfr X) B W σ R G0 τ0 (.ok ((xs, o), q.2)) := by
  unfold M.kI2 at h
  split at h
  · rename_i d h1
    split at h
    · rename_i e h2
      split at h
      · rename_i r h3
        split at h
        · rename_i o h4; exact ⟨d, e, r, o, h1, h2, h3, h4, h⟩
        · exact h.elim
      · exact h.elim
    · exact h.elim
  · exact h.elim
theorem di_range1 {p : Pos} (hg : Gl X "range") (hm : X.mg "range" = none) (ha : DE X B W a (ev ca)) (hs : starEach [a] X.env = [(false, eval a X.env)]) : DI X B W tg (.Call (.Name "range" p) [a] [] pos) (evI (.range1 ca)) := by
  have hA : PA X [a] (tCons (tE X.K X.mg B W (ev ca)) tNil) := pa_cons ha pa_nil hs
  refine ⟨fun pins s σ H R I hw => (pi_range1 hg hm hA hs).run pins s σ H R I ?_⟩
  obtain ⟨G, ρ, τ, S, hw⟩ := hw
  simp only [evI] at hw
  refine tE_bindI S hw fun p v G1 H1 e1 s1 S1 a1 h1 => ?_
  obtain ⟨d, xs, h2, h3, h⟩ := h1.kR
  cases d <;> simp only [range1D] at h3 <;> (try (cases h3; done))
  split at h3
  · rename_i i hi
    cases h3
    obtain ⟨b1, b2⟩ := smallB_of hi
    have w : v = .int i := S1.view a1 h2
    subst w
    exact ⟨i, rfl, b1, b2, h.range s1 S1 (psh_sub _ _ _)⟩
  · cases h3
theorem di_range2 {p : Pos} (hg : Gl X "range") (hm : X.mg "range" = none) (ha : DE X B W a (ev ca)) (hb : DE X B W b (ev cb)) (hs : starEach [a, b] X.env = [(false, eval a X.env), (false, eval b X.env)]) (hs2 : starEach [b] X.env = [(false, eval b X.env)]) :
    DI X B W tg (.Call (.Name "range" p) [a, b] [] pos) (evI (.range2 ca cb)) := by
  have hA : PA X [a, b] (tCons (tE X.K X.mg B W (ev ca)) (tCons (tE X.K X.mg B W (ev cb)) tNil)) := pa_cons ha (pa_cons hb pa_nil hs2) (by rw [hs, hs2])
  refine ⟨fun pins s σ H R I hw => (pi_range2 hg hm hA hs hs2).run pins s σ H R I ?_⟩
  obtain ⟨G, ρ, τ, S, hw⟩ := hw
  simp only [evI] at hw
  refine tE_bindI S hw fun p v G1 H1 e1 s1 S1 a1 h1 => ?_
  refine tE_bindI S1 h1 fun q u G2 H2 e2 s2 S2 a2 h2 => ?_
  obtain ⟨d, e, xs, h3, h4, h5, h⟩ := h2.kR2
  cases d <;> cases e <;> simp only [range2D] at h5 <;> (try (cases h5; done))
  split at h5
  · rename_i i j hi
    cases h5
    rw [Bool.and_eq_true] at hi
    obtain ⟨b1, b2⟩ := smallB_of hi.1
    obtain ⟨b3, b4⟩ := smallB_of hi.2
    have w1 : v = .int i := S2.view (a1.mono s2 fun x hx => psh_mem _ _ hx) h3
    have w2 : u = .int j := S2.view a2 h4
    subst w1 w2
    exact ⟨i, j, rfl, ⟨b1, b2, b3, b4⟩, h.range (s1.trans s2) S2 (sub_psh (psh_sub _ _ _))⟩
  · cases h5
theorem enumFrom_get : ∀ {xs : List D} {k : Int} {i : Nat}, (enumFrom k xs)[i]? = (xs[i]?).map fun x => .tup [.int (k + i), x]
  | [], k, i => by simp [enumFrom]
  | x :: xs, k, 0 => by simp [enumFrom]
  | x :: xs, k, i + 1 => by
    simp only [enumFrom, List.getElem?_cons_succ]
    rw [enumFrom_get]
    have : k + 1 + (i : Int) = k + ((i + 1 : Nat) : Int) := by omega
    rw [this]
theorem enumFrom_length : ∀ {xs : List D} {k : Int}, (enumFrom k xs).length = xs.length
  | [], _ => rfl
  | x :: xs, k => by simp [enumFrom, enumFrom_length]
theorem di_enum {p tpos : Pos} {elts : List Expr} {kk : Nat} (hg : Gl X "enumerate") (hm : X.mg "enumerate" = none) (ha : DE X B W a (ev ca)) (hs : starEach [a] X.env = [(false, eval a X.env)]) : DI X B W (.Tuple elts kk tpos) (.Call (.Name "enumerate" p) [a] [] pos) (evI (.enum ca)) := by
  have hA : PA X [a] (tCons (tE X.K X.mg B W (ev ca)) tNil) := pa_cons ha pa_nil hs
  refine ⟨fun pins s σ H R I hw => (pi_enum hg hm hA hs).run pins s σ H R I ?_⟩
  obtain ⟨G, ρ, τ, S, hw⟩ := hw
  simp only [evI] at hw
  refine tE_bindI S hw fun p v G1 H1 e1 s1 S1 a1 h1 => ?_
  obtain ⟨d, xs, h2, h3, h⟩ := h1.kI
  rw [psh_eq] at S1 a1
  cases d <;> simp only [enumD] at h3 <;> (try (cases h3; done))
  cases h3
  obtain ⟨a, vs, rfl, hv, hr⟩ := S1.view a1 h2
  refine ⟨a, vs, rfl, .inl hv, h.fin s1 S1 a1 h2 (fun _ z => nomatch z) (fun _ z => nomatch z) fun B' i G' ρ' σ' H' τ' S' w => ?_⟩
  obtain ⟨a', vs', e', hv', hr'⟩ := w
  cases e'
  have hl := hr'.length
  refine ⟨fun hi => ⟨vs', .inl hv', by rw [enumFrom_length] at hi; omega⟩, fun x hx => ?_⟩
  rw [enumFrom_get, Option.map_eq_some_iff] at hx
  obtain ⟨y, hy, rfl⟩ := hx
  obtain ⟨w, hw, rw'⟩ := hr'.get hy
  refine ⟨⟨vs', w, .inl hv', hw⟩, fun w2 H2 y => ?_⟩
  obtain ⟨T, z, rfl, hT, rfl, y⟩ := y
  have := y vs' (.inl hv')
  rw [hw] at this; cases this
  refine S'.tup hT (RepL.cons ?_ (RepL.cons rw' RepL.nil))
  simp only [Rep]
  simp
theorem di_reversed {p : Pos} (hg : Gl X "reversed") (hm : X.mg "reversed" = none) (ha : DE X B W a (ev ca)) (hs : starEach [a] X.env = [(false, eval a X.env)]) : DI X B W tg (.Call (.Name "reversed" p) [a] [] pos) (evI (.reversed ca)) := by
  have hA : PA X [a] (tCons (tE X.K X.mg B W (ev ca)) tNil) := pa_cons ha pa_nil hs
  refine ⟨fun pins s σ H R I hw => (pi_reversed hg hm hA hs).run pins s σ H R I ?_⟩
  obtain ⟨G, ρ, τ, S, hw⟩ := hw
  simp only [evI] at hw
  refine tE_bindI S hw fun p v G1 H1 e1 s1 S1 a1 h1 => ?_
  obtain ⟨d, xs, h2, h3, h⟩ := h1.kI
  rw [psh_eq] at S1 a1
  cases d <;> simp only [revItemsD] at h3 <;> (try (cases h3; done))
  cases h3
  rename_i ds
  obtain ⟨a, vs, rfl, hv, hr⟩ := S1.view a1 h2
  refine ⟨a, vs, rfl, .inl hv, h.fin s1 S1 a1 h2 (fun _ z => nomatch z) (fun _ z => nomatch z) fun B' i G' ρ' σ' H' τ' S' w => ?_⟩
  obtain ⟨a', vs', e', hv', hr'⟩ := w
  cases e'
  have hl := hr'.length
  have hl0 := hr.length
  refine ⟨fun hi => (show vs.length ≤ i by rw [List.length_reverse] at hi; omega), fun x hx => ?_⟩
  obtain ⟨hi, hx⟩ := rev_at hx
  obtain ⟨w, hw, rw'⟩ := hr'.get hx
  rw [hl0] at hw
  refine ⟨⟨by omega, vs', w, .inl hv', hw⟩, fun w2 H2 y => ?_⟩
  obtain ⟨rfl, y⟩ := y
  have := y vs' (.inl hv')
  rw [hw] at this; cases this
  exact ⟨G', Same.refl _, S', rw'⟩
theorem zipD_get : ∀ {xs ys : List D} {i : Nat} {z : D}, (zipD xs ys)[i]? = some z → ∃ x y, xs[i]? = some x ∧ ys[i]? = some y ∧ z = .tup [x, y]
  | [], _, i, z, h => by simp [zipD] at h
  | _ :: _, [], i, z, h => by simp [zipD] at h
  | x :: xs, y :: ys, 0, z, h => by simp [zipD] at h; exact ⟨x, y, by simp, by simp, h.symm⟩
  | x :: xs, y :: ys, i + 1, z, h => by
    simp only [zipD, List.getElem?_cons_succ] at h ⊢
    exact zipD_get h
theorem zipD_length : ∀ {xs ys : List D}, (zipD xs ys).length = min xs.length ys.length
  | [], _ => by simp [zipD]
  | _ :: _, [] => by simp [zipD]
  | x :: xs, y :: ys => by simp only [zipD, List.length_cons, zipD_length]; omega
theorem deref_lock {ρ : Env} {r : Res} {o : Option Nat} : deref (lockSlot ρ o) r = deref ρ r := by
  cases r with
  | val d => rfl
  | own d => rfl
  | slot j =>
    cases o with
    | none => rfl
    | some i =>
      simp only [lockSlot]
      split
      · rename_i d hd
        by_cases e : j = i
        · subst e
          have hi : j < ρ.length := (List.getElem?_eq_some_iff.mp hd).1
          simp only [deref, setself hi, hd]
        · simp only [deref, setne e]
      · rfl
theorem lock_lock {ρ : Env} {i : Nat} : lockSlot (lockSlot ρ (some i)) (some i) = lockSlot ρ (some i) := by
  cases h : ρ[i]? with
  | none => simp [lockSlot, h]
  | some s =>
    cases s with
    | own d =>
      have hi : i < ρ.length := (List.getElem?_eq_some_iff.mp h).1
      simp [lockSlot, h, setself hi]
    | _ => simp [lockSlot, h]
theorem unlock_lock {ρ ρ' : Env} {i : Nat} : unlockSlot (lockSlot ρ (some i)) ρ' (some i) = ρ' := by
  cases h : ρ[i]? with
  | none => simp [lockSlot, unlockSlot, h]
  | some s =>
    cases s with
    | own d =>
      have hi : i < ρ.length := (List.getElem?_eq_some_iff.mp h).1
      simp [lockSlot, unlockSlot, h, setself hi]
    | _ => simp [lockSlot, unlockSlot, h]
/-- two things that stay -/
theorem Sm.walked2 {K : PySem.W.Frag} {mg : Str → Option Value} {G : Hp} {ρ : Env} {σ : L2.St} {H : Hp} {τ : List (D × Addr)} (S : Sm K mg B G ρ σ H τ) {r r' : Res} {v v' : V} {d d' : D} {o : Option Nat} (a : ResAt K mg G σ τ r v) (a' : ResAt K mg G σ τ r' v') (h : deref ρ r = some d) (h' : deref ρ r' = some d')
    (hl : ∀ kvs, d ≠ .dct kvs) (hl2 : ∀ kvs, d ≠ .dctT kvs) (hl' : ∀ kvs, d' ≠ .dct kvs) (hl2' : ∀ kvs, d' ≠ .dctT kvs) (ho : slot2 r r' = some o) :
    ∃ B', Sm K mg B' G (lockSlot ρ o) σ H τ ∧ WayL K mg B B' ρ o ∧ ∀ G' ρ' σ' H', Same G G' → Sm K mg B' G' ρ' σ' H' τ → View K mg G' H' d v ∧ View K mg G' H' d' v' := by
  obtain ⟨l1, S1, u1, t1⟩ := S.walked a h hl hl2
  obtain ⟨l2, S2, u2, t2⟩ := S1.walked a' (by rw [deref_lock]; exact h') hl' hl2'
  have e1 : lockSlot (lockSlot ρ (slotOf r)) (slotOf r') = lockSlot ρ o := by
    cases r <;> cases r' <;> simp only [slot2] at ho <;> (try (cases ho; rfl))
    split at ho
    · rename_i e; cases ho; subst e; exact lock_lock
    · cases ho
  have e2 : ∀ ρ', unlockSlot ρ (unlockSlot (lockSlot ρ (slotOf r)) ρ' (slotOf r')) (slotOf r) = unlockSlot ρ ρ' o := by
    intro ρ'
    cases r <;> cases r' <;> simp only [slot2] at ho <;> (try (cases ho; rfl))
    split at ho
    · rename_i e; cases ho; subst e
      show unlockSlot ρ (unlockSlot (lockSlot ρ (some _)) ρ' (some _)) (some _) = _
      rw [unlock_lock]
    · cases ho
  refine ⟨l2, by rw [← e1]; exact S2, ⟨u2.nin.trans u1.nin, fun G' ρ' σ' H' τ' S' => ?_, fun H x => u1.ex H (u2.ex H x)⟩, fun G' ρ' σ' H' s S' => ⟨t1 _ _ _ _ s (u2.un _ _ _ _ _ S'), t2 _ _ _ _ s S'⟩⟩
  rw [← e2]
  exact u1.un _ _ _ _ _ (u2.un _ _ _ _ _ S')
theorem di_zip {p tpos : Pos} {elts : List Expr} {kk : Nat} (hg : Gl X "zip") (hm : X.mg "zip" = none) (ha : DE X B W a (ev ca)) (hb : DE X B W b (ev cb))
    (hs : starEach [a, b] X.env = (false, eval a X.env) :: starEach [b] X.env) (hs2 : starEach [b] X.env = (false, eval b X.env) :: starEach [] X.env) (hpl : (backTo pos (starEach [b] X.env)).any (·.1) = false) :
    DI X B W (.Tuple elts kk tpos) (.Call (.Name "zip" p) [a, b] [] pos) (evI (.zip ca cb)) := by
  have hA : PA X [a, b] (tCons (tE X.K X.mg B W (ev ca)) (tCons (tE X.K X.mg B W (ev cb)) tNil)) := pa_cons ha (pa_cons hb pa_nil hs2) hs
  refine ⟨fun pins s σ H R I hw => (RZ.pi_zipA hg hm hA hs hpl).run pins s σ H R I ?_⟩
  obtain ⟨G, ρ, τ, S, hw⟩ := hw
  simp only [evI] at hw
  refine tE_bindI S hw fun p v G1 H1 e1 s1 S1 a1 h1 => ?_
  refine tE_bindI S1 h1 fun q u G2 H2 e2 s2 S2 a2 h2 => ?_
  obtain ⟨d, e, zs, o, h3, h4, h5, h6, h⟩ := h2.kI2
  have a1' := a1.mono (τ' := psh q.1 u (psh p.1 v τ)) s2 fun x hx => psh_mem _ _ hx
  rw [psh_eq q.1, psh_eq p.1, ← List.append_assoc] at S2 a2 a1'
  cases d <;> cases e <;> simp only [zip2D] at h5 <;> (try (cases h5; done))
  · cases h5
    rename_i xs ys
    obtain ⟨a, vs, rfl, hv, hr⟩ := S2.view a1' h3
    obtain ⟨b, ws, rfl, hv2, hr2⟩ := S2.view a2 h4
    obtain ⟨l, S3, un, st⟩ := S2.walked2 a1' a2 h3 h4 (fun _ z => nomatch z) (fun _ z => nomatch z) (fun _ z => nomatch z) (fun _ z => nomatch z) h6
    refine ⟨a, b, vs, ws, rfl, .inl ⟨.inl hv, .inl hv2, h _ l G2 H2 _ (s1.trans s2) S3 un.way fun i G' ρ' σ' H' τ' sb s' S' => ?_⟩⟩
    obtain ⟨⟨a', vs', e', hv', hr'⟩, ⟨b', ws', e2', hw', hs'⟩⟩ := st _ _ _ _ s' (S'.drop sb)
    cases e'; cases e2'
    have l1 := hr'.length
    have l2 := hs'.length
    refine ⟨fun hi => ⟨vs', ws', .inl hv', .inl hw', by have hi : (zipD xs ys).length ≤ i := hi; rw [zipD_length] at hi; omega⟩, fun z hz => ?_⟩
    obtain ⟨x, y, hx, hy, rfl⟩ := zipD_get hz
    obtain ⟨w1, hw1, r1⟩ := hr'.get hx
    obtain ⟨w2, hw2, r2⟩ := hs'.get hy
    refine ⟨⟨vs', ws', w1, w2, .inl hv', .inl hw', hw1, hw2⟩, fun w3 H3 y => ?_⟩
    obtain ⟨T, z1, z2, rfl, hT, rfl, y1, y2⟩ := y
    have e1 := y1 vs' (.inl hv')
    have e2 := y2 ws' (.inl hw')
    rw [hw1] at e1; cases e1
    rw [hw2] at e2; cases e2
    exact S'.tup hT (RepL.cons r1 (RepL.cons r2 RepL.nil))
  · cases h5
    rename_i xs ys
    obtain ⟨a, vs, rfl, hv, hr, _⟩ := S2.view a1' h3
    obtain ⟨b, ws, rfl, hv2, hr2, _⟩ := S2.view a2 h4
    obtain ⟨l, S3, un, st⟩ := S2.walked2 a1' a2 h3 h4 (fun _ z => nomatch z) (fun _ z => nomatch z) (fun _ z => nomatch z) (fun _ z => nomatch z) h6
    refine ⟨a, b, vs, ws, rfl, .inr ⟨hv, hv2, h _ l G2 H2 _ (s1.trans s2) S3 un.way fun i G' ρ' σ' H' τ' sb s' S' => ?_⟩⟩
    obtain ⟨⟨a', vs', e', hv', hr', _⟩, ⟨b', ws', e2', hw', hs', _⟩⟩ := st _ _ _ _ s' (S'.drop sb)
    cases e'; cases e2'
    have l1 := hr'.length
    have l2 := hs'.length
    refine ⟨fun hi => ⟨vs', ws', hv', hw', by have hi : (zipD xs ys).length ≤ i := hi; rw [zipD_length] at hi; omega⟩, fun z hz => ?_⟩
    obtain ⟨x, y, hx, hy, rfl⟩ := zipD_get hz
    obtain ⟨w1, hw1, r1⟩ := hr'.get hx
    obtain ⟨w2, hw2, r2⟩ := hs'.get hy
    refine ⟨⟨vs', ws', w1, w2, hv', hw', hw1, hw2⟩, fun w3 H3 y => ?_⟩
    obtain ⟨T, z1, z2, rfl, hT, rfl, y1, y2⟩ := y
    have e1 := y1 vs' hv'
    have e2 := y2 ws' hw'
    rw [hw1] at e1; cases e1
    rw [hw2] at e2; cases e2
    exact S'.tup hT (RepL.cons r1 (RepL.cons r2 RepL.nil))
/-! ### locks taken off behind a thing -/
theorem Inv.unl {pins : List (Addr × PySem.Obj)} {σ : L2.St} {H H2 : Hp} {s : Shared} (I : Inv X pins σ H s) (h : UnlH (nfr X) H H2) : Inv X pins σ H2 s := by
  rcases h with rfl | ⟨d, od, u, h, hn, rfl⟩
  · exact I
  · exact I.unlock h hn
theorem UnlH.none {nf : Addr → Prop} {H H2 : Hp} (h : UnlH nf H H2) {a : Addr} (e : H a = none) : H2 a = none := by
  rcases h with rfl | ⟨d, od, u, h, hn, rfl⟩
  · exact e
  · rw [upd_ne (fun z => by rw [z, h] at e; cases e)]; exact e
def unQ (nf : Addr → Prop) (Q : VK) : VK := fun v H => ∃ H2, UnlH nf H H2 ∧ Q v H2
theorem pe_unl {t : TE} (h : PE X e t) : PE X e (fun σ H Q => t σ H (unQ (nfr X) Q)) :=
  ⟨fun pins s σ H Q I hw => thn (h.run pins s σ H _ I hw) fun u s1 ⟨x, H1, I1, rx, H2, hu, q⟩ => ⟨x, H2, Inv.unl I1 hu, rx, q⟩⟩
def unW (nf : Addr → Prop) (W : WX) : WX := fun c d σ H => ∃ H2, UnlH nf H H2 ∧ W c d σ H2
theorem takes_unW (tk : L2N.Takes X W) : L2N.Takes X (unW (nfr X) W) := fun u s' ⟨a, B, sI, pins, σ, H, cls, d, e, I, nb, up, sky, na, os, ag, H2, hu, w⟩ =>
  tk u s' ⟨a, B, sI, pins, σ, H2, cls, d, e, Inv.unl I hu, nb, up, sky, hu.none na, os, ag, w⟩
def unD (nf : Addr → Prop) (D : Ends) : Ends := ⟨fun σ H => ∃ H2, UnlH nf H H2 ∧ D.nx σ H2, fun v H => ∃ H2, UnlH nf H H2 ∧ D.rt v H2, fun σ H => ∃ H2, UnlH nf H H2 ∧ D.bk σ H2, fun σ H => ∃ H2, UnlH nf H H2 ∧ D.ct σ H2⟩
theorem ps_unl {st : Stmt} {t : TS} (h : PS X st t) : PS X st (fun D σ H => t (unD (nfr X) D) σ H) := by
  refine ⟨fun pins s σ H D I hw => thn (h.run pins s σ H _ I hw) fun f s1 q => ?_⟩
  cases f with
  | next => obtain ⟨σ', H', I2, H2, hu, q⟩ := q; exact ⟨σ', H2, Inv.unl I2 hu, q⟩
  | brk => obtain ⟨σ', H', I2, H2, hu, q⟩ := q; exact ⟨σ', H2, Inv.unl I2 hu, q⟩
  | cont => obtain ⟨σ', H', I2, H2, hu, q⟩ := q; exact ⟨σ', H2, Inv.unl I2 hu, q⟩
  | ret v => obtain ⟨x, σ', H', I2, r, H2, hu, q⟩ := q; exact ⟨x, σ', H2, Inv.unl I2 hu, r, q⟩
end
end M
end
section
set_option linter.all false
set_option maxRecDepth 100000
set_option maxHeartbeats 1000000
/-! MStm: statements. -/
namespace M
open PySem L2 PyProof.Rows
section
variable {X : Cx} {B : Bs} {W : WX} {a b e c tg : Expr} {ca cb cc : CE} {pos : Pos} {es : List Expr} {cs : List CE} {st : Stmt} {ss sa sb : List Stmt}
def AfterS (K : PySem.W.Frag) (mg : Str → Option Value) (B : Bs) (W : WX) (D : Ends) (G : Hp) (τ : List (M.D × Addr)) : Out (Flow × Env) → Prop
  | .ok p => match p.1 with
    | .next => ∀ σ' G' H', Same G G' → Sm K mg B G' p.2 σ' H' τ → D.nx σ' H'
    | .brk => ∀ σ' G' H', Same G G' → Sm K mg B G' p.2 σ' H' τ → D.bk σ' H'
    | .cont => ∀ σ' G' H', Same G G' → Sm K mg B G' p.2 σ' H' τ → D.ct σ' H'
    | .ret r => ∀ v σ' G' H', Same G G' → Sm K mg B G' p.2 σ' H' (psh r v τ) → ResAt K mg G' σ' (psh r v τ) r v → D.rt v H'
  | .exc c q => ∀ σ' cls d H', XIs mg c q cls d H' → XSm B H' → W cls d σ' H'
  | .stuck => False
def tS (K : PySem.W.Frag) (mg : Str → Option Value) (B : Bs) (W : WX) (f : Env → Out (Flow × Env)) : TS := fun D σ H => ∃ G ρ τ, Sm K mg B G ρ σ H τ ∧ AfterS K mg B W D G τ (f ρ)
abbrev DS (X : Cx) (B : Bs) (W : WX) (st : Stmt) (f : Env → Out (Flow × Env)) : Prop := PS X st (tS X.K X.mg B W f)
abbrev DSs (X : Cx) (B : Bs) (W : WX) (ss : List Stmt) (f : Env → Out (Flow × Env)) : Prop := PSs X ss (tS X.K X.mg B W f)
theorem AfterS.later {K : PySem.W.Frag} {mg : Str → Option Value} {D : Ends} {G G1 : Hp} {τ : List (M.D × Addr)} (s : Same G G1) {o : Out (Flow × Env)} (h : AfterS K mg B W D G τ o) : AfterS K mg B W D G1 τ o := by
  cases o with
  | ok p =>
    obtain ⟨f, ρ⟩ := p
    cases f with
    | next => exact fun σ' G' H' s' S' => h σ' G' H' (s.trans s') S'
    | brk => exact fun σ' G' H' s' S' => h σ' G' H' (s.trans s') S'
    | cont => exact fun σ' G' H' s' S' => h σ' G' H' (s.trans s') S'
    | ret r => exact fun v σ' G' H' s' S' => h v σ' G' H' (s.trans s') S'
  | exc _ _ => exact h
  | stuck => exact h
theorem AfterS.nx {K : PySem.W.Frag} {mg : Str → Option Value} {D : Ends} {G G1 : Hp} {τ τ1 : List (M.D × Addr)} {ρ : Env} {σ : L2.St} {H : Hp} (h : AfterS K mg B W D G τ (.ok (.next, ρ))) (s : Same G G1) (S : Sm K mg B G1 ρ σ H τ1) (sub : τ.Sublist τ1) : D.nx σ H := h σ G1 H s (S.drop sub)
/-- an expression ahead of the rest of a statement -/
theorem tE_bindS {f : Env → Out (Res × Env)} {g : Res × Env → Out (Flow × Env)} {D : Ends} {G G0 : Hp} {ρ : Env} {σ : L2.St} {H : Hp} {τ τ0 : List (M.D × Addr)} {R : VK} (S : Sm X.K X.mg B G ρ σ H τ) (h : AfterS X.K X.mg B W D G0 τ0 ((f ρ).bind g))
    (k : ∀ p v G' H', f ρ = .ok p → Same G G' → Sm X.K X.mg B G' p.2 σ H' (psh p.1 v τ) → ResAt X.K X.mg G' σ (psh p.1 v τ) p.1 v → AfterS X.K X.mg B W D G0 τ0 (g p) → R v H') : tE X.K X.mg B W f σ H R := by
  refine ⟨G, ρ, τ, S, ?_⟩
  cases e : f ρ with
  | ok p => rw [e] at h; exact fun v G' H' s S' a => k p v G' H' e s S' a h
  | exc c q => rw [e] at h; exact h σ
  | stuck => rw [e] at h; exact h
theorem tT_bindS {f : Env → Out (Bool × Env)} {g : Bool × Env → Out (Flow × Env)} {D : Ends} {G G0 : Hp} {ρ : Env} {σ : L2.St} {H : Hp} {τ τ0 : List (M.D × Addr)} {R : Bool → Hp → Prop} (S : Sm X.K X.mg B G ρ σ H τ) (h : AfterS X.K X.mg B W D G0 τ0 ((f ρ).bind g))
    (k : ∀ p G' H', f ρ = .ok p → Same G G' → Sm X.K X.mg B G' p.2 σ H' τ → AfterS X.K X.mg B W D G0 τ0 (g p) → R p.1 H') : tTst X.K X.mg B W f σ H R := by
  refine ⟨G, ρ, τ, S, ?_⟩
  cases e : f ρ with
  | ok p => rw [e] at h; exact fun G' H' s S' => k p G' H' e s S' h
  | exc c q => rw [e] at h; exact h σ
  | stuck => rw [e] at h; exact h
theorem dss_nil : DSs X B W [] (execs []) := by
  refine ⟨fun pins s σ H D I hw => pss_nil.run pins s σ H D I ?_⟩
  obtain ⟨G, ρ, τ, S, hw⟩ := hw
  simp only [execs] at hw
  exact hw.nx (Same.refl _) S (List.Sublist.refl _)
theorem dss_cons {s1 : CS} {s2 : List CS} (h1 : DS X B W st (exec s1)) (h2 : DSs X B W ss (execs s2)) : DSs X B W (st :: ss) (execs (s1 :: s2)) := by
  refine ⟨fun pins s σ H D I hw => (pss_cons h1 h2).run pins s σ H D I ?_⟩
  obtain ⟨G, ρ, τ, S, hw⟩ := hw
  simp only [execs] at hw
  refine ⟨G, ρ, τ, S, ?_⟩
  cases k1 : exec s1 ρ with
  | exc _ _ => rw [k1] at hw; exact hw
  | stuck => rw [k1] at hw; exact hw
  | ok p =>
    rw [k1] at hw
    obtain ⟨f, ρ1⟩ := p
    cases f with
    | next => exact fun σ' G' H' s' S' => ⟨G', ρ1, τ, S', AfterS.later s' hw⟩
    | brk => exact hw
    | cont => exact hw
    | ret r => exact hw
theorem ds_pass : DS X B W (.Pass pos) (exec .pass) := by
  refine ⟨fun pins s σ H D I hw => ps_pass.run pins s σ H D I ?_⟩
  obtain ⟨G, ρ, τ, S, hw⟩ := hw
  simp only [exec] at hw
  exact hw.nx (Same.refl _) S (List.Sublist.refl _)
theorem ds_doc {x : Str} {j : Nat} {p p2 : Pos} : DS X B W (.Expr (.Constant (.str x) j p) p2) (exec (.ex (.k (.str x)))) := by
  refine ⟨fun pins s σ H D I hw => ps_doc.run pins s σ H D I ?_⟩
  obtain ⟨G, ρ, τ, S, hw⟩ := hw
  simp only [exec, ev, Out.bind] at hw
  exact hw.nx (Same.refl _) S (List.Sublist.refl _)
theorem ds_brk : DS X B W (.Break pos) (exec .brk) := by
  refine ⟨fun pins s σ H D I hw => ps_break.run pins s σ H D I ?_⟩
  obtain ⟨G, ρ, τ, S, hw⟩ := hw
  simp only [exec] at hw
  exact hw σ G H (Same.refl _) S
theorem ds_cont : DS X B W (.Continue pos) (exec .cont) := by
  refine ⟨fun pins s σ H D I hw => ps_continue.run pins s σ H D I ?_⟩
  obtain ⟨G, ρ, τ, S, hw⟩ := hw
  simp only [exec] at hw
  exact hw σ G H (Same.refl _) S
theorem ds_retN : DS X B W (.Return none pos) (exec .retN) := by
  refine ⟨fun pins s σ H D I hw => ps_retN.run pins s σ H D I ?_⟩
  obtain ⟨G, ρ, τ, S, hw⟩ := hw
  simp only [exec] at hw
  exact hw .non σ G H (Same.refl _) S (by simp only [ResAt, Rep])
theorem ds_ret (he : DE X B W e (ev ca)) : DS X B W (.Return (some e) pos) (exec (.ret ca)) := by
  refine ⟨fun pins s σ H D I hw => (ps_ret he).run pins s σ H D I ?_⟩
  obtain ⟨G, ρ, τ, S, hw⟩ := hw
  simp only [exec] at hw
  refine tE_bindS S hw fun p v G1 H1 e1 s1 S1 a1 h1 => ?_
  exact h1 v σ G1 H1 s1 S1 a1
theorem ds_expr (he : DE X B W e (ev ca)) (hs : swapsWith e none pos.line X.env = pure false) : DS X B W (.Expr e pos) (exec (.ex ca)) := by
  refine ⟨fun pins s σ H D I hw => (ps_expr he hs).run pins s σ H D I ?_⟩
  obtain ⟨G, ρ, τ, S, hw⟩ := hw
  simp only [exec] at hw
  refine tE_bindS S hw fun p v G1 H1 e1 s1 S1 a1 h1 => ?_
  exact h1.nx s1 S1 (psh_sub _ _ _)
theorem ds_if {s1 s2 : List CS} (hc : DT X B W c (evT cc)) (ha : DSs X B W sa (execs s1)) (hb : DSs X B W sb (execs s2)) : DS X B W (.If c sa sb pos) (exec (.ite cc s1 s2)) := by
  refine ⟨fun pins s σ H D I hw => (ps_if hc ha hb).run pins s σ H D I ?_⟩
  obtain ⟨G, ρ, τ, S, hw⟩ := hw
  simp only [exec] at hw
  refine tT_bindS S hw fun p G1 H1 e1 s1 S1 h1 => ?_
  cases hp : p.1 with
  | true => rw [if_pos rfl]; simp only [hp, if_true] at h1; exact ⟨G1, p.2, τ, S1, AfterS.later s1 h1⟩
  | false => rw [if_neg Bool.false_ne_true]; simp only [hp, Bool.false_eq_true, if_false] at h1; exact ⟨G1, p.2, τ, S1, AfterS.later s1 h1⟩
/-- name = value, by a rule of that form -/
theorem ds_asg {i : Nat} (hi : B.nin ≤ i) (rule : ∀ te : TE, PE X e te → PS X st (tAsg te (gName i))) (he : DE X B W e (ev ca)) : DS X B W st (exec (.asg i ca)) := by
  refine ⟨fun pins s σ H D I hw => (rule _ he).run pins s σ H D I ?_⟩
  obtain ⟨G, ρ, τ, S, hw⟩ := hw
  simp only [exec] at hw
  refine tE_bindS S hw fun p v G1 H1 e1 s1 S1 a1 h1 => ?_
  cases k1 : setRes p.2 i p.1 with
  | exc _ _ => exact (setRes_noexc k1).elim
  | stuck => rw [k1] at h1; exact h1.elim
  | ok ρ' =>
    rw [k1] at h1
    obtain ⟨G2, s2, S2⟩ := S1.res hi a1 k1
    exact h1.nx (s1.trans s2) S2 (List.Sublist.refl _)
theorem After.fzS {D : Ends} {σ : L2.St} {H : Hp} {G0 G1 : Hp} {τ τ' : List (M.D × Addr)} {r : Res × Env} {v : V} (S : Sm X.K X.mg B G1 r.2 σ H (psh r.1 v τ')) (a : ResAt X.K X.mg G1 σ (psh r.1 v τ') r.1 v)
    {g : M.D × Env → Out (Flow × Env)} (h : AfterS X.K X.mg B W D G0 τ ((freeze r.2 r.1).bind g)) :
    ∃ q G2, Same G1 G2 ∧ Sm X.K X.mg B G2 q.2 σ H τ' ∧ Rep X.K X.mg G2 q.1 v ∧ AfterS X.K X.mg B W D G0 τ (g q) := by
  cases h4 : freeze r.2 r.1 with
  | exc _ _ => exact (freeze_noexc h4).elim
  | stuck => rw [h4] at h; exact h.elim
  | ok q =>
    rw [h4] at h
    obtain ⟨G4, tm', s4, S4, rz, k4⟩ := Sm.fz1 (tm := pushd r.1 v) (by rw [← psh_eq]; exact S) a.local.ra h4
    exact ⟨q, G4, s4, S4.drop (List.sublist_append_right _ _), rz, h⟩
/-- (a, b, ..) = value -/
theorem ds_asgT {t : CT} {tg : Expr} (ht : DG X B tg t) (he : DE X B W e (ev ca)) (hs : swapsWithSole [tg] e pos.line X.env = pure false) (hw : swappedStores [tg] e X.env = pure none) (h1 : (assignEach [tg] X.env).map (·.2) = [assign tg X.env]) :
    DS X B W (.Assign [tg] e pos) (exec (.asgT t ca)) := by
  refine ⟨fun pins s σ H D I hh => (ps_asg he ht hs hw h1).run pins s σ H D I ?_⟩
  obtain ⟨G, ρ, τ, S, hh⟩ := hh
  simp only [exec] at hh
  refine tE_bindS S hh fun p v G1 H1 e1 s1 S1 a1 h1 => ?_
  obtain ⟨q, G2, s2, S2, r2, h2⟩ := After.fzS S1 a1 h1
  refine ⟨G2, q.2, τ, q.1, S2, r2, ?_⟩
  cases k1 : setT t q.1 q.2 with
  | exc _ _ => exact (setT_noexc k1).elim
  | stuck => rw [k1] at h2; exact h2.elim
  | ok ρ' =>
    rw [k1] at h2
    intro σ' S' _
    exact h2.nx (s1.trans s2) S' (List.Sublist.refl _)
theorem ds_while {body : List CS} (hp : PassesOwn (model X.prog X.w) X.A X.env X.xe) (hc : DT X B W c (evT cc)) (hb : DSs X B W ss (execs body)) : DS X B W (.While c ss [] pos) (exec (.whil cc body)) := by
  refine ⟨fun pins s σ H D I hw => (ps_while hp hc hb).run pins s σ H D I ?_⟩
  obtain ⟨G, ρ, τ, S, hw⟩ := hw
  simp only [exec] at hw
  refine ⟨fun m σ H => ∃ G ρ τ, Sm X.K X.mg B G ρ σ H τ ∧ AfterS X.K X.mg B W D G τ (whileL (fun ρ => evT cc ρ) (fun ρ => execs body ρ) m ρ), ⟨fuel, G, ρ, τ, S, hw⟩, ?_⟩
  rintro m σ H ⟨G, ρ, τ, S, hw⟩
  cases m with
  | zero => simp only [whileL] at hw; exact hw.elim
  | succ m =>
    simp only [whileL] at hw
    refine tT_bindS S hw fun p G1 H1 e1 s1 S1 h1 => ?_
    cases hp : p.1 with
    | false =>
      rw [if_neg Bool.false_ne_true]
      simp only [hp, Bool.false_eq_true, if_false] at h1
      exact h1.nx s1 S1 (List.Sublist.refl _)
    | true =>
      rw [if_pos rfl]
      simp only [hp, if_true] at h1
      refine ⟨fun σ' H' => ∃ G ρ τ, Sm X.K X.mg B G ρ σ' H' τ ∧ AfterS X.K X.mg B W D G τ (whileL (fun ρ => evT cc ρ) (fun ρ => execs body ρ) m ρ), fun σ' H' h => ⟨m, Nat.lt_succ_self m, h⟩, G1, p.2, τ, S1, ?_⟩
      have h1 : AfterS X.K X.mg B W D G1 τ ((execs body p.2).bind fun p => match p.1 with
        | .next => whileL (fun ρ => evT cc ρ) (fun ρ => execs body ρ) m p.2
        | .cont => whileL (fun ρ => evT cc ρ) (fun ρ => execs body ρ) m p.2
        | .brk => .ok (.next, p.2)
        | .ret r => .ok (.ret r, p.2)) := AfterS.later s1 h1
      cases k1 : execs body p.2 with
      | exc _ _ => rw [k1] at h1; exact h1
      | stuck => rw [k1] at h1; exact h1
      | ok q =>
        rw [k1] at h1
        obtain ⟨f, ρ1⟩ := q
        cases f with
        | next => exact fun σ' G' H' s' S' => ⟨G', ρ1, τ, S', AfterS.later s' h1⟩
        | cont => exact fun σ' G' H' s' S' => ⟨G', ρ1, τ, S', AfterS.later s' h1⟩
        | brk => exact h1
        | ret r => exact h1
end
end M
end
section
set_option linter.all false
set_option maxRecDepth 100000
set_option maxHeartbeats 1000000
/-! MStm2: for, several names at once, op=, raise, d[k] = v. -/
namespace M
open PySem L2 PyProof.Rows
section
variable {X : Cx} {B : Bs} {W : WX} {a b e c o tg : Expr} {ca cb cc : CE} {pos : Pos} {es : List Expr} {cs : List CE} {st : Stmt} {ss sa sb : List Stmt}
theorem psh_mono {r : Res} {v : V} {τ τ' : List (M.D × Addr)} (h : τ.Sublist τ') : (psh r v τ).Sublist (psh r v τ') := by
  unfold psh; split
  · exact h.cons_cons _
  · exact h
theorem ResAt.psh {K : PySem.W.Frag} {mg : Str → Option Value} {G : Hp} {σ : L2.St} {r : Res} {v : V} {τ τ' : List (M.D × Addr)} (h : ResAt K mg G σ (psh r v τ) r v) : ResAt K mg G σ (psh r v τ') r v := by
  cases r with
  | val d => exact h
  | slot i => exact h
  | own d => obtain ⟨p, rfl, _⟩ := h; exact ⟨p, rfl, List.mem_cons_self⟩
/-- the end of a walk -/
def loopEnd (ρ0 : Env) (o : Option Nat) (q : Flow × Env) : Out (Flow × Env) := .ok (q.1, unlockSlot ρ0 q.2 o)
theorem ds_for {t : CT} {iter : Expr} {ci : CI} {body : List CS} (hp : PassesOwn (model X.prog X.w) X.A X.env X.xe) (hc : X.calm = true) (hi : DI X B W tg iter (evI ci)) (hg : ∀ B' : Bs, B'.nin = B.nin → DG X B' tg t) (hb : ∀ B' : Bs, B'.nin = B.nin → DSs X B' (unW (nfr X) W) ss (execs body))
    (hs : ∀ x, foldedSetIterable iter X.env x = pure x) : DS X B W (.For tg iter ss [] pos) (exec (.forr t ci body)) := by
  have hg' : PG X tg (fun v σ H Q => ∃ B' : Bs, B'.nin = B.nin ∧ tG X.K X.mg B' t v σ H Q) := ⟨fun pins s σ H v u Q I r ⟨l, e, h⟩ => (hg l e).run pins s σ H v u Q I r h⟩
  have hb' : PSs X ss (fun D σ H => ∃ B' : Bs, B'.nin = B.nin ∧ tS X.K X.mg B' (unW (nfr X) W) (execs body) D σ H) := ⟨fun pins s σ H D I ⟨l, e, h⟩ => (hb l e).run pins s σ H D I h⟩
  refine ⟨fun pins s σ H D I hw => (ps_unl (ps_for hp hc hi hg' hb' hs)).run pins s σ H D I ?_⟩
  obtain ⟨G, ρ, τ, S, hw⟩ := hw
  simp only [exec] at hw
  refine ⟨G, ρ, τ, S, ?_⟩
  cases k1 : evI ci ρ with
  | exc _ _ => rw [k1] at hw; exact hw σ
  | stuck => rw [k1] at hw; exact hw
  | ok p =>
    rw [k1] at hw
    have hw : AfterS X.K X.mg B W D G τ ((forL t (fun ρ => execs body ρ) p.1.1 (lockSlot p.2 p.1.2)).bind (loopEnd p.2 p.1.2)) := hw
    intro J l G1 H1 τ' s1 S1 un wk
    refine ⟨fun i m σ H => m = p.1.1.length - i ∧ i ≤ p.1.1.length ∧ ∃ G2 ρ2, Same G1 G2 ∧ Sm X.K X.mg l G2 ρ2 σ H (τ' ++ τ) ∧ AfterS X.K X.mg B W D G2 τ ((forL t (fun ρ => execs body ρ) (p.1.1.drop i) ρ2).bind (loopEnd p.2 p.1.2)),
      ⟨_, rfl, Nat.zero_le _, G1, _, Same.refl _, S1, AfterS.later s1 hw⟩, ?_⟩
    rintro i m σ H ⟨rfl, hi', G2, ρ2, s2, S2, h2⟩
    obtain ⟨w1, w2⟩ := wk i G2 ρ2 σ H _ (List.Sublist.refl _) s2 S2
    by_cases hlt : i < p.1.1.length
    · obtain ⟨d, hd⟩ : ∃ d, p.1.1[i]? = some d := ⟨_, List.getElem?_eq_getElem hlt⟩
      have hdr : p.1.1.drop i = d :: p.1.1.drop (i + 1) := by
        rw [List.drop_eq_getElem_cons hlt]
        rw [List.getElem?_eq_getElem hlt] at hd
        cases hd; rfl
      obtain ⟨w3, w4⟩ := w2 d hd
      rw [hdr] at h2
      simp only [forL] at h2
      refine .inr ⟨w3, fun σ H => ∃ G2 ρ2, Same G1 G2 ∧ Sm X.K X.mg l G2 ρ2 σ H (τ' ++ τ) ∧ AfterS X.K X.mg B W D G2 τ ((forL t (fun ρ => execs body ρ) (p.1.1.drop (i + 1)) ρ2).bind (loopEnd p.2 p.1.2)),
        fun σ' H' h => ⟨_, by omega, rfl, hlt, h⟩, fun x H' hy => ?_⟩
      obtain ⟨G3, s3, S3, r3⟩ := w4 x H' hy
      refine ⟨l, un.nin, G3, ρ2, τ' ++ τ, d, S3, r3, ?_⟩
      cases k2 : setT t d ρ2 with
      | exc _ _ => exact (setT_noexc k2).elim
      | stuck => rw [k2] at h2; exact h2.elim
      | ok ρ3 =>
        rw [k2] at h2
        intro σ3 S4 _
        refine ⟨l, un.nin, G3, ρ3, τ' ++ τ, S4, ?_⟩
        have h2 : AfterS X.K X.mg B W D G2 τ (((execs body ρ3).bind fun z => match z.1 with
          | .next => forL t (fun ρ => execs body ρ) (List.drop (i + 1) p.1.1) z.2
          | .cont => forL t (fun ρ => execs body ρ) (List.drop (i + 1) p.1.1) z.2
          | .brk => .ok (.next, z.2)
          | .ret r => .ok (.ret r, z.2)).bind (loopEnd p.2 p.1.2)) := h2
        cases k3 : execs body ρ3 with
        | exc _ _ => rw [k3] at h2; exact fun σ' cls d' H'' x1 x2 => (let ⟨H9, hu, x3⟩ := un.ex _ x2; ⟨H9, hu, h2 σ' cls d' H9 x1 x3⟩)
        | stuck => rw [k3] at h2; exact h2
        | ok q =>
          rw [k3] at h2
          obtain ⟨f, ρ4⟩ := q
          cases f with
          | next => exact fun σ' G' H' s' S' => ⟨G', ρ4, s2.trans (s3.trans s'), S', AfterS.later (s3.trans s') h2⟩
          | cont => exact fun σ' G' H' s' S' => ⟨G', ρ4, s2.trans (s3.trans s'), S', AfterS.later (s3.trans s') h2⟩
          | brk =>
            intro σ' G' H' s' S'
            obtain ⟨H9, hu, S9⟩ := un.un _ _ _ _ _ (s2.trans (s3.trans s')) S'
            exact ⟨H9, hu, AfterS.nx (ρ := unlockSlot p.2 ρ4 p.1.2) h2 (s3.trans s') S9 (List.sublist_append_right _ _)⟩
          | ret r =>
            intro v σ' G' H' s' S' a'
            obtain ⟨H9, hu, S9⟩ := un.un _ _ _ _ _ (s2.trans (s3.trans s')) S'
            exact ⟨H9, hu, h2 v σ' G' H9 (s3.trans s') (S9.drop (psh_mono (List.sublist_append_right _ _))) a'.psh⟩
    · have e : i = p.1.1.length := by omega
      subst e
      rw [List.drop_length] at h2
      simp only [forL] at h2
      refine .inl ⟨w1 (Nat.le_refl _), ?_⟩
      obtain ⟨H9, hu, S9⟩ := un.un _ _ _ _ _ s2 S2
      exact ⟨H9, hu, AfterS.nx (ρ := unlockSlot p.2 ρ2 p.1.2) h2 (Same.refl _) S9 (List.sublist_append_right _ _)⟩
end
end M
end
section
set_option linter.all false
set_option maxRecDepth 100000
set_option maxHeartbeats 1000000
/-! MStm3: several names at once, op=, raise, d[k] = v. -/
namespace M
open PySem L2 PyProof.Rows
section
variable {K : PySem.W.Frag} {mg : Str → Option Value} {B : Bs} {G G' H : Hp} {ρ ρ' : Env} {σ : L2.St} {τ τ' : List (D × Addr)}
theorem Sm.perm (S : Sm K mg B G ρ σ H τ) (h : τ.Perm τ') : Sm K mg B G ρ σ H τ' :=
  { S with
    tmp := fun x hx => S.tmp x (h.mem_iff.mpr hx)
    sepT := fun i p ho e hp => S.sepT i p ho e ((h.map (·.2)).mem_iff.mpr hp)
    ndT := (h.map (·.2)).nodup_iff.mp S.ndT }
def noSlot : Res → Prop
  | .slot _ => False
  | _ => True
theorem settle_ok : ∀ {rs : List Res} {vs : List V} {G : Hp} {ρ : Env} {q : List Res × Env} {tm : List (D × Addr)}, Sm K mg B G ρ σ H (tm ++ τ) → ResAts K mg G σ tm rs vs → settle ρ rs = .ok q →
    ∃ G', Same G G' ∧ Sm K mg B G' q.2 σ H (tm ++ τ) ∧ ResAts K mg G' σ tm q.1 vs ∧ tmsOf q.1 vs = tmsOf rs vs ∧ ∀ r ∈ q.1, noSlot r
  | [], vs, G, ρ, q, tm, S, a, h => by
    simp only [settle] at h; cases h
    exact ⟨G, Same.refl _, S, a, rfl, fun r hr => nomatch hr⟩
  | .slot i :: rs, _, G, ρ, q, tm, S, ⟨v, t, e, a1, a2⟩, h => by
    subst e
    simp only [settle] at h
    obtain ⟨p, h1, h⟩ := bind_ok h
    obtain ⟨p2, h2, h⟩ := bind_ok h
    cases h
    have key : ∃ G', Same G G' ∧ Sm K mg B G' p.2 σ H (tm ++ τ) ∧ Rep K mg G' p.1 v := by
      have a1 : σ[i]? = some (some v) := a1
      simp only [freeze] at h1
      split at h1
      · rename_i d e
        cases h1
        obtain ⟨G', s, S', w, e1, r⟩ := S.freezeS e
        rw [a1] at e1; cases e1
        exact ⟨G', s, S', r⟩
      · rename_i d e
        cases h1
        obtain ⟨w, e1, r⟩ := S.val i _ e
        rw [a1] at e1; cases e1
        exact ⟨G, Same.refl _, S, r⟩
      · cases h1
    obtain ⟨G1, s1, S1, r1⟩ := key
    obtain ⟨G2, s2, S2, a3, e3, n3⟩ := settle_ok S1 (a2.mono s1 fun x hx => hx) h2
    refine ⟨G2, s1.trans s2, S2, ⟨v, t, rfl, Rep.mono s2 _ r1, a3⟩, ?_, ?_⟩
    · simp only [tmsOf, e3, pushd]
    · intro r hr
      rcases List.mem_cons.mp hr with rfl | hr
      · exact trivial
      · exact n3 r hr
  | .val d :: rs, _, G, ρ, q, tm, S, ⟨v, t, e, a1, a2⟩, h => by
    subst e
    simp only [settle] at h
    obtain ⟨p2, h2, h⟩ := bind_ok h
    cases h
    obtain ⟨G2, s2, S2, a3, e3, n3⟩ := settle_ok S a2 h2
    refine ⟨G2, s2, S2, ⟨v, t, rfl, Rep.mono s2 _ a1, a3⟩, by simp only [tmsOf, e3], ?_⟩
    intro r hr
    rcases List.mem_cons.mp hr with rfl | hr
    · exact trivial
    · exact n3 r hr
  | .own d :: rs, _, G, ρ, q, tm, S, ⟨v, t, e, a1, a2⟩, h => by
    subst e
    simp only [settle] at h
    obtain ⟨p2, h2, h⟩ := bind_ok h
    cases h
    obtain ⟨G2, s2, S2, a3, e3, n3⟩ := settle_ok S a2 h2
    refine ⟨G2, s2, S2, ⟨v, t, rfl, a1, a3⟩, by simp only [tmsOf, e3], ?_⟩
    intro r hr
    rcases List.mem_cons.mp hr with rfl | hr
    · exact trivial
    · exact n3 r hr
theorem settle_noexc : ∀ {rs : List Res} {ρ : Env} {c : Str} {q : D}, settle ρ rs = .exc c q → False
  | [], _, _, _, h => by simp only [settle] at h; cases h
  | .slot i :: rs, ρ, c, q, h => by
    simp only [settle] at h
    cases h1 : freeze ρ (.slot i) with
    | exc _ _ => exact freeze_noexc h1
    | stuck => rw [h1] at h; cases h
    | ok p =>
      rw [h1] at h
      have h : ((settle p.2 rs).bind fun q => Out.ok (Res.val p.1 :: q.1, q.2)) = .exc c q := h
      cases h2 : settle p.2 rs with
      | exc _ _ => exact settle_noexc h2
      | stuck => rw [h2] at h; cases h
      | ok p => rw [h2] at h; cases h
  | .val d :: rs, ρ, c, q, h => by
    simp only [settle] at h
    cases h2 : settle ρ rs with
    | exc _ _ => exact settle_noexc h2
    | stuck => rw [h2] at h; cases h
    | ok p => rw [h2] at h; cases h
  | .own d :: rs, ρ, c, q, h => by
    simp only [settle] at h
    cases h2 : settle ρ rs with
    | exc _ _ => exact settle_noexc h2
    | stuck => rw [h2] at h; cases h
    | ok p => rw [h2] at h; cases h
def setsS : List Nat → List V → L2.St → L2.St
  | i :: is, v :: vs, σ => setsS is vs (σ.set i (some v))
  | _, _, σ => σ
theorem puts_ok : ∀ {is : List Nat} {rs : List Res} {vs : List V} {G : Hp} {ρ ρ' : Env} {σ : L2.St}, (∀ i ∈ is, B.nin ≤ i) → Sm K mg B G ρ σ H (tmsOf rs vs ++ τ) → (∀ r ∈ rs, noSlot r) → ResAts K mg G σ (tmsOf rs vs) rs vs → setSlots is rs ρ = .ok ρ' →
    ∃ G', Same G G' ∧ Sm K mg B G' ρ' (setsS is vs σ) H τ
  | [], [], vs, G, ρ, ρ', σ, hi, S, ns, a, h => by
    simp only [setSlots] at h; cases h
    have a : vs = [] := a
    subst a
    exact ⟨G, Same.refl _, S⟩
  | [], _ :: _, _, _, _, _, _, _, _, _, _, h => by simp only [setSlots] at h; cases h
  | _ :: _, [], _, _, _, _, _, _, _, _, _, h => by simp only [setSlots] at h; cases h
  | i :: is, r :: rs, _, G, ρ, ρ', σ, hi, S, ns, ⟨v, t, e, a1, a2⟩, h => by
    subst e
    simp only [setSlots] at h
    obtain ⟨ρ1, h1, h⟩ := bind_ok h
    have S1 : Sm K mg B G ρ σ H (psh r v (tmsOf rs t ++ τ)) := S.perm (by
      simp only [tmsOf]
      rw [psh_eq, ← List.append_assoc]
      exact List.Perm.append_right _ List.perm_append_comm)
    have nr := ns r List.mem_cons_self
    have a1' : ResAt K mg G σ (psh r v (tmsOf rs t ++ τ)) r v := by
      cases r with
      | val d => exact a1
      | slot i => exact nr.elim
      | own d => obtain ⟨p, rfl, _⟩ := a1; exact ⟨p, rfl, List.mem_cons_self⟩
    obtain ⟨G1, s1, S2⟩ := S1.res (hi i List.mem_cons_self) a1' h1
    have a3 : ResAts K mg G1 (σ.set i (some v)) (tmsOf rs t) rs t := by
      have : ∀ {rs : List Res} {t : List V}, (∀ r ∈ rs, noSlot r) → ∀ {tm}, ResAts K mg G σ tm rs t → ResAts K mg G1 (σ.set i (some v)) (tmsOf rs t) rs t := by
        intro rs
        induction rs with
        | nil => intro t _ tm h; exact h
        | cons r rs ih =>
          rintro _ n tm ⟨w, t, rfl, b1, b2⟩
          refine ⟨w, t, rfl, ?_, (ih (fun r hr => n r (List.mem_cons_of_mem _ hr)) b2).mono (Same.refl _) fun x hx => List.mem_append_left _ hx⟩
          have nr := n r List.mem_cons_self
          cases r with
          | val d => exact Rep.mono s1 _ b1
          | slot i => exact nr.elim
          | own d =>
            obtain ⟨p, rfl, _⟩ := b1
            exact ⟨p, rfl, List.mem_append_right _ List.mem_cons_self⟩
      exact this (fun r hr => ns r (List.mem_cons_of_mem _ hr)) a2
    obtain ⟨G2, s2, S3⟩ := puts_ok (fun j hj => hi j (List.mem_cons_of_mem _ hj)) S2 (fun r hr => ns r (List.mem_cons_of_mem _ hr)) a3 h
    exact ⟨G2, s1.trans s2, S3⟩
theorem setSlots_noexc : ∀ {is : List Nat} {rs : List Res} {ρ : Env} {c : Str} {q : D}, setSlots is rs ρ = .exc c q → False
  | [], [], _, _, _, h => by simp only [setSlots] at h; cases h
  | [], _ :: _, _, _, _, h => by simp only [setSlots] at h; cases h
  | _ :: _, [], _, _, _, h => by simp only [setSlots] at h; cases h
  | i :: is, r :: rs, ρ, c, q, h => by
    simp only [setSlots] at h
    cases h1 : setRes ρ i r with
    | exc _ _ => exact setRes_noexc h1
    | stuck => rw [h1] at h; cases h
    | ok p => rw [h1] at h; exact setSlots_noexc h
end
section
variable {X : Cx} {B : Bs} {W : WX} {a b e c o tg : Expr} {ca cb cc : CE} {pos : Pos} {es : List Expr} {cs : List CE} {st : Stmt} {ss sa sb : List Stmt}
/-- a, b = x, y by a rule of that form -/
theorem ds_par {is : List Nat} {t : TA → TS} (hi : ∀ i ∈ is, B.nin ≤ i) (ht : ∀ (D : Ends) (σ : L2.St) (H : Hp), tA X.K X.mg B W (evs cs) σ H (fun vs H1 => vs.length = is.length ∧ D.nx (setsS is vs σ) H1) → t (tA X.K X.mg B W (evs cs)) D σ H) (rule : ∀ ta : TA, PA X es ta → PS X st (t ta)) (ha : DA X B W es (evs cs)) :
    DS X B W st (exec (.par is cs)) := by
  refine ⟨fun pins s σ H D I hw => (rule _ ha).run pins s σ H D I (ht _ _ _ ?_)⟩
  obtain ⟨G, ρ, τ, S, hw⟩ := hw
  simp only [exec] at hw
  refine ⟨G, ρ, τ, S, ?_⟩
  cases k1 : evs cs ρ with
  | exc _ _ => rw [k1] at hw; exact hw σ
  | stuck => rw [k1] at hw; exact hw
  | ok p =>
    rw [k1] at hw
    intro vs G1 H1 s1 S1 a1
    have hw : AfterS X.K X.mg B W D G τ ((settle p.2 p.1).bind fun q => (setSlots is q.1 q.2).bind fun ρ' => .ok (.next, ρ')) := hw
    cases k2 : settle p.2 p.1 with
    | exc _ _ => exact (settle_noexc k2).elim
    | stuck => rw [k2] at hw; exact hw.elim
    | ok q =>
      rw [k2] at hw
      obtain ⟨G2, s2, S2, a2, e2, n2⟩ := settle_ok S1 a1 k2
      have hw : AfterS X.K X.mg B W D G τ ((setSlots is q.1 q.2).bind fun ρ' => .ok (.next, ρ')) := hw
      cases k3 : setSlots is q.1 q.2 with
      | exc _ _ => exact (setSlots_noexc k3).elim
      | stuck => rw [k3] at hw; exact hw.elim
      | ok ρ' =>
        rw [k3] at hw
        rw [← e2] at S2 a2
        obtain ⟨G3, s3, S3⟩ := puts_ok hi S2 n2 a2 k3
        have len : ∀ {is : List Nat} {rs : List Res} {ρ ρ' : Env}, setSlots is rs ρ = .ok ρ' → rs.length = is.length := by
          intro is
          induction is with
          | nil => intro rs ρ ρ' h; cases rs with | nil => rfl | cons _ _ => simp only [setSlots] at h; cases h
          | cons i is ih =>
            intro rs ρ ρ' h
            cases rs with
            | nil => simp only [setSlots] at h; cases h
            | cons r rs =>
              simp only [setSlots] at h
              obtain ⟨ρ1, _, h⟩ := bind_ok h
              simp [ih h]
        exact ⟨by rw [a2.length, len k3], AfterS.nx hw (s1.trans (s2.trans s3)) S3 (List.Sublist.refl _)⟩
theorem tA_mono {f : Env → Out (List Res × Env)} {σ : L2.St} {H : Hp} {Q Q' : List V → Hp → Prop} (h : ∀ vs H, Q vs H → Q' vs H) (w : tA X.K X.mg B W f σ H Q) : tA X.K X.mg B W f σ H Q' := by
  obtain ⟨G, ρ, τ, S, w⟩ := w
  refine ⟨G, ρ, τ, S, ?_⟩
  cases k : f ρ with
  | ok p => rw [k] at w; exact fun vs G' H' s' S' a => h _ _ (w vs G' H' s' S' a)
  | exc _ _ => rw [k] at w; exact w
  | stuck => rw [k] at w; exact w
theorem ds_par2 {i j : Nat} (hi : B.nin ≤ i) (hj : B.nin ≤ j) (rule : ∀ ta : TA, PA X es ta → PS X st (tPar i j ta)) (ha : DA X B W es (evs cs)) : DS X B W st (exec (.par [i, j] cs)) := by
  refine ds_par (t := fun ta => tPar i j ta) (by intro k hk; simp at hk; rcases hk with rfl | rfl <;> assumption) (fun D σ H h => ?_) rule ha
  refine tA_mono (fun vs H q => ?_) h
  obtain ⟨l, q⟩ := q
  match vs, l with
  | [v, w], _ => exact ⟨v, w, rfl, q⟩
theorem ds_par3 {i j k : Nat} (hi : B.nin ≤ i) (hj : B.nin ≤ j) (hk : B.nin ≤ k) (rule : ∀ ta : TA, PA X es ta → PS X st (tPar3 i j k ta)) (ha : DA X B W es (evs cs)) : DS X B W st (exec (.par [i, j, k] cs)) := by
  refine ds_par (t := fun ta => tPar3 i j k ta) (by intro k hk; simp at hk; rcases hk with rfl | rfl | rfl <;> assumption) (fun D σ H h => ?_) rule ha
  refine tA_mono (fun vs H q => ?_) h
  obtain ⟨l, q⟩ := q
  match vs, l with
  | [u, v, w], _ => exact ⟨u, v, w, rfl, q⟩
/-- raise C('..') -/
theorem ds_raise {x : Str} {C : Addr} (hx : X.mg x = some (.ref C)) (rule : PS X st (fun _ σ H => W (.ref C) none σ H)) : DS X B W st (exec (.raise x)) := by
  refine ⟨fun pins s σ H D I hw => rule.run pins s σ H D I ?_⟩
  obtain ⟨G, ρ, τ, S, hw⟩ := hw
  simp only [exec] at hw
  exact hw σ (.ref C) none H ⟨C, hx, rfl, rfl, rfl⟩ S.x

/-! ### op= -/
theorem iop_extR : OpR X (inplaceOp .Add) (fun x y H Q => ∃ l b xs zs, x = .ref l ∧ y = .ref b ∧ H l = some (.lst xs) ∧ L2.Rd H b (.lst zs) ∧ xs.length + zs.length ≤ sizeLine ∧ Q (.ref l) (upd H l (.lst (xs ++ zs)))) := by
  intro pins s σ H x y v u Q I rx ry h
  obtain ⟨l, b, xs, zs, rfl, rfl, hH, hB, hz, q⟩ := h
  cases rx
  cases ry
  obtain ⟨z, its, n, r, hl, e⟩ := I.lstM hH
  obtain ⟨z2, its2, n2, r2, hl2, e2⟩ := rdL I hB
  have hsz : its.toArray.size + its2.toArray.size ≤ sizeLine := by rw [List.size_toArray, List.size_toArray]; omega
  have hlong : ¬ (!its.toArray.isEmpty && Builtin.List.listTooLong (its.toArray.size + its2.toArray.size)) = true := by
    rw [notLongL hsz, Bool.and_false]
    exact Bool.false_ne_true
  refine iadd_road ⟨_, e, rfl⟩ ⟨_, e2, rfl⟩ (call_meets PySem.F.slot_list_iadd ⟨_, e, rfl⟩ PySem.F.entry_list_iadd (PySem.F.args_list_iadd_2 _ _)
    (AutoSeq1.list___iadd___list_list_0 l its.toArray n b its2.toArray n2 hlong (by rw [List.size_toArray]; omega) (by omega)) ⟨e, e2, ?_⟩)
  refine ⟨.ref l, _, I.lset (its' := its ++ its2) (t' := s.toks) hH e (by simp) (r.append r2) ?_, rfl, q⟩
  rw [List.length_append]
  omega
/-- what x op= y asks -/
def rAug (K : PySem.W.Frag) (mg : Str → Option Value) (op : BinO) : R2 := fun x y H Q =>
  (∃ G d e r, (∀ a o, G a = some o → Ro H a o) ∧ View K mg G H d x ∧ View K mg G H e y ∧ augD op d e = some r ∧ ∀ v, (∀ G, Rep K mg G r v) → Q v H) ∨
  (op = .add ∧ ∃ l b xs zs, x = .ref l ∧ y = .ref b ∧ H l = some (.lst xs) ∧ L2.Rd H b (.lst zs) ∧ xs.length + zs.length ≤ sizeLine ∧ Q (.ref l) (upd H l (.lst (xs ++ zs))))
theorem smallF_or {i j : Int} (h : (smallF i || smallF j) = true) : CMul i j := by
  unfold smallF at h
  simp only [Bool.or_eq_true, Bool.and_eq_true, decide_eq_true_eq] at h
  exact h
theorem op_aug (op : BinO) : OpR X (inplaceOp (bop op)) (rAug X.K X.mg op) := by
  intro pins s σ H x y v u Q I rx ry h
  rcases h with ⟨G, d, e, r, fz, w1, w2, hb, q⟩ | ⟨rfl, h⟩
  · cases op <;> cases d <;> cases e <;> simp only [augD] at hb <;> (try (cases hb; done))
    · cases hb
      exact iop_add pins s σ H x y v u Q I rx ry ⟨_, _, w1, w2, q _ fun G => by simp only [Rep]⟩
    · split at hb
      · rename_i hz
        cases hb
        refine iop_add_str pins s σ H x y v u Q I rx ry ⟨_, _, w1.1, w2.1, by rw [← line_eq]; exact hz, q _ fun G => ?_⟩
        simp only [Rep]
        exact ⟨trivial, strOk_append w1.2.1 w2.2.1, by rw [← line_eq]; show (_ ++ _ : Array Nat).size ≤ _; rw [Array.size_append]; exact hz⟩
      · cases hb
    · cases hb
      exact iop_sub pins s σ H x y v u Q I rx ry ⟨_, _, w1, w2, q _ fun G => by simp only [Rep]⟩
    · split at hb
      · rename_i hz
        cases hb
        exact iop_mul pins s σ H x y v u Q I rx ry ⟨_, _, w1, w2, smallF_or hz, q _ fun G => by simp only [Rep]⟩
      · cases hb
    · split at hb
      · rename_i hz
        cases hb
        simp only [Bool.and_eq_true, decide_eq_true_eq] at hz
        exact iop_fdiv pins s σ H x y v u Q I rx ry ⟨_, _, w1, w2, hz, q _ fun G => by simp only [Rep]⟩
      · cases hb
    · split at hb
      · rename_i hz
        cases hb
        simp only [decide_eq_true_eq] at hz
        exact iop_mod pins s σ H x y v u Q I rx ry ⟨_, _, w1, w2, hz, q _ fun G => by simp only [Rep]⟩
      · cases hb
  · exact iop_extR pins s σ H x y v u Q I rx ry h
theorem set_same {σ : L2.St} {i : Nat} {v : V} (h : σ[i]? = some (some v)) : σ.set i (some v) = σ := by
  apply List.ext_getElem?
  intro j
  by_cases e : j = i
  · subst e
    rw [List.getElem?_set_self (List.getElem?_eq_some_iff.mp h).1, h]
  · rw [List.getElem?_set_ne (Ne.symm e)]
theorem ds_aug {i : Nat} {op : BinO} (hi : B.nin ≤ i) (rule : ∀ (te : TE) (ti : TIp), PE X e te → PIp X (bop op) ti → PS X st (tAug i te ti)) (he : DE X B W e (ev ca)) : DS X B W st (exec (.aug i op ca)) := by
  refine ⟨fun pins s σ H D I hw => (rule _ _ he (op_aug op)).run pins s σ H D I ?_⟩
  obtain ⟨G, ρ, τ, S, hw⟩ := hw
  simp only [exec] at hw
  split at hw
  · rename_i h0
    obtain ⟨x, hx⟩ : ∃ x, σ[i]? = some (some x) := by
      unfold isSet at h0
      split at h0
      · rename_i d hd
        obtain ⟨v, e1, _⟩ := S.val i d hd
        exact ⟨v, e1⟩
      · rename_i d hd
        obtain ⟨v, e1, _⟩ := S.own i d hd
        exact ⟨_, e1⟩
      · cases h0
    refine ⟨x, hx, ?_⟩
    refine tE_bindS S hw fun p v G1 H1 e1 s1 S1 a1 h1 => ?_
    split at h1
    · rename_i d d' h2 h3
      split at h1
      · rename_i r hr
        obtain ⟨w, e2, r2⟩ := S1.val i d h2
        rw [hx] at e2; cases e2
        refine .inl ⟨G1, d, d', r, S1.fz, Rep.view S1.fz r2, S1.view a1 h3, hr, fun z rz => ?_⟩
        exact h1.nx s1 (S1.setV hi (fun d1 z => by rw [h2] at z; cases z) (rz G1)) (psh_sub _ _ _)
      · exact h1.elim
    · rename_i xs ys h2 h3
      cases op with
      | add =>
        simp only at h1
        split at h1
        · rename_i hl
          obtain ⟨q, e2, g, c, hb⟩ := S1.own i _ h2
          rw [hx] at e2; cases e2
          obtain ⟨b, zs, rfl, hbz, hzs⟩ := S1.view a1 h3
          cases hq : H1 q with
          | none => rw [hq] at c; exact absurd rfl c.ne
          | some o =>
            rw [hq] at c
            cases o with
            | lst ws =>
              have c : RepL X.K X.mg G1 xs ws := c
              refine .inr ⟨rfl, q, b, ws, zs, rfl, rfl, hq, hbz, by rw [← c.length, ← hzs.length, sizeLine_eq]; exact hl, ?_⟩
              show D.nx (σ.set i (some (.ref q))) _
              rw [set_same hx]
              exact h1.nx s1 (S1.mut (o := .lst (ws ++ zs)) h2 hx (RepL.append c hzs)) (psh_sub _ _ _)
            | _ => exact (show False from c).elim
        · exact h1.elim
      | _ => exact h1.elim
    · exact h1.elim
  · exact hw.elim

/-! ### o[k] = v, o a list or a dict of one's own -/
/-- what o[k] = v asks -/
def rSetD (K : PySem.W.Frag) (mg : Str → Option Value) : V → V → V → Hp → (Hp → Prop) → Prop := fun x y v H Q => ∃ G p d k z d', x = V.ref p ∧ Cell K mg G d (H p) ∧ Rep K mg G k y ∧ Rep K mg G z v ∧ setIxD d k z = some d' ∧ ∀ o, Cell K mg G d' (some o) → Q (upd H p o)
theorem set_all (hu : X.A.units + 100 < cLine) : PSet X (rSetD X.K X.mg) := by
  intro pins s σ H o i v ov iv u Q I ro ri rv h
  obtain ⟨G, p, d, k, z, d', rfl, c, rk, rz, hd, q⟩ := h
  cases hp : H p with
  | none => rw [hp] at c; exact absurd rfl c.ne
  | some ob =>
    rw [hp] at c
    cases d <;> (try (cases ob <;> exact (show False from c).elim))
    · cases k <;> simp only [setIxD] at hd <;> (try (cases hd; done))
      rename_i xs j
      rw [Option.map_eq_some_iff] at hd
      obtain ⟨n, hn, rfl⟩ := hd
      cases ob <;> (try exact (show False from c).elim)
      rename_i ws
      have c : RepL X.K X.mg G xs ws := c
      have ej : i = .int j := by simpa only [Rep] using rk
      subst ej
      exact set_list pins s σ H _ _ v ov iv u Q I ro ri rv ⟨p, ws, j, n, rfl, rfl, hp, by rw [← c.length, ← ixN_eq]; exact hn, q _ (RepL.set rz n c)⟩
    · rename_i kvs
      simp only [setIxD] at hd
      split at hd
      · rename_i key hk
        split at hd
        · rename_i hl
          cases hd
          cases ob <;> (try exact (show False from c).elim)
          rename_i ws
          have c : RepK X.K X.mg G kvs ws := c
          obtain ⟨rfl, kf⟩ := Rep.key hk rk
          obtain rfl : ov = Value.ref p := ro
          exact d_setItem (by omega) I (.inl ⟨ws, key, hp, rfl, by rw [← c.length, sizeLine_eq]; exact hl, rfl⟩) ri rv fun s4 I4 => ⟨_, I4, q _ (RepK.put kf rz c)⟩
        · cases hd
      · cases hd
    · simp [setIxD] at hd
/-- o[k] = value, o a name -/
theorem ds_setIx {i : Nat} {p2 : Pos} (hu : X.A.units + 100 < cLine) (ho : PE X o (tVar i)) (hk : DE X B W b (ev cb)) (he : DE X B W e (ev ca)) 
    (ha : ∀ v, assign (.Subscript o b p2) X.env v = (do
      let ov ← holding [v] (eval o X.env)
      let iv ← holding [v, ov] (eval b X.env)
      standAt p2
      holding [v, ov, iv] (setItem ov iv v)
      release [v, ov, iv] []))
    (hs : swapsWithSole [.Subscript o b p2] e pos.line X.env = pure false) (hw : swappedStores [.Subscript o b p2] e X.env = pure none) (h1 : (assignEach [.Subscript o b p2] X.env).map (·.2) = [assign (.Subscript o b p2) X.env]) :
    DS X B W (.Assign [.Subscript o b p2] e pos) (exec (.setIx i cb ca)) := by
  refine ⟨fun pins s σ H D I hh => (ps_asg he (pg_sub ho hk (set_all hu) ha) hs hw h1).run pins s σ H D I ?_⟩
  obtain ⟨G, ρ, τ, S, hh⟩ := hh
  simp only [exec] at hh
  refine tE_bindS S hh fun p v G1 H1 e1 s1 S1 a1 h1 => ?_
  obtain ⟨q, G2, s2, S2, r2, h2⟩ := After.fzS S1 a1 h1
  have h2 : AfterS X.K X.mg B W D G τ (if isOwnS q.2 i then (ev cb q.2).bind fun r => (freeze r.2 r.1).bind fun q' => match q'.2[i]? with
      | some (.own d) => match setIxD d q'.1 q.1 with
        | some d' => .ok (.next, q'.2.set i (.own d'))
        | none => .stuck
      | _ => .stuck
      else .stuck) := h2
  split at h2
  · rename_i h0
    unfold isOwnS at h0
    split at h0
    · rename_i d0 hd0
      obtain ⟨p0, e0, _⟩ := S2.own i d0 hd0
      refine ⟨.ref p0, e0, ?_⟩
      refine tE_bindS S2 h2 fun r y G3 H3 e3 s3 S3 a3 h3 => ?_
      obtain ⟨q', G4, s4, S4, r4, h4⟩ := After.fzS S3 a3 h3
      split at h4
      · rename_i d hd
        split at h4
        · rename_i d' hd'
          obtain ⟨p1, e1, g, c, hb⟩ := S4.own i d hd
          rw [e0] at e1; cases e1
          refine ⟨G4, p0, d, q'.1, q.1, d', rfl, c, r4, Rep.mono (s3.trans s4) _ r2, hd', fun ob c' => ?_⟩
          exact h4.nx (s1.trans (s2.trans (s3.trans s4))) (S4.mut hd e0 c') (List.Sublist.refl _)
        · exact h4.elim
      · exact h4.elim
    · cases h0
  · exact h2.elim
end
end M
end
section
set_option linter.all false
set_option maxRecDepth 100000
set_option maxHeartbeats 1000000
/-! MCall: what a def promises, calls. -/
namespace M
open PySem L2 PyProof.Rows
section
variable (K : PySem.W.Frag) (mg : Str → Option Value)
/-- what was there stays, but at these places -/
def Held (H H' : Hp) (ps : List Addr) : Prop := ∀ a o, H a = some o → a ∉ ps → H' a = some o
/-- a call's result -/
def ResF (G' H H' : Hp) : Res → V → Prop
  | .val d, v => Rep K mg G' d v
  | .own d, v => ∃ q, v = .ref q ∧ G' q = none ∧ Cell K mg G' d (H' q) ∧ H q = none
  | .slot _, _ => False
def AfterF (G H : Hp) (ps : List Addr) (Q : VK) (E : XK) : Out (Res × List D) → Prop
  | .ok p => ∀ v G' H', Same G G' → (∀ a o, G' a = some o → Ro H' a o) → (∀ a o, G' a = some o → G a = some o ∨ H a = none) → Held H H' ps → (∀ x ∈ p.2.zip ps, G' x.2 = none ∧ Cell K mg G' x.1 (H' x.2)) → p.2.length = ps.length →
      ResF K mg G' H H' p.1 v → Q v H'
  | .exc c q => ∀ cls d H', XIs mg c q cls d H' → Held H H' ps → (∀ a ∈ ps, H' a ≠ none) → E cls d H'
  | .stuck => False
/-- what the def's promise asks of its arguments -/
def spF (F : FnE) : Sp := fun vs H Q E => ∃ (G : Hp) (is : List D) (ps : List Addr) (ds : List D) (ws : List V), vs = ps.map V.ref ++ ws ∧ ps.length = F.nin ∧ is.length = ps.length ∧ ps.Nodup ∧ (∀ x ∈ is.zip ps, G x.2 = none ∧ Cell K mg G x.1 (H x.2)) ∧
  (∀ a o, G a = some o → Ro H a o) ∧ RepL K mg G ds ws ∧ AfterF K mg G H ps Q E (F.run (packed F.star (is ++ ds)))
end
/-- the def stands there and keeps its promise -/
def OkF (P : Program) (w : World) (K : PySem.W.Frag) (mg : Str → Option Value) (base : Heap) (k : Nat) (F : FnE) : Prop :=
  ∃ f, mg F.name = some (.ref f) ∧ PySem.W.keepIn K (.ref f) = true ∧ FnR P w K mg base (L2N.CX P w) k f (spF K mg F)
theorem OkF.mono {P : Program} {w : World} {K : PySem.W.Frag} {mg : Str → Option Value} {base : Heap} {j k : Nat} {F : FnE} (h : OkF P w K mg base j F) (l : j ≤ k) : OkF P w K mg base k F := by
  obtain ⟨f, h1, h2, h3⟩ := h
  exact ⟨f, h1, h2, h3.mono l⟩

section
variable {K : PySem.W.Frag} {mg : Str → Option Value} {B : Bs} {G G1 G' H H' : Hp} {ρ ρ1 : Env} {σ : L2.St} {τ tm : List (D × Addr)}
/-- own slots, with their places -/
def OwnsAt (ρ : Env) (σ : L2.St) : List Nat → List D → List Addr → Prop
  | [], [], [] => True
  | i :: is, d :: ds, p :: ps => ρ[i]? = some (.own d) ∧ σ[i]? = some (some (.ref p)) ∧ i ∉ is ∧ OwnsAt ρ σ is ds ps
  | _, _, _ => False
theorem OwnsAt.mem : ∀ {is : List Nat} {ds : List D} {ps : List Addr}, OwnsAt ρ σ is ds ps → ∀ p ∈ ps, ∃ i d, i ∈ is ∧ ρ[i]? = some (Slot.own d) ∧ σ[i]? = some (some (.ref p))
  | [], [], [], _, p, h => nomatch h
  | i :: is, d :: ds, q :: ps, ⟨h1, h2, h3, h4⟩, p, h => by
    rcases List.mem_cons.mp h with rfl | h
    · exact ⟨i, d, List.mem_cons_self, h1, h2⟩
    · obtain ⟨j, e, hj, k1, k2⟩ := OwnsAt.mem h4 p h
      exact ⟨j, e, List.mem_cons_of_mem _ hj, k1, k2⟩
  | [], [], _ :: _, h, _, _ => h.elim
  | [], _ :: _, _, h, _, _ => h.elim
  | _ :: _, [], _, h, _, _ => h.elim
  | _ :: _, _ :: _, [], h, _, _ => h.elim
theorem OwnsAt.len : ∀ {is : List Nat} {ds : List D} {ps : List Addr}, OwnsAt ρ σ is ds ps → is.length = ps.length ∧ ds.length = ps.length
  | [], [], [], _ => ⟨rfl, rfl⟩
  | i :: is, d :: ds, q :: ps, ⟨h1, h2, h3, h4⟩ => by obtain ⟨a, b⟩ := OwnsAt.len h4; simp [a, b]
  | [], [], _ :: _, h => h.elim
  | [], _ :: _, _, h => h.elim
  | _ :: _, [], _, h => h.elim
  | _ :: _, _ :: _, [], h => h.elim
theorem OwnsAt.nodup (S : Sm K mg B G ρ σ H τ) : ∀ {is : List Nat} {ds : List D} {ps : List Addr}, OwnsAt ρ σ is ds ps → ps.Nodup
  | [], [], [], _ => List.nodup_nil
  | i :: is, d :: ds, q :: ps, ⟨h1, h2, h3, h4⟩ => by
    refine List.nodup_cons.mpr ⟨fun hq => ?_, OwnsAt.nodup S h4⟩
    obtain ⟨j, e, hj, k1, k2⟩ := h4.mem q hq
    exact S.sepS i j q (fun z => h3 (by rw [z]; exact hj)) (.inl ⟨d, h1⟩) (.inl ⟨e, k1⟩) h2 k2
  | [], [], _ :: _, h => h.elim
  | [], _ :: _, _, h => h.elim
  | _ :: _, [], _, h => h.elim
  | _ :: _, _ :: _, [], h => h.elim
theorem OwnsAt.cells (S : Sm K mg B G ρ σ H τ) : ∀ {is : List Nat} {ds : List D} {ps : List Addr}, OwnsAt ρ σ is ds ps → ∀ x ∈ ds.zip ps, G x.2 = none ∧ Cell K mg G x.1 (H x.2) ∧ (B.H0 x.2 = none ∨ B.P x.2)
  | [], [], [], _, x, h => nomatch h
  | i :: is, d :: ds, q :: ps, ⟨h1, h2, h3, h4⟩, x, h => by
    rw [List.zip_cons_cons] at h
    rcases List.mem_cons.mp h with rfl | h
    · obtain ⟨p, e, a, b, c⟩ := S.own i d h1
      rw [h2] at e; cases e
      exact ⟨a, b, c⟩
    · exact OwnsAt.cells S h4 x h
  | [], [], _ :: _, h, _, _ => h.elim
  | [], _ :: _, _, h, _, _ => h.elim
  | _ :: _, [], _, h, _, _ => h.elim
  | _ :: _, _ :: _, [], h, _, _ => h.elim
theorem putBack_len : ∀ {is : List Nat} {ds : List D} {ρ : Env}, (putBack ρ is ds).length = ρ.length
  | [], _, _ => rfl
  | _ :: _, [], _ => rfl
  | i :: is, d :: ds, ρ => by simp [putBack, putBack_len]
theorem putBack_at : ∀ {is : List Nat} {ds : List D} {ρ : Env} {j : Nat} {s : Slot}, (putBack ρ is ds)[j]? = some s → (∃ d, (d, j) ∈ ds.zip is ∧ s = .own d) ∨ (ρ[j]? = some s ∧ (is.length = ds.length → j ∉ is))
  | [], ds, ρ, j, s, h => .inr ⟨by simpa [putBack] using h, fun _ => by simp⟩
  | i :: is, [], ρ, j, s, h => .inr ⟨by simpa [putBack] using h, fun e => by simp at e⟩
  | i :: is, d :: ds, ρ, j, s, h => by
    simp only [putBack] at h
    rcases getset (l := putBack ρ is ds) _ h with ⟨rfl, rfl⟩ | ⟨n, z⟩
    · exact .inl ⟨d, by simp, rfl⟩
    · rcases putBack_at z with ⟨e, h1, h2⟩ | ⟨h1, h2⟩
      · exact .inl ⟨e, by rw [List.zip_cons_cons]; exact List.mem_cons_of_mem _ h1, h2⟩
      · exact .inr ⟨h1, fun e => by simp only [List.mem_cons, not_or]; exact ⟨n, h2 (by simpa using e)⟩⟩
theorem OwnsAt.at : ∀ {is : List Nat} {ds : List D} {ps : List Addr} {es : List D}, OwnsAt ρ σ is ds ps → es.length = ps.length → ∀ {d : D} {j : Nat}, (d, j) ∈ es.zip is → ∃ p, (d, p) ∈ es.zip ps ∧ σ[j]? = some (some (.ref p)) ∧ p ∈ ps ∧ ∃ d0, ρ[j]? = some (Slot.own d0)
  | [], [], [], es, _, _, d, j, h => by simp at h
  | i :: is, d :: ds, q :: ps, [], h, l, _, _, _ => by simp at l
  | i :: is, d :: ds, q :: ps, e :: es, ⟨h1, h2, h3, h4⟩, l, d', j, h => by
    rw [List.zip_cons_cons] at h
    rcases List.mem_cons.mp h with z | h
    · cases z
      exact ⟨q, by simp, h2, by simp, d, h1⟩
    · obtain ⟨p, k1, k2, k3, k4⟩ := OwnsAt.at h4 (by simpa using l) h
      exact ⟨p, by rw [List.zip_cons_cons]; exact List.mem_cons_of_mem _ k1, k2, List.mem_cons_of_mem _ k3, k4⟩
  | [], [], _ :: _, _, h, _, _, _, _ => h.elim
  | [], _ :: _, _, _, h, _, _, _, _ => h.elim
  | _ :: _, [], _, _, h, _, _, _, _ => h.elim
  | _ :: _, _ :: _, [], _, h, _, _, _, _ => h.elim
/-- behind a call -/
theorem Sm.called (S : Sm K mg B G ρ σ H τ) {is : List Nat} {ds outs : List D} {ps : List Addr} (o : OwnsAt ρ σ is ds ps) (s : Same G G') (fz : ∀ a u, G' a = some u → Ro H' a u) (nw : ∀ a u, G' a = some u → G a = some u ∨ H a = none) (hd : Held H H' ps)
    (hc : ∀ x ∈ outs.zip ps, G' x.2 = none ∧ Cell K mg G' x.1 (H' x.2)) (hl : outs.length = ps.length) : Sm K mg B G' (putBack ρ is outs) σ H' τ := by
  obtain ⟨l1, l2⟩ := o.len
  have isl : is.length = outs.length := by omega
  -- the place of an own slot that was not handed in
  have out : ∀ {j : Nat} {p : Addr}, isOwn ρ j → σ[j]? = some (some (.ref p)) → j ∉ is → p ∉ ps := fun {j p} oj ej hj hp => by
    obtain ⟨i, d, hi, k1, k2⟩ := o.mem p hp
    exact S.sepS j i p (fun z => hj (by rw [z]; exact hi)) oj (.inl ⟨d, k1⟩) ej k2
  have g' : ∀ {p : Addr}, G p = none → H p ≠ none → G' p = none := fun {p} g h => by
    cases e : G' p with
    | none => rfl
    | some u =>
      rcases nw p u e with z | z
      · rw [g] at z; cases z
      · exact absurd z h
  have keepH : ∀ {p : Addr}, H p ≠ none → p ∉ ps → H' p = H p := fun {p} h n => by
    cases e : H p with
    | none => exact absurd e h
    | some u => exact hd p u e n
  have ow : ∀ j, isOwn (putBack ρ is outs) j → isOwn ρ j := fun j q => by
    rcases q with ⟨d, q⟩ | ⟨d, q⟩
    · rcases putBack_at q with ⟨e, h1, h2⟩ | ⟨h1, _⟩
      · obtain ⟨p, _, _, _, d0, k⟩ := o.at hl h1
        exact .inl ⟨d0, k⟩
      · exact .inl ⟨d, h1⟩
    · rcases putBack_at q with ⟨e, h1, h2⟩ | ⟨h1, _⟩
      · cases h2
      · exact .inr ⟨d, h1⟩
  have tmps : ∀ x ∈ τ, x.2 ∉ ps := fun x hx hp => by
    obtain ⟨i, d, hi, k1, k2⟩ := o.mem _ hp
    exact S.sepT i _ (.inl ⟨d, k1⟩) k2 (List.mem_map.mpr ⟨x, hx, rfl⟩)
  refine { S with
    len := by rw [putBack_len]; exact S.len
    fz := fz
    val := fun j d q => ?_
    own := fun j d q => ?_
    lck := fun j d q => ?_
    tmp := fun x hx => ?_
    sepS := fun a b p ne x y => S.sepS a b p ne (ow a x) (ow b y)
    sepT := fun a p x => S.sepT a p (ow a x)
    g0 := S.g0.trans s
    h0 := fun a u e np => ?_
    n0 := fun a u e => ?_
    p0 := fun a q => ?_
    lk0 := fun x hx => ⟨?_, (S.lk0 x hx).2⟩
    lkc := fun j d q => ?_
    fx := fun x hx => ?_ }
  · rcases putBack_at q with ⟨e, h1, h2⟩ | ⟨h1, _⟩
    · cases h2
    · obtain ⟨v, e1, e2⟩ := S.val j d h1
      exact ⟨v, e1, Rep.mono s d e2⟩
  · rcases putBack_at q with ⟨e, h1, h2⟩ | ⟨h1, h2⟩
    · cases h2
      obtain ⟨p, k1, k2, k3, d0, k4⟩ := o.at hl h1
      obtain ⟨c1, c2⟩ := hc _ k1
      obtain ⟨p', e1, _, _, e4⟩ := S.own j d0 k4
      rw [k2] at e1; cases e1
      exact ⟨p, k2, c1, c2, e4⟩
    · obtain ⟨p, e1, e2, e3, e4⟩ := S.own j d h1
      have hp := out (.inl ⟨d, h1⟩) e1 (h2 isl)
      exact ⟨p, e1, g' e2 e3.ne, by rw [keepH e3.ne hp]; exact e3.mono s, e4⟩
  · rcases putBack_at q with ⟨e, h1, h2⟩ | ⟨h1, h2⟩
    · cases h2
    · obtain ⟨p, e1, e2, e3, e4⟩ := S.lck j d h1
      have hp := out (.inr ⟨d, h1⟩) e1 (h2 isl)
      have hne : H p ≠ none := fun z => by rw [z, unfD_none] at e3; exact e3.ne rfl
      exact ⟨p, e1, g' e2 hne, by rw [keepH hne hp]; exact e3.mono s, e4⟩
  · obtain ⟨e1, e2, e3⟩ := S.tmp x hx
    exact ⟨g' e1 e2.ne, by rw [keepH e2.ne (tmps x hx)]; exact e2.mono s, e3⟩
  · refine (S.h0 a u e np).imp (fun ha => ?_) id
    refine hd a u ha fun hp => ?_
    obtain ⟨i, d, hi, k1, k2⟩ := o.mem _ hp
    obtain ⟨p', e1, _, _, e4⟩ := S.own i d k1
    rw [k2] at e1; cases e1
    rcases e4 with z | z
    · rw [z] at e; cases e
    · exact np z
  · rcases nw a u e with z | z
    · exact S.n0 a u z
    · exact .inr (.inl (S.fresh0 z))
  · have ha := S.p0 a q
    by_cases hp : a ∈ ps
    · obtain ⟨n, hn, rfl⟩ := List.mem_iff_getElem.mp hp
      have hn' : n < outs.length := by omega
      have : (outs[n], ps[n]) ∈ outs.zip ps := by
        refine List.mem_iff_getElem.mpr ⟨n, by rw [List.length_zip]; omega, by simp⟩
      exact (hc _ this).2.ne
    · rw [keepH ha hp]; exact ha
  · have h1 := (S.lk0 x hx).1
    have : ∀ {is : List Nat} {outs : List D} {ρ : Env}, (∀ i ∈ is, i ≠ x.1) → (putBack ρ is outs)[x.1]? = ρ[x.1]? := by
      intro is
      induction is with
      | nil => intro outs ρ _; rfl
      | cons i is ih =>
        intro outs ρ h
        cases outs with
        | nil => rfl
        | cons d ds =>
          simp only [putBack]
          rw [setne (Ne.symm (h i List.mem_cons_self))]
          exact ih fun i hi => h i (List.mem_cons_of_mem _ hi)
    rw [this]
    · exact h1
    · intro i hi z
      obtain ⟨n, hn, rfl⟩ := List.mem_iff_getElem.mp hi
      have hn2 : n < outs.length := by omega
      have : (outs[n], is[n]) ∈ outs.zip is := List.mem_iff_getElem.mpr ⟨n, by rw [List.length_zip]; omega, by simp⟩
      obtain ⟨p, _, _, _, d0, k4⟩ := o.at hl this
      rw [z, h1] at k4; cases k4
  · rcases putBack_at q with ⟨e, h1, h2⟩ | ⟨h1, h2⟩
    · cases h2
    · exact S.lkc j d h1
  · obtain ⟨h1, h2⟩ := S.fx x hx
    refine ⟨hd _ _ h1 fun hp => ?_, h2.imp (s _ _) id⟩
    obtain ⟨i, d, hi, k1, k2⟩ := o.mem _ hp
    rcases h2 with z | ⟨k, d1, z⟩
    · obtain ⟨p', e1, g, _⟩ := S.own i d k1
      rw [k2] at e1; cases e1
      rw [g] at z; cases z
    · obtain ⟨y1, y2⟩ := S.lk0 _ z
      have y1 : ρ[k]? = some (.lck d1) := y1
      have y2 : σ[k]? = some (some (.ref x.1)) := y2
      exact S.sepS k i x.1 (fun y => by rw [y, k1] at y1; cases y1) (.inr ⟨d1, y1⟩) (.inl ⟨d, k1⟩) y2 k2
end
end M
end
section
set_option linter.all false
set_option maxRecDepth 100000
set_option maxHeartbeats 1000000
/-! MCall2: calls. -/
namespace M
open PySem L2 PyProof.Rows
section
variable {K : PySem.W.Frag} {mg : Str → Option Value} {B : Bs} {G G1 G' H H' : Hp} {ρ ρ1 : Env} {σ : L2.St} {τ tm : List (D × Addr)}
theorem inouts_ok (S : Sm K mg B G ρ σ H τ) : ∀ {n : Nat} {rs : List Res} {vs : List V} {is : List Nat} {ds : List D} {rs' : List Res}, ResAts K mg G σ tm rs vs → inouts ρ n rs = some (is, ds, rs') →
    ∃ ps ws, vs = ps.map V.ref ++ ws ∧ ps.length = n ∧ OwnsAt ρ σ is ds ps ∧ ResAts K mg G σ tm rs' ws
  | 0, rs, vs, is, ds, rs', a, h => by
    simp only [inouts] at h; cases h
    exact ⟨[], vs, rfl, rfl, trivial, a⟩
  | n + 1, [], vs, is, ds, rs', a, h => by simp only [inouts] at h; cases h
  | n + 1, .val d :: rs, vs, is, ds, rs', a, h => by simp only [inouts] at h; cases h
  | n + 1, .own d :: rs, vs, is, ds, rs', a, h => by simp only [inouts] at h; cases h
  | n + 1, .slot i :: rs, _, is, ds, rs', ⟨v, t, e, a1, a2⟩, h => by
    subst e
    simp only [inouts] at h
    split at h
    · rename_i d hd
      split at h
      · rename_i is' ds' rs'' h2
        split at h
        · cases h
        · rename_i hn
          cases h
          obtain ⟨ps, ws, rfl, l, o, a3⟩ := inouts_ok S a2 h2
          have a1 : σ[i]? = some (some v) := a1
          obtain ⟨p, e1, _⟩ := S.own i d hd
          rw [a1] at e1; cases e1
          exact ⟨p :: ps, ws, rfl, by simp [l], ⟨hd, a1, by simpa using hn, o⟩, a3⟩
      · cases h
    · cases h
theorem ResAts.mem : ∀ {rs : List Res} {vs : List V} {r : Res}, ResAts K mg G σ tm rs vs → r ∈ rs → ∃ v, ResAt K mg G σ tm r v
  | r :: rs, _, r', ⟨v, s, e, a1, a2⟩, h => by
    rcases List.mem_cons.mp h with rfl | h
    · exact ⟨v, a1⟩
    · exact ResAts.mem a2 h
/-- what is lent -/
def lentP (ρ : Env) (σ : L2.St) (tm : List (D × Addr)) (rs : List Res) (a : Addr) : Prop := (∃ d, (d, a) ∈ tm) ∨ ∃ i, Res.slot i ∈ rs ∧ isOwn ρ i ∧ σ[i]? = some (some (.ref a))
open Classical in
noncomputable def lendG (G H : Hp) (P : Addr → Prop) : Hp := fun a => match G a with
  | some o => some o
  | none => if P a then unf (H a) else none
theorem lend_same {P : Addr → Prop} : Same G (lendG G H P) := fun a o e => by unfold lendG; rw [e]
theorem lend_at {P : Addr → Prop} {a : Addr} (g : G a = none) (h : P a) : lendG G H P a = unf (H a) := by unfold lendG; rw [g]; simp [h]
theorem lend_no {P : Addr → Prop} {a : Addr} (g : G a = none) (h : ¬ P a) : lendG G H P a = none := by unfold lendG; rw [g]; simp [h]
theorem Cell.lend {d : D} {p : Addr} (c : Cell K mg G d (M.unfD d (H p))) (e : G1 p = M.unf (H p)) (s : Same G G1) : Rep K mg G1 d (.ref p) := by
  have c := c.ofD
  cases d with
  | lst xs => cases q : M.unf (H p) with
    | none => rw [q] at c; exact absurd rfl c.ne
    | some u => rw [q] at c e; cases u with
      | lst vs => simp only [Rep]; exact ⟨p, vs, rfl, .inl e, RepL.mono s xs c⟩
      | _ => exact (show False from c).elim
  | dct xs => cases q : M.unf (H p) with
    | none => rw [q] at c; exact absurd rfl c.ne
    | some u => rw [q] at c e; cases u with
      | dK vs => simp only [Rep]; exact ⟨p, vs, rfl, e, RepK.mono s xs c⟩
      | _ => exact (show False from c).elim
  | dctT xs => cases q : M.unf (H p) with
    | none => rw [q] at c; exact absurd rfl c.ne
    | some u => rw [q] at c e; cases u with
      | dT vs => simp only [Rep]; exact ⟨p, vs, rfl, e, RepT.mono s xs c⟩
      | _ => exact (show False from c).elim
  | _ => exact (show False from c).elim
theorem lend_fz {P : Addr → Prop} (fz : ∀ a o, G a = some o → Ro H a o) (hc : ∀ a, P a → G a = none → ∃ d, Cell K mg G d (unfD d (H a))) : ∀ a o, lendG G H P a = some o → Ro H a o := by
  intro a o e
  unfold lendG at e
  split at e
  · rename_i u hu; cases e; exact fz a _ hu
  · rename_i hg
    split at e
    · rename_i hp
      obtain ⟨d, c⟩ := hc a hp hg
      cases q : H a with
      | none => rw [q] at e; cases e
      | some ob =>
        rw [q] at e c
        cases ob with
        | frz o' u =>
          simp only [M.unf] at e; cases e
          refine .inr ⟨?_, o', q⟩
          cases d with
          | lst xs => exact (show False from c).elim
          | dct xs => cases o <;> first
            | rfl
            | exact (show False from c).elim
          | dctT xs => cases o <;> first
            | rfl
            | exact (show False from c).elim
          | _ => exact (show False from c).elim
        | _ => simp only [M.unf] at e; cases e; exact .inl q
    · cases e
theorem deref_of {r : Res} {d : D} (h : deref ρ r = some d) : match r with
    | .val e => e = d
    | .own e => e = d
    | .slot i => ρ[i]? = some (.own d) ∨ ρ[i]? = some (.val d) ∨ ρ[i]? = some (.lck d) := by
  cases r with
  | val e => simp only [deref] at h; cases h; rfl
  | own e => simp only [deref] at h; cases h; rfl
  | slot i =>
    simp only [deref] at h
    cases q : ρ[i]? with
    | none => rw [q] at h; cases h
    | some s => rw [q] at h; cases s <;> cases h <;> simp [q]
theorem lend_reps (S : Sm K mg B G ρ σ H (tm ++ τ)) {P : Addr → Prop} (hP : ∀ a d, (d, a) ∈ tm → P a) : ∀ {rs : List Res} {ws : List V} {es : List D}, (∀ i a, Res.slot i ∈ rs → isOwn ρ i → σ[i]? = some (some (.ref a)) → P a) → ResAts K mg G σ tm rs ws → derefs ρ rs = some es → RepL K mg (lendG G H P) es ws
  | [], _, es, _, a, h => by
    simp only [derefs] at h; cases h
    have a : _ = [] := a
    subst a
    exact RepL.nil
  | r :: rs, _, es, hs, ⟨v, t, e, a1, a2⟩, h => by
    subst e
    simp only [derefs] at h
    cases h1 : deref ρ r with
    | none => rw [h1] at h; cases h
    | some d =>
      cases h2 : derefs ρ rs with
      | none => rw [h1, h2] at h; cases h
      | some ds =>
        rw [h1, h2] at h; cases h
        refine RepL.cons ?_ (lend_reps S hP (fun i a hi => hs i a (List.mem_cons_of_mem _ hi)) a2 h2)
        have k := deref_of h1
        cases r with
        | val e => cases k; exact Rep.mono lend_same _ a1
        | own e =>
          cases k
          obtain ⟨p, rfl, hm⟩ := a1
          obtain ⟨g, c, _⟩ := S.tmp _ (List.mem_append_left τ hm)
          have c : Cell K mg G d (H p) := c
          exact Cell.lend (by rw [c.unfD]; exact c) (lend_at g (hP p d hm)) lend_same
        | slot i =>
          have a1 : σ[i]? = some (some v) := a1
          rcases k with k | k | k
          · obtain ⟨p, e1, g, c, _⟩ := S.own i _ k
            rw [a1] at e1; cases e1
            exact Cell.lend (by rw [c.unfD]; exact c) (lend_at g (hs i p List.mem_cons_self (.inl ⟨_, k⟩) a1)) lend_same
          · obtain ⟨w, e1, r⟩ := S.val i _ k
            rw [a1] at e1; cases e1
            exact Rep.mono lend_same _ r
          · obtain ⟨p, e1, g, c, _⟩ := S.lck i _ k
            rw [a1] at e1; cases e1
            exact Cell.lend c (lend_at g (hs i p List.mem_cons_self (.inr ⟨_, k⟩) a1)) lend_same
theorem freezes_lent : ∀ {rs : List Res} {es : List D} {ρ : Env}, anyLck ρ rs = false → derefs ρ rs = some es → freezes ρ rs = .ok (es, lent ρ rs)
  | [], es, ρ, _, h => by simp only [derefs] at h; cases h; rfl
  | r :: rs, es, ρ, hl, h => by
    simp only [anyLck, List.any_cons, Bool.or_eq_false_iff] at hl
    simp only [derefs] at h
    cases h1 : deref ρ r with
    | none => rw [h1] at h; cases h
    | some d =>
      cases h2 : derefs ρ rs with
      | none => rw [h1, h2] at h; cases h
      | some ds =>
        rw [h1, h2] at h; cases h
        have k := deref_of h1
        cases r with
        | val e => cases k; simp only [freezes, freeze, lent]; show ((freezes ρ rs).bind _) = _; rw [freezes_lent hl.2 h2]; rfl
        | own e => cases k; simp only [freezes, freeze, lent]; show ((freezes ρ rs).bind _) = _; rw [freezes_lent hl.2 h2]; rfl
        | slot i =>
          rcases k with k | k | k
          · have hi : i < ρ.length := (List.getElem?_eq_some_iff.mp k).1
            simp only [freezes, freeze, lent, k]
            show ((freezes (ρ.set i (.val d)) rs).bind _) = _
            have same : ∀ j, (∀ e, ρ[j]? ≠ some (Slot.lck e)) → ∀ e, (List.set ρ i (Slot.val d))[j]? ≠ some (Slot.lck e) := fun j n e z => by
              rcases getset (l := ρ) _ z with ⟨_, q⟩ | ⟨_, q⟩
              · cases q
              · exact n e q
            rw [freezes_lent (es := ds)]
            · rfl
            · rw [← hl.2]
              unfold anyLck
              congr 1
              funext r
              cases r with
              | slot j =>
                by_cases e : j = i
                · subst e; simp [setself hi, k]
                · simp only [setne e]
              | _ => rfl
            · have : ∀ {rs : List Res}, derefs (List.set ρ i (.val d)) rs = derefs ρ rs := by
                intro rs
                induction rs with
                | nil => rfl
                | cons r rs ih =>
                  simp only [derefs, ih]
                  have : deref (List.set ρ i (.val d)) r = deref ρ r := by
                    cases r with
                    | slot j =>
                      by_cases e : j = i
                      · subst e; simp only [deref, setself hi, k]
                      · simp only [deref, setne e]
                    | _ => rfl
                  rw [this]
              rw [this]; exact h2
          · simp only [freezes, freeze, lent, k]
            show ((freezes ρ rs).bind _) = _
            rw [freezes_lent hl.2 h2]; rfl
          · exfalso
            have := hl.1
            simp [k] at this
theorem lent_own : ∀ {rs : List Res} {ρ : Env} {i : Nat} {d : D}, (∀ r ∈ rs, r ≠ .slot i) → ρ[i]? = some (Slot.own d) → (lent ρ rs)[i]? = some (Slot.own d)
  | [], _, _, _, _, h => h
  | .val e :: rs, ρ, i, d, n, h => by simp only [lent]; exact lent_own (fun r hr => n r (List.mem_cons_of_mem _ hr)) h
  | .own e :: rs, ρ, i, d, n, h => by simp only [lent]; exact lent_own (fun r hr => n r (List.mem_cons_of_mem _ hr)) h
  | .slot j :: rs, ρ, i, d, n, h => by
    simp only [lent]
    have ne : i ≠ j := fun z => n (.slot j) List.mem_cons_self (by rw [z])
    split
    · exact lent_own (fun r hr => n r (List.mem_cons_of_mem _ hr)) (by rw [setne ne]; exact h)
    · exact lent_own (fun r hr => n r (List.mem_cons_of_mem _ hr)) h
theorem OwnsAt.lent {rs : List Res} : ∀ {is : List Nat} {ds : List D} {ps : List Addr}, (∀ i ∈ is, ∀ r ∈ rs, r ≠ .slot i) → OwnsAt ρ σ is ds ps → OwnsAt (lent ρ rs) σ is ds ps
  | [], [], [], _, _ => trivial
  | i :: is, d :: ds, q :: ps, n, ⟨h1, h2, h3, h4⟩ => ⟨lent_own (n i List.mem_cons_self) h1, h2, h3, OwnsAt.lent (fun i hi => n i (List.mem_cons_of_mem _ hi)) h4⟩
  | [], [], _ :: _, _, h => h.elim
  | [], _ :: _, _, _, h => h.elim
  | _ :: _, [], _, _, h => h.elim
  | _ :: _, _ :: _, [], _, h => h.elim
theorem apart_ne {is : List Nat} {rs : List Res} (h : apart is rs = true) : ∀ i ∈ is, ∀ r ∈ rs, r ≠ .slot i := by
  intro i hi r hr z
  subst z
  unfold apart at h
  have := List.all_eq_true.mp h _ hr
  simp at this
  exact this hi
/-- a new thing that a call gave -/
theorem Sm.addT (S : Sm K mg B G' ρ σ H' τ) {d : D} {q : Addr} (hq : G' q = none) (c : Cell K mg G' d (H' q)) (h0 : B.H0 q = none) (hs : ∀ i, isOwn ρ i → σ[i]? ≠ some (some (.ref q))) (ht : q ∉ τ.map (·.2)) : Sm K mg B G' ρ σ H' ((d, q) :: τ) :=
  { S with
    tmp := fun x hx => by
      rcases List.mem_cons.mp hx with rfl | hx
      · exact ⟨hq, c, h0⟩
      · exact S.tmp x hx
    sepT := fun i p ho e hp => by
      rw [List.map_cons, List.mem_cons] at hp
      rcases hp with rfl | hp
      · exact hs i ho e
      · exact S.sepT i p ho e hp
    ndT := by rw [List.map_cons]; exact List.nodup_cons.mpr ⟨ht, S.ndT⟩ }
theorem putBack_isOwn {is : List Nat} {ds outs : List D} {ps : List Addr} (o : OwnsAt ρ σ is ds ps) (hl : outs.length = ps.length) {j : Nat} (q : isOwn (putBack ρ is outs) j) : isOwn ρ j := by
  rcases q with ⟨d, q⟩ | ⟨d, q⟩
  · rcases putBack_at q with ⟨e, h1, h2⟩ | ⟨h1, _⟩
    · obtain ⟨p, _, _, _, d0, k⟩ := o.at hl h1
      exact .inl ⟨d0, k⟩
    · exact .inl ⟨d, h1⟩
  · rcases putBack_at q with ⟨e, h1, h2⟩ | ⟨h1, _⟩
    · cases h2
    · exact .inr ⟨d, h1⟩
end
end M
end
section
set_option linter.all false
set_option maxRecDepth 100000
set_option maxHeartbeats 1000000
/-! MCall3: calls of defs. -/
namespace M
open PySem L2 PyProof.Rows
section
variable {X : Cx} {B : Bs} {W : WX} {a b e c o : Expr} {ca cb cc : CE} {pos : Pos} {es : List Expr} {cs : List CE}
/-- f(e, ..), by a positional promise, what is raised wished for at the caller's slots -/
theorem pe_callM {k : Nat} {f : Addr} {sp : Sp} {x : Str} {p : Pos} {t : TA} (F : FnR X.prog X.w X.K X.mg X.base (L2N.CX X.prog X.w) k f sp) (hr : Room k X.A) (hg : Gl X x) (hm : X.mg x = some (.ref f)) (hk : PySem.W.keepIn X.K (.ref f) = true) (tk : L2N.Takes X W)
    (ha : PA X (e :: es) t) (hdb : (x == ("__debug__" : Str)) = false) (he : starEach (e :: es) X.env = (false, eval e X.env) :: starEach es X.env) (hpl : (backTo pos (starEach es X.env)).any (·.1) = false) :
    PE X (.Call (.Name x p) (e :: es) [] pos) (fun σ H Q => t σ H fun vs H1 => sp vs H1 Q (WE W σ)) := by
  refine ⟨fun pins s σ H Q I h => ?_⟩
  refine wpAny_Call_Name_kw (ld_glob I hg hm ?_ hdb)
  refine PySem.W.callWith_K (h₀ := X.base) I.ok.mod.kin hk (thn (ha.run pos pins s σ H _ I h) fun us s1 ⟨vs, H1, I1, r, q⟩ => ⟨I1.kIn, ?_⟩) he hpl
  refine wpAny_call (codeAny_mono (F X.A X.stack s1 H1 us vs Q (WE W σ) hr I1.env0 r q) fun r s' hq => ?_)
  cases r with
  | error e => exact L2N.passAt tk σ pins H1 s1 e s' I1 hq
  | ok fl =>
    cases fl with
    | ret u => exact I1.after hq
    | next => exact False.elim hq
    | brk => exact False.elim hq
    | cont => exact False.elim hq
theorem flat_list {K : PySem.W.Frag} {mg : Str → Option Value} {G G' : Hp} {d : D} {o : Option HO} (f : flatL d = true) (c : Cell K mg G d o) : Cell K mg G' d o := by
  cases d <;> simp only [flatL] at f <;> (try (cases f; done))
  cases o with
  | none => exact c
  | some o =>
    cases o with
    | lst vs => exact RepL.flat (fun d hd => List.all_eq_true.mp f d hd) c
    | _ => exact c
theorem held_ro {K : PySem.W.Frag} {mg : Str → Option Value} {B : Bs} {G H H' : Hp} {ρ : Env} {σ : L2.St} {τ : List (D × Addr)} (S : Sm K mg B G ρ σ H τ) {ps : List Addr} (hd : Held H H' ps) (hg : ∀ p ∈ ps, G p = none) : ∀ a o, G a = some o → Ro H' a o := by
  intro a o e
  have n : a ∉ ps := fun h => by rw [hg a h] at e; cases e
  rcases S.fz a o e with z | ⟨z1, ob, z⟩
  · exact .inl (hd a _ z n)
  · exact .inr ⟨z1, ob, hd a _ z n⟩
/-- a call's run, as the promise asks for it -/
theorem call_sp {F : FnE} {rs : List Res} {vs : List V} {G0 G : Hp} {ρ : Env} {σ : L2.St} {H : Hp} {Q : VK} {tm τ : List (D × Addr)} (s0 : Same G0 G) (S : Sm X.K X.mg B G ρ σ H (tm ++ τ)) (a : ResAts X.K X.mg G σ tm rs vs) (h : After X.K X.mg B W σ Q G0 τ (callF F rs ρ)) :
    spF X.K X.mg F vs H Q (WE W σ) := by
  unfold callF at h
  cases hi : inouts ρ F.nin rs with
  | none => rw [hi] at h; exact h.elim
  | some z =>
    obtain ⟨is, ds, rs'⟩ := z
    rw [hi] at h
    obtain ⟨ps, ws, rfl, lp, ow, a'⟩ := inouts_ok S a hi
    obtain ⟨l1, l2⟩ := ow.len
    have nd := ow.nodup S
    have cl := ow.cells S
    dsimp only at h
    split at h
    · rename_i hap
      cases hes : derefs ρ rs' with
      | none => rw [hes] at h; exact h.elim
      | some es =>
        rw [hes] at h
        dsimp only at h
        have ne := apart_ne hap
        -- places handed in are not lent
        have pG : ∀ p ∈ ps, G p = none := fun p hp => by
          obtain ⟨i, d, _, k1, k2⟩ := ow.mem p hp
          exact S.ownG (.inl ⟨d, k1⟩) k2
        have pL : ∀ p ∈ ps, ¬ lentP ρ σ tm rs' p := fun p hp hl => by
          obtain ⟨i, d, hii, k1, k2⟩ := ow.mem p hp
          rcases hl with ⟨d', hm⟩ | ⟨j, hj, oj, ej⟩
          · exact S.sepT i p (.inl ⟨d, k1⟩) k2 (List.mem_map.mpr ⟨_, List.mem_append_left τ hm, rfl⟩)
          · exact S.sepS i j p (fun z => ne i hii _ hj (by rw [z])) (.inl ⟨d, k1⟩) oj k2 ej
        have lendH : ∃ G1, Same G G1 ∧ (∀ a o, G1 a = some o → Ro H a o) ∧ RepL X.K X.mg G1 es ws ∧ ∀ p ∈ ps, G1 p = none := by
          refine ⟨lendG G H (lentP ρ σ tm rs'), lend_same, lend_fz (K := X.K) (mg := X.mg) S.fz (fun a hp hg => ?_), lend_reps S (fun a d hm => .inl ⟨d, hm⟩) (fun i a hi ho e => .inr ⟨i, hi, ho, e⟩) a' hes, fun p hp => lend_no (pG p hp) (pL p hp)⟩
          rcases hp with ⟨d, hm⟩ | ⟨i, hi, ho, e⟩
          · obtain ⟨_, c, _⟩ := S.tmp _ (List.mem_append_left τ hm)
            have c : Cell X.K X.mg G d (H a) := c
            exact ⟨d, by rw [c.unfD]; exact c⟩
          · rcases ho with ⟨d, k⟩ | ⟨d, k⟩
            · obtain ⟨p, e1, _, c, _⟩ := S.own i d k
              rw [e] at e1; cases e1
              exact ⟨d, by rw [c.unfD]; exact c⟩
            · obtain ⟨p, e1, _, c, _⟩ := S.lck i d k
              rw [e] at e1; cases e1
              exact ⟨d, c⟩
        have base : ∀ {G1 : Hp}, Same G G1 → (∀ a o, G1 a = some o → Ro H a o) → RepL X.K X.mg G1 es ws → (∀ p ∈ ps, G1 p = none) → AfterF X.K X.mg G1 H ps Q (WE W σ) (F.run (packed F.star (ds ++ es))) → spF X.K X.mg F (ps.map V.ref ++ ws) H Q (WE W σ) := fun {G1} s1 f1 r1 p1 af =>
          ⟨G1, ds, ps, es, ws, rfl, lp, l2, nd, fun x hx => ⟨p1 _ (List.of_mem_zip hx).2, (cl x hx).2.1.mono s1⟩, f1, r1, af⟩
        have notP : ∀ a u, B.H0 a = some u → ¬ B.P a → a ∉ ps := fun a u e np hp => by
          obtain ⟨i, d, _, k1, k2⟩ := ow.mem _ hp
          obtain ⟨p', e1, _, _, e4⟩ := S.own i d k1
          rw [k2] at e1; cases e1
          rcases e4 with z | z
          · rw [z] at e; cases e
          · exact np z
        cases hrun : F.run (packed F.star (ds ++ es)) with
        | stuck => rw [hrun] at h; exact h.elim
        | exc c q =>
          rw [hrun] at h
          obtain ⟨G1, s1, f1, r1, p1⟩ := lendH
          refine base s1 f1 r1 p1 ?_
          rw [hrun]
          intro cls d H' hx hd hne
          refine h cls d H' hx ⟨fun a u e np => (S.h0 a u e np).imp (fun z => hd a u z (notP a u e np)) fun ⟨ob, z⟩ => ⟨ob, z, hd _ _ (S.fx _ z).1 (notP a u e np)⟩, fun a hp => ?_⟩
          by_cases hm : a ∈ ps
          · exact hne a hm
          · cases q : H a with
            | none => exact absurd q (S.p0 a hp)
            | some u => rw [hd a u q hm]; simp
        | ok p =>
          rw [hrun] at h
          have h : After X.K X.mg B W σ Q G0 τ (if flatR p.1 && p.2.all flatL then .ok (p.1, putBack ρ is p.2) else if anyLck ρ rs' then .stuck else .ok (p.1, putBack (lent ρ rs') is p.2)) := h
          split at h
          · rename_i hf
            rw [Bool.and_eq_true] at hf
            obtain ⟨G1, s1, f1, r1, p1⟩ := lendH
            refine base s1 f1 r1 p1 ?_
            rw [hrun]
            intro v G' H' sG fz nw hd hc hl hres
            have S0 : Sm X.K X.mg B G ρ σ H τ := S.drop (List.sublist_append_right _ _)
            have S' := S0.called (G' := G) ow (Same.refl _) (held_ro S hd pG) (fun a u e => .inl e) hd (outs := p.2) (fun x hx => ⟨pG _ (List.of_mem_zip hx).2, flat_list (List.all_eq_true.mp hf.2 x.1 (List.of_mem_zip hx).1) (hc x hx).2⟩) hl
            obtain ⟨r, outs⟩ := p
            cases r with
            | val d => exact h.val s0 S' (List.Sublist.refl _) (Rep.flat hf.1 hres)
            | own d => simp [flatR] at hf
            | slot i => exact hres.elim
          · split at h
            · exact h.elim
            · rename_i hlk
              have hlk : anyLck ρ rs' = false := by simpa using hlk
              obtain ⟨G2, tm2, s2, S2, r2⟩ := S.fzs a'.ra (freezes_lent hlk hes)
              have S2 : Sm X.K X.mg B G2 (lent ρ rs') σ H (tm2 ++ τ) := S2
              have ow2 := ow.lent (rs := rs') ne
              have p2 : ∀ p ∈ ps, G2 p = none := fun p hp => by
                obtain ⟨i, d, _, k1, k2⟩ := ow2.mem p hp
                exact S2.ownG (.inl ⟨d, k1⟩) k2
              refine base s2 S2.fz r2 p2 ?_
              rw [hrun]
              intro v G' H' sG fz nw hd hc hl hres
              have S0 : Sm X.K X.mg B G2 (lent ρ rs') σ H τ := S2.drop (List.sublist_append_right _ _)
              have S' := S0.called (outs := p.2) ow2 sG fz nw hd hc hl
              obtain ⟨r, outs⟩ := p
              cases r with
              | val d => exact h.val (s0.trans (s2.trans sG)) S' (List.Sublist.refl _) hres
              | own d =>
                obtain ⟨q, rfl, g, c, hq⟩ := hres
                refine h.own (s0.trans (s2.trans sG)) (S'.addT g c (S0.fresh0 hq) (fun i ho e => ?_) fun hm => ?_) (List.Sublist.refl _)
                · exact S0.ownne (putBack_isOwn ow2 hl ho) e hq
                · obtain ⟨x, hx, e⟩ := List.mem_map.mp hm
                  have c2 := (S0.tmp x hx).2.1
                  rw [e, hq] at c2
                  exact c2.ne rfl
              | slot i => exact hres.elim
    · exact h.elim
theorem de_call {k : Nat} {F : FnE} {p : Pos} (F' : OkF X.prog X.w X.K X.mg X.base k F) (hr : Room k X.A) (hg : Gl X F.name) (tk : L2N.Takes X W) (ha : DA X B W (e :: es) (evs cs)) (hdb : (F.name == ("__debug__" : Str)) = false)
    (he : starEach (e :: es) X.env = (false, eval e X.env) :: starEach es X.env) (hpl : (backTo pos (starEach es X.env)).any (·.1) = false) : DE X B W (.Call (.Name F.name p) (e :: es) [] pos) (ev (.call F cs)) := by
  obtain ⟨f, h1, h2, h3⟩ := F'
  refine ⟨fun pins s σ H Q I hw => (pe_callM h3 hr hg h1 h2 tk ha hdb he hpl).run pins s σ H Q I ?_⟩
  refine tA_bind (g := fun p => callF F p.1 p.2) (tE_ev (fun ρ => by simp only [ev]) hw) fun p vs G0 G H' tm τ _ _ s S a h => ?_
  exact call_sp s S a h
end
end M
end
section
set_option linter.all false
set_option maxRecDepth 100000
set_option maxHeartbeats 1000000
/-! MComp: comprehensions. -/
namespace M
open PySem L2 PyProof.Rows
section
variable {K : PySem.W.Frag} {mg : Str → Option Value} {B : Bs} {G G' H : Hp} {ρ ρ' : Env} {σ σ' : L2.St} {τ : List (D × Addr)}
theorem wipe_at : ∀ {vs : List Nat} {σ : L2.St} {j : Nat}, (L2.wipe σ vs)[j]? = if j ∈ vs then (σ[j]?).map (fun _ => none) else σ[j]?
  | [], σ, j => by simp [L2.wipe]
  | v :: vs, σ, j => by
    simp only [L2.wipe]
    by_cases e : j = v
    · subst e
      rw [if_pos List.mem_cons_self]
      by_cases hl : j < σ.length
      · rw [List.getElem?_set_self (by rw [L2.wipe_length]; exact hl), List.getElem?_eq_getElem hl]; rfl
      · rw [List.getElem?_eq_none (by rw [List.length_set, L2.wipe_length]; omega), List.getElem?_eq_none (by omega)]; rfl
    · rw [List.getElem?_set_ne (Ne.symm e), wipe_at]
      simp [e]
theorem wipe_off {is vs : List Nat} (h : Off is σ σ') (sub : ∀ i ∈ is, i ∈ vs) : L2.wipe σ' vs = L2.wipe σ vs := by
  apply List.ext_getElem?
  intro j
  rw [wipe_at, wipe_at]
  by_cases hj : j ∈ vs
  · rw [if_pos hj, if_pos hj]
    by_cases hl : j < σ.length
    · rw [List.getElem?_eq_getElem hl, List.getElem?_eq_getElem (by rw [h.1]; exact hl)]; rfl
    · rw [List.getElem?_eq_none (by rw [h.1]; omega), List.getElem?_eq_none (by omega)]
  · rw [if_neg hj, if_neg hj, h.2 j fun z => hj (sub j z)]
theorem wipe_wipe {vs : List Nat} : L2.wipe (L2.wipe σ vs) vs = L2.wipe σ vs := by
  apply List.ext_getElem?
  intro j
  rw [wipe_at, wipe_at]
  by_cases hj : j ∈ vs
  · rw [if_pos hj, if_pos hj]; cases σ[j]? <;> rfl
  · rw [if_neg hj, if_neg hj]
/-- the block's own slots forgotten -/
theorem Sm.wipeS : ∀ {vs : List Nat} {ρ ρ' : Env} {σ : L2.St}, (∀ i ∈ vs, B.nin ≤ i) → Sm K mg B G ρ σ H τ → M.wipe vs ρ = .ok ρ' → ∃ σ', Sm K mg B G ρ' σ' H τ ∧ σ'.length = σ.length ∧ ∀ j, σ'[j]? = if j ∈ vs then (σ[j]?).map (fun _ => none) else σ[j]?
  | [], ρ, ρ', σ, _, S, h => by
    simp only [M.wipe] at h; cases h
    exact ⟨σ, S, rfl, fun j => by simp⟩
  | i :: is, ρ, ρ', σ, hi, S, h => by
    simp only [M.wipe] at h
    obtain ⟨ρ1, h1, h⟩ := bind_ok h
    obtain ⟨n, rfl, _⟩ := put_ok h1
    obtain ⟨σ', S', l, k⟩ := Sm.wipeS (fun j hj => hi j (List.mem_cons_of_mem _ hj)) (S.setN (o := none) (hi i List.mem_cons_self) n) h
    refine ⟨σ', S', by rw [l, List.length_set], fun j => ?_⟩
    rw [k j]
    by_cases e : j = i
    · subst e
      by_cases hl : j < σ.length
      · rw [List.getElem?_set_self hl, List.getElem?_eq_getElem hl]; simp
      · rw [List.getElem?_eq_none (by rw [List.length_set]; omega), List.getElem?_eq_none (by omega)]; simp
    · rw [List.getElem?_set_ne (Ne.symm e)]
      simp [e]
theorem Sm.wipe {vs : List Nat} (hi : ∀ i ∈ vs, B.nin ≤ i) (S : Sm K mg B G ρ σ H τ) (h : M.wipe vs ρ = .ok ρ') : Sm K mg B G ρ' (L2.wipe σ vs) H τ := by
  obtain ⟨σ', S', l, k⟩ := Sm.wipeS hi S h
  have : σ' = L2.wipe σ vs := by
    apply List.ext_getElem?
    intro j
    rw [k j, wipe_at]
  rw [← this]; exact S'
theorem wipe_noexc : ∀ {vs : List Nat} {ρ : Env} {c : Str} {q : D}, M.wipe vs ρ = .exc c q → False
  | [], _, _, _, h => by simp only [M.wipe] at h; cases h
  | i :: is, ρ, c, q, h => by
    simp only [M.wipe] at h
    cases h1 : put ρ i .none with
    | exc _ _ => exact put_noexc h1
    | stuck => rw [h1] at h; cases h
    | ok p => rw [h1] at h; exact wipe_noexc h
/-- behind a block -/
theorem Sm.backS {ρ0 : Env} {σ0 : L2.St} (hv : ∀ (i : Nat) (d : D), ρ0[i]? = some (Slot.val d) → ∃ v, σ0[i]? = some (some v) ∧ Rep K mg G d v) : ∀ {vs : List Nat} {ρ ρ' : Env} {σ : L2.St}, (∀ i ∈ vs, B.nin ≤ i) → Sm K mg B G ρ σ H τ → back ρ0 vs ρ = .ok ρ' → σ.length = σ0.length →
    ∃ σ', Sm K mg B G ρ' σ' H τ ∧ σ'.length = σ0.length ∧ ∀ j, σ'[j]? = if j ∈ vs then σ0[j]? else σ[j]?
  | [], ρ, ρ', σ, _, S, h, l => by
    simp only [back] at h; cases h
    exact ⟨σ, S, l, fun j => by simp⟩
  | i :: is, ρ, ρ', σ, hi, S, h, l => by
    simp only [back] at h
    obtain ⟨ρ1, h1, h⟩ := bind_ok h
    have il : i < ρ.length := (put_ok h1).2.2
    have il' : i < σ0.length := by rw [← l, ← S.len]; exact il
    have step : ∃ o, σ0[i]? = some o ∧ Sm K mg B G ρ1 (σ.set i o) H τ := by
      split at h1
      · rename_i d hd
        obtain ⟨v, e, r⟩ := hv i d hd
        obtain ⟨n, rfl, _⟩ := put_ok h1
        exact ⟨some v, e, S.setV (hi i List.mem_cons_self) n r⟩
      · obtain ⟨n, rfl, _⟩ := put_ok h1
        exact ⟨σ0[i], List.getElem?_eq_getElem il', S.setN (hi i List.mem_cons_self) n⟩
    obtain ⟨o, eo, S1⟩ := step
    obtain ⟨σ', S', l', k⟩ := Sm.backS hv (fun j hj => hi j (List.mem_cons_of_mem _ hj)) S1 h (by rw [List.length_set]; exact l)
    refine ⟨σ', S', l', fun j => ?_⟩
    rw [k j]
    by_cases e : j = i
    · subst e
      rw [List.getElem?_set_self (by rw [l]; exact il'), eo]; simp
    · rw [List.getElem?_set_ne (Ne.symm e)]
      simp [e]
theorem Sm.back {ρ0 : Env} {σ0 : L2.St} {vs : List Nat} (hv : ∀ (i : Nat) (d : D), ρ0[i]? = some (Slot.val d) → ∃ v, σ0[i]? = some (some v) ∧ Rep K mg G d v) (hi : ∀ i ∈ vs, B.nin ≤ i) (S : Sm K mg B G ρ σ H τ) (h : M.back ρ0 vs ρ = .ok ρ') (hw : L2.wipe σ vs = L2.wipe σ0 vs) : Sm K mg B G ρ' σ0 H τ := by
  have l : σ.length = σ0.length := by
    have := congrArg List.length hw
    rwa [L2.wipe_length, L2.wipe_length] at this
  obtain ⟨σ', S', l', k⟩ := Sm.backS hv hi S h l
  have : σ' = σ0 := by
    apply List.ext_getElem?
    intro j
    rw [k j]
    by_cases hj : j ∈ vs
    · rw [if_pos hj]
    · rw [if_neg hj]
      have := congrArg (fun z : L2.St => z[j]?) hw
      simp only [wipe_at, if_neg hj] at this
      exact this
  rw [← this]; exact S'
theorem back_noexc {ρ0 : Env} : ∀ {vs : List Nat} {ρ : Env} {c : Str} {q : D}, M.back ρ0 vs ρ = .exc c q → False
  | [], _, _, _, h => by simp only [M.back] at h; cases h
  | i :: is, ρ, c, q, h => by
    simp only [M.back] at h
    split at h
    · rename_i d hd
      cases h1 : put ρ i (.val d) with
      | exc _ _ => exact put_noexc h1
      | stuck => rw [h1] at h; cases h
      | ok p => rw [h1] at h; exact back_noexc h
    · cases h1 : put ρ i .none with
      | exc _ _ => exact put_noexc h1
      | stuck => rw [h1] at h; cases h
      | ok p => rw [h1] at h; exact back_noexc h
end
def noW : WX := fun _ _ _ _ => False
section
variable {X : Cx} {B : Bs} {W : WX} {elt tg iter : Expr} {ce : CE} {pos : Pos}
abbrev DTs (X : Cx) (B : Bs) (W : WX) (ifs : List Expr) (c : Option CE) : Prop := PTs X ifs (tTst X.K X.mg B W (evC c))
theorem dts_nil : DTs X B W [] none := by
  refine ⟨fun pins s σ H Q I hw => pts_nil.run pins s σ H Q I ?_⟩
  obtain ⟨G, ρ, τ, S, hw⟩ := hw
  simp only [evC] at hw
  exact hw G H (Same.refl _) S
theorem dts_one {c : Expr} {cc : CE} (h : DT X B W c (evT cc)) : DTs X B W [c] (some cc) := by
  refine ⟨fun pins s σ H Q I hw => (pts_one h).run pins s σ H Q I ?_⟩
  obtain ⟨G, ρ, τ, S, hw⟩ := hw
  simp only [evC] at hw
  exact ⟨G, ρ, τ, S, hw⟩
/-- the readings of a block's parts -/
def gL (K : PySem.W.Frag) (mg : Str → Option Value) (B : Bs) (t : CT) : TG := fun v σ H Q => ∃ B' : Bs, B'.nin = B.nin ∧ tG K mg B' t v σ H Q
def ttL (K : PySem.W.Frag) (mg : Str → Option Value) (B : Bs) (c : Option CE) : TT := fun σ H Q => ∃ B' : Bs, B'.nin = B.nin ∧ tTst K mg B' noW (evC c) σ H Q
def teL (K : PySem.W.Frag) (mg : Str → Option Value) (B : Bs) (ce : CE) : TE := fun σ H Q => ∃ B' : Bs, B'.nin = B.nin ∧ tE K mg B' noW (ev ce) σ H Q
theorem noexc_ok {α : Type} {o : Out α} {a : α} (h : noexc o = .ok a) : o = .ok a := by
  cases o with
  | ok b => exact h
  | exc _ _ => cases h
  | stuck => cases h
theorem noexc_noexc {α : Type} {o : Out α} {c : Str} {q : D} (h : noexc o = .exc c q) : False := by
  cases o <;> cases h
def eltF (ce : CE) (ρ : Env) : Out (D × Env) := (ev ce ρ).bind fun r => freeze r.2 r.1
theorem lc_imp {ci : CI} {t : CT} {own : List Nat} {c : Option CE} (hi : ∀ i ∈ own, B.nin ≤ i) (ht : ∀ i ∈ slotsT t, i ∈ own) {σ : L2.St} {H : Hp} {Q : VK} (hw : tE X.K X.mg B W (ev (.lc ce t ci own c)) σ H Q) :
    tLc (tI X.K X.mg (nfr X) B W (evI ci)) (gL X.K X.mg B t) (ttL X.K X.mg B c) (teL X.K X.mg B ce) own σ H (unQ (nfr X) Q) := by
  obtain ⟨G, ρ, τ, S, hw⟩ := hw
  simp only [ev] at hw
  refine ⟨G, ρ, τ, S, ?_⟩
  cases k1 : evI ci ρ with
  | exc _ _ => rw [k1] at hw; exact hw
  | stuck => rw [k1] at hw; exact hw
  | ok p =>
    rw [k1] at hw
    have hw : After X.K X.mg B W σ Q G τ ((noexc (lcL t (evC c) (eltF ce) own p.1.1 (lockSlot p.2 p.1.2))).bind fun q => if q.1.length ≤ line then (back ρ own q.2).bind fun ρ' => .ok (.own (.lst q.1), unlockSlot p.2 ρ' p.1.2) else .stuck) := hw
    intro J B' G1 H1 τ' s1 S1 un wk D0 hD
    have hi : ∀ i ∈ own, B'.nin ≤ i := fun i h => by rw [un.nin]; exact hi i h
    cases k2 : noexc (lcL t (evC c) (eltF ce) own p.1.1 (lockSlot p.2 p.1.2)) with
    | exc _ _ => exact (noexc_noexc k2).elim
    | stuck => rw [k2] at hw; exact hw.elim
    | ok fin =>
      rw [k2] at hw
      have k2 := noexc_ok k2
      have hw : After X.K X.mg B W σ Q G τ (if fin.1.length ≤ line then (back ρ own fin.2).bind fun ρ' => .ok (.own (.lst fin.1), unlockSlot p.2 ρ' p.1.2) else .stuck) := hw
      split at hw
      · rename_i hlen
        refine ⟨fun i m H => m = p.1.1.length - i ∧ i ≤ p.1.1.length ∧ ∃ G2 ρ2 σ2 acc rest, Same G1 G2 ∧ Sm X.K X.mg B' G2 ρ2 σ2 H ((.lst acc, D0) :: (τ' ++ τ)) ∧ L2.wipe σ2 own = L2.wipe σ own ∧ lcL t (evC c) (eltF ce) own (p.1.1.drop i) ρ2 = .ok (rest, fin.2) ∧ acc ++ rest = fin.1,
          ⟨_, rfl, Nat.zero_le _, G1, _, σ, [], fin.1, Same.refl _, S1.new hD (d := .lst []) (o := .lst []) (RepL.nil (K := X.K) (mg := X.mg) (G := G1)), rfl, k2, rfl⟩, ?_⟩
        rintro i m H ⟨rfl, hi', G2, ρ2, σ2, acc, rest, s2, S2, w2, k3, ea⟩
        obtain ⟨wk1, wk2⟩ := wk i G2 ρ2 σ2 H _ (List.sublist_cons_self _ _) s2 S2
        have Dcell : ∀ {G3 : Hp} {ρ3 : Env} {σ3 : L2.St} {H3 : Hp} {acc : List D} {tt : List (D × Addr)}, Sm X.K X.mg B' G3 ρ3 σ3 H3 ((.lst acc, D0) :: tt) → ∃ ws, H3 D0 = some (.lst ws) ∧ RepL X.K X.mg G3 acc ws := fun {G3 ρ3 σ3 H3 acc tt} S => by
          have c := (S.tmp _ List.mem_cons_self).2.1
          have c : Cell X.K X.mg G3 (.lst acc) (H3 D0) := c
          cases q : H3 D0 with
          | none => rw [q] at c; exact absurd rfl c.ne
          | some o =>
            rw [q] at c
            cases o with
            | lst ws => exact ⟨ws, rfl, c⟩
            | _ => exact (show False from c).elim
        by_cases hlt : i < p.1.1.length
        · obtain ⟨d, hd⟩ : ∃ d, p.1.1[i]? = some d := ⟨_, List.getElem?_eq_getElem hlt⟩
          have hdr : p.1.1.drop i = d :: p.1.1.drop (i + 1) := by
            rw [List.drop_eq_getElem_cons hlt]
            rw [List.getElem?_eq_getElem hlt] at hd
            cases hd; rfl
          obtain ⟨go, yl⟩ := wk2 d hd
          rw [hdr] at k3
          simp only [lcL] at k3
          obtain ⟨ρ4, k4, k3⟩ := bind_ok k3
          obtain ⟨ρ3, kw, k4⟩ := bind_ok k4
          obtain ⟨cq, kc, k3⟩ := bind_ok k3
          refine .inr ⟨go, fun H => ∃ G2 ρ2 σ2 acc rest, Same G1 G2 ∧ Sm X.K X.mg B' G2 ρ2 σ2 H ((.lst acc, D0) :: (τ' ++ τ)) ∧ L2.wipe σ2 own = L2.wipe σ own ∧ lcL t (evC c) (eltF ce) own (p.1.1.drop (i + 1)) ρ2 = .ok (rest, fin.2) ∧ acc ++ rest = fin.1,
            fun H' h => ⟨_, by omega, rfl, hlt, h⟩, fun x H' hy => ?_⟩
          obtain ⟨G3, s3, S3, r3⟩ := yl x H' hy
          have S4 := Sm.wipe (B := B') (vs := own) hi S3 kw
          rw [w2] at S4
          refine ⟨B', un.nin, G3, ρ3, _, d, S4, r3, ?_⟩
          rw [k4]
          intro σ5 S5 of5
          have w5 : L2.wipe σ5 own = L2.wipe σ own := by rw [wipe_off of5 ht, wipe_wipe]
          refine ⟨w5, B', un.nin, G3, ρ4, _, S5, ?_⟩
          rw [kc]
          intro G6 H6 s6 S6
          cases hb : cq.1 with
          | false =>
            rw [if_neg Bool.false_ne_true]
            simp only [hb, Bool.false_eq_true, if_false] at k3
            exact ⟨G6, cq.2, σ5, acc, rest, s2.trans (s3.trans s6), S6, w5, k3, ea⟩
          | true =>
            rw [if_pos rfl]
            simp only [hb, if_true] at k3
            obtain ⟨y, ky, k3⟩ := bind_ok k3
            obtain ⟨q2, kq, k3⟩ := bind_ok k3
            have k3 : (y.1 :: q2.1, q2.2) = (rest, fin.2) := Out.ok.inj k3
            obtain ⟨er, e2⟩ : y.1 :: q2.1 = rest ∧ q2.2 = fin.2 := Prod.mk.inj k3
            subst er
            have kq : lcL t (evC c) (eltF ce) own (p.1.1.drop (i + 1)) y.2 = .ok (q2.1, fin.2) := by rw [← e2]; exact kq
            unfold eltF at ky
            obtain ⟨r, kr, ky⟩ := bind_ok ky
            refine ⟨B', un.nin, G6, cq.2, _, S6, ?_⟩
            rw [kr]
            intro v G7 H7 s7 S7 a7
            obtain ⟨G8, tm', s8, S8, rz, _⟩ := Sm.fz1 (tm := pushd r.1 v) (by rw [← psh_eq]; exact S7) a7.local.ra ky
            have S8 := S8.drop (List.sublist_append_right _ _)
            obtain ⟨ws, e8, c8⟩ := Dcell S8
            have l8 := c8.length
            have hlen2 : acc.length + (y.1 :: q2.1).length ≤ line := by
              have := congrArg List.length ea
              rw [List.length_append] at this
              omega
            refine ⟨ws, e8, by rw [← l8, sizeLine_eq]; simp only [List.length_cons] at hlen2; show acc.length < 16777216; have : line = 16777216 := rfl; omega, G8, y.2, σ5, acc ++ [y.1], q2.1, s2.trans (s3.trans (s6.trans (s7.trans s8))), S8.mutT (d' := .lst (acc ++ [y.1])) (RepL.append c8 (RepL.cons rz RepL.nil)), w5, kq, by rw [← ea]; simp⟩
        · have e : i = p.1.1.length := by omega
          subst e
          rw [List.drop_length] at k3
          simp only [lcL] at k3
          have k3 : (([] : List D), ρ2) = (rest, fin.2) := Out.ok.inj k3
          obtain ⟨er, e2⟩ : [] = rest ∧ ρ2 = fin.2 := Prod.mk.inj k3
          subst er
          rw [List.append_nil] at ea
          rw [e2, ea] at S2
          refine .inl ⟨wk1 (Nat.le_refl _), ?_⟩
          cases kb : back ρ own fin.2 with
          | exc _ _ => exact (back_noexc kb).elim
          | stuck => rw [kb] at hw; exact hw.elim
          | ok ρ' =>
            rw [kb] at hw
            have S3 := Sm.back (B := B') (σ0 := σ) (fun i d e => by
              obtain ⟨v, e1, e2⟩ := S.val i d e
              exact ⟨v, e1, Rep.mono (s1.trans s2) _ e2⟩) hi S2 kb w2
            obtain ⟨H9, hu9, S9⟩ := un.un _ _ _ _ _ s2 S3
            exact ⟨H9, hu9, hw.own (s1.trans s2) S9 (List.sublist_append_right _ _)⟩
      · exact hw.elim
def kvF (ck ce : CE) (ρ : Env) : Out ((D × D) × Env) := (ev ck ρ).bind fun r => (freeze r.2 r.1).bind fun r' => (ev ce r'.2).bind fun s => (freeze s.2 s.1).bind fun s' => .ok ((r'.1, s'.1), s'.2)
theorem dc_imp {ck : CE} {ci : CI} {t : CT} {own : List Nat} {c : Option CE} (hi : ∀ i ∈ own, B.nin ≤ i) (ht : ∀ i ∈ slotsT t, i ∈ own) {σ : L2.St} {H : Hp} {Q : VK} (hw : tE X.K X.mg B W (ev (.dc ck ce t ci own c)) σ H Q) :
    tDc (tI X.K X.mg (nfr X) B W (evI ci)) (gL X.K X.mg B t) (ttL X.K X.mg B c) (teL X.K X.mg B ck) (teL X.K X.mg B ce) own σ H (unQ (nfr X) Q) := by
  obtain ⟨G, ρ, τ, S, hw⟩ := hw
  simp only [ev] at hw
  refine ⟨G, ρ, τ, S, ?_⟩
  cases k1 : evI ci ρ with
  | exc _ _ => rw [k1] at hw; exact hw
  | stuck => rw [k1] at hw; exact hw
  | ok p =>
    rw [k1] at hw
    have hw : After X.K X.mg B W σ Q G τ ((noexc (dcL t (evC c) (kvF ck ce) own p.1.1 (.dct []) (lockSlot p.2 p.1.2))).bind fun q => (back ρ own q.2).bind fun ρ' => .ok (.own q.1, unlockSlot p.2 ρ' p.1.2)) := hw
    intro J B' G1 H1 τ' s1 S1 un wk D0 hD
    have hi : ∀ i ∈ own, B'.nin ≤ i := fun i h => by rw [un.nin]; exact hi i h
    cases k2 : noexc (dcL t (evC c) (kvF ck ce) own p.1.1 (.dct []) (lockSlot p.2 p.1.2)) with
    | exc _ _ => exact (noexc_noexc k2).elim
    | stuck => rw [k2] at hw; exact hw.elim
    | ok fin =>
      rw [k2] at hw
      have k2 := noexc_ok k2
      have hw : After X.K X.mg B W σ Q G τ ((back ρ own fin.2).bind fun ρ' => .ok (.own fin.1, unlockSlot p.2 ρ' p.1.2)) := hw
      · refine ⟨fun i m H => m = p.1.1.length - i ∧ i ≤ p.1.1.length ∧ ∃ G2 ρ2 σ2 acc, Same G1 G2 ∧ Sm X.K X.mg B' G2 ρ2 σ2 H ((.dct acc, D0) :: (τ' ++ τ)) ∧ L2.wipe σ2 own = L2.wipe σ own ∧ dcL t (evC c) (kvF ck ce) own (p.1.1.drop i) (.dct acc) ρ2 = .ok fin,
          ⟨_, rfl, Nat.zero_le _, G1, _, σ, [], Same.refl _, S1.new hD (d := .dct []) (o := .dK []) (RepK.nil (K := X.K) (mg := X.mg) (G := G1)), rfl, k2⟩, ?_⟩
        rintro i m H ⟨rfl, hi', G2, ρ2, σ2, acc, s2, S2, w2, k3⟩
        obtain ⟨wk1, wk2⟩ := wk i G2 ρ2 σ2 H _ (List.sublist_cons_self _ _) s2 S2
        have Dcell : ∀ {G3 : Hp} {ρ3 : Env} {σ3 : L2.St} {H3 : Hp} {acc : List (Key × D)} {tt : List (D × Addr)}, Sm X.K X.mg B' G3 ρ3 σ3 H3 ((.dct acc, D0) :: tt) → ∃ ws, H3 D0 = some (.dK ws) ∧ RepK X.K X.mg G3 acc ws := fun {G3 ρ3 σ3 H3 acc tt} S => by
          have c := (S.tmp _ List.mem_cons_self).2.1
          have c : Cell X.K X.mg G3 (.dct acc) (H3 D0) := c
          cases q : H3 D0 with
          | none => rw [q] at c; exact absurd rfl c.ne
          | some o =>
            rw [q] at c
            cases o with
            | dK ws => exact ⟨ws, rfl, c⟩
            | _ => exact (show False from c).elim
        by_cases hlt : i < p.1.1.length
        · obtain ⟨d, hd⟩ : ∃ d, p.1.1[i]? = some d := ⟨_, List.getElem?_eq_getElem hlt⟩
          have hdr : p.1.1.drop i = d :: p.1.1.drop (i + 1) := by
            rw [List.drop_eq_getElem_cons hlt]
            rw [List.getElem?_eq_getElem hlt] at hd
            cases hd; rfl
          obtain ⟨go, yl⟩ := wk2 d hd
          rw [hdr] at k3
          simp only [dcL] at k3
          obtain ⟨ρ4, k4, k3⟩ := bind_ok k3
          obtain ⟨ρ3, kw, k4⟩ := bind_ok k4
          obtain ⟨cq, kc, k3⟩ := bind_ok k3
          refine .inr ⟨go, fun H => ∃ G2 ρ2 σ2 acc, Same G1 G2 ∧ Sm X.K X.mg B' G2 ρ2 σ2 H ((.dct acc, D0) :: (τ' ++ τ)) ∧ L2.wipe σ2 own = L2.wipe σ own ∧ dcL t (evC c) (kvF ck ce) own (p.1.1.drop (i + 1)) (.dct acc) ρ2 = .ok fin,
            fun H' h => ⟨_, by omega, rfl, hlt, h⟩, fun x H' hy => ?_⟩
          obtain ⟨G3, s3, S3, r3⟩ := yl x H' hy
          have S4 := Sm.wipe (B := B') (vs := own) hi S3 kw
          rw [w2] at S4
          refine ⟨B', un.nin, G3, ρ3, _, d, S4, r3, ?_⟩
          rw [k4]
          intro σ5 S5 of5
          have w5 : L2.wipe σ5 own = L2.wipe σ own := by rw [wipe_off of5 ht, wipe_wipe]
          refine ⟨w5, B', un.nin, G3, ρ4, _, S5, ?_⟩
          rw [kc]
          intro G6 H6 s6 S6
          cases hb : cq.1 with
          | false =>
            rw [if_neg Bool.false_ne_true]
            simp only [hb, Bool.false_eq_true, if_false] at k3
            exact ⟨G6, cq.2, σ5, acc, s2.trans (s3.trans s6), S6, w5, k3⟩
          | true =>
            rw [if_pos rfl]
            simp only [hb, if_true] at k3
            obtain ⟨y, ky, k3⟩ := bind_ok k3
            unfold kvF at ky
            obtain ⟨r, kr, ky⟩ := bind_ok ky
            obtain ⟨r', kr', ky⟩ := bind_ok ky
            obtain ⟨z, kz, ky⟩ := bind_ok ky
            obtain ⟨z', kz', ky⟩ := bind_ok ky
            obtain rfl : ((r'.1, z'.1), z'.2) = y := Out.ok.inj ky
            refine ⟨B', un.nin, G6, cq.2, _, S6, ?_⟩
            rw [kr]
            intro v G7 H7 s7 S7 a7
            obtain ⟨G8, tm', s8, S8, rz, _⟩ := Sm.fz1 (tm := pushd r.1 v) (by rw [← psh_eq]; exact S7) a7.local.ra kr'
            have S8 := S8.drop (List.sublist_append_right _ _)
            refine ⟨B', un.nin, G8, r'.2, _, S8, ?_⟩
            rw [kz]
            intro u G9 H9 s9 S9 a9
            obtain ⟨Ga, tm2, sa, Sa, ra, _⟩ := Sm.fz1 (tm := pushd z.1 u) (by rw [← psh_eq]; exact S9) a9.local.ra kz'
            have Sa := Sa.drop (List.sublist_append_right _ _)
            obtain ⟨ws, e8, c8⟩ := Dcell Sa
            split at k3
            · rename_i kvs key ek hk
              cases ek
              obtain ⟨rfl, kf⟩ := Rep.key hk rz
              split at k3
              · rename_i hlen
                have l8 := c8.length
                refine ⟨ws, key, rfl, e8, by rw [← l8, sizeLine_eq]; exact hlen, Ga, z'.2, σ5, _, s2.trans (s3.trans (s6.trans (s7.trans (s8.trans (s9.trans sa))))), Sa.mutT (d' := .dct (putK acc key z'.1)) (o := .dK (L2.putK ws key u)) (RepK.put kf ra c8), w5, k3⟩
              · cases k3
            · cases k3
        · have e : i = p.1.1.length := by omega
          subst e
          rw [List.drop_length] at k3
          simp only [dcL] at k3
          obtain rfl : (M.D.dct acc, ρ2) = fin := Out.ok.inj k3
          refine .inl ⟨wk1 (Nat.le_refl _), ?_⟩
          have hw : After X.K X.mg B W σ Q G τ ((back ρ own ρ2).bind fun ρ' => .ok (.own (.dct acc), unlockSlot p.2 ρ' p.1.2)) := hw
          cases kb : back ρ own ρ2 with
          | exc _ _ => exact (back_noexc kb).elim
          | stuck => rw [kb] at hw; exact hw.elim
          | ok ρ' =>
            rw [kb] at hw
            have S3 := Sm.back (B := B') (σ0 := σ) (fun i d e => by
              obtain ⟨v, e1, e2⟩ := S.val i d e
              exact ⟨v, e1, Rep.mono (s1.trans s2) _ e2⟩) hi S2 kb w2
            obtain ⟨H9, hu9, S9⟩ := un.un _ _ _ _ _ s2 S3
            exact ⟨H9, hu9, hw.own (s1.trans s2) S9 (List.sublist_append_right _ _)⟩

theorem de_lc {ci : CI} {t : CT} {c : Option CE} {ifs : List Expr} {scope : Scope} {own : List (Str × Nat)} (hc : X.calm = true) (hN : X.N.Nodup) (hi : ∀ i ∈ own.map (·.2), B.nin ≤ i) (ht : ∀ i ∈ slotsT t, i ∈ own.map (·.2)) (hI : DI X B W tg iter (evI ci)) (ok : BlkOk X.N X.env.scope scope own)
    (hg : ∀ (s : Shared) (H : Hp) (C : Addr) (cl : List (Str × Addr)) (fp : List Addr) (B' : Bs), B'.nin = B.nin → DG (X.blk s H scope (compEnvC scope cl C X.env) fp) B' tg t) (hif : ∀ (s : Shared) (H : Hp) (C : Addr) (cl : List (Str × Addr)) (fp : List Addr) (B' : Bs), B'.nin = B.nin → DTs (X.blk s H scope (compEnvC scope cl C X.env) fp) B' noW ifs c)
    (he : ∀ (s : Shared) (H : Hp) (C : Addr) (cl : List (Str × Addr)) (fp : List Addr) (B' : Bs), B'.nin = B.nin → DE (X.blk s H scope (compEnvC scope cl C X.env) fp) B' noW elt (ev ce)) (hs : ∀ x, foldedSetIterable iter X.env x = pure x) :
    DE X B W (.ListComp elt [⟨tg, iter, ifs, 0⟩] scope pos) (ev (.lc ce t ci (own.map (·.2)) c)) := by
  refine ⟨fun pins s σ H Q I hw => (pe_unl (pe_lc (g := gL X.K X.mg B t) (tt := ttL X.K X.mg B c) (te := teL X.K X.mg B ce) hc hN hI ok ?_ ?_ ?_ hs)).run pins s σ H Q I (lc_imp hi ht hw)⟩
  · exact fun s H C cl fp => ⟨fun pins s' σ H v u Q I r ⟨B', e, h⟩ => (hg s _ C cl fp B' e).run pins s' σ H v u Q I r h⟩
  · exact fun s H C cl fp => ⟨fun pins s' σ H Q I ⟨B', e, h⟩ => (hif s _ C cl fp B' e).run pins s' σ H Q I h⟩
  · exact fun s H C cl fp => ⟨fun pins s' σ H Q I ⟨B', e, h⟩ => (he s _ C cl fp B' e).run pins s' σ H Q I h⟩
theorem de_dc {ck : CE} {kx vx : Expr} {ci : CI} {t : CT} {c : Option CE} {ifs : List Expr} {scope : Scope} {own : List (Str × Nat)} (hc : X.calm = true) (hN : X.N.Nodup) (hi : ∀ i ∈ own.map (·.2), B.nin ≤ i) (ht : ∀ i ∈ slotsT t, i ∈ own.map (·.2)) (hI : DI X B W tg iter (evI ci)) (ok : BlkOk X.N X.env.scope scope own)
    (hg : ∀ (s : Shared) (H : Hp) (C : Addr) (cl : List (Str × Addr)) (fp : List Addr) (B' : Bs), B'.nin = B.nin → DG (X.blk s H scope (compEnvC scope cl C X.env) fp) B' tg t) (hif : ∀ (s : Shared) (H : Hp) (C : Addr) (cl : List (Str × Addr)) (fp : List Addr) (B' : Bs), B'.nin = B.nin → DTs (X.blk s H scope (compEnvC scope cl C X.env) fp) B' noW ifs c)
    (hk : ∀ (s : Shared) (H : Hp) (C : Addr) (cl : List (Str × Addr)) (fp : List Addr) (B' : Bs), B'.nin = B.nin → DE (X.blk s H scope (compEnvC scope cl C X.env) fp) B' noW kx (ev ck))
    (he : ∀ (s : Shared) (H : Hp) (C : Addr) (cl : List (Str × Addr)) (fp : List Addr) (B' : Bs), B'.nin = B.nin → DE (X.blk s H scope (compEnvC scope cl C X.env) fp) B' noW vx (ev ce)) (hs : ∀ x, foldedSetIterable iter X.env x = pure x) :
    DE X B W (.DictComp kx vx [⟨tg, iter, ifs, 0⟩] scope pos) (ev (.dc ck ce t ci (own.map (·.2)) c)) := by
  refine ⟨fun pins s σ H Q I hw => (pe_unl (pe_dc (g := gL X.K X.mg B t) (tt := ttL X.K X.mg B c) (tk := teL X.K X.mg B ck) (tv := teL X.K X.mg B ce) hc hN hI ok ?_ ?_ ?_ ?_ hs)).run pins s σ H Q I (dc_imp hi ht hw)⟩
  · exact fun s H C cl fp => ⟨fun pins s' σ H v u Q I r ⟨B', e, h⟩ => (hg s _ C cl fp B' e).run pins s' σ H v u Q I r h⟩
  · exact fun s H C cl fp => ⟨fun pins s' σ H Q I ⟨B', e, h⟩ => (hif s _ C cl fp B' e).run pins s' σ H Q I h⟩
  · exact fun s H C cl fp => ⟨fun pins s' σ H Q I ⟨B', e, h⟩ => (hk s _ C cl fp B' e).run pins s' σ H Q I h⟩
  · exact fun s H C cl fp => ⟨fun pins s' σ H Q I ⟨B', e, h⟩ => (he s _ C cl fp B' e).run pins s' σ H Q I h⟩
end
end M
end
section
set_option linter.all false
set_option maxRecDepth 100000
set_option maxHeartbeats 4000000
/-! MRev: list(reversed(x)), x a list. -/
namespace RT
open PySem PySem.Spec PyProof.Rows
section
variable {prog : Program} {w : World} {A : Around} {E : Value → Shared → Prop} {s : Shared}
theorem extend_revM {R : Result → Shared → Prop} {S it l : Addr} {items : Array Value} {res : Value} {c₀ : Nat} (hh : A.handled = none) (hit : s.heap.IsRevIter it l ((items.size : Int) - 1)) (hl : s.heap.IsList l items) (hne : l ≠ it) (hn : items.size ≤ sizeLine)
    (hSi : S ≠ it) (hSl : S ≠ l) (hS : s.heap.get? S = some { cls := .type "list", data := .seq #[] c₀ })
    (hR : ∀ h' tk acc' c', (∀ b o, b ≠ S → b ≠ it → s.heap.get? b = some o → h'.get? b = some o) → h'.get? S = some { cls := .type "list", dict := none, data := .seq acc' c', slots := #[] } →
      ItemsOf (fun i v => items[items.size - 1 - i]? = some v) acc' items.size → R (.ok (.ret res)) { s with heap := h', toks := tk }) :
    wpAny (model prog w) A.in1 (Builtin.List.listExtendWith (.ref S) (.ref it) res)
      (fun fin s' => match fin with | .done f => R (.ok f) s' | .again c' => c'.quiet = true ∧ codeAny (model prog w) A c' R s') (fun e s' => R (.error e) s') s := by
  have W := (Walks.listRev (prog := prog) (w := w) (A := A.in1) hh it l hne items).toS
  have hSf : S ∉ [it, l] := by simp only [List.mem_cons, List.not_mem_nil, or_false, not_or]; exact ⟨hSi, hSl⟩
  have hT : s.TypeIs (.ref it) "list_reverseiterator" := hit.typeIs
  have h1 : Builtin.List.listSameRef (.ref S) (.ref it) = false := by simp [Builtin.List.listSameRef, hSi]
  unfold Builtin.List.listExtendWith
  refine wpAny_bind (wpAny_typeOf hT ?_)
  rw [if_neg (by rw [h1]; decide)]
  refine wpAny_bind (wpAny_pyIter_revIter hit ?_)
  refine wpAny_bind (wpAny_holding ?_)
  unfold Builtin.List.listLengthHint
  refine wpAny_bind (wpAny_specialOf hT nolen_lri ?_)
  show wpAny _ A.in1 (specialOf (Value.ref it) (Str.ofString "__length_hint__") >>= _) _ _ _
  refine wpAny_bind (wpAny_specialOf hT hint_lri ?_)
  generalize hid : ("list_reverseiterator.__length_hint__" : String) = id0
  wp_delta
  rw [show splitId id0 = some ("list_reverseiterator", "__length_hint__") from by subst hid; decide +kernel]
  subst hid
  refine wpAny_bind (wpAny_isInstance (b := true) hT (by rw [isSubtype_type]; kernel_rfl) ?_)
  refine wpAny_pure ?_
  rw [if_neg (by decide)]
  have e0 : ((items.size : Nat) : Int) - 1 - ((0 : Nat) : Int) = (items.size : Int) - 1 := by omega
  refine wpAny_pure ⟨plainId_quiet F.plain_extend_loop _, codeAny_extend_loopS W hn _ hSf _ items.size 0 _ _ _ rfl (Nat.zero_le _) ⟨Nat.zero_le _, by rw [e0]; exact hit, hl⟩ hS (ItemsOf.nil _) fun s' acc' c' hm hS' hacc => ?_⟩
  rw [Moved.eq_with hm]
  refine hR s'.heap s'.toks acc' c' (fun b o hb hb2 e => hm.heap b o (fun hmem => ?_) e) hS' hacc
  rcases List.mem_cons.mp hmem with e' | hmem
  · exact hb e'
  · exact hb2 (List.mem_singleton.mp hmem)
theorem call_list_revM {it l : Addr} {items : Array Value} {Q : Value → Shared → Prop} (hh : A.handled = none) (hit : s.heap.IsRevIter it l ((items.size : Int) - 1)) (hl : s.heap.IsList l items) (hne : l ≠ it) (hn : items.size ≤ sizeLine)
    (hQ : ∀ h' tk acc' c', (∀ b o, b ≠ it → s.heap.get? b = some o → h'.get? b = some o) →
      h'.get? s.heap.objs.size = some { cls := .type "list", dict := none, data := .seq acc' c', slots := #[] } → ItemsOf (fun i v => items[items.size - 1 - i]? = some v) acc' items.size → Q (.ref s.heap.objs.size) { s with heap := h', toks := tk }) :
    wpAny (model prog w) A (call (.type "list") [.ref it]) Q E s := by
  obtain ⟨oi, hoi, _⟩ := id hit
  obtain ⟨ol, hol, _⟩ := id hl
  have hSi : s.heap.objs.size ≠ it := Nat.ne_of_gt (Heap.lt_size hoi)
  have hSl : s.heap.objs.size ≠ l := Nat.ne_of_gt (Heap.lt_size hol)
  refine callType_codes (Q₁ := fun obj s₁ => obj = .ref s.heap.objs.size ∧ s₁ = { s with heap := s.heap.push { cls := .type "list", data := .seq #[] } }) F.called_list (F.typeCall_list_1 _) F.entry_list_init
    (code_list_new _ ⟨rfl, rfl⟩) fun obj s₁ h₁ => ?_
  obtain ⟨rfl, rfl⟩ := h₁
  have hS : (s.heap.push { cls := .type "list", data := .seq #[] }).get? s.heap.objs.size = some { cls := .type "list", data := .seq #[] } := Heap.get?_push_size _ rfl
  refine ⟨⟨_, hS, rfl⟩, F.args_list_init_2 _ _, ?_⟩
  show wpAny _ _ (do let old ← Builtin.List.listItems (.ref s.heap.objs.size); Builtin.List.listUpdate (.ref s.heap.objs.size) (fun _ => #[]); letGo old.toList.reverse; Builtin.List.listExtendWith (.ref s.heap.objs.size) (.ref it) .none) _ _ _
  refine wpAny_bind ?_
  unfold Builtin.List.listItems
  refine wpAny_bind (wpAny_seqItems hS rfl (wpAny_pure ?_))
  show wpAny _ _ (updateSeq s.heap.objs.size (fun _ => #[]) >>= fun _ => letGo (#[] : Array Value).toList.reverse >>= fun _ => Builtin.List.listExtendWith (.ref s.heap.objs.size) (.ref it) .none) _ _ _
  refine wpAny_bind (wpAny_updateSeq hS rfl ?_)
  have hS₂ := Heap.get?_update_self (Obj.mapSeq (fun _ => (#[] : Array Value))) hS rfl
  have oth : ∀ b o, b ≠ s.heap.objs.size → s.heap.get? b = some o → ((s.heap.push { cls := .type "list", data := .seq #[] }).update s.heap.objs.size (Obj.mapSeq (fun _ => (#[] : Array Value)))).get? b = some o :=
    fun b o hb e => (Heap.get?_update_other _ _ (Ne.symm hb)).trans (Heap.get?_push_of_some _ e)
  refine wpAny_bind (wpAny_letGo ?_)
  refine extend_revM (S := s.heap.objs.size) hh (hit.at fun o e => oth _ o (Ne.symm hSi) e) ?_ hne hn hSi hSl hS₂ fun h' tk acc' c' hk hS' hacc => ?_
  · obtain ⟨o, e, r⟩ := hl
    exact ⟨o, oth _ o (Ne.symm hSl) e, r⟩
  · exact ⟨rfl, hQ h' tk acc' c' (fun b o hb e => hk b o (Nat.ne_of_lt (Heap.lt_size e)) hb (oth b o (Nat.ne_of_lt (Heap.lt_size e)) e)) hS' hacc⟩
end
end RT
namespace M
open PySem PySem.Spec PyProof.Rows L2
def tLstRev (K : PySem.W.Frag) (te : TE) : TE := fun σ H Q => te σ H fun v H1 => ∃ (a : Addr) (xs : List V), v = .ref a ∧ SqL K H1 a xs ∧ ∀ q, H1 q = none → Q (.ref q) (upd H1 q (.lst xs.reverse))
theorem pe_lstRev {X : Cx} {e : Expr} {te : TE} {p p2 pos pos2 : Pos} (hc : X.calm = true) (hg : Gl X "list") (hm : X.mg "list" = none) (hg2 : Gl X "reversed") (hm2 : X.mg "reversed" = none) (he : PE X e te)
    (hs : starEach [e] X.env = (false, eval e X.env) :: starEach [] X.env) :
    PE X (.Call (.Name "list" p) [.Call (.Name "reversed" p2) [e] [] pos2] [] pos) (tLstRev X.K te) := by
  refine ⟨fun pins s σ H Q I h => ?_⟩
  refine Call_ (ld_blt I hg hm boot_list (PyProof.Rows.callWith_type1 (args_cons (Call_ (ld_blt I hg2 hm2 PyProof.Rows.boot_reversed (PyProof.Rows.callWith_type1 (args_cons (thn (he.run pins s σ H _ I h) fun u s1 ⟨v, H1, I1, r1, q1⟩ => args_nil ?_) hs) hs rfl))) rfl) rfl rfl))
  obtain ⟨a, xs, ev, hq, q⟩ := q1
  subst ev
  obtain rfl : u = Value.ref a := r1
  obtain ⟨its, rv, p', hz⟩ := I1.list hq
  refine call_reversed_list p'.isList (args_nil ?_)
  have k0 : ∀ b o, s1.heap.get? b = some o → (s1.heap.push (revObj a ((its.toArray.size : Int) - 1))).get? b = some o := fun b o e => Heap.get?_push_of_some _ e
  have I2 : L2.Inv X pins σ H1 { s1 with heap := s1.heap.push (revObj a ((its.toArray.size : Int) - 1)) } := I1.kept (t' := s1.toks) k0
  obtain ⟨f0, f1, f2, f3, f4, f5⟩ := I1.fpOk (H' := H1) (b := s1.heap.objs.size) (Nat.le_refl _) (I1.hok.fresh (Nat.le_refl _))
  have hl := p'.isList
  obtain ⟨ol, hol, _⟩ := id hl
  have hne : a ≠ s1.heap.objs.size := Nat.ne_of_lt (Heap.lt_size hol)
  have hn : its.toArray.size ≤ sizeLine := by rw [List.size_toArray, ← rv.length]; exact hz
  refine RT.call_list_revM (s := { s1 with heap := s1.heap.push (revObj a ((its.toArray.size : Int) - 1)) }) (I1.ok.hd hc) ⟨_, Heap.get?_push_size _ rfl, rfl, rfl⟩ (hl.push _) hne hn fun h' tk acc c' hk hS hi => ?_
  have hsz : (s1.heap.push (revObj a ((its.toArray.size : Int) - 1))).objs.size = s1.heap.objs.size + 1 := Heap.size_push _ _
  have fr := I2.hok.fresh (Nat.le_refl _)
  refine ⟨.ref _, upd H1 (s1.heap.push (revObj a ((its.toArray.size : Int) - 1))).objs.size (.lst xs.reverse), I1.laid (t' := tk) (fun b o e => hk b o (Nat.ne_of_lt (Heap.lt_size e)) (k0 b o e)) (by rw [hsz]; exact Nat.le_succ _)
    (show ObjOk X.prog X.w _ _ _ (.lst xs.reverse) from ⟨by rw [List.length_reverse]; exact hz, acc.toList, c', RT.vals_rev rv hi, by rw [Array.toArray_toList]; exact hS⟩), rfl, q _ fr⟩
/-! ### list(range(..)), tuple(range(..)) -/
section
variable {X : Cx} {B : Bs} {W : WX} {a b e : Expr} {ca cb : CE} {pos : Pos}
theorem rgV_rep {K : PySem.W.Frag} {mg : Str → Option Value} {G : Hp} (i j : Int) : RepL K mg G (rangeN i (j - i).toNat) (rgV i j) := by
  have key : ∀ (n : Nat) (i : Int), RepL K mg G (rangeN i n) ((List.range n).map fun k => V.int (i + (k : Nat))) := by
    intro n
    induction n with
    | zero => intro i; exact RepL.nil
    | succ n ih =>
      intro i
      rw [List.range_succ_eq_map, List.map_cons, List.map_map]
      simp only [rangeN]
      refine RepL.cons (by simp only [Rep]; simp) ?_
      have := ih (i + 1)
      have e : (List.range n).map (fun k => V.int (i + 1 + (k : Nat))) = (List.range n).map ((fun k : Nat => V.int (i + (k : Nat))) ∘ Nat.succ) := by
        refine List.map_congr_left fun k _ => ?_
        simp only [Function.comp]
        congr 1
        omega
      rw [← e]; exact this
  exact key _ i
/-- the reading of list(x), tuple(x), x walked -/
theorem bi_kR {bi : BI} {f : D → Option (List D)} {p : Res × Env} {σ : L2.St} {Q : VK} {G0 : Hp} {τ0 : List (D × Addr)}
    (h : After X.K X.mg B W σ Q G0 τ0 ((kR f p).bind (biFin bi))) :
    ∃ d xs r, deref p.2 p.1 = some d ∧ f d = some xs ∧ xs.length ≤ line ∧ biD bi [.lst xs] = some r ∧ After X.K X.mg B W σ Q G0 τ0 (.ok (r, p.2)) := by
  unfold kR at h
  split at h
  · rename_i d h1
    split at h
    · rename_i xs h2
      have h : After X.K X.mg B W σ Q G0 τ0 (biFin bi ((xs, none), p.2)) := h
      unfold biFin at h
      split at h
      · rename_i hl
        split at h
        · rename_i r hr; exact ⟨d, xs, r, h1, h2, hl, hr, h⟩
        · exact h.elim
      · exact h.elim
    · exact h.elim
  · exact h.elim
theorem bi_kR2 {bi : BI} {f : D → D → Option (List D)} {p q : Res × Env} {σ : L2.St} {Q : VK} {G0 : Hp} {τ0 : List (D × Addr)}
    (h : After X.K X.mg B W σ Q G0 τ0 ((kR2 f p q).bind (biFin bi))) :
    ∃ d e xs r, deref q.2 p.1 = some d ∧ deref q.2 q.1 = some e ∧ f d e = some xs ∧ xs.length ≤ line ∧ biD bi [.lst xs] = some r ∧ After X.K X.mg B W σ Q G0 τ0 (.ok (r, q.2)) := by
  unfold kR2 at h
  split at h
  · rename_i d h1
    split at h
    · rename_i e h0
      split at h
      · rename_i xs h2
        have h : After X.K X.mg B W σ Q G0 τ0 (biFin bi ((xs, none), q.2)) := h
        unfold biFin at h
        split at h
        · rename_i hl
          split at h
          · rename_i r hr; exact ⟨d, e, xs, r, h1, h0, h2, hl, hr, h⟩
          · exact h.elim
        · exact h.elim
      · exact h.elim
    · exact h.elim
  · exact h.elim
theorem rg_ok {i j : Int} (h1 : smallB i = true) (h2 : smallB j = true) (hl : (rangeN i (j - i).toNat).length ≤ line) : RgOk i j := by
  obtain ⟨a, b⟩ := smallB_of h1
  obtain ⟨c, d⟩ := smallB_of h2
  rw [rangeN_length] at hl
  exact ⟨a, b, c, d, hl⟩
theorem rg1 {d : D} {xs : List D} (h : range1D d = some xs) : ∃ i, d = .int i ∧ smallB i = true ∧ xs = rangeN 0 (i - 0).toNat := by
  cases d <;> simp only [range1D] at h <;> (try (cases h; done))
  split at h
  · rename_i i hi
    cases h
    exact ⟨i, rfl, hi, by rw [Int.sub_zero]⟩
  · cases h
theorem rg2 {d e : D} {xs : List D} (h : range2D d e = some xs) : ∃ i j, d = .int i ∧ e = .int j ∧ smallB i = true ∧ smallB j = true ∧ xs = rangeN i (j - i).toNat := by
  cases d <;> cases e <;> simp only [range2D] at h <;> (try (cases h; done))
  split at h
  · rename_i i j hi
    cases h
    rw [Bool.and_eq_true] at hi
    exact ⟨i, j, rfl, rfl, hi.1, hi.2, rfl⟩
  · cases h
theorem smallB_zero : smallB 0 = true := by decide
theorem de_listR1 {p p2 q : Pos} (hc : X.calm = true) (hgl : Gl X "list") (hml : X.mg "list" = none) (hg : Gl X "range") (hm : X.mg "range" = none) (ha : DE X B W a (ev ca)) (hs : starEach [a] X.env = (false, eval a X.env) :: starEach [] X.env) :
    DE X B W (.Call (.Name "list" p) [.Call (.Name "range" p2) [a] [] q] [] pos) (ev (.biI .list (.range1 ca))) := by
  refine ⟨fun pins s σ H Q I hw => (pe_listRg hc hgl hml (prg_1 hg hm ha hs) rfl).run pins s σ H Q I ?_⟩
  obtain ⟨G, ρ, τ, S, hw⟩ := hw
  simp only [ev, evI, bind_bind] at hw
  refine tE_bind S hw fun p v G1 H1 e1 s1 S1 a1 h1 => ?_
  obtain ⟨d, xs, r, h2, h3, h4, h5, h⟩ := bi_kR h1
  obtain ⟨i, rfl, hi, rfl⟩ := rg1 h3
  have w : v = .int i := S1.view a1 h2
  simp only [biD] at h5; cases h5
  exact ⟨i, w, rg_ok smallB_zero hi h4, fun y hy => (wants_of s1 (psh_sub _ _ _) h).new S1 hy (d := .lst _) (o := .lst _) (rgV_rep 0 i)⟩
theorem de_tupR1 {p p2 q : Pos} (hc : X.calm = true) (hgl : Gl X "tuple") (hml : X.mg "tuple" = none) (hg : Gl X "range") (hm : X.mg "range" = none) (ha : DE X B W a (ev ca)) (hs : starEach [a] X.env = (false, eval a X.env) :: starEach [] X.env) :
    DE X B W (.Call (.Name "tuple" p) [.Call (.Name "range" p2) [a] [] q] [] pos) (ev (.biI .tuple (.range1 ca))) := by
  refine ⟨fun pins s σ H Q I hw => (pe_tupRg hc hgl hml (prg_1 hg hm ha hs) rfl).run pins s σ H Q I ?_⟩
  obtain ⟨G, ρ, τ, S, hw⟩ := hw
  simp only [ev, evI, bind_bind] at hw
  refine tE_bind S hw fun p v G1 H1 e1 s1 S1 a1 h1 => ?_
  obtain ⟨d, xs, r, h2, h3, h4, h5, h⟩ := bi_kR h1
  obtain ⟨i, rfl, hi, rfl⟩ := rg1 h3
  have w : v = .int i := S1.view a1 h2
  simp only [biD] at h5; cases h5
  exact ⟨i, w, rg_ok smallB_zero hi h4, fun y hy => (wants_of s1 (psh_sub _ _ _) h).tup S1 hy (rgV_rep 0 i)⟩
theorem de_listR2 {p p2 q : Pos} (hc : X.calm = true) (hgl : Gl X "list") (hml : X.mg "list" = none) (hg : Gl X "range") (hm : X.mg "range" = none) (ha : DE X B W a (ev ca)) (hb : DE X B W b (ev cb))
    (hs : starEach [a, b] X.env = (false, eval a X.env) :: starEach [b] X.env) (hs2 : starEach [b] X.env = (false, eval b X.env) :: starEach [] X.env) (hp : ∀ pos, (backTo pos (starEach [b] X.env)).any (·.1) = false) :
    DE X B W (.Call (.Name "list" p) [.Call (.Name "range" p2) [a, b] [] q] [] pos) (ev (.biI .list (.range2 ca cb))) := by
  refine ⟨fun pins s σ H Q I hw => (pe_listRg hc hgl hml (prg_2 hg hm ha hb hs hs2 (hp _)) rfl).run pins s σ H Q I ?_⟩
  obtain ⟨G, ρ, τ, S, hw⟩ := hw
  simp only [ev, evI, bind_bind] at hw
  refine tE_bind S hw fun p v G1 H1 e1 s1 S1 a1 h1 => ?_
  refine tE_bind S1 h1 fun q u G2 H2 e2 s2 S2 a2 h2 => ?_
  obtain ⟨d, e, xs, r, h3, h4, h5, h6, h7, h⟩ := bi_kR2 h2
  obtain ⟨i, j, rfl, rfl, hi, hj, rfl⟩ := rg2 h5
  have w1 : v = .int i := S2.view (a1.mono s2 fun x hx => psh_mem _ _ hx) h3
  have w2 : u = .int j := S2.view a2 h4
  simp only [biD] at h7; cases h7
  exact ⟨i, j, w1, w2, rg_ok hi hj h6, fun y hy => (wants_of (s1.trans s2) (sub_psh (psh_sub _ _ _)) h).new S2 hy (d := .lst _) (o := .lst _) (rgV_rep i j)⟩
theorem de_tupR2 {p p2 q : Pos} (hc : X.calm = true) (hgl : Gl X "tuple") (hml : X.mg "tuple" = none) (hg : Gl X "range") (hm : X.mg "range" = none) (ha : DE X B W a (ev ca)) (hb : DE X B W b (ev cb))
    (hs : starEach [a, b] X.env = (false, eval a X.env) :: starEach [b] X.env) (hs2 : starEach [b] X.env = (false, eval b X.env) :: starEach [] X.env) (hp : ∀ pos, (backTo pos (starEach [b] X.env)).any (·.1) = false) :
    DE X B W (.Call (.Name "tuple" p) [.Call (.Name "range" p2) [a, b] [] q] [] pos) (ev (.biI .tuple (.range2 ca cb))) := by
  refine ⟨fun pins s σ H Q I hw => (pe_tupRg hc hgl hml (prg_2 hg hm ha hb hs hs2 (hp _)) rfl).run pins s σ H Q I ?_⟩
  obtain ⟨G, ρ, τ, S, hw⟩ := hw
  simp only [ev, evI, bind_bind] at hw
  refine tE_bind S hw fun p v G1 H1 e1 s1 S1 a1 h1 => ?_
  refine tE_bind S1 h1 fun q u G2 H2 e2 s2 S2 a2 h2 => ?_
  obtain ⟨d, e, xs, r, h3, h4, h5, h6, h7, h⟩ := bi_kR2 h2
  obtain ⟨i, j, rfl, rfl, hi, hj, rfl⟩ := rg2 h5
  have w1 : v = .int i := S2.view (a1.mono s2 fun x hx => psh_mem _ _ hx) h3
  have w2 : u = .int j := S2.view a2 h4
  simp only [biD] at h7; cases h7
  exact ⟨i, j, w1, w2, rg_ok hi hj h6, fun y hy => (wants_of (s1.trans s2) (sub_psh (psh_sub _ _ _)) h).tup S2 hy (rgV_rep i j)⟩
theorem de_listRev {p p2 q : Pos} (hc : X.calm = true) (hgl : Gl X "list") (hml : X.mg "list" = none) (hg : Gl X "reversed") (hm : X.mg "reversed" = none) (ha : DE X B W a (ev ca)) (hs : starEach [a] X.env = (false, eval a X.env) :: starEach [] X.env) :
    DE X B W (.Call (.Name "list" p) [.Call (.Name "reversed" p2) [a] [] q] [] pos) (ev (.biI .list (.reversed ca))) := by
  refine ⟨fun pins s σ H Q I hw => (pe_lstRev hc hgl hml hg hm ha hs).run pins s σ H Q I ?_⟩
  obtain ⟨G, ρ, τ, S, hw⟩ := hw
  simp only [ev, evI, bind_bind] at hw
  refine tE_bind S hw fun p v G1 H1 e1 s1 S1 a1 h1 => ?_
  unfold kI at h1
  split at h1
  · rename_i d h2
    split at h1
    · rename_i xs h3
      have h1 : After X.K X.mg B W σ Q G τ (biFin .list ((xs, slotOf p.1), p.2)) := h1
      unfold biFin at h1
      split at h1
      · simp only [biD] at h1
        cases d <;> simp only [revItemsD] at h3 <;> (try (cases h3; done))
        cases h3
        obtain ⟨x, vs, rfl, h4, h5⟩ := S1.view a1 h2
        exact ⟨x, vs, rfl, .inl h4, fun y hy => (wants_of s1 (psh_sub _ _ _) h1).new S1 hy (d := .lst _) (o := .lst _) h5.reverse⟩
      · exact h1.elim
    · exact h1.elim
  · exact h1.elim
end
end M
end
section
set_option linter.all false
set_option maxRecDepth 100000
set_option maxHeartbeats 4000000
/-! MDyn: a def called by a value. -/
namespace M
open PySem L2 PyProof.Rows
section
variable {X : Cx} {B : Bs} {W : WX} {fe e : Expr} {cf : CE} {pos : Pos} {es : List Expr} {cs : List CE}
theorem de_dyn {k : Nat} {Fs : List FnE} (hF : ∀ F ∈ Fs, OkF X.prog X.w X.K X.mg X.base k F) (hr : Room k X.A) (tk : L2N.Takes X W) (hf : DE X B W fe (ev cf)) (ha : DA X B W (e :: es) (evs cs))
    (ht : eval (.Call fe (e :: es) [] pos) X.env = (do callWith pos (← eval fe X.env) [] (backTo pos (starEach (e :: es) X.env)) (backToKw pos (keywordEach [] X.env))))
    (he : starEach (e :: es) X.env = (false, eval e X.env) :: starEach es X.env) (hpl : (backTo pos (starEach es X.env)).any (·.1) = false) : DE X B W (.Call fe (e :: es) [] pos) (ev (.dyn Fs cf cs)) := by
  refine ⟨fun pins s σ H Q I hw => ?_⟩
  obtain ⟨G, ρ, τ, S, hw⟩ := hw
  simp only [ev] at hw
  refine Call_ (thn (hf.run pins s σ H (fun y H1 => ∃ F f, F ∈ Fs ∧ X.mg F.name = some (.ref f) ∧ y = .ref f ∧ tA X.K X.mg B W (evs cs) σ H1 fun vs H2 => spF X.K X.mg F vs H2 Q (WE W σ)) I
    (tE_bind S hw fun p v G1 H1 e1 s1 S1 a1 h1 => ?_)) fun u s1 ⟨y, H1, I1, ry, F, f, hm, hmg, ey, q⟩ => ?_) ht
  · split at h1
    · rename_i x hx
      split at h1
      · rename_i F hFd
        obtain ⟨a, hma, rfl⟩ := S1.view a1 hx
        have hn : F.name = x := by simpa using List.find?_some hFd
        refine ⟨F, a, List.mem_of_find?_eq_some hFd, by rw [hn]; exact hma, rfl, G1, p.2, τ, S1.drop (psh_sub _ _ _), ?_⟩
        cases k1 : evs cs p.2 with
        | exc _ _ => rw [k1] at h1; exact h1
        | stuck => rw [k1] at h1; exact h1
        | ok q =>
          rw [k1] at h1
          intro vs G2 H2 s2 S2 a2
          exact call_sp (s1.trans s2) S2 a2 h1
      · exact h1.elim
    · exact h1.elim
  · obtain ⟨f', h1, h2, h3⟩ := hF F hm
    rw [hmg] at h1; cases h1
    subst ey
    obtain rfl : u = Value.ref f := ry
    refine PySem.W.callWith_K (h₀ := X.base) I1.ok.mod.kin h2 (thn (ha.run pos pins s1 σ H1 _ I1 q) fun us s2 ⟨vs, H2, I2, r, q2⟩ => ⟨I2.kIn, ?_⟩) he hpl
    refine wpAny_call (codeAny_mono (h3 X.A X.stack s2 H2 us vs Q (WE W σ) hr I2.env0 r q2) fun r s' hq => ?_)
    cases r with
    | error e => exact L2N.passAt tk σ pins H2 s2 e s' I2 hq
    | ok fl =>
      cases fl with
      | ret u => exact I2.after hq
      | next => exact False.elim hq
      | brk => exact False.elim hq
      | cont => exact False.elim hq
end
end M
end
section
set_option linter.all false
set_option maxRecDepth 100000
set_option maxHeartbeats 1000000
/-! MChk: does a core term stand for this text? -/
namespace M
open PySem L2 PyProof.Rows
def isGl (S : Scope) (x : Str) : Bool := decide (S.names.lookup x = some .globalImplicit)
def isVis (S : Scope) (x : Str) : Bool := match S.names.lookup x with
  | some .local => true
  | some .cell => true
  | some .free => true
  | _ => false
def isLoc (S : Scope) (x : Str) : Bool := decide (S.names.lookup x = some .local)
def notStar : Expr → Bool
  | .Starred _ _ => false
  | _ => true
def notCall : Expr → Bool
  | .Call _ _ _ _ => false
  | _ => true
def notSlice : Expr → Bool
  | .Slice _ _ _ _ => false
  | _ => true
def notSet : Expr → Bool
  | .Set _ _ _ => false
  | _ => true
def notComp : Expr → Bool
  | .ListComp _ _ _ _ => false
  | .SetComp _ _ _ _ => false
  | .DictComp _ _ _ _ _ => false
  | _ => true
def isTup : Expr → Bool
  | .Tuple _ _ _ => true
  | _ => false
def strFit (x : Str) : Bool := PyData.strOk x && decide (x.length ≤ 1000)
def plainName (x : Str) : Bool := !(x == ("__debug__" : Str)) && !(x == ("__classdict__" : Str))
def ownN (N : List Str) (own : List Nat) : List (Str × Nat) := own.map fun i => (N.getD i PySem.Str.empty, i)
def isCell (S : Scope) (x : Str) : Bool := decide (S.names.lookup x = some .cell)
mutual
def chkT (S : Scope) (N : List Str) (nin : Nat) (cl : Str → Bool) : CT → Expr → Bool
  | .n i, .Name x _ => decide (N[i]? = some x) && decide (nin ≤ i) && (isLoc S x || (isCell S x && cl x))
  | .tup ts, .Tuple es _ _ => chkTs S N nin cl ts es
  | _, _ => false
def chkTs (S : Scope) (N : List Str) (nin : Nat) (cl : Str → Bool) : List CT → List Expr → Bool
  | [], [] => true
  | t :: ts, e :: es => notStar e && chkT S N nin cl t e && chkTs S N nin cl ts es
  | _, _ => false
end
/-- cells of a block's own -/
def ownC (sc : Scope) (x : Str) : Bool := sc.names.lookup x == some .cell
def tyB (t : TyN) : Bool := !isClsN t
/-! ### taking a text apart -/
def asConst : Expr → Option Const
  | .Constant c _ _ => some c
  | _ => none
def asName : Expr → Option Str
  | .Name x _ => some x
  | _ => none
def asBin : Expr → Option (Expr × Operator × Expr)
  | .BinOp a o b _ => some (a, o, b)
  | _ => none
def asNeg : Expr → Option Expr
  | .UnaryOp .USub a _ => some a
  | _ => none
def asNot : Expr → Option Expr
  | .UnaryOp .Not a _ => some a
  | _ => none
def asCmp1 : Expr → Option (Expr × CmpOp × Expr)
  | .Compare a [o] [b] _ => some (a, o, b)
  | _ => none
def asCmp2 : Expr → Option (Expr × CmpOp × CmpOp × Expr × Expr)
  | .Compare a [o, p] [b, c] _ => some (a, o, p, b, c)
  | _ => none
def asAnd : Expr → Option (List Expr)
  | .BoolOp .And xs _ => some xs
  | _ => none
def asOr : Expr → Option (List Expr)
  | .BoolOp .Or xs _ => some xs
  | _ => none
def asIf : Expr → Option (Expr × Expr × Expr)
  | .IfExp c a b _ => some (c, a, b)
  | _ => none
def asTup : Expr → Option (List Expr)
  | .Tuple xs _ _ => some xs
  | _ => none
def asLst : Expr → Option (List Expr)
  | .List xs _ => some xs
  | _ => none
def asDict : Expr → Option (List (Option Expr) × List Expr)
  | .Dict ks vs _ => some (ks, vs)
  | _ => none
def asCallN : Expr → Option (Str × List Expr)
  | .Call (.Name x _) xs [] _ => some (x, xs)
  | _ => none
def asCallD : Expr → Option (Expr × List Expr)
  | .Call (.Subscript a i p) xs [] _ => some (.Subscript a i p, xs)
  | _ => none
def asMeth : Expr → Option (Expr × Str × List Expr × Bool)
  | .Call (.Attribute o m ap) xs [] cp => some (o, m, xs, ap.endLine == cp.line)
  | _ => none
def asSub : Expr → Option (Expr × Expr)
  | .Subscript a i _ => some (a, i)
  | _ => none
def asSlc : Expr → Option (Option Expr × Option Expr)
  | .Slice l h none _ => some (l, h)
  | _ => none
def asRev : Expr → Bool
  | .Slice none none (some (.UnaryOp .USub (.Constant (.int 1) _ _) _)) _ => true
  | _ => false
def asLc : Expr → Option (Expr × Expr × Expr × List Expr × Scope)
  | .ListComp ee [⟨tg, iter, ifs, 0⟩] sc _ => some (ee, tg, iter, ifs, sc)
  | _ => none
def asDc : Expr → Option (Expr × Expr × Expr × Expr × List Expr × Scope)
  | .DictComp ke ee [⟨tg, iter, ifs, 0⟩] sc _ => some (ke, ee, tg, iter, ifs, sc)
  | _ => none
def isLT : BI → Bool
  | .list => true
  | .tuple => true
  | _ => false
def chkK (d : D) (c : Const) : Bool := match d, c with
  | .non, .none => true
  | .bl b, .bool b' => b == b'
  | .int i, .int j => decide (i = j)
  | .str x, .str y => decide (x = y) && strFit x
  | _, _ => false
mutual
def chkE (N : List Str) (nin : Nat) : CE → Scope → Expr → Bool
  | .k d, S, e => match asConst e with
    | some c => chkK d c
    | none => false
  | .v i, S, e => match asName e with
    | some x => decide (N[i]? = some x) && isVis S x && plainName x
    | none => false
  | .gl x d, S, e => match asName e with
    | some y => decide (x = y) && isGl S x && plainName x
    | none => false
  | .bin op a b, S, e => match asBin e with
    | some (ea, o, eb) => decide (o = bop op) && chkE N nin a S ea && chkE N nin b S eb
    | none => false
  | .neg a, S, e => match asNeg e with
    | some ea => chkE N nin a S ea
    | none => false
  | .cmp op a b, S, e => match asCmp1 e with
    | some (ea, o, eb) => decide (o = cop op) && notSet eb && chkE N nin a S ea && chkE N nin b S eb
    | none => false
  | .chain o1 o2 a b c, S, e => match asCmp2 e with
    | some (ea, p1, p2, eb, ec) => decide (p1 = cop o1) && decide (p2 = cop o2) && notSet ec && chkE N nin a S ea && chkE N nin b S eb && chkE N nin c S ec
    | none => false
  | .and es, S, e => match asAnd e with
    | some xs => !es.isEmpty && chkEs N nin es S xs
    | none => false
  | .or es, S, e => match asOr e with
    | some xs => !es.isEmpty && chkEs N nin es S xs
    | none => false
  | .not a, S, e => match asNot e with
    | some ea => chkE N nin a S ea
    | none => false
  | .ite c a b, S, e => match asIf e with
    | some (ec, ea, eb) => chkE N nin c S ec && chkE N nin a S ea && chkE N nin b S eb
    | none => false
  | .tup es, S, e => match asTup e with
    | some xs => decide (es.length ≤ 1000) && chkEs N nin es S xs
    | none => false
  | .lst es, S, e => match asLst e with
    | some xs => decide (es.length ≤ 1000) && chkEs N nin es S xs
    | none => false
  | .dct kvs, S, e => match asDict e with
    | some (ks, vs) => decide (kvs.length ≤ 30) && chkKV N nin kvs S ks vs
    | none => false
  | .call F es, S, e => match asCallN e with
    | some (x, xs) => decide (x = F.name) && isGl S x && plainName x && !es.isEmpty && chkEs N nin es S xs
    | none => false
  | .bi b es, S, e => match asCallN e with
    | some (x, xs) => bplain b && decide (x = bname b) && isGl S x && !es.isEmpty && chkEs N nin es S xs
    | none => false
  | .isi c ts, S, e => match asCallN e with
    | some (x, [ex, ty]) => decide (x = ("isinstance" : Str)) && isGl S x && notStar ex && chkE N nin c S ex && (match asName ty, ts with
      | some y, [t] => tyB t && decide (y = (tyStr t : Str)) && isGl S y
      | _, _ => false)
    | _ => false
  | .get1 a k, S, e => match asMeth e with
    | some (o, m, [x], b) => b && decide (m = ("get" : Str)) && notCall o && notStar x && chkE N nin a S o && chkE N nin k S x
    | _ => false
  | .get2 a k d, S, e => match asMeth e with
    | some (o, m, [x, y], b) => b && decide (m = ("get" : Str)) && notCall o && notStar x && notStar y && chkE N nin a S o && chkE N nin k S x && chkE N nin d S y
    | _ => false
  | .mm m i es, S, e => match asMeth e with
    | some (o, y, xs, b) => b && mplain m && decide (y = mname m) && decide (es.length ≤ 5) && (!es.isEmpty || decide (m = .pop)) && (match asName o with
      | some x => decide (N[i]? = some x) && isVis S x && plainName x
      | none => false) && chkEs N nin es S xs
    | none => false
  | .sub a i, S, e => match asSub e with
    | some (ea, ei) => notSlice ei && chkE N nin a S ea && chkE N nin i S ei
    | none => false
  | .sl a lo hi, S, e => match asSub e with
    | some (ea, ei) => (match asSlc ei with
      | some (l, h) => chkO N nin lo S l && chkO N nin hi S h
      | none => false) && chkE N nin a S ea
    | none => false
  | .rev a, S, e => match asSub e with
    | some (ea, ei) => asRev ei && chkE N nin a S ea
    | none => false
  | .lc e t it own c, S, x => match asLc x with
    | some (ee, tg, iter, ifs, sc) => blkC N S sc (ownN N own) && own.all (fun i => decide (nin ≤ i)) && (slotsT t).all (fun i => own.contains i) && notSet iter && chkI N nin it S tg iter &&
      chkT (relS sc S) N nin (ownC sc) t tg && chkC N nin c (relS sc S) ifs && chkE N nin e (relS sc S) ee
    | none => false
  | .dc k e t it own c, S, x => match asDc x with
    | some (ke, ee, tg, iter, ifs, sc) => blkC N S sc (ownN N own) && own.all (fun i => decide (nin ≤ i)) && (slotsT t).all (fun i => own.contains i) && notSet iter && chkI N nin it S tg iter &&
      chkT (relS sc S) N nin (ownC sc) t tg && chkC N nin c (relS sc S) ifs && chkE N nin k (relS sc S) ke && chkE N nin e (relS sc S) ee
    | none => false
  | .dyn Fs f es, S, e => match asCallD e with
    | some (fe, xs) => chkE N nin f S fe && !es.isEmpty && chkEs N nin es S xs
    | none => false
  | .biI b it, S, e => match asCallN e with
    | some (x, [e1]) => match asCallN e1, it with
      | some (y, [ea]), .range1 a => isLT b && decide (x = bname b) && isGl S x && decide (y = ("range" : Str)) && isGl S y && notStar ea && chkE N nin a S ea
      | some (y, [ea, eb]), .range2 a c => isLT b && decide (x = bname b) && isGl S x && decide (y = ("range" : Str)) && isGl S y && notStar ea && notStar eb && chkE N nin a S ea && chkE N nin c S eb
      | some (y, [ea]), .reversed a => decide (b = .list) && decide (x = ("list" : Str)) && isGl S x && decide (y = ("reversed" : Str)) && isGl S y && notStar ea && chkE N nin a S ea
      | _, _ => false
    | _ => false
  | .lc2 _ _ _ _ _ _ _ _ _, _, _ => false
  | .fstr _, _, _ => false
def chkEs (N : List Str) (nin : Nat) : List CE → Scope → List Expr → Bool
  | [], _, es => es.isEmpty
  | c :: cs, S, es => match es with
    | [] => false
    | e :: es => notStar e && chkE N nin c S e && chkEs N nin cs S es
def chkKV (N : List Str) (nin : Nat) : List CE → Scope → List (Option Expr) → List Expr → Bool
  | [], _, ks, vs => ks.isEmpty && vs.isEmpty
  | [_], _, _, _ => false
  | k :: v :: cs, S, ks, vs => match ks, vs with
    | some ke :: ks, ve :: vs => chkE N nin k S ke && chkE N nin v S ve && chkKV N nin cs S ks vs
    | _, _ => false
def chkC (N : List Str) (nin : Nat) : Option CE → Scope → List Expr → Bool
  | none, _, es => es.isEmpty
  | some c, S, es => match es with
    | [e] => chkE N nin c S e
    | _ => false
def chkO (N : List Str) (nin : Nat) : Option CE → Scope → Option Expr → Bool
  | none, _, e => e.isNone
  | some c, S, e => match e with
    | some e => chkE N nin c S e
    | none => false
def chkI (N : List Str) (nin : Nat) : CI → Scope → Expr → Expr → Bool
  | .e c, S, tg, e => chkE N nin c S e
  | .range1 a, S, tg, e => match asCallN e with
    | some (x, [ea]) => decide (x = ("range" : Str)) && isGl S x && notStar ea && chkE N nin a S ea
    | _ => false
  | .range2 a b, S, tg, e => match asCallN e with
    | some (x, [ea, eb]) => decide (x = ("range" : Str)) && isGl S x && notStar ea && notStar eb && chkE N nin a S ea && chkE N nin b S eb
    | _ => false
  | .enum a, S, tg, e => match asCallN e with
    | some (x, [ea]) => isTup tg && decide (x = ("enumerate" : Str)) && isGl S x && notStar ea && chkE N nin a S ea
    | _ => false
  | .zip a b, S, tg, e => match asCallN e with
    | some (x, [ea, eb]) => isTup tg && decide (x = ("zip" : Str)) && isGl S x && notStar ea && notStar eb && chkE N nin a S ea && chkE N nin b S eb
    | _ => false
  | .reversed a, S, tg, e => match asCallN e with
    | some (x, [ea]) => decide (x = ("reversed" : Str)) && isGl S x && notStar ea && chkE N nin a S ea
    | _ => false
  | .range3 _ _ _, _, _, _ => false
  | .items a, S, tg, e => match asMeth e with
    | some (o, m, [], b) => isTup tg && b && decide (m = ("items" : Str)) && notCall o && chkE N nin a S o
    | _ => false
  | .values a, S, tg, e => match asMeth e with
    | some (o, m, [], b) => b && decide (m = ("values" : Str)) && notCall o && chkE N nin a S o
    | _ => false
end
/-! ### what a term leans on: defs, constants of the module -/
mutual
def fnsE : CE → List FnE
  | .k _ => [] | .v _ => [] | .gl _ _ => []
  | .bin _ a b => fnsE a ++ fnsE b | .neg a => fnsE a | .cmp _ a b => fnsE a ++ fnsE b | .chain _ _ a b c => fnsE a ++ fnsE b ++ fnsE c
  | .and es => fnsEs es | .or es => fnsEs es | .not a => fnsE a | .ite c a b => fnsE c ++ fnsE a ++ fnsE b
  | .tup es => fnsEs es | .lst es => fnsEs es | .dct es => fnsEs es
  | .call F es => F :: fnsEs es | .dyn Fs f es => Fs ++ fnsE f ++ fnsEs es | .bi _ es => fnsEs es | .biI _ it => fnsI it | .isi e _ => fnsE e
  | .get1 a b => fnsE a ++ fnsE b | .get2 a b c => fnsE a ++ fnsE b ++ fnsE c | .mm _ _ es => fnsEs es | .sub a b => fnsE a ++ fnsE b
  | .sl a lo hi => fnsE a ++ fnsO lo ++ fnsO hi | .rev a => fnsE a
  | .lc e _ it _ c => fnsI it ++ fnsO c ++ fnsE e
  | .lc2 e _ it c _ it1 c1 _ _ => fnsI it ++ fnsO c ++ fnsI it1 ++ fnsO c1 ++ fnsE e
  | .dc k e _ it _ c => fnsI it ++ fnsO c ++ fnsE k ++ fnsE e
  | .fstr es => fnsEs es
def fnsEs : List CE → List FnE
  | [] => []
  | c :: cs => fnsE c ++ fnsEs cs
def fnsO : Option CE → List FnE
  | none => []
  | some c => fnsE c
def fnsI : CI → List FnE
  | .e a => fnsE a | .range1 a => fnsE a | .range2 a b => fnsE a ++ fnsE b | .range3 a b c => fnsE a ++ fnsE b ++ fnsE c | .enum a => fnsE a | .zip a b => fnsE a ++ fnsE b | .items a => fnsE a | .values a => fnsE a | .reversed a => fnsE a
end
mutual
def glsE : CE → List (Str × D)
  | .k _ => [] | .v _ => [] | .gl x d => [(x, d)]
  | .bin _ a b => glsE a ++ glsE b | .neg a => glsE a | .cmp _ a b => glsE a ++ glsE b | .chain _ _ a b c => glsE a ++ glsE b ++ glsE c
  | .and es => glsEs es | .or es => glsEs es | .not a => glsE a | .ite c a b => glsE c ++ glsE a ++ glsE b
  | .tup es => glsEs es | .lst es => glsEs es | .dct es => glsEs es
  | .call F es => glsEs es | .dyn Fs f es => glsE f ++ glsEs es | .bi _ es => glsEs es | .biI _ it => glsI it | .isi e _ => glsE e
  | .get1 a b => glsE a ++ glsE b | .get2 a b c => glsE a ++ glsE b ++ glsE c | .mm _ _ es => glsEs es | .sub a b => glsE a ++ glsE b
  | .sl a lo hi => glsE a ++ glsO lo ++ glsO hi | .rev a => glsE a
  | .lc e _ it _ c => glsI it ++ glsO c ++ glsE e
  | .lc2 e _ it c _ it1 c1 _ _ => glsI it ++ glsO c ++ glsI it1 ++ glsO c1 ++ glsE e
  | .dc k e _ it _ c => glsI it ++ glsO c ++ glsE k ++ glsE e
  | .fstr es => glsEs es
def glsEs : List CE → List (Str × D)
  | [] => []
  | c :: cs => glsE c ++ glsEs cs
def glsO : Option CE → List (Str × D)
  | none => []
  | some c => glsE c
def glsI : CI → List (Str × D)
  | .e a => glsE a | .range1 a => glsE a | .range2 a b => glsE a ++ glsE b | .range3 a b c => glsE a ++ glsE b ++ glsE c | .enum a => glsE a | .zip a b => glsE a ++ glsE b | .items a => glsE a | .values a => glsE a | .reversed a => glsE a
end
/-- names of built-ins that the text must not hide -/
def bnames : List Str := ["len", "abs", "int", "str", "sum", "all", "any", "min", "max", "sorted", "list", "tuple", "divmod", "isinstance", "bool", "dict", "range", "zip", "enumerate", "reversed", "set"]
def GlOk (K : PySem.W.Frag) (mg : Str → Option Value) (x : Str) (d : D) : Prop := ∃ v u, mg x = some u ∧ RelV v u ∧ ∀ G, Rep K mg G d v
structure Ctx (X : Cx) (S : Scope) (N : List Str) (k : Nat) : Prop where
  calm : X.calm = true
  N : X.N = N
  nd : X.N.Nodup
  sc : X.env.scope = S
  room : Room k X.A
  bn : ∀ x ∈ bnames, X.mg x = none
section
variable {X : Cx} {S : Scope} {N : List Str} {k nin : Nat}
theorem Ctx.blk (C : Ctx X S N k) (s : Shared) (H : Hp) (scope : Scope) (A : Addr) (cl : List (Str × Addr)) (fp : List Addr) : Ctx (X.blk s H scope (compEnvC scope cl A X.env) fp) (relS scope S) N k :=
  ⟨C.calm, C.N, C.nd, by rw [← C.sc]; rfl, C.room, C.bn⟩
theorem Ctx.un (C : Ctx X S N k) : X.A.units + 100 < cLine := by
  have := C.room.un
  omega
theorem Ctx.gl (C : Ctx X S N k) {x : Str} (h : isGl S x = true) : Gl X x := by
  unfold isGl at h
  show X.env.scope.names.lookup x = _
  rw [C.sc]; simpa using h
theorem Ctx.vis (C : Ctx X S N k) {x : Str} (h : isVis S x = true) : Vis X.env.scope x := by
  unfold isVis at h
  unfold Vis
  rw [C.sc]
  split at h <;> simp_all
theorem plain_debug {x : Str} (h : plainName x = true) : (x == ("__debug__" : Str)) = false ∧ (x == ("__classdict__" : Str)) = false := by
  unfold plainName at h
  simpa using h
theorem Ctx.var (C : Ctx X S N k) {i : Nat} {x : Str} {p : Pos} (h1 : N[i]? = some x) (h2 : isVis S x = true) (h3 : plainName x = true) : PE X (.Name x p) (tVar i) :=
  pe_var (by rw [C.N]; exact h1) (C.vis h2) (plain_debug h3).1 (plain_debug h3).2
end
end M
end
section
set_option linter.all false
set_option maxRecDepth 100000
set_option maxHeartbeats 4000000
/-! MChk2: what the checks on the text give. -/
namespace M
open PySem L2 PyProof.Rows
section
variable {X : Cx} {B : Bs} {W : WX} {S : Scope} {N : List Str} {k nin : Nat}
theorem star1 {e : Expr} {es : List Expr} {env : PySem.Env} (h : notStar e = true) : starEach (e :: es) env = (false, eval e env) :: starEach es env := by
  cases e <;> first
    | rfl
    | (simp [notStar] at h; done)
theorem star_any {env : PySem.Env} {pos : Pos} : ∀ {es : List Expr}, es.all notStar = true → (backTo pos (starEach es env)).any (·.1) = false
  | [], _ => rfl
  | e :: es, h => by
    rw [List.all_cons, Bool.and_eq_true] at h
    rw [star1 h.1]
    have ih := star_any (env := env) (pos := pos) h.2
    unfold backTo at ih ⊢
    simpa using ih
theorem star_all {env : PySem.Env} {pos : Pos} : ∀ {es : List Expr}, es.all notStar = true → (backTo pos (starEach es env)).all (fun x => !x.1) = true
  | [], _ => rfl
  | e :: es, h => by
    rw [List.all_cons, Bool.and_eq_true] at h
    rw [star1 h.1]
    have ih := star_all (env := env) (pos := pos) h.2
    unfold backTo at ih ⊢
    simpa using ih
theorem few_of {e : Expr} {es : List Expr} {env : PySem.Env} {cpos : Pos} (h : (e :: es).all notStar = true) (hl : es.length ≤ 20) :
    ((backTo cpos (starEach (e :: es) env)).all (fun x => !x.1) && (backToKw cpos (keywordEach [] env)).all (fun x => x.1.isSome)
      && decide ((e :: es).length + ([] : List Keyword).length + (if ([] : List Keyword).isEmpty then 0 else 1) < 30)) = true := by
  rw [star_all h]
  show (true && true && decide _) = true
  simp only [Bool.and_true, Bool.true_and, decide_eq_true_eq, List.length_cons, List.length_nil, List.isEmpty_nil, if_true]
  omega
theorem base_of {o : Expr} {m : Str} {env : PySem.Env} (h : notCall o = true) : attributeBase o m env (eval o env) = eval o env := by
  cases o <;> first
    | rfl
    | (simp [notCall] at h; done)
theorem plainIx_of {b : Expr} (h : notSlice b = true) : PlainIx b := by
  cases b <;> first
    | exact fun _ _ => rfl
    | (simp [notSlice] at h; done)
theorem fold_of {e : Expr} {env : PySem.Env} (h : notSet e = true) : ∀ x, foldedSetIterable e env x = pure x := by
  cases e <;> first
    | exact fun _ => rfl
    | (simp [notSet] at h; done)
theorem nobehind_of {op : CmpOp} {e : Expr} (h : notSet e = true) : behindInMarks op e = false := by
  cases e <;> first
    | rfl
    | (simp [notSet] at h; done)
theorem swap_of {e : Expr} {t : Option Expr} {l : Nat} {env : PySem.Env} (h : notComp e = true) : swapsWith e t l env = pure false := by
  cases e <;> first
    | rfl
    | (simp [notComp] at h; done)
theorem each_cons {e : Expr} {es : List Expr} {env : PySem.Env} (h : notStar e = true) : assignEach (e :: es) env = (false, assign e env) :: assignEach es env := by
  cases e <;> first
    | rfl
    | (simp [notStar] at h; done)
theorem each_len {env : PySem.Env} : ∀ {es : List Expr}, es.all notStar = true → (assignEach es env).length = es.length ∧ (assignEach es env).findIdx? (·.1) = none
  | [], _ => ⟨rfl, rfl⟩
  | e :: es, h => by
    rw [List.all_cons, Bool.and_eq_true] at h
    rw [each_cons h.1]
    obtain ⟨h1, h2⟩ := each_len (env := env) h.2
    refine ⟨by simp [h1], ?_⟩
    rw [List.findIdx?_cons]
    simp [h2]
/-- as tests -/
def tstPlain : Expr → Bool
  | .UnaryOp .Not _ _ => false
  | .BoolOp _ _ _ => false
  | .IfExp _ _ _ _ => false
  | .Compare _ _ _ _ => false
  | _ => true
theorem isTrue_of {e : Expr} {env : PySem.Env} (h : tstPlain e = true) : ∀ whole, isTrue e env whole = (do let v ← whole; standAt e.pos; holding [v] (truthy v)) := by
  intro whole
  cases e with
  | UnaryOp op a p => cases op <;> first
    | rfl
    | (simp [tstPlain] at h; done)
  | BoolOp => simp [tstPlain] at h
  | IfExp => simp [tstPlain] at h
  | Compare => simp [tstPlain] at h
  | _ => rfl
theorem dt_ite {c a b : Expr} {cc ca cb : CE} {pos : Pos} (hc : DT X B W c (evT cc)) (ha : DT X B W a (evT ca)) (hb : DT X B W b (evT cb)) : DT X B W (.IfExp c a b pos) (evT (.ite cc ca cb)) := by
  refine ⟨fun pins s σ H Q I hw => ?_⟩
  obtain ⟨G, ρ, τ, S, hw⟩ := hw
  simp only [evT, ev, bind_bind] at hw
  show wpAny _ _ (do if ← isTrue c X.env (eval c X.env) then isTrue a X.env (eval a X.env) else isTrue b X.env (eval b X.env)) _ _ _
  refine wpAny_bind (thn (hc.run pins s σ H (fun k H1 => if k = true then tTst X.K X.mg B W (evT ca) σ H1 Q else tTst X.K X.mg B W (evT cb) σ H1 Q) I ?_) fun k s1 ⟨H1, I1, q1⟩ => ?_)
  · have hw : AfterT X.K X.mg B W σ Q G τ ((evT cc ρ).bind fun p => (if p.1 then ev ca p.2 else ev cb p.2).bind tru) := by
      unfold evT
      rw [bind_bind]
      exact hw
    refine tT_bindT S hw fun p G1 H1 e1 s1 S1 h1 => ?_
    cases hp : p.1 with
    | true => rw [if_pos rfl]; simp only [hp, if_true] at h1; exact ⟨G1, p.2, τ, S1, AfterT.later s1 h1⟩
    | false => rw [if_neg Bool.false_ne_true]; simp only [hp, Bool.false_eq_true, if_false] at h1; exact ⟨G1, p.2, τ, S1, AfterT.later s1 h1⟩
  · cases k with
    | true => rw [if_pos rfl] at q1 ⊢; exact ha.run pins s1 σ H1 Q I1 q1
    | false => rw [if_neg Bool.false_ne_true] at q1 ⊢; exact hb.run pins s1 σ H1 Q I1 q1
/-! ### lists -/
def AllD (X : Cx) (B : Bs) (W : WX) : List CE → List Expr → Prop
  | [], [] => True
  | c :: cs, e :: es => (notStar e = true ∧ DE X B W e (ev c) ∧ DT X B W e (evT c)) ∧ AllD X B W cs es
  | _, _ => False
theorem AllD.da : ∀ {cs : List CE} {es : List Expr}, AllD X B W cs es → DA X B W es (evs cs) ∧ es.all notStar = true ∧ es.length = cs.length
  | [], [], _ => ⟨da_nil, rfl, rfl⟩
  | c :: cs, e :: es, ⟨⟨h1, h2, h3⟩, h4⟩ => by
    obtain ⟨a, b, l⟩ := AllD.da h4
    exact ⟨da_cons h2 a (star1 h1), by simp [h1, b], by simp [l]⟩
  | [], _ :: _, h => h.elim
  | _ :: _, [], h => h.elim
theorem AllD.and {pos : Pos} : ∀ {cs : List CE} {es : List Expr}, cs ≠ [] → AllD X B W cs es → DE X B W (.BoolOp .And es pos) (evAnd cs) ∧ DW X B W (.BoolOp .And es pos) (fun ρ => (evAnd cs ρ).bind tru)
  | [], _, h, _ => absurd rfl h
  | [c], [e], _, ⟨⟨_, h2, h3⟩, _⟩ => ⟨de_and1 h2, dw_and1 h3⟩
  | c :: c2 :: cs, e :: e2 :: es, _, ⟨⟨_, h2, h3⟩, h4⟩ => by
    obtain ⟨a, b⟩ := AllD.and (pos := pos) (cs := c2 :: cs) (es := e2 :: es) (by simp) h4
    exact ⟨de_and2 h2 a, dw_and2 h3 b⟩
  | [_], [], _, h => h.elim
  | [_], _ :: _ :: _, _, ⟨_, h⟩ => h.elim
  | _ :: _ :: _, [], _, h => h.elim
  | _ :: _ :: _, [_], _, ⟨_, h⟩ => h.elim
theorem AllD.or {pos : Pos} : ∀ {cs : List CE} {es : List Expr}, cs ≠ [] → AllD X B W cs es → DE X B W (.BoolOp .Or es pos) (evOr cs) ∧ DW X B W (.BoolOp .Or es pos) (fun ρ => (evOr cs ρ).bind tru)
  | [], _, h, _ => absurd rfl h
  | [c], [e], _, ⟨⟨_, h2, h3⟩, _⟩ => ⟨de_or1 h2, dw_or1 h3⟩
  | c :: c2 :: cs, e :: e2 :: es, _, ⟨⟨_, h2, h3⟩, h4⟩ => by
    obtain ⟨a, b⟩ := AllD.or (pos := pos) (cs := c2 :: cs) (es := e2 :: es) (by simp) h4
    exact ⟨de_or2 h2 a, dw_or2 h3 b⟩
  | [_], [], _, h => h.elim
  | [_], _ :: _ :: _, _, ⟨_, h⟩ => h.elim
  | _ :: _ :: _, [], _, h => h.elim
  | _ :: _ :: _, [_], _, ⟨_, h⟩ => h.elim
/-! ### targets -/
mutual
theorem sT {cl : Str → Bool} (hc : Ctx X S N k) (hb : B.nin = nin) (hf : ∀ x, cl x = true → X.fn x = true) : ∀ {t : CT} {e : Expr}, chkT S N nin cl t e = true → DG X B e t
  | .n i, e, h => by
    cases e <;> (try (simp [chkT] at h; done))
    rename_i x p
    simp only [chkT, Bool.and_eq_true, Bool.or_eq_true, decide_eq_true_eq] at h
    obtain ⟨⟨h1, h2⟩, h3⟩ := h
    rcases h3 with h3 | ⟨h3, h4⟩
    · have hl : X.env.scope.names.lookup x = some .local := by rw [hc.sc]; unfold isLoc at h3; simpa using h3
      exact dg_name (by rw [hb]; exact h2) (pg_name hc.nd (by rw [hc.N]; exact h1) (.inl hl) (.inr hl))
    · have hl : X.env.scope.names.lookup x = some .cell := by rw [hc.sc]; unfold isCell at h3; simpa using h3
      exact dg_name (by rw [hb]; exact h2) (pg_name hc.nd (by rw [hc.N]; exact h1) (.inr hl) (.inl (hf x h4)))
  | .tup ts, e, h => by
    cases e <;> (try (simp [chkT] at h; done))
    rename_i es kk p
    simp only [chkT] at h
    obtain ⟨h1, h2, h3⟩ := sTs hc hb hf h
    obtain ⟨e1, e2⟩ := each_len (env := X.env) h2
    exact dg_tup hc.calm h1 h3 e1 e2
theorem sTs {cl : Str → Bool} (hc : Ctx X S N k) (hb : B.nin = nin) (hf : ∀ x, cl x = true → X.fn x = true) : ∀ {ts : List CT} {es : List Expr}, chkTs S N nin cl ts es = true → DGs X B es ts ∧ es.all notStar = true ∧ es.length = ts.length
  | [], es, h => by
    cases es with
    | nil => exact ⟨dgs_nil, rfl, rfl⟩
    | cons _ _ => simp [chkTs] at h
  | t :: ts, es, h => by
    cases es with
    | nil => simp [chkTs] at h
    | cons e es =>
      simp only [chkTs, Bool.and_eq_true] at h
      obtain ⟨⟨h1, h2⟩, h3⟩ := h
      obtain ⟨a, b, l⟩ := sTs hc hb hf h3
      exact ⟨dgs_cons (sT hc hb hf h2) a (by rw [each_cons h1]; rfl), by simp [h1, b], by simp [l]⟩
end
end
end M
end
section
set_option linter.all false
set_option maxRecDepth 100000
set_option maxHeartbeats 8000000
/-! MChk3: a checked expression's run is the evaluator's. -/
namespace M
open PySem L2 PyProof.Rows
variable {N : List Str} {k nin : Nat}
/-- what is known of the defs and the constants that a term names -/
structure Leans (X : Cx) (k : Nat) (fs : List FnE) (gs : List (Str × D)) : Prop where
  fn : ∀ F ∈ fs, OkF X.prog X.w X.K X.mg X.base k F
  gl : ∀ g ∈ gs, GlOk X.K X.mg g.1 g.2
theorem Leans.l {X : Cx} {fs fs' : List FnE} {gs gs' : List (Str × D)} (h : Leans X k (fs ++ fs') (gs ++ gs')) : Leans X k fs gs := ⟨fun F hF => h.fn F (List.mem_append_left _ hF), fun g hg => h.gl g (List.mem_append_left _ hg)⟩
theorem Leans.r {X : Cx} {fs fs' : List FnE} {gs gs' : List (Str × D)} (h : Leans X k (fs ++ fs') (gs ++ gs')) : Leans X k fs' gs' := ⟨fun F hF => h.fn F (List.mem_append_right _ hF), fun g hg => h.gl g (List.mem_append_right _ hg)⟩
theorem Leans.blk {X : Cx} {fs : List FnE} {gs : List (Str × D)} (h : Leans X k fs gs) (s : Shared) (H : Hp) (scope : Scope) (env : PySem.Env) (fp : List Addr) : Leans (X.blk s H scope env fp) k fs gs := ⟨h.fn, h.gl⟩
theorem both {X : Cx} {B : Bs} {W : WX} {e : Expr} {c : CE} (h : DE X B W e (ev c)) (t : tstPlain e = true) : DE X B W e (ev c) ∧ DT X B W e (evT c) := ⟨h, dt_truth h (isTrue_of t)⟩
theorem de_k {X : Cx} {B : Bs} {W : WX} {e : Expr} {d : D} (h : DE X B W e (fun ρ => .ok (.val d, ρ))) : DE X B W e (ev (.k d)) := by
  have : ev (.k d) = fun ρ => .ok (.val d, ρ) := by funext ρ; simp only [ev]
  rw [this]; exact h
theorem takes_noW {X : Cx} : L2N.Takes X noW := fun _ _ ⟨_, _, _, _, _, _, _, _, _, _, _, _, _, _, _, _, w⟩ => w.elim
theorem ownN_snd {own : List Nat} : (ownN N own).map (·.2) = own := by
  unfold ownN
  rw [List.map_map]
  exact List.map_id _
theorem bname_ok {b : BI} (h : bplain b = true) : bname b ∈ bnames := by
  cases b <;> first
    | (simp [bplain] at h; done)
    | decide
theorem tyStr_ok {t : TyN} (h : tyB t = true) : (tyStr t : Str) ∈ bnames := by
  cases t <;> first
    | (simp [tyB, isClsN] at h; done)
    | decide

/-! ### taken apart -/
theorem asConst_eq {e : Expr} {c : Const} (h : asConst e = some c) : ∃ k p, e = .Constant c k p := by
  unfold asConst at h; split at h <;> cases h; exact ⟨_, _, rfl⟩
theorem asName_eq {e : Expr} {x : Str} (h : asName e = some x) : ∃ p, e = .Name x p := by
  unfold asName at h; split at h <;> cases h; exact ⟨_, rfl⟩
theorem asBin_eq {e a b : Expr} {o : Operator} (h : asBin e = some (a, o, b)) : ∃ p, e = .BinOp a o b p := by
  unfold asBin at h; split at h <;> cases h; exact ⟨_, rfl⟩
theorem asNeg_eq {e a : Expr} (h : asNeg e = some a) : ∃ p, e = .UnaryOp .USub a p := by
  unfold asNeg at h; split at h <;> cases h; exact ⟨_, rfl⟩
theorem asNot_eq {e a : Expr} (h : asNot e = some a) : ∃ p, e = .UnaryOp .Not a p := by
  unfold asNot at h; split at h <;> cases h; exact ⟨_, rfl⟩
theorem asCmp1_eq {e a b : Expr} {o : CmpOp} (h : asCmp1 e = some (a, o, b)) : ∃ p, e = .Compare a [o] [b] p := by
  unfold asCmp1 at h; split at h <;> cases h; exact ⟨_, rfl⟩
theorem asCmp2_eq {e a b c : Expr} {o q : CmpOp} (h : asCmp2 e = some (a, o, q, b, c)) : ∃ p, e = .Compare a [o, q] [b, c] p := by
  unfold asCmp2 at h; split at h <;> cases h; exact ⟨_, rfl⟩
theorem asAnd_eq {e : Expr} {xs : List Expr} (h : asAnd e = some xs) : ∃ p, e = .BoolOp .And xs p := by
  unfold asAnd at h; split at h <;> cases h; exact ⟨_, rfl⟩
theorem asOr_eq {e : Expr} {xs : List Expr} (h : asOr e = some xs) : ∃ p, e = .BoolOp .Or xs p := by
  unfold asOr at h; split at h <;> cases h; exact ⟨_, rfl⟩
theorem asIf_eq {e c a b : Expr} (h : asIf e = some (c, a, b)) : ∃ p, e = .IfExp c a b p := by
  unfold asIf at h; split at h <;> cases h; exact ⟨_, rfl⟩
theorem asTup_eq {e : Expr} {xs : List Expr} (h : asTup e = some xs) : ∃ k p, e = .Tuple xs k p := by
  unfold asTup at h; split at h <;> cases h; exact ⟨_, _, rfl⟩
theorem asLst_eq {e : Expr} {xs : List Expr} (h : asLst e = some xs) : ∃ p, e = .List xs p := by
  unfold asLst at h; split at h <;> cases h; exact ⟨_, rfl⟩
theorem asDict_eq {e : Expr} {ks : List (Option Expr)} {vs : List Expr} (h : asDict e = some (ks, vs)) : ∃ p, e = .Dict ks vs p := by
  unfold asDict at h; split at h <;> cases h; exact ⟨_, rfl⟩
theorem asCallN_eq {e : Expr} {x : Str} {xs : List Expr} (h : asCallN e = some (x, xs)) : ∃ p q, e = .Call (.Name x p) xs [] q := by
  unfold asCallN at h; split at h <;> cases h; exact ⟨_, _, rfl⟩
theorem asCallD_eq {e fe : Expr} {xs : List Expr} (h : asCallD e = some (fe, xs)) : ∃ a i p q, fe = .Subscript a i p ∧ e = .Call (.Subscript a i p) xs [] q := by
  unfold asCallD at h; split at h <;> cases h; exact ⟨_, _, _, _, rfl, rfl⟩
theorem asMeth_eq {e o : Expr} {m : Str} {xs : List Expr} {b : Bool} (h : asMeth e = some (o, m, xs, b)) : ∃ ap cp, e = .Call (.Attribute o m ap) xs [] cp ∧ b = (ap.endLine == cp.line) := by
  unfold asMeth at h; split at h <;> cases h; exact ⟨_, _, rfl, rfl⟩
theorem asSub_eq {e a i : Expr} (h : asSub e = some (a, i)) : ∃ p, e = .Subscript a i p := by
  unfold asSub at h; split at h <;> cases h; exact ⟨_, rfl⟩
theorem asSlc_eq {e : Expr} {l u : Option Expr} (h : asSlc e = some (l, u)) : ∃ p, e = .Slice l u none p := by
  unfold asSlc at h; split at h <;> cases h; exact ⟨_, rfl⟩
theorem asRev_eq {e : Expr} (h : asRev e = true) : ∃ k p1 p2 p3, e = .Slice none none (some (.UnaryOp .USub (.Constant (.int 1) k p1) p2)) p3 := by
  unfold asRev at h; split at h
  · exact ⟨_, _, _, _, rfl⟩
  · cases h
theorem asLc_eq {e ee tg it : Expr} {ifs : List Expr} {sc : Scope} (h : asLc e = some (ee, tg, it, ifs, sc)) : ∃ p, e = .ListComp ee [⟨tg, it, ifs, 0⟩] sc p := by
  unfold asLc at h; split at h <;> cases h; exact ⟨_, rfl⟩
theorem asDc_eq {e ke ee tg it : Expr} {ifs : List Expr} {sc : Scope} (h : asDc e = some (ke, ee, tg, it, ifs, sc)) : ∃ p, e = .DictComp ke ee [⟨tg, it, ifs, 0⟩] sc p := by
  unfold asDc at h; split at h <;> cases h; exact ⟨_, rfl⟩
theorem isTup_eq {e : Expr} (h : isTup e = true) : ∃ xs k p, e = .Tuple xs k p := by
  cases e <;> first
    | exact ⟨_, _, _, rfl⟩
    | cases h
mutual
theorem sE : ∀ (ce : CE) {X : Cx} {S : Scope} {e : Expr} {B : Bs} {W : WX}, Ctx X S N k → L2N.Takes X W → B.nin = nin → Leans X k (fnsE ce) (glsE ce) → chkE N nin ce S e = true → DE X B W e (ev ce) ∧ DT X B W e (evT ce)
  | .k d, X, S, e, B, W, C, tk, hb, L, h => by
    simp only [chkE] at h
    split at h <;> (try (cases h; done))
    rename_i c hc
    obtain ⟨kk, p, rfl⟩ := asConst_eq hc
    unfold chkK at h
    refine both (de_k ?_) rfl
    split at h
    · exact de_pure pe_non fun σ H Q q => q _ fun G => by simp only [Rep]
    · obtain rfl := eq_of_beq h
      exact de_pure pe_bl fun σ H Q q => q _ fun G => by simp only [Rep]
    · simp only [decide_eq_true_eq] at h
      subst h
      exact de_pure pe_int fun σ H Q q => q _ fun G => by simp only [Rep]
    · simp only [Bool.and_eq_true, decide_eq_true_eq] at h
      obtain ⟨rfl, h⟩ := h
      unfold strFit at h
      simp only [Bool.and_eq_true, decide_eq_true_eq] at h
      exact de_pure pe_str fun σ H Q q => q _ fun G => by simp only [Rep]; exact ⟨trivial, h.1, by rw [sizeLine_eq]; omega⟩
    · cases h
  | .v i, X, S, e, B, W, C, tk, hb, L, h => by
    simp only [chkE] at h
    split at h <;> (try (cases h; done))
    rename_i x hx
    obtain ⟨p, rfl⟩ := asName_eq hx
    simp only [Bool.and_eq_true, decide_eq_true_eq] at h
    obtain ⟨⟨h1, h2⟩, h3⟩ := h
    exact both (de_var (C.var h1 h2 h3)) rfl
  | .gl x d, X, S, e, B, W, C, tk, hb, L, h => by
    simp only [chkE] at h
    split at h <;> (try (cases h; done))
    rename_i y hy
    obtain ⟨p, rfl⟩ := asName_eq hy
    simp only [Bool.and_eq_true, decide_eq_true_eq] at h
    obtain ⟨⟨rfl, h2⟩, h3⟩ := h
    obtain ⟨v, u, g1, g2, g3⟩ := L.gl (x, d) (by simp [glsE])
    refine both ?_ rfl
    have : ev (.gl x d) = fun ρ => .ok (.val d, ρ) := by funext ρ; simp only [ev]
    rw [this]
    exact de_pure (pe_glob (C.gl h2) g1 g2 (plain_debug h3).1) fun σ H Q q => q _ g3
  | .bin op a b, X, S, e, B, W, C, tk, hb, L, h => by
    simp only [chkE] at h
    simp only [fnsE, glsE] at L
    split at h <;> (try (cases h; done))
    rename_i ea o eb he
    obtain ⟨p, rfl⟩ := asBin_eq he
    simp only [Bool.and_eq_true, decide_eq_true_eq] at h
    obtain ⟨⟨rfl, h2⟩, h3⟩ := h
    exact both (de_bin (sE a C tk hb L.l h2).1 (sE b C tk hb L.r h3).1) rfl
  | .neg a, X, S, e, B, W, C, tk, hb, L, h => by
    simp only [chkE] at h
    simp only [fnsE, glsE] at L
    split at h <;> (try (cases h; done))
    rename_i ea he
    obtain ⟨p, rfl⟩ := asNeg_eq he
    exact both (de_neg (sE a C tk hb L h).1) rfl
  | .cmp op a b, X, S, e, B, W, C, tk, hb, L, h => by
    simp only [chkE] at h
    simp only [fnsE, glsE] at L
    split at h <;> (try (cases h; done))
    rename_i ea o eb he
    obtain ⟨p, rfl⟩ := asCmp1_eq he
    simp only [Bool.and_eq_true, decide_eq_true_eq] at h
    obtain ⟨⟨⟨rfl, h2⟩, h3⟩, h4⟩ := h
    have ha := (sE a C tk hb L.l h3).1
    have hbb := (sE b C tk hb L.r h4).1
    exact ⟨de_cmp C.un ha hbb (nobehind_of h2), dt_cmp C.un ha hbb (nobehind_of h2)⟩
  | .chain o1 o2 a b c, X, S, e, B, W, C, tk, hb, L, h => by
    simp only [chkE] at h
    simp only [fnsE, glsE] at L
    split at h <;> (try (cases h; done))
    rename_i ea p1 p2 eb ec he
    obtain ⟨p, rfl⟩ := asCmp2_eq he
    simp only [Bool.and_eq_true, decide_eq_true_eq] at h
    obtain ⟨⟨⟨⟨⟨rfl, rfl⟩, h2⟩, h3⟩, h4⟩, h5⟩ := h
    have ha := (sE a C tk hb L.l.l h3).1
    have hbb := (sE b C tk hb L.l.r h4).1
    have hcc := (sE c C tk hb L.r h5).1
    exact ⟨de_chain C.un ha hbb hcc (nobehind_of h2), dt_chain C.un ha hbb hcc (nobehind_of h2)⟩
  | .and es, X, S, e, B, W, C, tk, hb, L, h => by
    simp only [chkE] at h
    simp only [fnsE, glsE] at L
    split at h <;> (try (cases h; done))
    rename_i xs he
    obtain ⟨p, rfl⟩ := asAnd_eq he
    simp only [Bool.and_eq_true] at h
    obtain ⟨a, b⟩ := (sEs es C tk hb L h.2).and (pos := p) (by intro z; subst z; exact Bool.noConfusion h.1)
    have e1 : evAnd es = evAnd es := rfl
    refine ⟨⟨fun pins s σ H Q I hw => a.run pins s σ H Q I (tE_ev (fun ρ => by simp only [ev]) hw)⟩, PW.pt (⟨fun wh pins s σ H Q I hw => b.run wh pins s σ H Q I ?_⟩ : PW X _ (tTst X.K X.mg B W (evT (.and es))))⟩
    have : (fun ρ => (evAnd es ρ).bind tru) = evT (.and es) := by funext ρ; simp only [evT, ev]
    rw [this]; exact hw
  | .or es, X, S, e, B, W, C, tk, hb, L, h => by
    simp only [chkE] at h
    simp only [fnsE, glsE] at L
    split at h <;> (try (cases h; done))
    rename_i xs he
    obtain ⟨p, rfl⟩ := asOr_eq he
    simp only [Bool.and_eq_true] at h
    obtain ⟨a, b⟩ := (sEs es C tk hb L h.2).or (pos := p) (by intro z; subst z; exact Bool.noConfusion h.1)
    have e1 : evAnd es = evAnd es := rfl
    refine ⟨⟨fun pins s σ H Q I hw => a.run pins s σ H Q I (tE_ev (fun ρ => by simp only [ev]) hw)⟩, PW.pt (⟨fun wh pins s σ H Q I hw => b.run wh pins s σ H Q I ?_⟩ : PW X _ (tTst X.K X.mg B W (evT (.or es))))⟩
    have : (fun ρ => (evOr es ρ).bind tru) = evT (.or es) := by funext ρ; simp only [evT, ev]
    rw [this]; exact hw
  | .not a, X, S, e, B, W, C, tk, hb, L, h => by
    simp only [chkE] at h
    simp only [fnsE, glsE] at L
    split at h <;> (try (cases h; done))
    rename_i ea he
    obtain ⟨p, rfl⟩ := asNot_eq he
    obtain ⟨a1, a2⟩ := sE a C tk hb L h
    exact ⟨de_not a1, dt_not a2⟩
  | .ite c a b, X, S, e, B, W, C, tk, hb, L, h => by
    simp only [chkE] at h
    simp only [fnsE, glsE] at L
    split at h <;> (try (cases h; done))
    rename_i ec ea eb he
    obtain ⟨p, rfl⟩ := asIf_eq he
    simp only [Bool.and_eq_true] at h
    obtain ⟨⟨h1, h2⟩, h3⟩ := h
    obtain ⟨c1, c2⟩ := sE c C tk hb L.l.l h1
    obtain ⟨a1, a2⟩ := sE a C tk hb L.l.r h2
    obtain ⟨b1, b2⟩ := sE b C tk hb L.r h3
    exact ⟨de_ite c2 a1 b1, dt_ite c2 a2 b2⟩
  | .tup es, X, S, e, B, W, C, tk, hb, L, h => by
    simp only [chkE] at h
    simp only [fnsE, glsE] at L
    split at h <;> (try (cases h; done))
    rename_i xs he
    obtain ⟨kk, p, rfl⟩ := asTup_eq he
    simp only [Bool.and_eq_true, decide_eq_true_eq] at h
    exact both (de_tup h.1 (sEs es C tk hb L h.2).da.1) rfl
  | .lst es, X, S, e, B, W, C, tk, hb, L, h => by
    simp only [chkE] at h
    simp only [fnsE, glsE] at L
    split at h <;> (try (cases h; done))
    rename_i xs he
    obtain ⟨p, rfl⟩ := asLst_eq he
    simp only [Bool.and_eq_true, decide_eq_true_eq] at h
    exact both (de_lst h.1 (sEs es C tk hb L h.2).da.1) rfl
  | .dct es, X, S, e, B, W, C, tk, hb, L, h => by
    simp only [chkE] at h
    simp only [fnsE, glsE] at L
    split at h <;> (try (cases h; done))
    rename_i ks vs he
    obtain ⟨p, rfl⟩ := asDict_eq he
    simp only [Bool.and_eq_true, decide_eq_true_eq] at h
    have hd := sKV es (pos := p) C tk hb L h.2
    refine both ?_ rfl
    cases es with
    | nil =>
      cases hd
      exact de_dct0
    | cons c cs => exact de_dct hd (by simp) h.1
  | .call F es, X, S, e, B, W, C, tk, hb, L, h => by
    simp only [chkE] at h
    simp only [fnsE, glsE] at L
    split at h <;> (try (cases h; done))
    rename_i x xs he
    obtain ⟨p, q, rfl⟩ := asCallN_eq he
    simp only [Bool.and_eq_true, decide_eq_true_eq] at h
    obtain ⟨⟨⟨⟨rfl, h2⟩, h3⟩, h4⟩, h5⟩ := h
    have hA := sEs es C tk hb ⟨fun F hF => L.fn F (List.mem_cons_of_mem _ hF), L.gl⟩ h5
    cases es with
    | nil => exact Bool.noConfusion h4
    | cons c cs =>
      cases xs with
      | nil => exact hA.elim
      | cons x xs =>
        obtain ⟨d1, d2, d3⟩ := hA.da
        rw [List.all_cons, Bool.and_eq_true] at d2
        exact both (de_call (L.fn F List.mem_cons_self) C.room (C.gl h2) tk d1 (plain_debug h3).1 (star1 d2.1) (star_any d2.2)) rfl
  | .bi b es, X, S, e, B, W, C, tk, hb, L, h => by
    simp only [chkE] at h
    simp only [fnsE, glsE] at L
    split at h <;> (try (cases h; done))
    rename_i x xs he
    obtain ⟨p, q, rfl⟩ := asCallN_eq he
    simp only [Bool.and_eq_true, decide_eq_true_eq] at h
    obtain ⟨⟨⟨⟨h1, rfl⟩, h2⟩, h4⟩, h5⟩ := h
    have hA := sEs es C tk hb L h5
    cases es with
    | nil => exact Bool.noConfusion h4
    | cons c cs =>
      cases xs with
      | nil => exact hA.elim
      | cons x xs =>
        obtain ⟨d1, d2, d3⟩ := hA.da
        rw [List.all_cons, Bool.and_eq_true] at d2
        exact both (de_bi C.un C.calm h1 (C.gl h2) (C.bn _ (bname_ok h1)) d1 (star1 d2.1) (star_any d2.2)) rfl
  | .isi c ts, X, S, e, B, W, C, tk, hb, L, h => by
    simp only [chkE] at h
    simp only [fnsE, glsE] at L
    split at h <;> (try (cases h; done))
    rename_i x ex ty he
    obtain ⟨p, q, rfl⟩ := asCallN_eq he
    simp only [Bool.and_eq_true, decide_eq_true_eq] at h
    obtain ⟨⟨⟨⟨rfl, h1⟩, h3⟩, h4⟩, h2⟩ := h
    split at h2
    · rename_i y t hy
      obtain ⟨py, rfl⟩ := asName_eq hy
      simp only [Bool.and_eq_true, decide_eq_true_eq] at h2
      obtain ⟨⟨g1, rfl⟩, g3⟩ := h2
      have ht : isClsN t = false := by unfold tyB at g1; simpa using g1
      exact both (de_isi (C.gl h1) (C.bn _ (by decide)) (C.gl g3) (C.bn _ (tyStr_ok g1)) ht (sE c C tk hb L h4).1 (star1 h3) rfl rfl) rfl
    · cases h2
  | .get1 a kk, X, S, e, B, W, C, tk, hb, L, h => by
    simp only [chkE] at h
    simp only [fnsE, glsE] at L
    split at h <;> (try (cases h; done))
    rename_i o m x b he
    obtain ⟨ap, cp, rfl, rfl⟩ := asMeth_eq he
    simp only [Bool.and_eq_true, decide_eq_true_eq] at h
    obtain ⟨⟨⟨⟨⟨h2, rfl⟩, h1⟩, h3⟩, h4⟩, h5⟩ := h
    exact both (de_get1 C.un (sE a C tk hb L.l h4).1 (sE kk C tk hb L.r h5).1 ⟨base_of h1, few_of (by simp [h3]) (by simp), h2, by rw [star1 h3]; rfl⟩) rfl
  | .get2 a kk d, X, S, e, B, W, C, tk, hb, L, h => by
    simp only [chkE] at h
    simp only [fnsE, glsE] at L
    split at h <;> (try (cases h; done))
    rename_i o m x y b he
    obtain ⟨ap, cp, rfl, rfl⟩ := asMeth_eq he
    simp only [Bool.and_eq_true, decide_eq_true_eq] at h
    obtain ⟨⟨⟨⟨⟨⟨⟨h2, rfl⟩, h1⟩, h3⟩, h6⟩, h4⟩, h5⟩, h7⟩ := h
    exact both (de_get2 C.un (sE a C tk hb L.l.l h4).1 (sE kk C tk hb L.l.r h5).1 (sE d C tk hb L.r h7).1 ⟨base_of h1, few_of (by simp [h3, h6]) (by simp), h2, by rw [star1 h3, star1 h6]; rfl⟩) rfl
  | .mm m i es, X, S, e, B, W, C, tk, hb, L, h => by
    simp only [chkE] at h
    simp only [fnsE, glsE] at L
    split at h <;> (try (cases h; done))
    rename_i o y xs b he
    obtain ⟨ap, cp, rfl, rfl⟩ := asMeth_eq he
    simp only [Bool.and_eq_true, decide_eq_true_eq] at h
    obtain ⟨⟨⟨⟨⟨⟨h5, h1⟩, rfl⟩, h6⟩, h7⟩, h2⟩, h8⟩ := h
    split at h2 <;> (try (cases h2; done))
    rename_i x hx
    obtain ⟨px, rfl⟩ := asName_eq hx
    simp only [Bool.and_eq_true, decide_eq_true_eq] at h2
    obtain ⟨⟨h2, h3⟩, h4⟩ := h2
    have hA := sEs es C tk hb L h8
    cases es with
    | nil =>
      cases xs with
      | cons _ _ => exact hA.elim
      | nil =>
        have h7 : m = .pop := by simpa using h7
        subst h7
        exact both (de_pop0 (C.var h2 h3 h4) rfl h5) rfl
    | cons c cs =>
      cases xs with
      | nil => exact hA.elim
      | cons z xs =>
        obtain ⟨d1, d2, d3⟩ := hA.da
        have d2' := d2
        rw [List.all_cons, Bool.and_eq_true] at d2
        exact both (de_mm (x := x) h1 (C.var h2 h3 h4) d1 rfl (few_of d2' (by simp only [List.length_cons] at d3 h6; omega)) h5 (star1 d2.1) (star_any d2.2)) rfl
  | .sub a i, X, S, e, B, W, C, tk, hb, L, h => by
    simp only [chkE] at h
    simp only [fnsE, glsE] at L
    split at h <;> (try (cases h; done))
    rename_i ea ei he
    obtain ⟨p, rfl⟩ := asSub_eq he
    simp only [Bool.and_eq_true] at h
    obtain ⟨⟨h1, h2⟩, h3⟩ := h
    exact both (de_sub C.un (sE a C tk hb L.l h2).1 (sE i C tk hb L.r h3).1 (plainIx_of h1)) rfl
  | .sl a lo hi, X, S, e, B, W, C, tk, hb, L, h => by
    simp only [chkE] at h
    simp only [fnsE, glsE] at L
    split at h <;> (try (cases h; done))
    rename_i ea ei he
    obtain ⟨p, rfl⟩ := asSub_eq he
    simp only [Bool.and_eq_true] at h
    obtain ⟨h1, h2⟩ := h
    split at h1 <;> (try (cases h1; done))
    rename_i l u hs
    obtain ⟨p2, rfl⟩ := asSlc_eq hs
    simp only [Bool.and_eq_true] at h1
    exact both (de_slice (sE a C tk hb L.l.l h2).1 (sO lo C tk hb L.l.r h1.1) (sO hi C tk hb L.r h1.2)) rfl
  | .rev a, X, S, e, B, W, C, tk, hb, L, h => by
    simp only [chkE] at h
    simp only [fnsE, glsE] at L
    split at h <;> (try (cases h; done))
    rename_i ea ei he
    obtain ⟨p, rfl⟩ := asSub_eq he
    simp only [Bool.and_eq_true] at h
    obtain ⟨kk, p1, p2, p3, rfl⟩ := asRev_eq h.1
    exact both (de_rev (sE a C tk hb L h.2).1) rfl
  | .lc ce t it own c, X, S, e, B, W, C, tk, hb, L, h => by
    simp only [chkE] at h
    simp only [fnsE, glsE] at L
    split at h <;> (try (cases h; done))
    rename_i ee tg iter ifs sc he
    obtain ⟨p, rfl⟩ := asLc_eq he
    simp only [Bool.and_eq_true] at h
    obtain ⟨⟨⟨⟨⟨⟨⟨h1, h2⟩, h3⟩, h4⟩, h5⟩, h6⟩, h7⟩, h8⟩ := h
    have hI := sI it (tg := tg) C tk hb L.l.l h5
    have := de_lc (X := X) (B := B) (W := W) (own := ownN N own) (ci := it) (t := t) (c := c) (ce := ce) (pos := p) C.calm C.nd (by rw [ownN_snd, hb]; simpa using h2) (by rw [ownN_snd]; simpa using h3) hI (by rw [C.N, C.sc]; exact blkOk_by h1)
      (fun s H A cl fp B' e => sT (B := B') (C.blk s H sc A cl fp) (e.trans hb) (fun _ h => h) h6) (fun s H A cl fp B' e => sC c (B := B') (C.blk s H sc A cl fp) takes_noW (e.trans hb) (L.l.r.blk _ _ _ _ _) h7)
      (fun s H A cl fp B' e => (sE ce (B := B') (C.blk s H sc A cl fp) takes_noW (e.trans hb) (L.r.blk _ _ _ _ _) h8).1) (fold_of h4)
    rw [ownN_snd] at this
    exact both this rfl
  | .dc ck ce t it own c, X, S, e, B, W, C, tk, hb, L, h => by
    simp only [chkE] at h
    simp only [fnsE, glsE] at L
    split at h <;> (try (cases h; done))
    rename_i ke ee tg iter ifs sc he
    obtain ⟨p, rfl⟩ := asDc_eq he
    simp only [Bool.and_eq_true] at h
    obtain ⟨⟨⟨⟨⟨⟨⟨⟨h1, h2⟩, h3⟩, h4⟩, h5⟩, h6⟩, h7⟩, h9⟩, h8⟩ := h
    have hI := sI it (tg := tg) C tk hb L.l.l.l h5
    have := de_dc (X := X) (B := B) (W := W) (own := ownN N own) (ci := it) (t := t) (c := c) (ck := ck) (ce := ce) (pos := p) C.calm C.nd (by rw [ownN_snd, hb]; simpa using h2) (by rw [ownN_snd]; simpa using h3) hI (by rw [C.N, C.sc]; exact blkOk_by h1)
      (fun s H A cl fp B' e => sT (B := B') (C.blk s H sc A cl fp) (e.trans hb) (fun _ h => h) h6) (fun s H A cl fp B' e => sC c (B := B') (C.blk s H sc A cl fp) takes_noW (e.trans hb) (L.l.l.r.blk _ _ _ _ _) h7)
      (fun s H A cl fp B' e => (sE ck (B := B') (C.blk s H sc A cl fp) takes_noW (e.trans hb) (L.l.r.blk _ _ _ _ _) h9).1) (fun s H A cl fp B' e => (sE ce (B := B') (C.blk s H sc A cl fp) takes_noW (e.trans hb) (L.r.blk _ _ _ _ _) h8).1) (fold_of h4)
    rw [ownN_snd] at this
    exact both this rfl
  | .dyn Fs f es, X, S, e, B, W, C, tk, hb, L, h => by
    simp only [chkE] at h
    split at h <;> (try (cases h; done))
    rename_i fe xs he
    obtain ⟨sa, si, sp, q, rfl, rfl⟩ := asCallD_eq he
    simp only [Bool.and_eq_true] at h
    obtain ⟨⟨h1, h4⟩, h5⟩ := h
    simp only [fnsE, glsE] at L
    have hf := (sE f C tk hb ⟨fun F hF => L.fn F (List.mem_append_left _ (List.mem_append_right _ hF)), fun g hg => L.gl g (List.mem_append_left _ hg)⟩ h1).1
    have hA := sEs es C tk hb ⟨fun F hF => L.fn F (List.mem_append_right _ hF), fun g hg => L.gl g (List.mem_append_right _ hg)⟩ h5
    cases es with
    | nil => exact Bool.noConfusion h4
    | cons c cs =>
      cases xs with
      | nil => exact hA.elim
      | cons x xs =>
        obtain ⟨d1, d2, d3⟩ := hA.da
        rw [List.all_cons, Bool.and_eq_true] at d2
        exact both (de_dyn (fun F hF => L.fn F (List.mem_append_left _ (List.mem_append_left _ hF))) C.room tk hf d1 rfl (star1 d2.1) (star_any d2.2)) rfl
  | .biI b it, X, S, e, B, W, C, tk, hb, L, h => by
    simp only [chkE] at h
    simp only [fnsE, glsE] at L
    split at h <;> (try (cases h; done))
    rename_i x e1 he
    obtain ⟨p, q, rfl⟩ := asCallN_eq he
    split at h <;> (try (cases h; done))
    · rename_i y ea a he1
      obtain ⟨p1, q1, rfl⟩ := asCallN_eq he1
      simp only [Bool.and_eq_true, decide_eq_true_eq] at h
      obtain ⟨⟨⟨⟨⟨⟨h1, rfl⟩, h2⟩, rfl⟩, h3⟩, h4⟩, h5⟩ := h
      simp only [fnsI, glsI] at L
      have ha := (sE a C tk hb L h5).1
      cases b <;> (try (cases h1; done))
      · exact both (de_listR1 C.calm (C.gl h2) (C.bn _ (by decide)) (C.gl h3) (C.bn _ (by decide)) ha (star1 h4)) rfl
      · exact both (de_tupR1 C.calm (C.gl h2) (C.bn _ (by decide)) (C.gl h3) (C.bn _ (by decide)) ha (star1 h4)) rfl
    · rename_i y ea eb a c he1
      obtain ⟨p1, q1, rfl⟩ := asCallN_eq he1
      simp only [Bool.and_eq_true, decide_eq_true_eq] at h
      obtain ⟨⟨⟨⟨⟨⟨⟨⟨h1, rfl⟩, h2⟩, rfl⟩, h3⟩, h4⟩, h6⟩, h5⟩, h7⟩ := h
      simp only [fnsI, glsI] at L
      have ha := (sE a C tk hb L.l h5).1
      have hbb := (sE c C tk hb L.r h7).1
      cases b <;> (try (cases h1; done))
      · exact both (de_listR2 C.calm (C.gl h2) (C.bn _ (by decide)) (C.gl h3) (C.bn _ (by decide)) ha hbb (star1 h4) (star1 h6) (fun _ => star_any (by simp [h6]))) rfl
      · exact both (de_tupR2 C.calm (C.gl h2) (C.bn _ (by decide)) (C.gl h3) (C.bn _ (by decide)) ha hbb (star1 h4) (star1 h6) (fun _ => star_any (by simp [h6]))) rfl
    · rename_i y ea a he1
      obtain ⟨p1, q1, rfl⟩ := asCallN_eq he1
      simp only [Bool.and_eq_true, decide_eq_true_eq] at h
      obtain ⟨⟨⟨⟨⟨⟨rfl, rfl⟩, h2⟩, rfl⟩, h3⟩, h4⟩, h5⟩ := h
      simp only [fnsI, glsI] at L
      exact both (de_listRev C.calm (C.gl h2) (C.bn _ (by decide)) (C.gl h3) (C.bn _ (by decide)) (sE a C tk hb L h5).1 (star1 h4)) rfl
  | .lc2 _ _ _ _ _ _ _ _ _, X, S, e, B, W, C, tk, hb, L, h => by simp only [chkE] at h; cases h
  | .fstr _, X, S, e, B, W, C, tk, hb, L, h => by simp only [chkE] at h; cases h
theorem sEs : ∀ (cs : List CE) {X : Cx} {S : Scope} {es : List Expr} {B : Bs} {W : WX}, Ctx X S N k → L2N.Takes X W → B.nin = nin → Leans X k (fnsEs cs) (glsEs cs) → chkEs N nin cs S es = true → AllD X B W cs es
  | [], X, S, es, B, W, C, tk, hb, L, h => by
    simp only [chkEs] at h
    cases es with
    | nil => exact trivial
    | cons _ _ => cases h
  | c :: cs, X, S, es, B, W, C, tk, hb, L, h => by
    simp only [chkEs] at h
    cases es with
    | nil => cases h
    | cons e es =>
      simp only [Bool.and_eq_true] at h
      obtain ⟨⟨h1, h2⟩, h3⟩ := h
      simp only [fnsEs, glsEs] at L
      obtain ⟨a, b⟩ := sE c C tk hb L.l h2
      exact ⟨⟨h1, a, b⟩, sEs cs C tk hb L.r h3⟩
theorem sKV : ∀ (cs : List CE) {X : Cx} {S : Scope} {ks : List (Option Expr)} {vs : List Expr} {B : Bs} {W : WX} {pos : Pos}, Ctx X S N k → L2N.Takes X W → B.nin = nin → Leans X k (fnsEs cs) (glsEs cs) → chkKV N nin cs S ks vs = true → DP X B W pos ks vs cs
  | [], X, S, ks, vs, B, W, pos, C, tk, hb, L, h => by
    simp only [chkKV, Bool.and_eq_true, List.isEmpty_iff] at h
    obtain ⟨rfl, rfl⟩ := h
    exact .nil
  | [_], X, S, ks, vs, B, W, pos, C, tk, hb, L, h => by simp only [chkKV] at h; cases h
  | a :: b :: cs, X, S, ks, vs, B, W, pos, C, tk, hb, L, h => by
    simp only [chkKV] at h
    split at h
    · simp only [Bool.and_eq_true] at h
      obtain ⟨⟨h1, h2⟩, h3⟩ := h
      simp only [fnsEs, glsEs] at L
      exact .cons (sE a C tk hb L.l h1).1 (sE b C tk hb L.r.l h2).1 (sKV cs C tk hb L.r.r h3)
    · cases h
theorem sC : ∀ (c : Option CE) {X : Cx} {S : Scope} {ifs : List Expr} {B : Bs} {W : WX}, Ctx X S N k → L2N.Takes X W → B.nin = nin → Leans X k (fnsO c) (glsO c) → chkC N nin c S ifs = true → DTs X B W ifs c
  | none, X, S, ifs, B, W, C, tk, hb, L, h => by
    simp only [chkC, List.isEmpty_iff] at h
    subst h
    exact dts_nil
  | some c, X, S, ifs, B, W, C, tk, hb, L, h => by
    simp only [chkC] at h
    split at h
    · simp only [fnsO, glsO] at L
      exact dts_one (sE c C tk hb L h).2
    · cases h
theorem sO : ∀ (c : Option CE) {X : Cx} {S : Scope} {e : Option Expr} {B : Bs} {W : WX}, Ctx X S N k → L2N.Takes X W → B.nin = nin → Leans X k (fnsO c) (glsO c) → chkO N nin c S e = true → DO X B W e (evO c)
  | none, X, S, e, B, W, C, tk, hb, L, h => by
    simp only [chkO, Option.isNone_iff_eq_none] at h
    subst h
    exact do_none
  | some c, X, S, e, B, W, C, tk, hb, L, h => by
    simp only [chkO] at h
    split at h
    · simp only [fnsO, glsO] at L
      exact do_some (sE c C tk hb L h).1
    · cases h
theorem sI : ∀ (ci : CI) {X : Cx} {S : Scope} {tg e : Expr} {B : Bs} {W : WX}, Ctx X S N k → L2N.Takes X W → B.nin = nin → Leans X k (fnsI ci) (glsI ci) → chkI N nin ci S tg e = true → DI X B W tg e (evI ci)
  | .e c, X, S, tg, e, B, W, C, tk, hb, L, h => by
    simp only [chkI] at h
    simp only [fnsI, glsI] at L
    exact di_e (sE c C tk hb L h).1
  | .range1 a, X, S, tg, e, B, W, C, tk, hb, L, h => by
    simp only [chkI] at h
    simp only [fnsI, glsI] at L
    split at h <;> (try (cases h; done))
    rename_i x ea he
    obtain ⟨p, q, rfl⟩ := asCallN_eq he
    simp only [Bool.and_eq_true, decide_eq_true_eq] at h
    obtain ⟨⟨⟨rfl, h1⟩, h2⟩, h3⟩ := h
    exact di_range1 (C.gl h1) (C.bn _ (by decide)) (sE a C tk hb L h3).1 (star1 h2)
  | .range2 a b, X, S, tg, e, B, W, C, tk, hb, L, h => by
    simp only [chkI] at h
    simp only [fnsI, glsI] at L
    split at h <;> (try (cases h; done))
    rename_i x ea eb he
    obtain ⟨p, q, rfl⟩ := asCallN_eq he
    simp only [Bool.and_eq_true, decide_eq_true_eq] at h
    obtain ⟨⟨⟨⟨⟨rfl, h1⟩, h2⟩, h3⟩, h4⟩, h5⟩ := h
    exact di_range2 (C.gl h1) (C.bn _ (by decide)) (sE a C tk hb L.l h4).1 (sE b C tk hb L.r h5).1 (by rw [star1 h2, star1 h3]; rfl) (star1 h3)
  | .enum a, X, S, tg, e, B, W, C, tk, hb, L, h => by
    simp only [chkI] at h
    simp only [fnsI, glsI] at L
    split at h <;> (try (cases h; done))
    rename_i x ea he
    obtain ⟨p, q, rfl⟩ := asCallN_eq he
    simp only [Bool.and_eq_true, decide_eq_true_eq] at h
    obtain ⟨⟨⟨⟨ht, rfl⟩, h1⟩, h2⟩, h3⟩ := h
    obtain ⟨xs, kk, pp, rfl⟩ := isTup_eq ht
    exact di_enum (C.gl h1) (C.bn _ (by decide)) (sE a C tk hb L h3).1 (star1 h2)
  | .zip a b, X, S, tg, e, B, W, C, tk, hb, L, h => by
    simp only [chkI] at h
    simp only [fnsI, glsI] at L
    split at h <;> (try (cases h; done))
    rename_i x ea eb he
    obtain ⟨p, q, rfl⟩ := asCallN_eq he
    simp only [Bool.and_eq_true, decide_eq_true_eq] at h
    obtain ⟨⟨⟨⟨⟨⟨ht, rfl⟩, h1⟩, h2⟩, h3⟩, h4⟩, h5⟩ := h
    obtain ⟨xs, kk, pp, rfl⟩ := isTup_eq ht
    exact di_zip (C.gl h1) (C.bn _ (by decide)) (sE a C tk hb L.l h4).1 (sE b C tk hb L.r h5).1 (star1 h2) (star1 h3) (star_any (by simp [h3]))
  | .reversed a, X, S, tg, e, B, W, C, tk, hb, L, h => by
    simp only [chkI] at h
    simp only [fnsI, glsI] at L
    split at h <;> (try (cases h; done))
    rename_i x ea he
    obtain ⟨p, q, rfl⟩ := asCallN_eq he
    simp only [Bool.and_eq_true, decide_eq_true_eq] at h
    obtain ⟨⟨⟨rfl, h1⟩, h2⟩, h3⟩ := h
    exact di_reversed (C.gl h1) (C.bn _ (by decide)) (sE a C tk hb L h3).1 (star1 h2)
  | .range3 _ _ _, X, S, tg, e, B, W, C, tk, hb, L, h => by simp only [chkI] at h; cases h
  | .items a, X, S, tg, e, B, W, C, tk, hb, L, h => by
    simp only [chkI] at h
    simp only [fnsI, glsI] at L
    split at h <;> (try (cases h; done))
    rename_i o m b he
    obtain ⟨ap, cp, rfl, rfl⟩ := asMeth_eq he
    simp only [Bool.and_eq_true, decide_eq_true_eq] at h
    obtain ⟨⟨⟨⟨ht, h2⟩, rfl⟩, h1⟩, h3⟩ := h
    obtain ⟨xs, kk, pp, rfl⟩ := isTup_eq ht
    exact di_items (sE a C tk hb L h3).1 (base_of h1) h2
  | .values a, X, S, tg, e, B, W, C, tk, hb, L, h => by
    simp only [chkI] at h
    simp only [fnsI, glsI] at L
    split at h <;> (try (cases h; done))
    rename_i o m b he
    obtain ⟨ap, cp, rfl, rfl⟩ := asMeth_eq he
    simp only [Bool.and_eq_true, decide_eq_true_eq] at h
    obtain ⟨⟨⟨h2, rfl⟩, h1⟩, h3⟩ := h
    exact di_values (sE a C tk hb L h3).1 (base_of h1) h2
end
end M
end
section
set_option linter.all false
set_option maxRecDepth 100000
set_option maxHeartbeats 8000000
/-! MChk4: statements checked. -/
namespace M
open PySem L2 PyProof.Rows
def asAsg : Stmt → Option (Expr × Expr × Pos)
  | .Assign [t] e p => some (t, e, p)
  | _ => none
def asNameP : Expr → Option (Str × Pos)
  | .Name x p => some (x, p)
  | _ => none
def asNames : List Expr → Option (List (Str × Pos))
  | [] => some []
  | .Name x p :: es => (asNames es).map ((x, p) :: ·)
  | _ => none
def asAug : Stmt → Option (Str × Operator × Expr)
  | .AugAssign (.Name x _) op e _ => some (x, op, e)
  | _ => none
def asEx : Stmt → Option (Expr × Pos)
  | .Expr e p => some (e, p)
  | _ => none
def asRet : Stmt → Option (Option Expr)
  | .Return e _ => some e
  | _ => none
def asIfS : Stmt → Option (Expr × List Stmt × List Stmt)
  | .If c a b _ => some (c, a, b)
  | _ => none
def asFor : Stmt → Option (Expr × Expr × List Stmt)
  | .For t i b [] _ => some (t, i, b)
  | _ => none
def asWhile : Stmt → Option (Expr × List Stmt)
  | .While c b [] _ => some (c, b)
  | _ => none
def asRaise : Stmt → Option Str
  | .Raise (some (.Call (.Name x _) [.Constant (.str _) _ _] [] _)) none _ => some x
  | _ => none
def asBrk : Stmt → Bool
  | .Break _ => true
  | _ => false
def asCont : Stmt → Bool
  | .Continue _ => true
  | _ => false
def asPass : Stmt → Bool
  | .Pass _ => true
  | _ => false
/-- the scope of a comprehension that is a whole value -/
def compScope : Expr → Option Scope
  | .ListComp _ _ s _ => some s
  | .SetComp _ _ s _ => some s
  | .DictComp _ _ _ s _ => some s
  | _ => none
/-- are the stores exchanged (a comprehension that is stored in a name) -/
def swapB (e : Expr) (t : Str) (p : Pos) : Bool := match compScope e with
  | none => false
  | some s => p.line == e.pos.line && !(s.names.any fun (n, k) => n == t && (k == .local || k == .cell))
def notTupE : Expr → Bool
  | .Tuple _ _ _ => false
  | _ => true
/-- two or three names stored at once, from the right -/
def parOk (S : Scope) (ns : List (Str × Pos)) (vs : List Expr) : Bool :=
  (ns.length == 2 || ns.length == 3) && ns.length == vs.length && vs.all notStar && ns.all (fun n => isLoc S n.1) && ns.all (fun n => n.2.line == (ns.head?.map (·.2.line)).getD 0) &&
    decide ((ns.map (·.1)).eraseDups.length = ns.length) && !(vs.all (foldedForSure 8)) && !(vs.all (constantsAlone 8))
/-- names stored in their order -/
def parPlain (S : Scope) (ns : List (Str × Pos)) (vs : List Expr) : Bool :=
  decide (ns.length ≤ 20) && ns.length == vs.length && vs.all notStar && ns.all (fun n => isLoc S n.1 || isCell S n.1) && (!(ns.length == 2 || ns.length == 3) || ns.any (fun n => isCell S n.1) || vs.all (foldedForSure 8))
def swapNone (S : Scope) : Expr → Expr → Bool
  | .Tuple _ _ _, .Tuple vs _ _ => vs.all (foldedForSure 8)
  | .List _ _, _ => false
  | _, _ => true
mutual
def chkS (N : List Str) (nin : Nat) : CS → Scope → Stmt → Bool
  | .asg i c, S, st => match asAsg st with
    | some (t, e, _) => (match asNameP t with
      | some (x, p) => decide (N[i]? = some x) && decide (nin ≤ i) && (isCell S x || (isLoc S x && (!swapB e x p || (asLc e).isSome))) && chkE N nin c S e
      | none => false)
    | none => false
  | .asgT t c, S, st => match asAsg st with
    | some (tg, e, _) => notStar tg && isTup tg && swapNone S tg e && chkT S N nin (fun _ => true) t tg && chkE N nin c S e
    | none => false
  | .par is cs, S, st => match asAsg st with
    | some (t, e, _) => (match asTup t, asTup e with
      | some ts, some vs => (match asNames ts with
        | some ns => (parOk S ns vs || parPlain S ns vs) && decide (ns.map (fun n => some n.1) = is.map (fun i => N[i]?)) && is.all (fun i => decide (nin ≤ i)) && chkEs N nin cs S vs
        | none => false)
      | _, _ => false)
    | none => false
  | .aug i op c, S, st => match asAug st with
    | some (x, o, e) => decide (o = bop op) && decide (N[i]? = some x) && decide (nin ≤ i) && (isLoc S x || isCell S x) && chkE N nin c S e
    | none => false
  | .ex c, S, st => match asEx st with
    | some (e, _) => notComp e && chkE N nin c S e
    | none => false
  | .ret c, S, st => match asRet st with
    | some (some e) => chkE N nin c S e
    | _ => false
  | .retN, S, st => match asRet st with
    | some none => true
    | _ => false
  | .ite c a b, S, st => match asIfS st with
    | some (e, sa, sb) => chkE N nin c S e && chkSs N nin a S sa && chkSs N nin b S sb
    | none => false
  | .forr t ci b, S, st => match asFor st with
    | some (tg, it, sb) => notSet it && chkT S N nin (fun _ => true) t tg && chkI N nin ci S tg it && chkSs N nin b S sb
    | none => false
  | .whil c b, S, st => match asWhile st with
    | some (e, sb) => chkE N nin c S e && chkSs N nin b S sb
    | none => false
  | .brk, S, st => asBrk st
  | .cont, S, st => asCont st
  | .pass, S, st => asPass st
  | .raise c, S, st => match asRaise st with
    | some x => decide (c = x) && isGl S x && plainName x
    | none => false
  | .setIx i k c, S, st => match asAsg st with
    | some (t, e, _) => (match asSub t with
      | some (o, ei) => (match asName o with
        | some x => decide (N[i]? = some x) && isVis S x && plainName x && notSlice ei && chkE N nin k S ei && chkE N nin c S e
        | none => false)
      | none => false)
    | none => false
  | .augIx _ _ _ _, _, _ => false
  | .delIx _ _, _, _ => false
def chkSs (N : List Str) (nin : Nat) : List CS → Scope → List Stmt → Bool
  | [], _, ss => ss.isEmpty
  | c :: cs, S, ss => match ss with
    | [] => false
    | s :: ss => chkS N nin c S s && chkSs N nin cs S ss
end
mutual
def fnsS : CS → List FnE
  | .asg _ e => fnsE e | .asgT _ e => fnsE e | .par _ es => fnsEs es | .aug _ _ e => fnsE e | .ex e => fnsE e | .ret e => fnsE e | .retN => [] | .ite c a b => fnsE c ++ fnsSs a ++ fnsSs b
  | .forr _ it b => fnsI it ++ fnsSs b | .whil c b => fnsE c ++ fnsSs b | .brk => [] | .cont => [] | .pass => [] | .raise _ => [] | .setIx _ k e => fnsE k ++ fnsE e | .augIx _ k _ e => fnsE k ++ fnsE e | .delIx _ k => fnsE k
def fnsSs : List CS → List FnE
  | [] => []
  | s :: ss => fnsS s ++ fnsSs ss
end
mutual
def glsS : CS → List (Str × D)
  | .asg _ e => glsE e | .asgT _ e => glsE e | .par _ es => glsEs es | .aug _ _ e => glsE e | .ex e => glsE e | .ret e => glsE e | .retN => [] | .ite c a b => glsE c ++ glsSs a ++ glsSs b
  | .forr _ it b => glsI it ++ glsSs b | .whil c b => glsE c ++ glsSs b | .brk => [] | .cont => [] | .pass => [] | .raise _ => [] | .setIx _ k e => glsE k ++ glsE e | .augIx _ k _ e => glsE k ++ glsE e | .delIx _ k => glsE k
def glsSs : List CS → List (Str × D)
  | [] => []
  | s :: ss => glsS s ++ glsSs ss
end
mutual
def rsS : CS → List Str
  | .ite _ a b => rsSs a ++ rsSs b | .forr _ _ b => rsSs b | .whil _ b => rsSs b | .raise c => [c]
  | .asg _ _ => [] | .asgT _ _ => [] | .par _ _ => [] | .aug _ _ _ => [] | .ex _ => [] | .ret _ => [] | .retN => [] | .brk => [] | .cont => [] | .pass => [] | .setIx _ _ _ => [] | .augIx _ _ _ _ => [] | .delIx _ _ => []
def rsSs : List CS → List Str
  | [] => []
  | s :: ss => rsS s ++ rsSs ss
end
end M
end
section
set_option linter.all false
set_option maxRecDepth 100000
set_option maxHeartbeats 8000000
/-! MChk5: facts on stores. -/
namespace M
open PySem L2 PyProof.Rows
theorem asAsg_eq {st : Stmt} {t e : Expr} {p : Pos} (h : asAsg st = some (t, e, p)) : st = .Assign [t] e p := by
  unfold asAsg at h; split at h <;> cases h; rfl
theorem asNameP_eq {e : Expr} {x : Str} {p : Pos} (h : asNameP e = some (x, p)) : e = .Name x p := by
  unfold asNameP at h; split at h <;> cases h; rfl
theorem asNames_eq : ∀ {es : List Expr} {ns : List (Str × Pos)}, asNames es = some ns → es = ns.map fun n => .Name n.1 n.2
  | [], ns, h => by simp only [asNames] at h; cases h; rfl
  | e :: es, ns, h => by
    unfold asNames at h
    split at h
    · cases ‹_ :: _ = []›
    · rename_i x p es' heq
      cases heq
      rw [Option.map_eq_some_iff] at h
      obtain ⟨r, hr, rfl⟩ := h
      rw [asNames_eq hr]; rfl
    · cases h
theorem asAug_eq {st : Stmt} {x : Str} {o : Operator} {e : Expr} (h : asAug st = some (x, o, e)) : ∃ p q, st = .AugAssign (.Name x p) o e q := by
  unfold asAug at h; split at h <;> cases h; exact ⟨_, _, rfl⟩
theorem asEx_eq {st : Stmt} {e : Expr} {p : Pos} (h : asEx st = some (e, p)) : st = .Expr e p := by
  unfold asEx at h; split at h <;> cases h; rfl
theorem asRet_eq {st : Stmt} {e : Option Expr} (h : asRet st = some e) : ∃ p, st = .Return e p := by
  unfold asRet at h; split at h <;> cases h; exact ⟨_, rfl⟩
theorem asIfS_eq {st : Stmt} {c : Expr} {a b : List Stmt} (h : asIfS st = some (c, a, b)) : ∃ p, st = .If c a b p := by
  unfold asIfS at h; split at h <;> cases h; exact ⟨_, rfl⟩
theorem asFor_eq {st : Stmt} {t i : Expr} {b : List Stmt} (h : asFor st = some (t, i, b)) : ∃ p, st = .For t i b [] p := by
  unfold asFor at h; split at h <;> cases h; exact ⟨_, rfl⟩
theorem asWhile_eq {st : Stmt} {c : Expr} {b : List Stmt} (h : asWhile st = some (c, b)) : ∃ p, st = .While c b [] p := by
  unfold asWhile at h; split at h <;> cases h; exact ⟨_, rfl⟩
theorem asRaise_eq {st : Stmt} {x : Str} (h : asRaise st = some x) : ∃ p1 m j p2 p3 p4, st = .Raise (some (.Call (.Name x p1) [.Constant (.str m) j p2] [] p3)) none p4 := by
  unfold asRaise at h; split at h <;> cases h; exact ⟨_, _, _, _, _, _, rfl⟩
theorem bk_of {env : PySem.Env} (h : env.scope.kind = .function) : env.blockKind = .function := by
  unfold Env.blockKind
  rw [h]; rfl
theorem swap_name {e : Expr} {x : Str} {p : Pos} {l : Nat} {env : PySem.Env} (h : env.scope.kind = .function) (hl : env.kindOf x = some .local) : swapsWith e (some (.Name x p)) l env = pure (swapB e x p) := by
  have hb := bk_of h
  have key : ∀ (s : Scope) (ep : Pos), (pure (env.blockKind == .function && env.kindOf x == some .local && p.line == ep.line && !(s.names.any fun (n, k) => n == x && (k == .local || k == .cell))) : Sem Bool) = pure (p.line == ep.line && !(s.names.any fun (n, k) => n == x && (k == .local || k == .cell))) := by
    intro s ep
    rw [hb, hl]; rfl
  cases e <;> first
    | rfl
    | exact key _ _
theorem swap_other {e t : Expr} {l : Nat} {env : PySem.Env} (h : asNameP t = none) : swapsWith e (some t) l env = pure false := by
  cases e <;> first
    | rfl
    | (cases t <;> first
        | rfl
        | (simp [asNameP] at h; done))
theorem stores_fold {ts vs : List Expr} {k k2 : Nat} {p p2 : Pos} {env : PySem.Env} (h : vs.all (foldedForSure 8) = true) : swappedStores [.Tuple ts k p] (.Tuple vs k2 p2) env = pure none := by
  unfold swappedStores
  simp only [h]
  repeat' split
  all_goals first
    | rfl
    | contradiction
    | simp_all
theorem stores_none {S : Scope} {t e : Expr} {env : PySem.Env} (ht : isTup t = true) (h : swapNone S t e = true) : swappedStores [t] e env = pure none := by
  obtain ⟨ts, k, p, rfl⟩ := isTup_eq ht
  cases e <;> first
    | rfl
    | (simp only [swapNone] at h; exact stores_fold h)
theorem stores_sub {o i e : Expr} {p : Pos} {env : PySem.Env} : swappedStores [.Subscript o i p] e env = pure none := by
  cases e <;> rfl
end M
end
section
set_option linter.all false
set_option maxRecDepth 100000
set_option maxHeartbeats 8000000
/-! MChk6: statements sound. -/
namespace M
open PySem L2 PyProof.Rows
theorem any_star : ∀ {vs : List Expr}, vs.all notStar = true → (vs.any fun | .Starred .. => true | _ => false) = false
  | [], _ => rfl
  | e :: es, h => by
    rw [List.all_cons, Bool.and_eq_true] at h
    rw [List.any_cons, any_star h.2]
    cases e <;> first
      | rfl
      | (simp [notStar] at h; done)
theorem stores_par2 {S : Scope} {x y : Str} {px py pt p2 : Pos} {a b : Expr} {kt k2 : Nat} {env : PySem.Env} (h : parOk S [(x, px), (y, py)] [a, b] = true) (hk : env.scope.kind = .function) (hs : env.scope = S) :
    swappedStores [.Tuple [.Name x px, .Name y py] kt pt] (.Tuple [a, b] k2 p2) env = pure (some [x, y]) := by
  have hb := bk_of hk
  have hx : env.kindOf x = some .local ∧ env.kindOf y = some .local := by
    simp only [parOk, Bool.and_eq_true, List.all_cons, List.all_nil, isLoc, decide_eq_true_eq] at h
    obtain ⟨⟨⟨⟨⟨⟨⟨_, _⟩, _⟩, h⟩, _⟩, _⟩, _⟩, _⟩ := h
    unfold Env.kindOf
    rw [hs]
    exact ⟨h.1, h.2.1⟩
  unfold parOk at h
  simp only [Bool.and_eq_true, decide_eq_true_eq, Bool.not_eq_true'] at h
  obtain ⟨⟨⟨⟨⟨⟨⟨h1, h2⟩, h3⟩, h4⟩, h5⟩, h6⟩, h7⟩, h8⟩ := h
  have ln : (px.line == px.line) = true ∧ (py.line == px.line) = true := by
    simp only [List.all_cons, List.all_nil, Bool.and_true, Bool.and_eq_true, List.head?_cons, Option.map_some, Option.getD_some] at h5
    exact h5
  have nm : ([Expr.Name x px, Expr.Name y py].filterMap fun | .Name id pos => if env.kindOf id == some .local && pos.line == px.line then some id else none | _ => none) = [x, y] := by
    rw [List.filterMap_cons_some (b := x) (by simp only [hx.1]; rw [ln.1]; rfl)]
    rw [List.filterMap_cons_some (b := y) (by simp only [hx.2]; rw [ln.2]; rfl)]
    rfl
  unfold swappedStores
  simp only [List.head?_cons, Option.map_some, Option.getD_some, Expr.pos, List.length_cons, List.length_nil]
  refine (if_neg (by rw [hb]; decide)).trans ?_
  refine (if_neg (fun z => Bool.noConfusion ((any_star h3).symm.trans z))).trans ?_
  refine (if_neg (fun zz => ?_)).trans ?_
  · have z' : (([Expr.Name x px, Expr.Name y py].filterMap fun | .Name id pos => if env.kindOf id == some .local && pos.line == px.line then some id else none | _ => none).length != 0  + 1 + 1 || ([Expr.Name x px, Expr.Name y py].filterMap fun | .Name id pos => if env.kindOf id == some .local && pos.line == px.line then some id else none | _ => none).eraseDups.length != ([Expr.Name x px, Expr.Name y py].filterMap fun | .Name id pos => if env.kindOf id == some .local && pos.line == px.line then some id else none | _ => none).length) = true := zz
    rw [nm] at z'
    have h6 : [x, y].eraseDups.length = 2 := h6
    simp [h6] at z'
  refine (if_neg (by rw [h7]; decide)).trans ?_
  refine (if_neg (by rw [h8]; decide)).trans ?_
  exact congrArg (fun z => (pure (some z) : Sem (Option (List Str)))) nm
theorem stores_par3 {S : Scope} {x y z : Str} {px py pz pt p2 : Pos} {a b c : Expr} {kt k2 : Nat} {env : PySem.Env} (h : parOk S [(x, px), (y, py), (z, pz)] [a, b, c] = true) (hk : env.scope.kind = .function) (hs : env.scope = S) :
    swappedStores [.Tuple [.Name x px, .Name y py, .Name z pz] kt pt] (.Tuple [a, b, c] k2 p2) env = pure (some [x, y, z]) := by
  have hb := bk_of hk
  have hx : env.kindOf x = some .local ∧ env.kindOf y = some .local ∧ env.kindOf z = some .local := by
    simp only [parOk, Bool.and_eq_true, List.all_cons, List.all_nil, isLoc, decide_eq_true_eq] at h
    obtain ⟨⟨⟨⟨⟨⟨⟨_, _⟩, _⟩, h⟩, _⟩, _⟩, _⟩, _⟩ := h
    unfold Env.kindOf
    rw [hs]
    exact ⟨h.1, h.2.1, h.2.2.1⟩
  unfold parOk at h
  simp only [Bool.and_eq_true, decide_eq_true_eq, Bool.not_eq_true'] at h
  obtain ⟨⟨⟨⟨⟨⟨⟨h1, h2⟩, h3⟩, h4⟩, h5⟩, h6⟩, h7⟩, h8⟩ := h
  have ln : (px.line == px.line) = true ∧ (py.line == px.line) = true ∧ (pz.line == px.line) = true := by
    simp only [List.all_cons, List.all_nil, Bool.and_true, Bool.and_eq_true, List.head?_cons, Option.map_some, Option.getD_some] at h5
    exact h5
  have nm : ([Expr.Name x px, Expr.Name y py, Expr.Name z pz].filterMap fun | .Name id pos => if env.kindOf id == some .local && pos.line == px.line then some id else none | _ => none) = [x, y, z] := by
    rw [List.filterMap_cons_some (b := x) (by simp only [hx.1]; rw [ln.1]; rfl)]
    rw [List.filterMap_cons_some (b := y) (by simp only [hx.2.1]; rw [ln.2.1]; rfl)]
    rw [List.filterMap_cons_some (b := z) (by simp only [hx.2.2]; rw [ln.2.2]; rfl)]
    rfl
  unfold swappedStores
  simp only [List.head?_cons, Option.map_some, Option.getD_some, Expr.pos, List.length_cons, List.length_nil]
  refine (if_neg (by rw [hb]; decide)).trans ?_
  refine (if_neg (fun z => Bool.noConfusion ((any_star h3).symm.trans z))).trans ?_
  refine (if_neg (fun zz => ?_)).trans ?_
  · have z' : (([Expr.Name x px, Expr.Name y py, Expr.Name z pz].filterMap fun | .Name id pos => if env.kindOf id == some .local && pos.line == px.line then some id else none | _ => none).length != 0  + 1 + 1 + 1 || ([Expr.Name x px, Expr.Name y py, Expr.Name z pz].filterMap fun | .Name id pos => if env.kindOf id == some .local && pos.line == px.line then some id else none | _ => none).eraseDups.length != ([Expr.Name x px, Expr.Name y py, Expr.Name z pz].filterMap fun | .Name id pos => if env.kindOf id == some .local && pos.line == px.line then some id else none | _ => none).length) = true := zz
    rw [nm] at z'
    have h6 : [x, y, z].eraseDups.length = 3 := h6
    simp [h6] at z'
  refine (if_neg (by rw [h7]; decide)).trans ?_
  refine (if_neg (by rw [h8]; decide)).trans ?_
  exact congrArg (fun z => (pure (some z) : Sem (Option (List Str)))) nm

/-- exceptions of the text's own classes -/
def RaiseOk (K : PySem.W.Frag) (mg : Str → Option Value) (c : Str) : Prop := ∃ (C : Addr) (bmB : List Value) (B newId initId : String), ExcBaseFacts B newId initId bmB ∧ PySem.W.excIn K C bmB newId = true ∧ mg c = some (.ref C) ∧ PySem.W.keepIn K (.ref C) = true ∧
  PySem.W.subIn K (.ref C) (.type "BaseException") = some true ∧ PySem.W.typeIn K (.ref C) = some (.type "type")
variable {N : List Str} {k nin : Nat}
structure CtxS (X : Cx) (S : Scope) (N : List Str) (k : Nat) (W : WX) : Prop where
  c : Ctx X S N k
  tk : L2N.Takes X W
  hp : PassesOwn (model X.prog X.w) X.A X.env X.xe
  kd : S.kind = .function
  fn : ∀ x, X.fn x = true
theorem asgLc {X : Cx} {B : Bs} {W : WX} {i : Nat} {x : Str} {p spos lp : Pos} {ce : CE} {ee tg iter : Expr} {ifs : List Expr} {sc : Scope} {S : Scope} (C : CtxS X S N k W) (hb : B.nin = nin) (h1 : N[i]? = some x) (h2 : nin ≤ i) (h3 : isLoc S x = true) (hs : swapB (.ListComp ee [⟨tg, iter, ifs, 0⟩] sc lp) x p = true)
    (L : Leans X k (fnsE ce) (glsE ce)) (h : chkE N nin ce S (.ListComp ee [⟨tg, iter, ifs, 0⟩] sc lp) = true) : DS X B W (.Assign [.Name x p] (.ListComp ee [⟨tg, iter, ifs, 0⟩] sc lp) spos) (exec (.asg i ce)) := by
  have hl : X.env.scope.names.lookup x = some .local := by rw [C.c.sc]; unfold isLoc at h3; simpa using h3
  have hsw : swapsWith (.ListComp ee [⟨tg, iter, ifs, 0⟩] sc lp) (some (.Name x p)) spos.line X.env = pure true := by
    rw [swap_name (by rw [C.c.sc]; exact C.kd) hl, hs]
  cases ce <;> simp only [chkE] at h <;> (try (cases h; done)) <;> (try (simp only [asConst, asName, asBin, asNeg, asNot, asCmp1, asCmp2, asAnd, asOr, asIf, asTup, asLst, asDict, asCallN, asMeth, asSub, asDc] at h; cases h; done))
  rename_i ce t it own c
  simp only [asLc, Bool.and_eq_true] at h
  obtain ⟨⟨⟨⟨⟨⟨⟨g1, g2⟩, g3⟩, g4⟩, g5⟩, g6⟩, g7⟩, g8⟩ := h
  simp only [fnsE, glsE] at L
  have hI := sI it (tg := tg) C.c C.tk hb L.l.l g5
  have rule := ps_setLc (X := X) (i := i) (y := x) (py := p) (spos := spos) (wi := tI X.K X.mg (nfr X) B W (evI it)) (g := gL X.K X.mg B t) (tt := ttL X.K X.mg B c) (te := teL X.K X.mg B ce) (own := ownN N own) C.c.calm C.c.nd (by rw [C.c.N]; exact h1) hl hsw hI (by rw [C.c.N, C.c.sc]; exact blkOk_by g1)
    (fun s H A cl fp => ⟨fun pins s' σ H' v u Q I r ⟨B', e, h⟩ => (sT (B := B') (C.c.blk s H sc A cl fp) (e.trans hb) (fun _ h => h) g6).run pins s' σ H' v u Q I r h⟩)
    (fun s H A cl fp => ⟨fun pins s' σ H' Q I ⟨B', e, h⟩ => (sC c (B := B') (C.c.blk s H sc A cl fp) takes_noW (e.trans hb) (L.l.r.blk _ _ _ _ _) g7).run pins s' σ H' Q I h⟩)
    (fun s H A cl fp => ⟨fun pins s' σ H' Q I ⟨B', e, h⟩ => (sE ce (B := B') (C.c.blk s H sc A cl fp) takes_noW (e.trans hb) (L.r.blk _ _ _ _ _) g8).1.run pins s' σ H' Q I h⟩) (fold_of g4)
  rw [ownN_snd] at rule
  refine ⟨fun pins s σ H D I hw => (ps_unl rule).run pins s σ H D I ?_⟩
  obtain ⟨G, ρ, τ, Sm0, hw⟩ := hw
  simp only [exec] at hw
  show tLc _ _ _ _ _ σ H (unQ (nfr X) fun v H1 => gName i v σ H1 D.nx)
  refine lc_imp (B := B) (by rw [hb]; simpa using g2) (by simpa using g3) ?_
  refine tE_bindS Sm0 hw fun p v G1 H1 e1 s1 S1 a1 h1 => ?_
  cases k1 : setRes p.2 i p.1 with
  | exc _ _ => exact (setRes_noexc k1).elim
  | stuck => rw [k1] at h1; exact h1.elim
  | ok ρ' =>
    rw [k1] at h1
    obtain ⟨G2, s2, S2⟩ := S1.res (by rw [hb]; exact h2) a1 k1
    exact h1.nx (s1.trans s2) S2 (List.Sublist.refl _)

/-! ### names stored in their order -/
def gNames : List Nat → TGs
  | [] => gNil
  | i :: is => gCons (gName i) (gNames is)
theorem gNames_of : ∀ {is : List Nat} {vs : List V} {σ : L2.St} {H : Hp} {Q : L2.St → Hp → Prop}, vs.length = is.length → Q (setsS is vs σ) H → gNames is vs σ H Q
  | [], [], σ, H, Q, _, q => ⟨rfl, q⟩
  | i :: is, v :: vs, σ, H, Q, l, q => ⟨v, vs, rfl, gNames_of (by simpa using l) q⟩
  | [], _ :: _, _, _, _, l, _ => by simp at l
  | _ :: _, [], _, _, _, l, _ => by simp at l
theorem Sm.extra {K : PySem.W.Frag} {mg : Str → Option Value} {B : Bs} {G H : Hp} {ρ : Env} {σ : L2.St} {τ : List (D × Addr)} (S : Sm K mg B G ρ σ H τ) {p : Addr} {o : HO} (h : H p = none) : Sm K mg B G ρ σ (upd H p o) τ := by
  have hg := S.freshG h
  have h0 := S.fresh0 h
  refine { S with fx := fun x hx => ⟨by
    have ne : x.1 ≠ p := fun z => by have := (S.fx x hx).1; rw [z, h] at this; cases this
    rw [upd_ne ne]; exact (S.fx x hx).1, (S.fx x hx).2⟩, fz := fun a u e => ?_, own := fun i d e => ?_, lck := fun i d e => ?_, tmp := fun x hx => ?_, h0 := fun a u e np => ?_, p0 := fun a q => ?_ }
  · have ne : a ≠ p := fun z => by subst z; rw [hg] at e; cases e
    rcases S.fz a u e with z | ⟨z1, ob, z2⟩
    · exact .inl (by rw [upd_ne ne]; exact z)
    · exact .inr ⟨z1, ob, by rw [upd_ne ne]; exact z2⟩
  · obtain ⟨q, e1, e2, e3, e4⟩ := S.own i d e
    have ne : q ≠ p := fun z => by subst z; rw [h] at e3; exact e3.ne rfl
    exact ⟨q, e1, e2, by rw [upd_ne ne]; exact e3, e4⟩
  · obtain ⟨q, e1, e2, e3, e4⟩ := S.lck i d e
    have ne : q ≠ p := fun z => by subst z; rw [h, unfD_none] at e3; exact e3.ne rfl
    exact ⟨q, e1, e2, by rw [upd_ne ne]; exact e3, e4⟩
  · obtain ⟨e1, e2, e3⟩ := S.tmp x hx
    have ne : x.2 ≠ p := fun z => by rw [z, h] at e2; exact e2.ne rfl
    exact ⟨e1, by rw [upd_ne ne]; exact e2, e3⟩
  · have ne : a ≠ p := fun z => by subst z; rw [h0] at e; cases e
    rw [upd_ne ne]; exact S.h0 a u e np
  · have ne : a ≠ p := fun z => by subst z; exact S.p0 a q h
    rw [upd_ne ne]; exact S.p0 a q
theorem stores_plain {S : Scope} {ns : List (Str × Pos)} {vs : List Expr} {kt k2 : Nat} {pt p2 : Pos} {env : PySem.Env} (h : parPlain S ns vs = true) (hs : env.scope = S) : swappedStores [.Tuple (ns.map fun n => .Name n.1 n.2) kt pt] (.Tuple vs k2 p2) env = pure none := by
  unfold parPlain at h
  simp only [Bool.and_eq_true, Bool.or_eq_true, Bool.not_eq_true'] at h
  obtain ⟨⟨⟨⟨_, _⟩, _⟩, _⟩, h⟩ := h
  have hlen : (ns.map fun n => Expr.Name n.1 n.2).length = ns.length := by simp
  rcases h with (h | h) | h
  · unfold swappedStores
    refine (if_pos ?_)
    rw [hlen]
    have : (ns.length == 2 || ns.length == 3) = false := by simpa using h
    simp [this]
  · obtain ⟨n, hn, hc⟩ := List.any_eq_true.mp h
    have hk : env.kindOf n.1 = some .cell := by
      unfold isCell at hc
      unfold Env.kindOf
      rw [hs]; simpa using hc
    unfold swappedStores
    dsimp only
    split
    · rfl
    · split
      · rfl
      · refine if_pos ?_
        have key : ∀ {f : Expr → Option Str} {es : List Expr}, (∃ e ∈ es, f e = none) → (es.filterMap f).length < es.length := by
          intro f es
          induction es with
          | nil => rintro ⟨e, he, _⟩; cases he
          | cons a es ih =>
            rintro ⟨e, he, hf⟩
            cases hfa : f a with
            | none =>
              rw [List.filterMap_cons_none hfa]
              have := List.length_filterMap_le f es
              simp only [List.length_cons]; omega
            | some b =>
              rw [List.filterMap_cons_some hfa]
              rcases List.mem_cons.mp he with rfl | he
              · rw [hf] at hfa; cases hfa
              · have := ih ⟨e, he, hf⟩
                simp only [List.length_cons]; omega
        have := key (f := fun x => match x with | .Name id pos => if env.kindOf id == some .local && pos.line == (((ns.map fun n => Expr.Name n.1 n.2).head?.map (·.pos.line)).getD 0) then some id else none | _ => none) (es := ns.map fun n => Expr.Name n.1 n.2)
          ⟨.Name n.1 n.2, List.mem_map.mpr ⟨n, hn, rfl⟩, by simp [hk]⟩
        rw [Bool.or_eq_true]
        exact .inl (bne_iff_ne.mpr (Nat.ne_of_lt this))
  · exact stores_fold h
end M
end
section
set_option linter.all false
set_option maxRecDepth 100000
set_option maxHeartbeats 8000000
/-! MChk7: a checked suite's run is the evaluator's. -/
namespace M
open PySem L2 PyProof.Rows
variable {N : List Str} {k nin : Nat}
theorem names_at {S : Scope} {ns : List (Str × Pos)} {is : List Nat} (h : ns.map (fun n => some n.1) = is.map (fun i => N[i]?)) : ns.length = is.length ∧ ∀ (j : Nat) (n : Str × Pos) (i : Nat), ns[j]? = some n → is[j]? = some i → N[i]? = some n.1 := by
  refine ⟨by simpa using congrArg List.length h, fun j n i h1 h2 => ?_⟩
  have := congrArg (fun l : List (Option Str) => l[j]?) h
  simp only [List.getElem?_map, h1, h2, Option.map_some] at this
  exact (Option.some.inj this).symm
theorem dups2 {x y : Str} (h : [x, y].eraseDups.length = 2) : x ≠ y := by
  intro e
  subst e
  simp [List.eraseDups_cons] at h
theorem dups3 {x y z : Str} (h : [x, y, z].eraseDups.length = 3) : x ≠ y ∧ x ≠ z ∧ y ≠ z := by
  refine ⟨fun e => ?_, fun e => ?_, fun e => ?_⟩ <;> subst e
  · simp [List.eraseDups_cons] at h
    by_cases e : z = x
    · subst e; simp at h
    · simp [List.filter_cons, e, List.eraseDups_cons] at h
  · simp [List.eraseDups_cons] at h
    by_cases e : y = x
    · subst e; simp at h
    · simp [List.filter_cons, e, List.eraseDups_cons] at h
  · simp [List.eraseDups_cons] at h
    by_cases e : y = x
    · subst e; simp at h
    · simp [List.filter_cons, e, List.eraseDups_cons] at h
theorem swap_cell {e : Expr} {x : Str} {p : Pos} {l : Nat} {env : PySem.Env} (hl : env.kindOf x = some .cell) : swapsWith e (some (.Name x p)) l env = pure false := by
  have key : ∀ (s : Scope) (ep : Pos), (pure (env.blockKind == .function && env.kindOf x == some .local && p.line == ep.line && !(s.names.any fun (n, k) => n == x && (k == .local || k == .cell))) : Sem Bool) = pure false := by
    intro s ep
    have : (env.kindOf x == some .local) = false := by rw [hl]; rfl
    rw [this, Bool.and_false]; rfl
  cases e <;> first
    | rfl
    | exact key _ _
/-- names and values, stored in their order -/
theorem parN {X : Cx} {S : Scope} {B : Bs} {W : WX} {ns : List (Str × Pos)} {is : List Nat} {vs : List Expr} {cs : List CE} {kt k2 : Nat} {pt p2 p : Pos} (nd : X.N.Nodup) (fn : ∀ x, X.fn x = true) (hc : X.calm = true) (h : parPlain S ns vs = true) (hs : X.env.scope = S)
    (h2 : ns.map (fun n => some n.1) = is.map (fun i => X.N[i]?)) (hi : ∀ i ∈ is, B.nin ≤ i) (hA : DA X B W vs (evs cs)) : DS X B W (.Assign [.Tuple (ns.map fun n => .Name n.1 n.2) kt pt] (.Tuple vs k2 p2) p) (exec (.par is cs)) := by
  have hst := stores_plain (kt := kt) (k2 := k2) (pt := pt) (p2 := p2) h hs
  unfold parPlain at h
  simp only [Bool.and_eq_true, decide_eq_true_eq] at h
  obtain ⟨⟨⟨⟨g0, g1⟩, g2⟩, g3⟩, _⟩ := h
  have pgs : ∀ {ns : List (Str × Pos)} {is : List Nat}, ns.map (fun n => some n.1) = is.map (fun i => X.N[i]?) → ns.all (fun n => isLoc S n.1 || isCell S n.1) = true → PGs X (ns.map fun n => .Name n.1 n.2) (gNames is) := by
    intro ns
    induction ns with
    | nil =>
      intro is h _
      cases is with
      | nil => exact pgs_nil
      | cons _ _ => simp at h
    | cons n ns ih =>
      intro is h hl
      cases is with
      | nil => simp at h
      | cons i is =>
        simp only [List.map_cons, List.cons.injEq] at h
        rw [List.all_cons, Bool.and_eq_true, Bool.or_eq_true] at hl
        have hloc : Loc X.env.scope n.1 := by
          rw [hs]
          rcases hl.1 with q | q
          · unfold isLoc at q; exact .inl (by simpa using q)
          · unfold isCell at q; exact .inr (by simpa using q)
        exact pgs_cons (pg_name nd h.1.symm hloc (.inl (fn _))) (ih h.2 hl.2) rfl
  have lenN : is.length = ns.length := by simpa using (congrArg List.length h2).symm
  have eachN : ∀ {ns : List (Str × Pos)}, (assignEach (ns.map fun n => .Name n.1 n.2) X.env).length = ns.length ∧ (assignEach (ns.map fun n => .Name n.1 n.2) X.env).findIdx? (·.1) = none := by
    intro ns
    have := each_len (env := X.env) (es := ns.map fun n => Expr.Name n.1 n.2) (by simp [notStar])
    exact ⟨by rw [this.1]; simp, this.2⟩
  have rule : ∀ ta : TA, PA X vs ta → PS X (.Assign [.Tuple (ns.map fun n => .Name n.1 n.2) kt pt] (.Tuple vs k2 p2) p) (tAsg (tTup ta) (gTup X.K ns.length (gNames is))) := fun ta hta =>
    ps_asg (pe_tup hta) (pg_tup hc (pgs h2 g3) eachN.1 eachN.2) rfl hst rfl
  refine ⟨fun pins s σ H D I hw => (rule _ hA).run pins s σ H D I ?_⟩
  obtain ⟨G, ρ, τ, S0, hw⟩ := hw
  simp only [exec] at hw
  refine ⟨G, ρ, τ, S0, ?_⟩
  cases k1 : evs cs ρ with
  | exc _ _ => rw [k1] at hw; exact hw σ
  | stuck => rw [k1] at hw; exact hw
  | ok q =>
    rw [k1] at hw
    intro us G1 H1 s1 S1 a1
    have hw : AfterS X.K X.mg B W D G τ ((settle q.2 q.1).bind fun q => (setSlots is q.1 q.2).bind fun ρ' => .ok (.next, ρ')) := hw
    cases k2 : settle q.2 q.1 with
    | exc _ _ => exact (settle_noexc k2).elim
    | stuck => rw [k2] at hw; exact hw.elim
    | ok r =>
      rw [k2] at hw
      obtain ⟨G2, s2, S2, a2, e2, n2⟩ := settle_ok S1 a1 k2
      have hw : AfterS X.K X.mg B W D G τ ((setSlots is r.1 r.2).bind fun ρ' => .ok (.next, ρ')) := hw
      cases k3 : setSlots is r.1 r.2 with
      | exc _ _ => exact (setSlots_noexc k3).elim
      | stuck => rw [k3] at hw; exact hw.elim
      | ok ρ' =>
        rw [k3] at hw
        rw [← e2] at S2 a2
        obtain ⟨G3, s3, S3⟩ := puts_ok hi S2 n2 a2 k3
        have len : ∀ {is : List Nat} {rs : List Res} {ρ ρ' : Env}, setSlots is rs ρ = .ok ρ' → rs.length = is.length := by
          intro is
          induction is with
          | nil => intro rs ρ ρ' h; cases rs with | nil => rfl | cons _ _ => simp only [setSlots] at h; cases h
          | cons i is ih =>
            intro rs ρ ρ' h
            cases rs with
            | nil => simp only [setSlots] at h; cases h
            | cons r rs =>
              simp only [setSlots] at h
              obtain ⟨ρ1, _, h⟩ := bind_ok h
              simp [ih h]
        have lu : us.length = is.length := by rw [a2.length, len k3]
        refine ⟨by rw [lu, lenN, sizeLine_eq]; omega, fun x hx => ⟨x, us, rfl, SqT.of upd_same, by rw [lu, lenN], gNames_of lu ?_⟩⟩
        exact AfterS.nx hw (s1.trans (s2.trans s3)) (S3.extra hx) (List.Sublist.refl _)
mutual
theorem sS : ∀ (cs : CS) {X : Cx} {S : Scope} {st : Stmt} {B : Bs} {W : WX}, CtxS X S N k W → B.nin = nin → Leans X k (fnsS cs) (glsS cs) → (∀ c ∈ rsS cs, RaiseOk X.K X.mg c) → chkS N nin cs S st = true → DS X B W st (exec cs)
  | .asg i c, X, S, st, B, W, C, hb, L, R, h => by
    simp only [chkS] at h
    simp only [fnsS, glsS] at L
    split at h <;> (try (cases h; done))
    rename_i t e p he
    obtain rfl := asAsg_eq he
    split at h <;> (try (cases h; done))
    rename_i x px hx
    obtain rfl := asNameP_eq hx
    simp only [Bool.and_eq_true, Bool.or_eq_true, decide_eq_true_eq] at h
    obtain ⟨⟨⟨h1, h2⟩, h34⟩, h5⟩ := h
    rcases h34 with h3 | ⟨h3, h4⟩
    · have hl : X.env.scope.names.lookup x = some .cell := by rw [C.c.sc]; unfold isCell at h3; simpa using h3
      exact ds_asg (by rw [hb]; exact h2) (fun te hte => ps_set C.c.nd (by rw [C.c.N]; exact h1) (.inr hl) hte (swap_cell hl) (.inl (C.fn x))) (sE c C.c C.tk hb L h5).1
    · have hl : X.env.scope.names.lookup x = some .local := by rw [C.c.sc]; unfold isLoc at h3; simpa using h3
      cases hsw : swapB e x px with
      | false =>
        refine ds_asg (by rw [hb]; exact h2) (fun te hte => ps_set C.c.nd (by rw [C.c.N]; exact h1) (.inl hl) hte (by rw [swap_name (by rw [C.c.sc]; exact C.kd) hl, hsw]) (.inr hl)) (sE c C.c C.tk hb L h5).1
      | true =>
        rw [hsw] at h4
        simp only [Bool.not_true, Option.isSome_iff_exists, Bool.false_eq_true, false_or] at h4
        obtain ⟨⟨ee, tg, iter, ifs, sc⟩, h4⟩ := h4
        obtain ⟨lp, rfl⟩ := asLc_eq h4
        exact asgLc C hb h1 h2 h3 hsw L h5
  | .asgT t c, X, S, st, B, W, C, hb, L, R, h => by
    simp only [chkS] at h
    simp only [fnsS, glsS] at L
    split at h <;> (try (cases h; done))
    rename_i tg e p he
    obtain rfl := asAsg_eq he
    simp only [Bool.and_eq_true] at h
    obtain ⟨⟨⟨⟨h1, h2⟩, h3⟩, h4⟩, h5⟩ := h
    refine ds_asgT (sT C.c hb (fun x _ => C.fn x) h4) (sE c C.c C.tk hb L h5).1 ?_ (stores_none h2 h3) (by rw [each_cons h1]; rfl)
    show swapsWith e (some tg) p.line X.env = pure false
    obtain ⟨xs, kk, q, rfl⟩ := isTup_eq h2
    exact swap_other rfl
  | .par is cs, X, S, st, B, W, C, hb, L, R, h => by
    simp only [chkS] at h
    simp only [fnsS, glsS] at L
    split at h <;> (try (cases h; done))
    rename_i t e p he
    obtain rfl := asAsg_eq he
    split at h <;> (try (cases h; done))
    rename_i ts vs ht hv
    obtain ⟨kt, pt, rfl⟩ := asTup_eq ht
    obtain ⟨k2, p2, rfl⟩ := asTup_eq hv
    split at h <;> (try (cases h; done))
    rename_i ns hn
    obtain rfl := asNames_eq hn
    simp only [Bool.and_eq_true, decide_eq_true_eq] at h
    obtain ⟨⟨⟨h1, h2⟩, h3⟩, h4⟩ := h
    obtain ⟨l1, l2⟩ := names_at (S := S) h2
    have hA := (sEs cs C.c C.tk hb L h4).da.1
    have hk : X.env.scope.kind = .function := by rw [C.c.sc]; exact C.kd
    have hi : ∀ i ∈ is, B.nin ≤ i := fun i hi => by rw [hb]; simpa using List.all_eq_true.mp h3 i hi
    rw [Bool.or_eq_true] at h1
    rcases h1 with h1 | h1
    case inr => exact parN C.c.nd C.fn C.c.calm h1 C.c.sc (by rw [C.c.N]; exact h2) hi hA
    have hP := h1
    unfold parOk at h1
    simp only [Bool.and_eq_true, Bool.or_eq_true, decide_eq_true_eq, beq_iff_eq, List.all_eq_true] at h1
    obtain ⟨⟨⟨⟨⟨⟨⟨g1, g2⟩, g3⟩, g4⟩, g5⟩, g6⟩, g7⟩, g8⟩ := h1
    have loc : ∀ n ∈ ns, X.env.scope.names.lookup n.1 = some .local := fun n hn => by
      have := g4 n hn
      rw [C.c.sc]; unfold isLoc at this; simpa using this
    match ns, is, vs with
    | [(x, px), (y, py)], [i, j], [a, b] =>
      have e1 := l2 0 (x, px) i rfl rfl
      have e2 := l2 1 (y, py) j rfl rfl
      have ne := dups2 g6
      refine ds_par2 (hi i (by simp)) (hi j (by simp)) (fun ta hta => ps_par C.c.calm C.c.nd (by rw [C.c.N]; exact e1) (by rw [C.c.N]; exact e2) (fun z => ne (by subst z; rw [e1] at e2; exact Option.some.inj e2)) (loc _ (by simp)) (loc _ (by simp)) hta (stores_par2 hP hk C.c.sc) rfl) hA
    | [(x, px), (y, py), (z, pz)], [i, j, l], [a, b, c] =>
      have e1 := l2 0 (x, px) i rfl rfl
      have e2 := l2 1 (y, py) j rfl rfl
      have e3 := l2 2 (z, pz) l rfl rfl
      obtain ⟨n1, n2, n3⟩ := dups3 g6
      refine ds_par3 (hi i (by simp)) (hi j (by simp)) (hi l (by simp)) (fun ta hta => ps_par3 C.c.calm C.c.nd (by rw [C.c.N]; exact e1) (by rw [C.c.N]; exact e2) (by rw [C.c.N]; exact e3) (fun z => n1 (by subst z; rw [e1] at e2; exact Option.some.inj e2)) (fun z => n2 (by subst z; rw [e1] at e3; exact Option.some.inj e3)) (fun z => n3 (by subst z; rw [e2] at e3; exact Option.some.inj e3))
        (loc _ (by simp)) (loc _ (by simp)) (loc _ (by simp)) hta (stores_par3 hP hk C.c.sc) rfl) hA
  | .aug i op c, X, S, st, B, W, C, hb, L, R, h => by
    simp only [chkS] at h
    simp only [fnsS, glsS] at L
    split at h <;> (try (cases h; done))
    rename_i x o e he
    obtain ⟨p, q, rfl⟩ := asAug_eq he
    simp only [Bool.and_eq_true, decide_eq_true_eq] at h
    obtain ⟨⟨⟨⟨rfl, h1⟩, h2⟩, h3⟩, h5⟩ := h
    have hl : Loc X.env.scope x := by
      rw [C.c.sc]
      rw [Bool.or_eq_true] at h3
      rcases h3 with h3 | h3
      · unfold isLoc at h3; exact .inl (by simpa using h3)
      · unfold isCell at h3; exact .inr (by simpa using h3)
    exact ds_aug (by rw [hb]; exact h2) (fun te ti hte hti => ps_aug C.c.nd (by rw [C.c.N]; exact h1) hl hte hti (.inl (C.fn x))) (sE c C.c C.tk hb L h5).1
  | .ex c, X, S, st, B, W, C, hb, L, R, h => by
    simp only [chkS] at h
    simp only [fnsS, glsS] at L
    split at h <;> (try (cases h; done))
    rename_i e p he
    obtain rfl := asEx_eq he
    simp only [Bool.and_eq_true] at h
    exact ds_expr (sE c C.c C.tk hb L h.2).1 (swap_of h.1)
  | .ret c, X, S, st, B, W, C, hb, L, R, h => by
    simp only [chkS] at h
    simp only [fnsS, glsS] at L
    split at h <;> (try (cases h; done))
    rename_i e he
    obtain ⟨p, rfl⟩ := asRet_eq he
    exact ds_ret (sE c C.c C.tk hb L h).1
  | .retN, X, S, st, B, W, C, hb, L, R, h => by
    simp only [chkS] at h
    split at h <;> (try (cases h; done))
    rename_i he
    obtain ⟨p, rfl⟩ := asRet_eq he
    exact ds_retN
  | .ite c a b, X, S, st, B, W, C, hb, L, R, h => by
    simp only [chkS] at h
    simp only [fnsS, glsS] at L
    split at h <;> (try (cases h; done))
    rename_i e sa sb he
    obtain ⟨p, rfl⟩ := asIfS_eq he
    simp only [Bool.and_eq_true] at h
    obtain ⟨⟨h1, h2⟩, h3⟩ := h
    simp only [rsS] at R
    exact ds_if (sE c C.c C.tk hb L.l.l h1).2 (sSs a C hb L.l.r (fun c hc => R c (List.mem_append_left _ hc)) h2) (sSs b C hb L.r (fun c hc => R c (List.mem_append_right _ hc)) h3)
  | .forr t ci b, X, S, st, B, W, C, hb, L, R, h => by
    simp only [chkS] at h
    simp only [fnsS, glsS] at L
    split at h <;> (try (cases h; done))
    rename_i tg it sb he
    obtain ⟨p, rfl⟩ := asFor_eq he
    simp only [Bool.and_eq_true] at h
    obtain ⟨⟨⟨h1, h2⟩, h3⟩, h4⟩ := h
    simp only [rsS] at R
    exact ds_for C.hp C.c.calm (sI ci C.c C.tk hb L.l h3) (fun B' e => sT (B := B') C.c (e.trans hb) (fun x _ => C.fn x) h2) (fun B' e => sSs b (B := B') ⟨C.c, takes_unW C.tk, C.hp, C.kd, C.fn⟩ (e.trans hb) L.r R h4) (fold_of h1)
  | .whil c b, X, S, st, B, W, C, hb, L, R, h => by
    simp only [chkS] at h
    simp only [fnsS, glsS] at L
    split at h <;> (try (cases h; done))
    rename_i e sb he
    obtain ⟨p, rfl⟩ := asWhile_eq he
    simp only [Bool.and_eq_true] at h
    simp only [rsS] at R
    exact ds_while C.hp (sE c C.c C.tk hb L.l h.1).2 (sSs b C hb L.r R h.2)
  | .brk, X, S, st, B, W, C, hb, L, R, h => by
    simp only [chkS] at h
    unfold asBrk at h
    split at h
    · exact ds_brk
    · cases h
  | .cont, X, S, st, B, W, C, hb, L, R, h => by
    simp only [chkS] at h
    unfold asCont at h
    split at h
    · exact ds_cont
    · cases h
  | .pass, X, S, st, B, W, C, hb, L, R, h => by
    simp only [chkS] at h
    unfold asPass at h
    split at h
    · exact ds_pass
    · cases h
  | .raise c, X, S, st, B, W, C, hb, L, R, h => by
    simp only [chkS] at h
    split at h <;> (try (cases h; done))
    rename_i x he
    obtain ⟨p1, m, j, p2, p3, p4, rfl⟩ := asRaise_eq he
    simp only [Bool.and_eq_true, decide_eq_true_eq] at h
    obtain ⟨⟨rfl, h1⟩, h2⟩ := h
    obtain ⟨A, bmB, Bn, nI, iI, F, q, g, kp, s1, s2⟩ := R c (by simp [rsS])
    exact ds_raise g (L2N.ps_raise C.c.calm C.tk (L2N.pmk_own F q g kp (raises_own s1 s2) (C.c.gl h1) (plain_debug h2).1))
  | .setIx i kk c, X, S, st, B, W, C, hb, L, R, h => by
    simp only [chkS] at h
    simp only [fnsS, glsS] at L
    split at h <;> (try (cases h; done))
    rename_i t e p he
    obtain rfl := asAsg_eq he
    split at h <;> (try (cases h; done))
    rename_i o ei hs
    obtain ⟨p2, rfl⟩ := asSub_eq hs
    split at h <;> (try (cases h; done))
    rename_i x hx
    obtain ⟨px, rfl⟩ := asName_eq hx
    simp only [Bool.and_eq_true, decide_eq_true_eq] at h
    obtain ⟨⟨⟨⟨⟨h1, h2⟩, h3⟩, h4⟩, h5⟩, h6⟩ := h
    refine ds_setIx C.c.un (C.c.var h1 h2 h3) (sE kk C.c C.tk hb L.l h5).1 (sE c C.c C.tk hb L.r h6).1 ?_ (show swapsWith e (some (.Subscript (.Name x px) ei p2)) p.line X.env = pure false from swap_other rfl) stores_sub rfl
    intro v
    cases ei <;> first
      | rfl
      | (simp [notSlice] at h4; done)
  | .augIx _ _ _ _, X, S, st, B, W, C, hb, L, R, h => by simp only [chkS] at h; cases h
  | .delIx _ _, X, S, st, B, W, C, hb, L, R, h => by simp only [chkS] at h; cases h
theorem sSs : ∀ (cs : List CS) {X : Cx} {S : Scope} {ss : List Stmt} {B : Bs} {W : WX}, CtxS X S N k W → B.nin = nin → Leans X k (fnsSs cs) (glsSs cs) → (∀ c ∈ rsSs cs, RaiseOk X.K X.mg c) → chkSs N nin cs S ss = true → DSs X B W ss (execs cs)
  | [], X, S, ss, B, W, C, hb, L, R, h => by
    simp only [chkSs, List.isEmpty_iff] at h
    subst h
    exact dss_nil
  | c :: cs, X, S, ss, B, W, C, hb, L, R, h => by
    simp only [chkSs] at h
    simp only [fnsSs, glsSs] at L
    simp only [rsSs] at R
    cases ss with
    | nil => cases h
    | cons s ss =>
      simp only [Bool.and_eq_true] at h
      exact dss_cons (sS c C hb L.l (fun c hc => R c (List.mem_append_left _ hc)) h.1) (sSs cs C hb L.r (fun c hc => R c (List.mem_append_right _ hc)) h.2)
end
end M
end
section
set_option linter.all false
set_option maxRecDepth 100000
set_option maxHeartbeats 8000000
/-! MDef: a def keeps the promise that its term tells. -/
namespace M
open PySem L2 PyProof.Rows
section
variable {K : PySem.W.Frag} {mg : Str → Option Value} {B : Bs} {G H : Hp} {ρ : Env} {σ : L2.St} {τ : List (D × Addr)}
theorem owns_at : ∀ {n : Nat} {outs : List D}, owns ρ n = some outs → outs.length = n ∧ ∀ j, j < n → ∃ d, outs[j]? = some d ∧ ρ[j]? = some (Slot.own d)
  | 0, outs, h => by
    simp only [owns] at h; cases h
    exact ⟨rfl, fun j hj => by omega⟩
  | n + 1, outs, h => by
    simp only [owns] at h
    split at h
    · rename_i ds d h1 h2
      cases h
      obtain ⟨l, k⟩ := owns_at h1
      refine ⟨by simp [l], fun j hj => ?_⟩
      by_cases e : j < n
      · obtain ⟨d', a, b⟩ := k j e
        exact ⟨d', by rw [List.getElem?_append_left (by omega)]; exact a, b⟩
      · have : j = n := by omega
        subst this
        exact ⟨d, by rw [List.getElem?_append_right (by omega), l]; simp, h2⟩
    · cases h
theorem start_at {N : List Str} {vs : List V} {j : Nat} : (L2.start N vs)[j]? = if j < vs.length then (vs[j]?).map some else if j < N.length then some none else none := by
  unfold L2.start
  by_cases h : j < vs.length
  · rw [if_pos h, List.getElem?_append_left (by simpa using h), List.getElem?_map]
  · rw [if_neg h, List.getElem?_append_right (by simpa using h), List.getElem?_replicate, List.length_map]
    by_cases h2 : j < N.length
    · rw [if_pos h2, if_pos (by omega)]
    · rw [if_neg h2, if_neg (by omega)]
/-- the state that a def begins with -/
theorem Sm.start {N : List Str} {ps : List Addr} {is ds : List D} {ws : List V} (fz : ∀ a o, G a = some o → Ro H a o) (hl : is.length = ps.length) (nd : ps.Nodup) (hc : ∀ x ∈ is.zip ps, G x.2 = none ∧ Cell K mg G x.1 (H x.2)) (r : RepL K mg G ds ws) (hN : ps.length + ws.length ≤ N.length) :
    Sm K mg ⟨G, H, ps.length, ps.map V.ref ++ ws, [], []⟩ G (is.map .own ++ ds.map .val ++ List.replicate (N.length - (is.length + ds.length)) .none) (L2.start N (ps.map V.ref ++ ws)) H [] := by
  have lr := r.length
  have at1 : ∀ {j : Nat} {s : Slot}, (is.map Slot.own ++ ds.map Slot.val ++ List.replicate (N.length - (is.length + ds.length)) Slot.none)[j]? = some s →
      (j < ps.length ∧ ∃ d p, s = .own d ∧ (d, p) ∈ is.zip ps ∧ ps[j]? = some p) ∨ (ps.length ≤ j ∧ ∃ d, s = .val d ∧ ds[j - ps.length]? = some d) ∨ s = .none := by
    intro j s h
    rw [List.append_assoc] at h
    by_cases h1 : j < is.length
    · rw [List.getElem?_append_left (by simpa using h1), List.getElem?_map, Option.map_eq_some_iff] at h
      obtain ⟨d, hd, rfl⟩ := h
      have hp : ps[j]? = some ps[j] := List.getElem?_eq_getElem (by omega)
      refine .inl ⟨by omega, d, _, rfl, ?_, hp⟩
      refine List.mem_iff_getElem?.mpr ⟨j, ?_⟩
      rw [List.getElem?_zip_eq_some]
      exact ⟨hd, hp⟩
    · rw [List.getElem?_append_right (by simpa using h1), List.length_map] at h
      by_cases h2 : j - is.length < ds.length
      · rw [List.getElem?_append_left (by simpa using h2), List.getElem?_map, Option.map_eq_some_iff] at h
        obtain ⟨d, hd, rfl⟩ := h
        exact .inr (.inl ⟨by omega, d, rfl, by rw [← hl]; exact hd⟩)
      · rw [List.getElem?_append_right (by simpa using h2), List.getElem?_replicate] at h
        split at h
        · cases h; exact .inr (.inr rfl)
        · cases h
  have σ1 : ∀ {j : Nat} {p : Addr}, ps[j]? = some p → (L2.start N (ps.map V.ref ++ ws))[j]? = some (some (.ref p)) := by
    intro j p h
    have hj := (List.getElem?_eq_some_iff.mp h).1
    rw [start_at, if_pos (by rw [List.length_append, List.length_map]; omega), List.getElem?_append_left (by simpa using hj), List.getElem?_map, h]
    rfl
  have isO : ∀ {j : Nat}, isOwn (is.map Slot.own ++ ds.map Slot.val ++ List.replicate (N.length - (is.length + ds.length)) Slot.none) j → ∃ p, ps[j]? = some p := by
    intro j h
    rcases h with ⟨d, h⟩ | ⟨d, h⟩
    · rcases at1 h with ⟨_, d', p, e, _, hp⟩ | ⟨_, d', e, _⟩ | e
      · exact ⟨p, hp⟩
      · cases e
      · cases e
    · rcases at1 h with ⟨_, d', p, e, _, _⟩ | ⟨_, d', e, _⟩ | e <;> cases e
  have hP : ∀ a, Bs.P ⟨G, H, ps.length, ps.map V.ref ++ ws, [], []⟩ a → a ∈ ps := by
    rintro a ⟨j, hj, e⟩
    have hj : j < ps.length := hj
    have e : (ps.map V.ref ++ ws)[j]? = some (.ref a) := e
    rw [List.getElem?_append_left (by simpa using hj), List.getElem?_map, Option.map_eq_some_iff] at e
    obtain ⟨p, hp, e⟩ := e
    cases e
    exact List.mem_of_getElem? hp
  refine ⟨?_, fz, fun j d h => ?_, fun j d h => ?_, fun j d h => ?_, fun x hx => (nomatch hx), fun i j p ne x y e1 e2 => ?_, fun i p x e hm => (by simp at hm), List.nodup_nil, Same.refl _, fun a o e _ => .inl e, fun a o e => .inl e, fun a q => ?_, fun j hj => ?_, fun x hx => (nomatch hx), fun j d h => ?_, fun x hx => (nomatch hx)⟩
  · unfold L2.start
    simp only [List.length_append, List.length_map, List.length_replicate]
    omega
  · rcases at1 h with ⟨_, d', p, e, _, _⟩ | ⟨hj, d', e, hd⟩ | e
    · cases e
    · cases e
      obtain ⟨v, hv, rv⟩ := r.get hd
      refine ⟨v, ?_, rv⟩
      have hlt := (List.getElem?_eq_some_iff.mp hv).1
      rw [start_at, if_pos (by rw [List.length_append, List.length_map]; omega), List.getElem?_append_right (by simpa using hj), List.length_map, hv]
      rfl
    · cases e
  · rcases at1 h with ⟨hj, d', p, e, hm, hp⟩ | ⟨_, d', e, _⟩ | e
    · cases e
      obtain ⟨g, c⟩ := hc _ hm
      refine ⟨p, σ1 hp, g, c, .inr ⟨j, hj, ?_⟩⟩
      show (ps.map V.ref ++ ws)[j]? = _
      rw [List.getElem?_append_left (by simpa using hj), List.getElem?_map, hp]; rfl
    · cases e
    · cases e
  · rcases at1 h with ⟨_, d', p, e, _, _⟩ | ⟨_, d', e, _⟩ | e <;> cases e
  · obtain ⟨p1, h1⟩ := isO x
    obtain ⟨p2, h2⟩ := isO y
    rw [σ1 h1] at e1; cases e1
    rw [σ1 h2] at e2; cases e2
    obtain ⟨l1, q1⟩ := List.getElem?_eq_some_iff.mp h1
    obtain ⟨l2, q2⟩ := List.getElem?_eq_some_iff.mp h2
    rcases Nat.lt_or_gt_of_ne ne with hlt | hlt
    · exact List.pairwise_iff_getElem.mp nd i j l1 l2 hlt (q1.trans q2.symm)
    · exact List.pairwise_iff_getElem.mp nd j i l2 l1 hlt (q2.trans q1.symm)
  · have hm := hP a q
    obtain ⟨n, hn, rfl⟩ := List.mem_iff_getElem.mp hm
    have : (is[n], ps[n]) ∈ is.zip ps := List.mem_iff_getElem.mpr ⟨n, by rw [List.length_zip]; omega, by simp⟩
    exact (hc _ this).2.ne
  · have hj : j < ps.length := hj
    exact ⟨.ref ps[j], by show (ps.map V.ref ++ ws)[j]? = _; rw [List.getElem?_append_left (by simpa using hj)]; simp [hj], σ1 (List.getElem?_eq_getElem hj)⟩
  · rcases at1 h with ⟨_, d', p, e, _, _⟩ | ⟨_, d', e, _⟩ | e <;> cases e
/-- what is known when a suite has ended -/
theorem AfterF.fin {ps : List Addr} {ws : List V} {G' H' : Hp} {ρ : Env} {σ : L2.St} {τ : List (D × Addr)} {Q : VK} {E : XK} {r : Res} {outs : List D} {v : V} (h : AfterF K mg G H ps Q E (.ok (r, outs))) (nd : ps.Nodup)
    (S : Sm K mg ⟨G, H, ps.length, ps.map V.ref ++ ws, [], []⟩ G' ρ σ H' τ) (ho : owns ρ ps.length = some outs) (hr : ResF K mg G' H H' r v) : Q v H' := by
  have hP : ∀ a, Bs.P ⟨G, H, ps.length, ps.map V.ref ++ ws, [], []⟩ a ↔ a ∈ ps := by
    intro a
    constructor
    · rintro ⟨j, hj, e⟩
      have hj : j < ps.length := hj
      have e : (ps.map V.ref ++ ws)[j]? = some (.ref a) := e
      rw [List.getElem?_append_left (by simpa using hj), List.getElem?_map, Option.map_eq_some_iff] at e
      obtain ⟨p, hp, e⟩ := e
      cases e
      exact List.mem_of_getElem? hp
    · intro h
      obtain ⟨j, hj, e⟩ := List.mem_iff_getElem.mp h
      exact ⟨j, hj, by show (ps.map V.ref ++ ws)[j]? = _; rw [List.getElem?_append_left (by simpa using hj)]; simp [hj, e]⟩
  obtain ⟨l, k⟩ := owns_at ho
  have at1 : ∀ {j : Nat} (hj : j < ps.length), ∃ d, outs[j]? = some d ∧ G' ps[j] = none ∧ Cell K mg G' d (H' ps[j]) := fun {j} hj => by
    obtain ⟨d, e1, e2⟩ := k j hj
    obtain ⟨p, e3, g, c, _⟩ := S.own j d e2
    obtain ⟨w, e4, e5⟩ := S.in0 j hj
    have e4 : (ps.map V.ref ++ ws)[j]? = some w := e4
    rw [List.getElem?_append_left (by simpa using hj), List.getElem?_map, List.getElem?_eq_getElem hj] at e4
    cases e4
    rw [e3] at e5; cases e5
    exact ⟨d, e1, g, c⟩
  refine h v G' H' S.g0 S.fz (fun a o e => ?_) (fun a o e n => (S.h0 a o e (fun q => n ((hP a).mp q))).resolve_right fun ⟨_, z⟩ => nomatch z) (fun x hx => ?_) l hr
  · rcases S.n0 a o e with z | z | z
    · exact .inl z
    · exact .inr z
    · obtain ⟨j, hj, rfl⟩ := List.mem_iff_getElem.mp ((hP a).mp z)
      obtain ⟨d, _, g, _⟩ := at1 hj
      rw [g] at e; cases e
  · obtain ⟨j, hj, rfl⟩ := List.mem_iff_getElem.mp hx
    rw [List.length_zip] at hj
    obtain ⟨d, e1, g, c⟩ := at1 (j := j) (by omega)
    rw [List.getElem_zip]
    have : outs[j] = d := by
      have := List.getElem?_eq_getElem (l := outs) (i := j) (by omega)
      rw [e1] at this
      exact (Option.some.inj this).symm
    rw [this]
    exact ⟨g, c⟩
end
/-- a suite has ended: what the def's promise gives -/
theorem body_ok {K : PySem.W.Frag} {mg : Str → Option Value} {G H : Hp} {qs : List Addr} {ws : List V} {nin : Nat} {Q : VK} {E : XK} {W : WX} {p : Flow × Env} (l1 : qs.length = nin) (nd : qs.Nodup)
    (h : AfterF K mg G H qs Q E (match owns p.2 nin with
        | some outs => match p.1 with
          | .ret r => (retRes nin p.2 r).bind fun r => .ok (r, outs)
          | .next => .ok (.val .non, outs)
          | _ => .stuck
        | none => .stuck)) : AfterS K mg ⟨G, H, qs.length, qs.map V.ref ++ ws, [], []⟩ W { nx := fun _ H' => Q .non H', rt := Q } G [] (.ok p) := by
  cases ho : owns p.2 nin with
  | none => rw [ho] at h; exact h.elim
  | some outs =>
    rw [ho] at h
    have ho : owns p.2 qs.length = some outs := by rw [l1]; exact ho
    obtain ⟨fl, ρ'⟩ := p
    cases fl with
    | brk => exact h.elim
    | cont => exact h.elim
    | next =>
      intro σ' G' H' s' S'
      exact AfterF.fin (v := .non) h nd S' ho (by simp only [ResF, Rep])
    | ret r =>
      intro v σ' G' H' s' S' a'
      have h : AfterF K mg G H qs Q E ((retRes nin ρ' r).bind fun r => .ok (r, outs)) := h
      cases r with
      | val d => exact AfterF.fin h nd S' ho a'
      | own d =>
        obtain ⟨q, rfl, hm⟩ := a'
        obtain ⟨g, c, h0⟩ := S'.tmp _ hm
        exact AfterF.fin h nd S' ho ⟨q, rfl, g, c, h0⟩
      | slot i =>
        have a' : σ'[i]? = some (some v) := a'
        simp only [retRes] at h
        split at h
        · rename_i d hd
          split at h
          · exact h.elim
          · rename_i hi
            obtain ⟨q, e1, g, c, hb⟩ := S'.own i d hd
            rw [a'] at e1; cases e1
            refine AfterF.fin (r := .own d) h nd S' ho ⟨q, rfl, g, c, ?_⟩
            rcases hb with hb | ⟨j, hj, e⟩
            · exact hb
            · exfalso
              obtain ⟨_, kk⟩ := owns_at ho
              obtain ⟨d2, _, e2⟩ := kk j hj
              obtain ⟨w2, e3, e4⟩ := S'.in0 j hj
              rw [e] at e3; cases e3
              exact S'.sepS i j q (fun z => hi (by rw [z, ← l1]; exact hj)) (.inl ⟨d, hd⟩) (.inl ⟨d2, e2⟩) a' e4
        · rename_i d hd
          obtain ⟨w2, e1, rr⟩ := S'.val i d hd
          rw [a'] at e1; cases e1
          exact AfterF.fin (r := .val d) h nd S' ho rr
        · exact h.elim
/-- a def's body, by its term -/
theorem def_body {P : Program} {w : World} {K : PySem.W.Frag} {mg : Str → Option Value} {base : Heap} {x : Str} {body : List Stmt} {scope : Scope} {f : Addr} {N ps : List Str} {k nin : Nat} {cs : List CS}
    (S : FnScope N ps scope) (bn : ∀ y ∈ bnames, mg y = none)
    (hF : ∀ F ∈ fnsSs cs, OkF P w K mg base k F) (hG : ∀ g ∈ glsSs cs, GlOk K mg g.1 g.2) (hR : ∀ c ∈ rsSs cs, RaiseOk K mg c) (hc : chkSs N nin cs scope body = true)
    (cdv : Value) (A : Around) (outer : List PySem.Env) (s : Shared) (H : Hp) (vs : List V) (Q : VK) (E : XK) (hr : Room k (A.deeper (envOfC x scope s.heap.objs.size f cdv))) (h : spF K mg ⟨x, nin, none, fnRun N.length ps.length nin cs⟩ vs H Q E) :
    ∃ t, PSs (cxOf (L2N.CX P w) P w K mg base N x scope f cdv A outer s H E) body t ∧ t { nx := fun _ H' => Q .non H', rt := Q } (L2.start N vs) H := by
  have hpl : ps.length ≤ N.length := by have := congrArg List.length S.pre; rw [List.length_take] at this; omega
  obtain ⟨G, is, qs, ds, ws, rfl, l1, l2, nd, cl, fz, r, h⟩ := h
  have h : AfterF K mg G H qs Q E (fnRun N.length ps.length nin cs (is ++ ds)) := h
  have l1 : qs.length = nin := l1
  unfold fnRun at h
  split at h
  · rename_i hl
    have lr := r.length
    rw [List.length_append] at hl
    have e1 : (is ++ ds).take nin = is := by rw [← l1, ← l2]; simp
    have e2 : (is ++ ds).drop nin = ds := by rw [← l1, ← l2]; simp
    rw [e1, e2] at h
    have S0 := Sm.start (K := K) (mg := mg) (N := N) fz l2 nd cl r (by omega)
    have e3 : N.length - (is.length + ds.length) = N.length - ps.length := by omega
    rw [e3] at S0
    have C : CtxS (cxOf (L2N.CX P w) P w K mg base N x scope f cdv A outer s H E) scope N k (fun cls d _ H => E cls d H) :=
      ⟨⟨rfl, rfl, S.nd, rfl, hr, bn⟩, L2N.takes_of rfl rfl rfl rfl, passes_of rfl, S.kind, fun _ => rfl⟩
    have D := sSs (nin := nin) (B := ⟨G, H, qs.length, qs.map V.ref ++ ws, [], []⟩) cs C l1 ⟨hF, hG⟩ hR hc
    refine ⟨_, D, G, _, [], S0, ?_⟩
    cases hx : execs cs (is.map Slot.own ++ ds.map Slot.val ++ List.replicate (N.length - ps.length) Slot.none) with
    | stuck => rw [hx] at h; exact h.elim
    | exc c q =>
      rw [hx] at h
      intro σ' cls d H' x1 x2
      have hP : ∀ a, Bs.P ⟨G, H, qs.length, qs.map V.ref ++ ws, [], []⟩ a → a ∈ qs := by
        rintro a ⟨j, hj, e⟩
        have hj : j < qs.length := hj
        have e : (qs.map V.ref ++ ws)[j]? = some (.ref a) := e
        rw [List.getElem?_append_left (by simpa using hj), List.getElem?_map, Option.map_eq_some_iff] at e
        obtain ⟨p, hp, e⟩ := e
        cases e
        exact List.mem_of_getElem? hp
      refine h cls d H' x1 (fun a o e n => (x2.h0 a o e (fun q => n (hP a q))).resolve_right fun ⟨_, z, _⟩ => nomatch z) fun a ha => x2.p0 a ?_
      obtain ⟨j, hj, e⟩ := List.mem_iff_getElem.mp ha
      exact ⟨j, hj, by show (qs.map V.ref ++ ws)[j]? = _; rw [List.getElem?_append_left (by simpa using hj)]; simp [hj, e]⟩
    | ok p =>
      rw [hx] at h
      exact body_ok l1 nd h
  · exact h.elim

theorem spF_len {K : PySem.W.Frag} {mg : Str → Option Value} {x : Str} {nin m np : Nat} {cs : List CS} {vs : List V} {H : Hp} {Q : VK} {E : XK} (h : spF K mg ⟨x, nin, none, fnRun m np nin cs⟩ vs H Q E) : vs.length = np := by
  obtain ⟨G, is, qs, ds, ws, rfl, l1, l2, nd, cl, fz, r, h⟩ := h
  have h : AfterF K mg G H qs Q E (fnRun m np nin cs (is ++ ds)) := h
  unfold fnRun at h
  split at h
  · rename_i hl
    have := r.length
    rw [List.length_append] at hl ⊢
    rw [List.length_map]
    omega
  · exact h.elim
/-- a def by its term -/
theorem okF_def {P : Program} {w : World} {K : PySem.W.Frag} {mg : Str → Option Value} {base : Heap} {x y : Str} {args : Arguments} {body : List Stmt} {scope : Scope} {f : Addr} {fd : FuncData} {N ps : List Str} {k nin : Nat} {cs : List CS}
    (F : FunD K x x args body scope [] [] f fd) (hx : mg y = some (.ref f)) (S : FnScope N ps scope) (bT : Binds K fd ps []) (bn : ∀ y ∈ bnames, mg y = none) (hn : nin ≤ ps.length)
    (hF : ∀ F ∈ fnsSs cs, OkF P w K mg base k F) (hG : ∀ g ∈ glsSs cs, GlOk K mg g.1 g.2) (hR : ∀ c ∈ rsSs cs, RaiseOk K mg c) (hc : chkSs N nin cs scope body = true) :
    OkF P w K mg base (k + 1) ⟨y, nin, none, fnRun N.length ps.length nin cs⟩ := by
  refine ⟨f, hx, F.kp, ?_⟩
  have key : FnOk P w K mg base (L2N.CX P w) (k + 1) f fd ps (spF K mg ⟨x, nin, none, fnRun N.length ps.length nin cs⟩) :=
    F.ok S (fun vs H Q E h => spF_len h) (fun cdv A outer s H vs Q E hr h => def_body S bn hF hG hR hc cdv A outer s H vs Q E hr h)
  have := key.raw bT .nil
  refine this.imp fun vs H Q E h => ?_
  show spF K mg _ (vs ++ []) H Q E
  rw [List.append_nil]; exact h
end M
end
section
set_option linter.all false
set_option maxRecDepth 100000
set_option maxHeartbeats 8000000
/-! MStar: defs with a star parameter. -/
namespace M
open PySem L2
theorem vals_split : ∀ {fs rest : List V} {us : List Value}, Vals (fs ++ rest) us → ∃ u ur, us = u ++ ur ∧ Vals fs u ∧ Vals rest ur
  | [], rest, us, r => ⟨[], us, rfl, .nil, r⟩
  | f :: fs, rest, us, r => by
    cases r with
    | cons a b =>
      obtain ⟨u, ur, rfl, h1, h2⟩ := vals_split b
      exact ⟨_ :: u, ur, rfl, .cons a h1, h2⟩
theorem cxNew {P : Program} {w : World} : CXNew (L2N.CX P w) := by
  rintro outer s H h2 p rest E e s' kp hp hn ⟨a, B, H', cls, d, rfl, fl, hok, ub, na, os, ag, hE⟩
  have ne : ∀ b o, s.heap.get? b = some o → b ≠ p := fun b o e z => by
    have := Heap.lt_size e
    rw [z] at this
    exact absurd this (Nat.not_lt.mpr hp)
  refine ⟨a, B, H', cls, d, rfl, fl, hok, ⟨fun b o e n hx => ?_, fun b o e hx => ?_, fun b o e n => ?_, fun b o e hx => ?_, fun b xs e => ?_, fun b o xs e => ?_, fun b ps e => ?_⟩, na, os, ag, hE⟩
  · exact ub.keep b o (kp b o e) (by rw [upd_ne (ne b o e)]; exact n) hx
  · exact ub.slot b o (kp b o e) hx
  · exact ub.free b o (kp b o e) (by rw [upd_ne (ne b o e)]; exact n)
  · exact ub.there b o (kp b o e) hx
  · exact ub.tups b xs (by rw [upd_ne (fun z => by rw [z, hn] at e; cases e)]; exact e)
  · exact ub.frzs b o xs (by rw [upd_ne (fun z => by rw [z, hn] at e; cases e)]; exact e)
  · exact ub.tbls b ps (by rw [upd_ne (fun z => by rw [z, hn] at e; cases e)]; exact e)
end M
namespace L2
open PySem PySem.Spec PyProof.Rows
/-- a def f(a, b, .., *r), turned from the rule for one fixed parameter -/
theorem fn_ofS {CX : CXT} {P : Program} {w : World} {K : PySem.W.Frag} {mg : Str → Option Value} {base : Heap} {k : Nat} {f : Addr} {name qual : Str} {params : Arguments} {body : List Stmt} {scope : Scope} {dV kV doc pm cdv ct oc : Value} {an od : Option Addr}
    {osl : Array (Option Value)} {N pas : List Str} {pv : Str} {nmax : Nat} {sp : Sp} (lk : K.lookup f = some ⟨oc, od, .func (PySem.W.fnOf name qual params body scope dV kV doc pm an cdv ct), osl⟩) (hcd : PySem.W.codeIn K cdv qual = true) (S : FnScope N (pas ++ [pv]) scope)
    (hz : nmax ≤ sizeLine) (hb : ∀ (us rest : List Value), us.length = pas.length → rest.length ≤ nmax → bindArgs (PySem.W.fnOf name qual params body scope dV kV doc pm an cdv ct) ⟨us ++ rest, []⟩ = (newTuple rest >>= fun t => pure (pas.zip us ++ [(pv, t)])))
    (hCX : CXNew CX)
    (hbody : ∀ (A : Around) (outer : List Env) (s : Shared) (H : Hp) (vs : List V) (Q : VK) (E : XK), Room k (A.deeper (envOfC qual scope s.heap.objs.size f cdv)) → sp vs H Q E →
      ∃ t, PSs (cxOf CX P w K mg base N qual scope f cdv A outer s H E) body t ∧ t { nx := fun _ H' => Q .non H', rt := Q } (start N vs) H) :
    FnR P w K mg base CX (k + 1) f (fun vs H Q E => ∃ fs rest, vs = fs ++ rest ∧ fs.length = pas.length ∧ rest.length ≤ nmax ∧ ∀ p, H p = none → sp (fs ++ [.ref p]) (upd H p (.tup rest)) Q E) := by
  intro A outer s H us vs Q E hr e0 r hsp
  obtain ⟨fs, rest, ev, hfl, hl, hq⟩ := hsp
  subst ev
  obtain ⟨u, ur, eu, rv, rr⟩ : ∃ u ur, us = u ++ ur ∧ Vals fs u ∧ Vals rest ur := M.vals_split r
  subst eu
  have hul : u.length = pas.length := by rw [← rv.length]; exact hfl
  have hl' : ur.length ≤ nmax := by rw [← rr.length]; exact hl
  have KX : K.In s.heap := e0.mod.kin.keeps fun b o e => (e0.bs b o e).1
  have hn : H s.heap.objs.size = none := e0.hok.fresh (Nat.le_refl _)
  have hp := hq s.heap.objs.size hn
  have kp : ∀ b o, s.heap.get? b = some o → (s.heap.push ({ cls := .type "tuple", data := .seq ur.toArray } : Obj)).get? b = some o := fun b o e => Heap.get?_push_of_some _ e
  have new : ObjOk P w (upd H s.heap.objs.size (.tup rest)) (s.heap.push ({ cls := .type "tuple", data := .seq ur.toArray } : Obj)) s.heap.objs.size (.tup rest) :=
    ⟨Nat.le_trans hl hz, ur, rr, ⟨_, Heap.get?_push_size _ rfl, rfl, _, rfl⟩⟩
  have hok2 := e0.hok.laid kp (Nat.le_refl _) new
  have un : Un (frs outer) [] H (upd H s.heap.objs.size (.tup rest)) s.heap (s.heap.push ({ cls := .type "tuple", data := .seq ur.toArray } : Obj)) := Un.laid kp (Nat.le_refl _) hn
  have e2 : Env0 P w K mg base A outer { s with heap := s.heap.push ({ cls := .type "tuple", data := .seq ur.toArray } : Obj) } (upd H s.heap.objs.size (.tup rest)) := by
    refine ⟨e0.frames, e0.mod, fun b o e => ⟨kp b o (e0.bs b o e).1, ?_⟩, ?_, Heap.FunFrames.of_keeps (fun b o e _ => ⟨o, kp b o e, rfl⟩) e0.funs, fun b hb' => ?_, hok2, e0.bare⟩
    · rw [upd_ne (Nat.ne_of_lt (Heap.lt_size (e0.bs b o e).1))]
      exact (e0.bs b o e).2
    · show base.objs.size ≤ (s.heap.push _).objs.size
      rw [Heap.size_push]
      exact Nat.le_succ_of_le e0.bsz
    · obtain ⟨_, o, ho, _⟩ := e0.funs.mem hb'
      rw [upd_ne (Nat.ne_of_lt (Heap.lt_size ho))]
      exact e0.frf b hb'
  have lim : (s.heap.push ({ cls := .type "tuple", data := .seq ur.toArray } : Obj)).NoLimit := e0.mod.nolimit.keeps fun b o e => (e2.bs b o e).1
  have hkind : ∀ y ∈ (pas ++ [pv]).zip (u ++ [Value.ref s.heap.objs.size]), scope.names.lookup y.1 = some .local ∨
      (scope.names.lookup y.1 = some .cell ∧ ((cellsFrom ((s.heap.push ({ cls := .type "tuple", data := .seq ur.toArray } : Obj)).objs.size + 1) scope.names []).lookup y.1).isSome = true) := fun y hy => by
    rcases S.par y.1 (List.of_mem_zip hy).1 with q | q
    · exact .inl q
    · exact .inr ⟨q, PySem.W.cellsFrom_some _ _ _ (.inl q)⟩
  refine codeAny_call_function hr.depth (KX _ _ lk) rfl S.co S.gen rfl (PySem.W.codeRec_of KX hcd) ?_
  rw [hb u ur hul hl']
  refine wpAny_bind (wpAny_newTuple (wpAny_pure ?_) (Nat.le_trans hl' hz))
  have hzip : pas.zip u ++ [(pv, Value.ref s.heap.objs.size)] = (pas ++ [pv]).zip (u ++ [Value.ref s.heap.objs.size]) := by rw [List.zip_append hul.symm]; rfl
  rw [hzip]
  refine wpAny_newFunctionEnv_cells (s := { s with heap := s.heap.push ({ cls := .type "tuple", data := .seq ur.toArray } : Obj) }) S.kind hkind fun env he s1 x => ?_
  subst he
  refine ⟨lim.keeps x.toInCall.keep, codeAny_func ?_⟩
  obtain ⟨t, ht, hq'⟩ := hbody A outer { s with heap := s.heap.push ({ cls := .type "tuple", data := .seq ur.toArray } : Obj) } (upd H s.heap.objs.size (.tup rest)) (fs ++ [.ref s.heap.objs.size]) Q E (hr.deeper _) hp
  have r2 : Vals (fs ++ [V.ref s.heap.objs.size]) (u ++ [Value.ref s.heap.objs.size]) := rv.append (.cons rfl .nil)
  have I : Inv (cxOf CX P w K mg base N qual scope f cdv A outer { s with heap := s.heap.push ({ cls := .type "tuple", data := .seq ur.toArray } : Obj) } (upd H s.heap.objs.size (.tup rest)) E) [] (start N (fs ++ [.ref s.heap.objs.size])) (upd H s.heap.objs.size (.tup rest)) s1 :=
    inv_start S hr.hd e2 (by rw [List.length_append, List.length_append, hfl]; rfl) r2 x
  refine wpAny_mono (ht.run [] s1 _ _ _ I hq') (fun fl s' hs => ?_) fun e s' hs => ?_
  · have fin : ∀ {σ' : St} {H' : Hp} {v' : V} {u' : Value}, Inv (cxOf CX P w K mg base N qual scope f cdv A outer { s with heap := s.heap.push ({ cls := .type "tuple", data := .seq ur.toArray } : Obj) } (upd H s.heap.objs.size (.tup rest)) E) [] σ' H' s' → RelV v' u' → Q v' H' →
        CE outer P w H s Q u' s' := fun {σ' H' v' u'} J rv' q => ⟨v', H', J.os, J.bare, un.trans J.base, J.hok, rv', q⟩
    cases fl with
    | ret u' =>
      obtain ⟨v', σ', H', J, rv', q⟩ := hs
      exact fin J rv' q
    | next =>
      obtain ⟨σ', H', J, q⟩ := hs
      exact fin (v' := V.non) (u' := Value.none) J rfl q
    | brk =>
      obtain ⟨_, _, _, q⟩ := hs
      exact False.elim q
    | cont =>
      obtain ⟨_, _, _, q⟩ := hs
      exact False.elim q
  · exact wpAny_mono hs (fun _ s'' z => hCX outer s H _ _ rest E e s'' kp (Nat.le_refl _) hn z) fun e' s'' z => hCX outer s H _ _ rest E e' s'' kp (Nat.le_refl _) hn z
end L2
namespace M
open PySem L2 PyProof.Rows
theorem after_star {K : PySem.W.Frag} {mg : Str → Option Value} {G H : Hp} {ps : List Addr} {Q : VK} {E : XK} {p : Addr} {o : HO} {r : Out (Res × List D)} (hp : H p = none) (hg : G p = none) (h : AfterF K mg G H ps Q E r) : AfterF K mg (upd G p o) (upd H p o) ps Q E r := by
  have s : Same G (upd G p o) := fun b u e => by
    have ne : b ≠ p := fun z => by subst z; rw [hg] at e; cases e
    rw [upd_ne ne]; exact e
  have hd : ∀ {H' : Hp}, Held (upd H p o) H' ps → Held H H' ps := fun {H'} hh a u e n => hh a u (by rw [upd_ne (fun z => by subst z; rw [hp] at e; cases e)]; exact e) n
  cases r with
  | stuck => exact h
  | exc c q => exact fun cls d H' x1 x2 x3 => h cls d H' x1 (hd x2) x3
  | ok z =>
    intro v G' H' s' fz nw hh hc hl hr
    refine h v G' H' (s.trans s') fz (fun a u e => ?_) (hd hh) hc hl ?_
    · by_cases ne : a = p
      · subst ne; exact .inr hp
      · rcases nw a u e with q | q
        · rw [upd_ne ne] at q; exact .inl q
        · rw [upd_ne ne] at q; exact .inr q
    · obtain ⟨r, outs⟩ := z
      cases r with
      | val d => exact hr
      | slot i => exact hr
      | own d =>
        obtain ⟨q, e, g, c, hq⟩ := hr
        refine ⟨q, e, g, c, ?_⟩
        by_cases ne : q = p
        · subst ne; exact hp
        · rw [upd_ne ne] at hq; exact hq
/-- a def with a star parameter, by its term -/
theorem okF_star {P : Program} {w : World} {K : PySem.W.Frag} {mg : Str → Option Value} {base : Heap} {x y : Str} {args : Arguments} {body : List Stmt} {scope : Scope} {f : Addr} {fd : FuncData} {N pas : List Str} {pv : Str} {k nin : Nat} {cs : List CS}
    (F : FunD K x x args body scope [] [] f fd) (hx : mg y = some (.ref f)) (S : FnScope N (pas ++ [pv]) scope)
    (hb : ∀ (kV doc pm : Value) (an : Option Addr) (cdv ct : Value) (us rest : List Value), us.length = pas.length → rest.length ≤ 5 → bindArgs (PySem.W.fnOf x x args body scope .none kV doc pm an cdv ct) ⟨us ++ rest, []⟩ = (newTuple rest >>= fun t => pure (pas.zip us ++ [(pv, t)])))
    (bn : ∀ y ∈ bnames, mg y = none) (hn : nin ≤ pas.length)
    (hF : ∀ F ∈ fnsSs cs, OkF P w K mg base k F) (hG : ∀ g ∈ glsSs cs, GlOk K mg g.1 g.2) (hR : ∀ c ∈ rsSs cs, RaiseOk K mg c) (hc : chkSs N nin cs scope body = true) :
    OkF P w K mg base (k + 1) ⟨y, nin, some pas.length, starRun pas.length (fnRun N.length (pas.length + 1) nin cs)⟩ := by
  refine ⟨f, hx, F.kp, ?_⟩
  obtain ⟨oc, od, dV, kV, doc, pm, an, cdv, ct, osl, rfl, lk, hcd, hD, _⟩ := F.ex
  obtain rfl : dV = .none := by
    rcases hD with ⟨_, rfl⟩ | ⟨e, _⟩
    · rfl
    · exact absurd rfl e
  have l : (pas ++ [pv]).length = pas.length + 1 := by simp
  have key := fn_ofS (CX := L2N.CX P w) (P := P) (w := w) (mg := mg) (base := base) (k := k) (nmax := 5) (sp := spF K mg ⟨x, nin, none, fnRun N.length (pas.length + 1) nin cs⟩) lk hcd S (by rw [sizeLine_eq]; omega) (hb kV doc pm an cdv ct) cxNew
    (fun A outer s H vs Q E hr h => def_body (ps := pas ++ [pv]) S bn hF hG hR hc cdv A outer s H vs Q E hr (by rw [l]; exact h))
  refine key.imp fun vs H Q E h => ?_
  obtain ⟨G, is, qs, ds, ws, rfl, l1, l2, nd, cl, fz, r, h⟩ := h
  have l1 : qs.length = nin := l1
  have h : AfterF K mg G H qs Q E (starRun pas.length (fnRun N.length (pas.length + 1) nin cs) ((is ++ ds).take pas.length ++ [.tup ((is ++ ds).drop pas.length)])) := h
  have tk : (is ++ ds).take pas.length = is ++ ds.take (pas.length - nin) := by rw [List.take_append, List.take_of_length_le (by omega)]; congr 2; omega
  have dr : (is ++ ds).drop pas.length = ds.drop (pas.length - nin) := by rw [List.drop_append, List.drop_eq_nil_of_le (by omega)]; simp; congr 1; omega
  rw [tk, dr] at h
  unfold starRun at h
  have lr := r.length
  by_cases hm : ds.length < pas.length - nin
  · have e : ((is ++ ds.take (pas.length - nin)) ++ [D.tup (ds.drop (pas.length - nin))])[pas.length]? = none := by
      apply List.getElem?_eq_none
      simp only [List.length_append, List.length_take, List.length_cons, List.length_nil]
      omega
    rw [e] at h
    exact h.elim
  · have e : ((is ++ ds.take (pas.length - nin)) ++ [D.tup (ds.drop (pas.length - nin))])[pas.length]? = some (.tup (ds.drop (pas.length - nin))) := by
      have hl : (is ++ ds.take (pas.length - nin)).length = pas.length := by
        simp only [List.length_append, List.length_take]
        omega
      rw [List.getElem?_append_right (by omega), hl]
      simp
    rw [e] at h
    dsimp only at h
    split at h
    · rename_i hle
      refine ⟨qs.map V.ref ++ ws.take (pas.length - nin), ws.drop (pas.length - nin), by rw [List.append_assoc, List.take_append_drop], ?_, ?_, fun p hp => ?_⟩
      · simp only [List.length_append, List.length_map, List.length_take]
        omega
      · rw [List.length_drop] at hle ⊢
        omega
      · have hg : G p = none := by
          cases q : G p with
          | none => rfl
          | some o => exact absurd hp (fz p o q).ne
        have s : Same G (upd G p (.tup (ws.drop (pas.length - nin)))) := fun b u e => by
          have ne : b ≠ p := fun z => by subst z; rw [hg] at e; cases e
          rw [upd_ne ne]; exact e
        refine ⟨upd G p (.tup (ws.drop (pas.length - nin))), is, qs, ds.take (pas.length - nin) ++ [.tup (ds.drop (pas.length - nin))], ws.take (pas.length - nin) ++ [.ref p], by simp, l1, l2, nd, fun x hx => ?_, fun a o e => ?_, ?_, ?_⟩
        · obtain ⟨g, c⟩ := cl x hx
          have ne : x.2 ≠ p := fun z => by rw [z, hp] at c; exact c.ne rfl
          exact ⟨by rw [upd_ne ne]; exact g, by rw [upd_ne ne]; exact c.mono s⟩
        · by_cases ne : a = p
          · subst ne; rw [upd_same] at e; cases e; exact .inl upd_same
          · rw [upd_ne ne] at e
            rcases fz a o e with z | ⟨z1, ob, z⟩
            · exact .inl (by rw [upd_ne ne]; exact z)
            · exact .inr ⟨z1, ob, by rw [upd_ne ne]; exact z⟩
        · refine RepL.append (RepL.mono s _ (r.take _)) (RepL.cons ?_ RepL.nil)
          simp only [Rep]
          exact ⟨p, _, rfl, SqT.of upd_same, RepL.mono s _ (r.drop _)⟩
        · have := after_star (o := .tup (ws.drop (pas.length - nin))) hp hg h
          show AfterF K mg _ _ qs Q E (fnRun N.length (pas.length + 1) nin cs (is ++ (ds.take (pas.length - nin) ++ [.tup (ds.drop (pas.length - nin))])))
          rw [← List.append_assoc]
          exact this
    · exact h.elim
end M
end
section
set_option linter.all false
set_option maxRecDepth 100000
set_option maxHeartbeats 4000000
/-! MHot: a list comprehension over a range, a sum, isinstance of the error, while an error is handled. -/
namespace M
open PySem PySem.Spec PyProof.Rows L2 HotX L2H
section
variable {prog : Program} {w : World} {A : Around} {E : Value → Shared → Prop} {s : Shared}
/-- the end of a list's walk makes a StopIteration that is chained -/
theorem list_end_hot {it l x1 : Addr} {i : Nat} {items : Array Value} {Q : Option Value → Shared → Prop} (hot : HotAt A x1 s.heap) (ne : x1 ≠ it)
    (hit : s.heap.IsListIter it l i) (hl : s.heap.IsList l items) (hx : items[i]? = none)
    (hQ : ∀ h', Heap.ExtBut it s.heap h' → Q none { s with heap := h' }) : wpAny (model prog w) A (pyNext (.ref it)) Q E s := by
  obtain ⟨o, g1, g2, g3⟩ := id hit
  obtain ⟨u, k1, _, nl, k2⟩ := hl
  obtain ⟨hh, o1, vs1, e1, d1, c1⟩ := hot
  unfold pyNext
  refine wpAny_bind (wpAny_attempt (wpAny_callSpecial?_slot (name := Str.ofString "__next__") hit.typeIs slot_listiter_next (wpAny_call_entry slot_listiter_next hit.typeIs entry_listiter_next ?_ (args_listiter_next _))))
  show wpAny _ _ (field (.ref it) 0 >>= _) _ _ s
  refine wpAny_bind (wpAny_field g1 g3 (x := .ref l) rfl ?_)
  show wpAny _ _ (if (Value.ref l == Value.none) = true then _ else _) _ _ s
  rw [if_neg (show ¬ ((Value.ref l == Value.none) = true) from Bool.false_ne_true)]
  show wpAny _ _ (field (.ref it) 1 >>= _) _ _ s
  refine wpAny_bind (wpAny_field g1 g3 (x := .int i 0) rfl ?_)
  show wpAny _ _ (seqItems? (.ref l) >>= _) _ _ s
  refine wpAny_bind (wpAny_seqItems k1 k2 ?_)
  simp only [Int.toNat_natCast, hx]
  refine wpAny_bind (wpAny_rule (wpAny_bind (wpAny_setField g1 g3 (by simp) ?_)))
  show wpAny _ _ (newExc (.type "StopIteration") [] >>= _) _ _ _
  refine wpAny_bind ?_
  simp only [newExc, newTuple]
  refine wpAny_bind (wpAny_newObj_type ?_ (by size_fits))
  refine wpAny_bind (m := firstArgMember _ _) (wpAny_of_eq (a := Value.none) (by first | rfl | (simp only [firstArgMember]; rfl)) ?_)
  refine wpAny_newObj_type ?_ (by size_fits)
  have e1' : ∀ f, (s.heap.update it f).get? x1 = some o1 := fun f => by rw [Heap.get?_update_other _ _ (Ne.symm ne)]; exact e1
  refine raiseNew_hot ⟨hh, o1, vs1, Heap.get?_push_of_some _ (Heap.get?_push_of_some _ (e1' _)), d1, c1⟩ (Nat.ne_of_lt (Heap.lt_size (Heap.get?_push_of_some _ (e1' _)))) (Heap.get?_push_size _ rfl) rfl (by first | (simp; done) | (simp; omega) | (simp only [Array.size_append]; simp; omega)) ?_
  refine wpAny_bind (wpAny_isInstance (T := "StopIteration") (b := true) ⟨_, Heap.get?_update_self _ (Heap.get?_push_size _ rfl) rfl, rfl⟩ isSubtype_stop ?_)
  refine wpAny_pure (hQ _ fun b o hb e => ?_)
  have e' : ∀ f, (s.heap.update it f).get? b = some o := fun f => by rw [Heap.get?_update_other _ _ (Ne.symm hb)]; exact e
  rw [Heap.get?_update_other _ _ (Nat.ne_of_gt (Heap.lt_size (Heap.get?_push_of_some _ (e' _))))]
  exact Heap.get?_push_of_some _ (Heap.get?_push_of_some _ (e' _))
theorem walks_hot {x1 I ax : Addr} {o1 : Obj} {v1 : Array Value} (hh : A.handled = some (.ref x1)) (d1 : o1.data = .fields v1) (c1 : v1[2]? = some .none) (hne : ax ≠ I) (h1 : x1 ≠ I) (items : Array Value) :
    Walks prog w A I [I, ax, x1] [I] items.size (fun i v => items[i]? = some v) (fun i h => (h.IsListIter I ax i ∧ h.IsList ax items) ∧ h.get? x1 = some o1) where
  sub := fun b hb => by simp at hb; simp [hb]
  frame := fun _ _ _ st hk => ⟨⟨st.1.1.at fun o e => hk I (by simp) o e, st.1.2.at fun o e => hk ax (by simp) o e⟩, hk x1 (by simp) _ st.2⟩
  item := fun i s Q E hi st hQ => by
    refine wpAny_pyNext_list_item st.1.1 st.1.2 (x := items[i]) (by simp [hi]) fun h' k1 k2 => ?_
    exact hQ _ h' s.toks (by simp [hi]) ⟨⟨k1, st.1.2.extBut k2.extBut hne⟩, k2.extBut _ _ h1 st.2⟩ fun b o hb e => k2.extBut b o (fun h => hb (by simp [h])) e
  done := fun s Q E st hQ => list_end_hot ⟨hh, o1, v1, st.2, d1, c1⟩ h1 st.1.1 st.1.2 (by simp) fun h' k => hQ h' s.toks fun b o hb e => k b o (fun h => hb (by simp [h])) e
  self := fun _ _ _ _ st hQ => wpAny_pyIter_listiter st.1.1 hQ
theorem sum_hot {x1 l : Addr} {its : List Value} {ns : List Int} {Q : Value → Shared → Prop} (hot : HotAt A x1 s.heap) (hl : s.heap.IsList l its.toArray) (hi : IntsAre its ns)
    (h : ∀ h' tk t', (∀ b o, s.heap.get? b = some o → h'.get? b = some o) → Q (.int ns.sum t') { s with heap := h', toks := tk }) : wpAny (model prog w) A (call (.builtin "sum") [.ref l]) Q E s := by
  obtain ⟨xs, e⟩ := hi.allInts.items
  have hn : numsOf (intItems xs).toList = ns := by rw [← e]; exact hi.numsOf
  rw [nums_intItems] at hn
  rw [e] at hl
  obtain ⟨hh, o1, v1, e1, d1, c1⟩ := hot
  refine call_sum_walkG (iter_intList hl fun s₂ e2 st hfp hlI => ?_)
  subst e2
  have lt1 := Heap.lt_size e1
  refine ⟨_, _, _, _, _, _, numAt xs, rfl, walks_hot (A := A.in1) (x1 := x1) (show A.in1.handled = _ from hh) d1 c1 hlI (Nat.ne_of_lt lt1) (intItems xs), ⟨st, Heap.get?_push_of_some _ e1⟩, fun b hb => ?_, (fun _ _ => intItems_at), fun h' tk t' hk => ?_⟩
  · rcases List.mem_cons.mp hb with rfl | hb
    · exact hfp _ (by simp)
    · rcases List.mem_cons.mp hb with rfl | hb
      · exact hfp _ (by simp)
      · have : b = x1 := by simpa using hb
        subst this
        show _ < (s.heap.push _).objs.size
        rw [Heap.size_push]; exact Nat.lt_succ_of_lt lt1
  · have := h h' tk t' (old_kept hk)
    rw [← hn] at this
    have e3 : preSum (numAt xs) (intItems xs).size = (xs.toList.map (·.1)).sum := by
      have : (intItems xs).size = xs.size := by simp [intItems]
      rw [this, preSum_eq, List.take_of_length_le (by simp)]
    rw [e3]; exact this
end
section
variable {X : Cx} {tg : Expr}
theorem cr_sumH (hc : HotC X) : CallR X (.builtin "sum") (rSum X.K) := by
  intro pins s σ H vs us Q I r h
  obtain ⟨a, ns, rfl, hs, q⟩ := h
  obtain ⟨its, rv, hl, _⟩ := I.list hs
  obtain ⟨x1, hot⟩ := hc.at I
  rw [Vals.ref1 r]
  exact sum_hot hot hl.isList rv.ints fun h' tk t' hk => ⟨.int _, H, I.kept hk, ⟨_, rfl⟩, q⟩
/-! ### a list comprehension over a range -/
def tnR (it : Addr) (lo : Int) (n : Nat) (i : Nat) (h : Heap) : Prop := IsRangeIter h it (lo + (i : Nat) * 1) ((n : Int) - (i : Nat)) 1
theorem item_hot {it : Addr} {lo : Int} {n i : Nat} {pins : List (Addr × Obj)} {s : Shared} {σ : L2.St} {H : Hp} {E : Value → Shared → Prop} (I : Inv X pins σ H s) (hf : FpOk X pins H it) (st : tnR it lo n i s.heap) (hlt : i < n) :
    wpAny (model X.prog X.w) X.A (pyNext (.ref it)) (fun r s1 => ∃ u, r = some u ∧
      wpAny (model X.prog X.w) X.A (letOwnedTupleGo tg (.ref it) u) (fun _ s2 => Inv X pins σ H s2 ∧ RelV (.int (lo + i)) u ∧ tnR it lo n (i + 1) s2.heap) E s1) E s := by
  obtain ⟨f0, f1, f2, f3, f4, f5⟩ := hf
  refine wpAny_pyNext_range_item st (by omega) fun h' st' sb => ?_
  have st2 : tnR it lo n (i + 1) h' := by
    have k1 : lo + ((i : Nat) : Int) * 1 + 1 = lo + ((i + 1 : Nat) : Int) * 1 := by omega
    have k2 : (n : Int) - ((i : Nat) : Int) - 1 = (n : Int) - ((i + 1 : Nat) : Int) := by omega
    unfold tnR
    rw [← k1, ← k2]
    exact st'
  have I1 : Inv X pins σ H { s with heap := h', toks := s.toks + 1 } := I.turned (fun b o hb e => (sb.2 b hb).trans e) f0 f1 f3 f4 f5
  refine ⟨_, rfl, go_of (s := { s with heap := h', toks := s.toks + 1 }) (n := "range_iterator") st2 rfl rfl (by decide) ⟨I1, ⟨s.toks, ?_⟩, st2⟩⟩
  rw [Int.mul_one]
theorem done_hot {x1 it : Addr} {lo : Int} {n i : Nat} {pins : List (Addr × Obj)} {s : Shared} {σ : L2.St} {H : Hp} {E : Value → Shared → Prop} (hot : HotAt X.A x1 s.heap) (I : Inv X pins σ H s) (hf : FpOk X pins H it) (st : tnR it lo n i s.heap) (hlt : n ≤ i) :
    wpAny (model X.prog X.w) X.A (pyNext (.ref it)) (fun r s1 => r = none ∧ Inv X pins σ H s1) E s := by
  obtain ⟨f0, f1, f2, f3, f4, f5⟩ := hf
  exact pyNext_range_end_hot hot st (by omega) fun h' eb => ⟨rfl, I.turned (t' := s.toks) (fun b o _ e => eb b o e) f0 f1 f3 f4 f5⟩
/-- [elt for x in range(..)], while an error is handled -/
theorem pe_lcH {elt e1 : Expr} {ifs : List Expr} {scope : Scope} {own : List (Str × Nat)} {p pos pos2 : Pos} {ta : TA} {g : TG} {tt : TT} {te : TE} (hc : HotC X) (hN : X.N.Nodup) (ok : BlkOk X.N X.env.scope scope own) (hgr : Gl X "range") (hm : X.mg "range" = none) (ha : PA X [e1] ta) (hst : starEach [e1] X.env = [(false, eval e1 X.env)])
    (hg : ∀ (s : Shared) (H : Hp) (C : Addr) (cl : List (Str × Addr)) (fp : List Addr), PG (X.blk s H scope (compEnvC scope cl C X.env) fp) tg g) (ht : ∀ (s : Shared) (H : Hp) (C : Addr) (cl : List (Str × Addr)) (fp : List Addr), PTs (X.blk s H scope (compEnvC scope cl C X.env) fp) ifs tt)
    (he : ∀ (s : Shared) (H : Hp) (C : Addr) (cl : List (Str × Addr)) (fp : List Addr), PE (X.blk s H scope (compEnvC scope cl C X.env) fp) elt te) :
    PE X (.ListComp elt [⟨tg, .Call (.Name "range" p) [e1] [] pos2, ifs, 0⟩] scope pos) (tLc (iRng1 ta) g tt te (own.map (·.2))) := by
  refine ⟨fun pins s σ H Q I h => ?_⟩
  rw [eval_ListComp]
  have hfree : ∀ y ∈ scope.names, y.2 = .free → ∃ c, X.env.cells.lookup y.1 = some c := fun y hy e => (ok.free y hy e).elim (fun k => I.ok.has _ (.inl k)) fun k => I.ok.has _ (.inr k)
  refine wpAny_comprehension_free (use := none) rfl (fun _ => rfl) (closure_ok hfree) ok.kind (fun y hy e => by rw [ok.uniq y hy, e]) ?_
  -- the range
  refine Call_ (ld_blt I hgr hm boot_range (PyProof.Rows.callWith_type1 (thn (ha.run pos2 pins s σ H _ I h) fun us s1 ⟨vs, H1, I1, r1, q1⟩ => ?_) hst rfl))
  obtain ⟨j, ej, q1, q2, q⟩ := q1
  subst ej
  cases r1 with
  | cons r rr =>
    cases rr
    obtain ⟨t, rfl⟩ := r
    refine call_range_1 ?_
    have I2 : Inv X pins σ H1 { s1 with heap := s1.heap.push { cls := .type "range", data := .fields #[.int 0 s1.toks, .int j t, .int 1 (s1.toks + 1)] }, toks := s1.toks + 1 + 1 } := I1.kept fun b o e => Heap.get?_push_of_some _ e
    refine wpAny_pyIter_range (IsRange.new ..) (small_one (by omega) (by omega) (by omega) (by omega)) ?_
    generalize hs2 : ({ s1 with heap := s1.heap.push { cls := .type "range", data := .fields #[.int 0 s1.toks, .int j t, .int 1 (s1.toks + 1)] }, toks := s1.toks + 1 + 1 } : Shared) = s2 at I2 ⊢
    have fIt : FpOk X pins H1 s2.heap.objs.size := I2.fpOk (Nat.le_refl _) (I2.hok.fresh (Nat.le_refl _))
    generalize hit : s2.heap.objs.size = it at fIt ⊢
    have I3 : Inv X pins σ H1 { s2 with heap := s2.heap.push { cls := .type "range_iterator", data := .fields #[rawInt 0, rawInt (Builtin.Range.rangeSize 0 j 1), rawInt 1] } } := I2.kept (t' := s2.toks) fun b o e => Heap.get?_push_of_some _ e
    have st0 : tnR it 0 j.toNat 0 ({ s2 with heap := s2.heap.push { cls := .type "range_iterator", data := .fields #[rawInt 0, rawInt (Builtin.Range.rangeSize 0 j 1), rawInt 1] } } : Shared).heap := by
      unfold tnR
      have k1 : (0 : Int) + ((0 : Nat) : Int) * 1 = 0 := by simp
      have k2 : ((j.toNat : Nat) : Int) - ((0 : Nat) : Int) = Builtin.Range.rangeSize 0 j 1 := by rw [rangeSize_one]; split <;> omega
      rw [k1, k2, ← hit]
      exact Heap.get?_push_size _ rfl
    generalize hs3 : ({ s2 with heap := s2.heap.push { cls := .type "range_iterator", data := .fields #[rawInt 0, rawInt (Builtin.Range.rangeSize 0 j 1), rawInt 1] } } : Shared) = s3 at I3 st0 ⊢
    have q : ∀ D, H1 D = none → ∃ W : Nat → Nat → Hp → Prop, (∃ m, W 0 m (upd H1 D (.lst []))) ∧ ∀ i m H, W i m H →
      ((Itr 0 j.toNat).stop i H ∧ Q (.ref D) H) ∨ ((Itr 0 j.toNat).go i H ∧ ∃ Nx : Hp → Prop, (∀ H', Nx H' → ∃ m', m' < m ∧ W (i + 1) m' H') ∧ ∀ x H', (Itr 0 j.toNat).yld i H x H' → g x (L2.wipe σ (own.map (·.2))) H' fun σ2 H2 => L2.wipe σ2 (own.map (·.2)) = L2.wipe σ (own.map (·.2)) ∧ tt σ2 H2 fun b H3 =>
        if b = true then te σ2 H3 fun y H4 => ∃ acc, H4 D = some (.lst acc) ∧ acc.length < sizeLine ∧ Nx (upd H4 D (.lst (acc ++ [y]))) else Nx H3) := q
    refine wpAny_newObj_type (newEnv_comp ?_) (by show 0 ≤ sizeLine; decide)
    generalize hD : s3.heap.objs.size = D
    have nD : H1 D = none := I3.hok.fresh (Nat.le_of_eq hD)
    obtain ⟨W, ⟨m0, w0⟩, turn⟩ := q D nD
    generalize hs4 : ({ s3 with heap := s3.heap.push { cls := .type "list", data := .seq ([] : List Value).toArray } } : Shared) = s4
    have I4 : Inv X pins σ (upd H1 D (.lst [])) s4 := by
      rw [← hs4]
      refine I3.laid (t' := s3.toks) (fun b o e => Heap.get?_push_of_some _ e) (Nat.le_of_eq hD) ⟨Nat.zero_le _, [], 0, .nil, ?_⟩
      rw [← hD]
      exact Heap.get?_push_size _ rfl
    have hh4 : s4.heap = s3.heap.push { cls := .type "list", data := .seq ([] : List Value).toArray } := by rw [← hs4]
    have ltI : it < s3.heap.objs.size := Heap.lt_size st0
    have f4 : FpOk X pins (upd H1 D (.lst [])) it ∧ it < s4.heap.objs.size := by
      refine ⟨⟨?_, fIt.2⟩, by rw [hh4, Heap.size_push]; exact Nat.lt_succ_of_lt ltI⟩
      rw [upd_ne (by rw [← hD]; exact Nat.ne_of_lt ltI)]
      exact fIt.1
    have st4 : tnR it 0 j.toNat 0 s4.heap := by rw [hh4]; exact Heap.get?_push_of_some _ st0
    have I5 := block_start (fp := [it]) I4 ok hN (fun b hb => by
      have : b = it := by simpa using hb
      subst this; exact f4)
    -- the exception stays
    obtain ⟨px, ⟨hhd, v1, d1, c1⟩, hpx⟩ := hc
    have P1 := I4.pin px (List.mem_append_left _ hpx)
    have nst : px.1 ∉ frs X.stack := fun hm => (List.mem_cons.mp (I4.stkSub px.1 hm)).elim P1.2.2.1 P1.2.2.2.1
    have nit : px.1 ≠ it := f4.1.2.2.2.2.2 px (List.mem_append_left _ hpx)
    have pg := hg s4 (upd H1 D (.lst [])) s4.heap.objs.size (cellsFrom (s4.heap.objs.size + 1) scope.names (cloFrom X.env.cells scope.names [])) [it]
    have pt := ht s4 (upd H1 D (.lst [])) s4.heap.objs.size (cellsFrom (s4.heap.objs.size + 1) scope.names (cloFrom X.env.cells scope.names [])) [it]
    have pe := he s4 (upd H1 D (.lst [])) s4.heap.objs.size (cellsFrom (s4.heap.objs.size + 1) scope.names (cloFrom X.env.cells scope.names [])) [it]
    show codeAny _ _ (.compStart (.ListComp elt [⟨tg, .Call (.Name "range" p) [e1] [] pos2, ifs, 0⟩] scope pos) 0 (.ref it) (.ref D) (compEnvC scope (cellsFrom (s4.heap.objs.size + 1) scope.names (cloFrom X.env.cells scope.names [])) s4.heap.objs.size X.env)) (compPost (model X.prog X.w) X.A X.xe none (fun v s1 => ∃ x H', Inv X pins σ H' s1 ∧ RelV x v ∧ Q x H') (.ref D) s4.heap.objs.size) { s4 with heap := pushCells (s4.heap.push { cls := .type "dict", data := .dict #[] }) scope.names }
    have nI : (upd H1 D (.lst [])) it = none := f4.1.1
    generalize hce : compEnvC scope (cellsFrom (s4.heap.objs.size + 1) scope.names (cloFrom X.env.cells scope.names [])) s4.heap.objs.size X.env = ce at I5 pg pt pe ⊢
    have cL : ce.locals = s4.heap.objs.size := by subst hce; rfl
    generalize hH3 : upd H1 D (.lst []) = H3 at I4 I5 pg pt pe w0 nI f4 P1
    generalize hs5 : ({ s4 with heap := pushCells (s4.heap.push { cls := .type "dict", data := .dict #[] }) scope.names } : Shared) = s5 at I5 ⊢
    have st5 : tnR it 0 j.toNat 0 s5.heap := by rw [← hs5]; exact pushCells_keeps _ _ _ _ (Heap.get?_push_of_some _ st4)
    have stat : ∀ {σ' : L2.St} {H' : Hp} {s' : Shared}, Inv (X.blk s4 H3 scope ce [it]) [] σ' H' s' → H' it = none → FpOk (X.blk s4 H3 scope ce [it]) [] H' it := fun {σ' H' s'} I' hn =>
      ⟨hn, (I'.ok.exf it List.mem_cons_self).1, I'.ok.exfs it List.mem_cons_self, .inl List.mem_cons_self, fun x c e => (I'.ok.exf it List.mem_cons_self).2 x c e, fun p hp => absurd (show p ∈ ([] : List (Addr × Obj)) ++ [] from hp) (by simp)⟩
    have hot : ∀ {σ' : L2.St} {H' : Hp} {s' : Shared}, Inv (X.blk s4 H3 scope ce [it]) [] σ' H' s' → HotAt (X.blk s4 H3 scope ce [it]).A px.1 s'.heap := fun {σ' H' s'} I' =>
      ⟨hhd, px.2, v1, I'.base.keep px.1 px.2 P1.1 P1.2.1 nst (fun z => nit (by simpa using z)), d1, c1⟩
    have loop : codeAny (model X.prog X.w) X.A (.compLoop (.ListComp elt [⟨tg, .Call (.Name "range" p) [e1] [] pos2, ifs, 0⟩] scope pos) 0 (.ref it) (.ref D) ce) (compPost (model X.prog X.w) X.A X.xe none (fun v s1 => ∃ x H', Inv X pins σ H' s1 ∧ RelV x v ∧ Q x H') (.ref D) s4.heap.objs.size) s5 := by
      refine compLoop_any (fun n s' => ∃ i H', Inv (X.blk s4 H3 scope ce [it]) [] (L2.wipe σ (own.map (·.2))) H' s' ∧ tnR it 0 j.toNat i s'.heap ∧ H' it = none ∧ W i n H') ?_ m0 ⟨0, H3, I5, st5, nI, w0⟩
      rintro n s6 ⟨i, H6, I6, st6, n6, w6⟩
      rcases turn i n H6 w6 with ⟨stop, qq⟩ | ⟨go, Nx, hNx, step⟩
      · refine thnF (done_hot (X := X.blk s4 H3 scope ce [it]) (E := fun _ _ => False) (hot I6) I6 (stat I6 n6) st6 stop) fun r s7 ⟨hr, I7⟩ => ?_
        subst hr
        have I8 : Inv X pins σ H6 s7 := I4.call' (ch := [it]) I7.os I7.base I7.hok I7.bare fun b hb => by
          have : b = it := by simpa using hb
          subst this
          exact ⟨f4.1.2.2.2.1, f4.1.2.1, f4.1.2.2.2.2.1, f4.1.2.2.2.2.2⟩
        have nC : H6 s4.heap.objs.size = none := by
          have z : H6 ce.locals = none := I7.free
          rw [cL] at z
          exact z
        obtain ⟨m, hn, _⟩ := I7.loc
        have hn : s7.heap.Ns ce.locals m := hn
        rw [cL] at hn
        obtain ⟨f0, f1, f2, f3, f5, f6⟩ := I4.fpOk (Nat.le_refl _) nC
        exact ⟨m, hn, fun h'' sb => ⟨.ref D, H6, I8.turned (t' := s7.toks) (fun b o hb e => (sb.2 b hb).trans e) f0 f1 f3 f5 f6, rfl, qq⟩⟩
      · refine thnF (item_hot (X := X.blk s4 H3 scope ce [it]) (tg := tg) (E := fun _ _ => False) I6 (stat I6 n6) st6 go) fun r s7 ⟨u, hr, h7⟩ => ?_
        subst hr
        refine thnF h7 fun _ s8 ⟨I8, r8, st8⟩ => ?_
        have hob : ∀ b ∈ [it], ∃ o, s8.heap.get? b = some o ∧ ∀ v, o.data ≠ .cell v := fun b hb => by
          have : b = it := by simpa using hb
          subst this
          exact ⟨_, st8, fun v z => by
            have z' : Data.fields _ = Data.cell v := z
            cases z'⟩
        have I8' := I8.pinned (fp := [it]) (fun b hb => by
          have : b = it := by simpa using hb
          subst this; exact stat I8 n6) hob
        refine thnF (pg.run _ s8 _ H6 _ u _ I8' r8 (step _ H6 ⟨rfl, rfl⟩)) fun _ s9 ⟨σ9, H9, I9, hw9, q9⟩ => ?_
        refine thnF (pt.run _ s9 σ9 H9 _ I9 q9) fun b sa ⟨Ha, Ia, qa⟩ => ?_
        have fin : ∀ {s' : Shared} {H' : Hp}, Inv (X.blk s4 H3 scope ce [it]) ([] ++ pinsAt [it] s8.heap) σ9 H' s' → Nx H' → ∃ m, m < n ∧ ∃ i H', Inv (X.blk s4 H3 scope ce [it]) [] (L2.wipe σ (own.map (·.2))) H' s' ∧ tnR it 0 j.toNat i s'.heap ∧ H' it = none ∧ W i m H' := fun {s' H'} I' nx => by
          obtain ⟨m', hm, w'⟩ := hNx H' nx
          have st' : s8.heap.get? it = _ := st8
          have pp := I'.pin (it, _) (List.mem_append_right _ (List.mem_append_right _ (mem_pinsAt (fp := [it]) List.mem_cons_self st')))
          have hl : (L2.wipe σ (own.map (·.2))).length = σ9.length := by rw [← hw9, wipe_length]
          refine ⟨m', hm, i + 1, H', (I'.unpinned (pins := [])).weak hl (fun j v e => ?_), pp.1, pp.2.1, w'⟩
          rw [← hw9] at e
          exact (wipe_some e).1
        cases b with
        | false =>
          simp only [Bool.false_eq_true, if_false] at qa ⊢
          exact fin Ia qa
        | true =>
          simp only [if_true] at qa ⊢
          refine thnF (pe.run _ sa σ9 Ha _ Ia qa) fun z sb ⟨yv, Hb, Ib, rb, acc, hDb, hzb, nx⟩ => ?_
          exact app_ok (X := X.blk s4 H3 scope ce [it]) Ib hDb hzb rb fun s11 I11 => fin I11 nx
    refine codeAny_compStart_list loop (wpAny_pyIter_rangeiter st5 loop)
end
end M
end
section
set_option linter.all false
set_option maxRecDepth 100000
set_option maxHeartbeats 4000000
/-! MKind: the def _law_kind(error), called by an except suite; a def whose body is one try. -/
namespace M
open PySem PySem.Spec PyProof.Rows L2 HotX L2H
/-! ### built-ins without calm -/
section
variable {X : Cx} {B : Bs} {W : WX} {a e : Expr} {ca : CE} {cs : List CE} {es : List Expr} {pos : Pos}
theorem op_biH (hc : HotC X) (b : BI) (hb : b = .int ∨ b = .str ∨ b = .sum) : CallR X (bval b) (rBI X.K X.mg b) := by
  intro pins s σ' H vs us Q I r h
  obtain ⟨B, G, ρ, σ, τ, ds, res, S, w0, hd, wt⟩ := h
  rcases hb with rfl | rfl | rfl
  · cases ds with
    | nil => cases hd
    | cons d ds' => cases ds' with
      | cons _ _ => cases d <;> cases hd
      | nil =>
        obtain ⟨v, rfl, w⟩ := w0.one
        cases d <;> try (cases hd; done)
        · cases hd
          exact call_int1 pins s σ' H _ us Q I r (.inr ⟨_, by rw [show v = _ from w], wt.val S (by simp only [Rep]; rfl)⟩)
        · cases hd
          exact call_int1 pins s σ' H _ us Q I r (.inl ⟨_, by rw [show v = _ from w], wt.val S (by simp only [Rep])⟩)
  · cases ds with
    | nil => cases hd
    | cons d ds' => cases ds' with
      | cons _ _ => cases d <;> cases hd
      | nil =>
        obtain ⟨v, rfl, w⟩ := w0.one
        cases d <;> try (cases hd; done)
        simp only [biD] at hd
        split at hd
        · rename_i hz
          cases hd
          simp only [decide_eq_true_eq] at hz
          refine call_str_int pins s σ' H _ us Q I r ⟨_, by rw [show v = _ from w], hz, wt.val S ?_⟩
          simp only [Rep]
          exact ⟨trivial, strOk_ofString _, int_text_fits hz⟩
        · cases hd
  · cases ds with
    | nil => cases hd
    | cons d ds' => cases ds' with
      | cons _ _ => cases d <;> cases hd
      | nil =>
        obtain ⟨v, rfl, w⟩ := w0.one
        cases d <;> try (cases hd; done)
        have hd := hd
        simp only [biD, Option.map_eq_some_iff] at hd
        obtain ⟨ns, hn, rfl⟩ := hd
        obtain ⟨a, ws, rfl, r1, q1⟩ := w
        have e := ints_vals hn q1
        subst e
        exact cr_sumH hc pins s σ' H _ us Q I r ⟨a, ns, rfl, .inl r1, wt.val S (by simp only [Rep])⟩
theorem op_int : CallR X (bval .int) (rBI X.K X.mg .int) := by
  intro pins s σ' H vs us Q I r h
  obtain ⟨B, G, ρ, σ, τ, ds, res, S, w0, hd, wt⟩ := h
  cases ds with
  | nil => cases hd
  | cons d ds' => cases ds' with
    | cons _ _ => cases d <;> cases hd
    | nil =>
      obtain ⟨v, rfl, w⟩ := w0.one
      cases d <;> try (cases hd; done)
      · cases hd
        exact call_int1 pins s σ' H _ us Q I r (.inr ⟨_, by rw [show v = _ from w], wt.val S (by simp only [Rep]; rfl)⟩)
      · cases hd
        exact call_int1 pins s σ' H _ us Q I r (.inl ⟨_, by rw [show v = _ from w], wt.val S (by simp only [Rep])⟩)
theorem de_biH {bi : BI} {p : Pos} (op : CallR X (bval bi) (rBI X.K X.mg bi)) (hb : bi = .int ∨ bi = .str ∨ bi = .sum) (hg : Gl X (bname bi)) (hm : X.mg (bname bi) = none) (ha : DA X B W (e :: es) (evs cs))
    (he : starEach (e :: es) X.env = (false, eval e X.env) :: starEach es X.env) (hpl : (backTo pos (starEach es X.env)).any (·.1) = false) :
    DE X B W (.Call (.Name (bname bi) p) (e :: es) [] pos) (ev (.bi bi cs)) := by
  have key : ∀ {σ : L2.St} {H : Hp} {Q : VK}, tE X.K X.mg B W (ev (.bi bi cs)) σ H Q → tCB (rBI X.K X.mg bi) (tA X.K X.mg B W (evs cs)) σ H Q := by
    intro σ H Q hw
    refine tA_bind (g := kL (biD bi)) (tE_ev (fun ρ => by simp only [ev]) hw) fun p vs G0 G H' tm τ _ ⟨ρ, hp⟩ s S a h => ?_
    obtain ⟨ds, r, h1, h2, h⟩ := h.kL
    exact ⟨B, G, p.2, σ, tm ++ τ, ds, r, S, S.views (a.mono (Same.refl _) fun x hx => List.mem_append_left _ hx) h1, h2, wants_of s (List.sublist_append_right _ _) h⟩
  refine ⟨fun pins s σ H Q I hw => ?_⟩
  rcases hb with rfl | rfl | rfl <;> first
    | exact (pe_callB (id := _) (p := p) op hg hm rfl ha (by decide) (by decide) he hpl).run pins s σ H Q I (key hw)
    | exact (pe_callTy (T := _) (p := p) op hg hm rfl ha (by decide) (by decide) he hpl).run pins s σ H Q I (key hw)
/-- [elt for x in range(a)] -/
theorem de_lcH {tg elt : Expr} {ce : CE} {t : CT} {c : Option CE} {ifs : List Expr} {scope : Scope} {own : List (Str × Nat)} {p pos2 : Pos} (hc : HotC X) (hN : X.N.Nodup) (hi : ∀ i ∈ own.map (·.2), B.nin ≤ i) (ht : ∀ i ∈ slotsT t, i ∈ own.map (·.2)) (ok : BlkOk X.N X.env.scope scope own)
    (hgr : Gl X "range") (hm : X.mg "range" = none) (ha : DE X B W a (ev ca)) (hst : starEach [a] X.env = [(false, eval a X.env)])
    (hg : ∀ (s : Shared) (H : Hp) (C : Addr) (cl : List (Str × Addr)) (fp : List Addr) (B' : Bs), B'.nin = B.nin → DG (X.blk s H scope (compEnvC scope cl C X.env) fp) B' tg t) (hif : ∀ (s : Shared) (H : Hp) (C : Addr) (cl : List (Str × Addr)) (fp : List Addr) (B' : Bs), B'.nin = B.nin → DTs (X.blk s H scope (compEnvC scope cl C X.env) fp) B' noW ifs c)
    (he : ∀ (s : Shared) (H : Hp) (C : Addr) (cl : List (Str × Addr)) (fp : List Addr) (B' : Bs), B'.nin = B.nin → DE (X.blk s H scope (compEnvC scope cl C X.env) fp) B' noW elt (ev ce)) :
    DE X B W (.ListComp elt [⟨tg, .Call (.Name "range" p) [a] [] pos2, ifs, 0⟩] scope pos) (ev (.lc ce t (.range1 ca) (own.map (·.2)) c)) := by
  have hA : PA X [a] (tCons (tE X.K X.mg B W (ev ca)) tNil) := pa_cons ha pa_nil hst
  refine ⟨fun pins s σ H Q I hw => (pe_unl (pe_lcH (g := gL X.K X.mg B t) (tt := ttL X.K X.mg B c) (te := teL X.K X.mg B ce) hc hN ok hgr hm hA hst ?_ ?_ ?_)).run pins s σ H Q I ?_⟩
  · exact fun s H C cl fp => ⟨fun pins s' σ H v u Q I r ⟨B', e, h⟩ => (hg s _ C cl fp B' e).run pins s' σ H v u Q I r h⟩
  · exact fun s H C cl fp => ⟨fun pins s' σ H Q I ⟨B', e, h⟩ => (hif s _ C cl fp B' e).run pins s' σ H Q I h⟩
  · exact fun s H C cl fp => ⟨fun pins s' σ H Q I ⟨B', e, h⟩ => (he s _ C cl fp B' e).run pins s' σ H Q I h⟩
  · have h := lc_imp hi ht hw
    obtain ⟨G, ρ, τ, S, hw⟩ := h
    simp only [evI] at hw
    refine tE_bindI S hw fun p v G1 H1 e1 s1 S1 a1 h1 => ?_
    obtain ⟨d, xs, h2, h3, h⟩ := h1.kR
    cases d <;> simp only [range1D] at h3 <;> (try (cases h3; done))
    split at h3
    · rename_i i hi
      cases h3
      obtain ⟨b1, b2⟩ := smallB_of hi
      have w : v = .int i := S1.view a1 h2
      subst w
      exact ⟨i, rfl, b1, b2, h.range s1 S1 (psh_sub _ _ _)⟩
    · cases h3
end
/-! ### isinstance of the error -/
section
variable {X : Cx} {a D : Addr} {oe : Obj} {pos : Pos}
theorem call_isK (C : ExcC X.K D) (hp : (a, oe) ∈ X.pn) (hz : Zc (.ref D) none oe) (hf : ∃ vs, oe.data = .fields vs) : CallR X (.builtin "isinstance") (rIsE X.K D a) := by
  intro pins s σ H xs us Q I r h
  obtain ⟨c, cv, b, rfl, hcv, e, q⟩ := h
  cases r with
  | cons rx rr =>
    cases rr with
    | cons rt rr =>
      cases rr
      cases rx
      have ec := hcv _ rt
      subst ec
      obtain ⟨hget, _⟩ := I.pin (a, oe) (List.mem_append_left _ hp)
      obtain ⟨vs, hv⟩ := hf
      have J : PySem.W.InstAt s.heap a oe D none := by
        obtain ⟨oc, od, oda, osl⟩ := oe
        obtain ⟨h1, h2⟩ := hz
        dsimp only at h1 h2 hv
        subst h1 h2 hv
        exact ⟨hget, rfl, rfl, trivial⟩
      exact PySem.W.kia_one (PySem.W.handS_kitx_exc C.hg C.hk C.hs C.hd C.ha C.hn C.ht C.hm) I.kIn J e (fun z => nomatch z) fun tk => ⟨.bl b, H, I.kept (t' := tk) fun _ _ z => z, rfl, q⟩
/-- a slot of which all is known by the run -/
theorem pe_at {i : Nat} {x : Str} {v : V} (hv : PE X (.Name x pos) (tVar i)) : PE X (.Name x pos) (fun σ H Q => (σ.length = X.N.length → σ[i]? = some (some v)) ∧ Q v H) :=
  ⟨fun pins s σ H Q I h => hv.run pins s σ H Q I ⟨v, h.1 I.len, h.2⟩⟩
theorem pe_isK {x y : Str} {i : Nat} {C : Addr} {b : Bool} {p p1 p2 : Pos} (Cd : ExcC X.K D) (hp : (a, oe) ∈ X.pn) (hz : Zc (.ref D) none oe) (hf : ∃ vs, oe.data = .fields vs) (hv : PE X (.Name x p1) (tVar i)) (hgi : Gl X "isinstance") (hmi : X.mg "isinstance" = none)
    (hg : Gl X y) (hm : X.mg y = some (.ref C)) (hd : (y == ("__debug__" : Str)) = false) (hk : PySem.W.kitOne X.K (.ref D) (.ref C) = some b) :
    PE X (.Call (.Name "isinstance" p) [.Name x p1, .Name y p2] [] pos) (fun σ H Q => (σ.length = X.N.length → σ[i]? = some (some (.ref a))) ∧ Q (.bl b) H) := by
  have hA : PA X [.Name x p1, .Name y p2] (tCons _ (tCons (tC (.ref C)) tNil)) := pa_cons (pe_at (v := .ref a) hv) (pa_cons (pe_glob hg hm (rfl : RelV (.ref C) (.ref C)) hd) pa_nil)
  refine ⟨fun pins s σ H Q I h => (pe_callB (id := "isinstance") (p := p) (call_isK Cd hp hz hf) hgi hmi rfl hA).run pins s σ H Q I ⟨h.1, .ref C, .ref C, b, rfl, fun u r => r, hk, h.2⟩⟩
end
/-! ### the def -/
/-- its body, the places apart -/
def kindCall (q : Nat → Pos) (k : Nat) (y : Str) : Expr := .Call (.Name "isinstance" (q k)) [.Name "error" (q (k + 1)), .Name y (q (k + 2))] [] (q (k + 3))
def kindElt (q : Nat → Pos) : Expr := .BinOp (.BinOp (.Name "k" (q 20)) .Add (.Constant (.int 1) 0 (q 21)) (q 22)) .Mult (.Call (.Name "int" (q 23)) [.Subscript (.Name "kinds" (q 24)) (.Name "k" (q 25)) (q 26)] [] (q 27)) (q 28)
def kindLc (q : Nat → Pos) (sc : Scope) : Expr := .ListComp (kindElt q) [⟨.Name "k" (q 29), .Call (.Name "range" (q 30)) [.Constant (.int 4) 0 (q 31)] [] (q 32), [], 0⟩] sc (q 33)
def kindBody (q : Nat → Pos) (sc : Scope) : List Stmt :=
  [.Assign [.Name "kinds" (q 16)] (.List [kindCall q 0 "NotRight", kindCall q 4 "NotThere", kindCall q 8 "NoAnswer", kindCall q 12 "TooLarge"] (q 17)) (q 18),
   .Return (some (.BinOp (.Constant (.str "refused ") 0 (q 34)) .Add (.Call (.Name "str" (q 35)) [.Call (.Name "sum" (q 36)) [kindLc q sc] [] (q 37)] [] (q 38)) (q 39))) (q 40)]
def kindN : List Str := ["error", "kinds", "k"]
def kindCE : CE := .bin .add (.k (.str "refused ")) (.bi .str [.bi .sum [.lc (.bin .mul (.bin .add (.v 2) (.k (.int 1))) (.bi .int [.sub (.v 1) (.v 2)])) (.n 2) (.range1 (.k (.int 4))) [2] none]])
def kindNames : List Str := ["NotRight", "NotThere", "NoAnswer", "TooLarge"]
def kindNo (c : Str) : Option Int := if c = "NotRight" then some 1 else if c = "NotThere" then some 2 else if c = "NoAnswer" then some 3 else if c = "TooLarge" then some 4 else none
def kindTxt (c : Str) : Option Str := if c = "NotRight" then some "refused 1" else if c = "NotThere" then some "refused 2" else if c = "NoAnswer" then some "refused 3" else if c = "TooLarge" then some "refused 4" else none
theorem kind_ev {c x : Str} (h : kindTxt c = some x) : exec (.ret kindCE) [.none, .val (.lst [.bl (decide (c = "NotRight")), .bl (decide (c = "NotThere")), .bl (decide (c = "NoAnswer")), .bl (decide (c = "TooLarge"))]), .none] =
    .ok (.ret (.val (.str x)), [.none, .val (.lst [.bl (decide (c = "NotRight")), .bl (decide (c = "NotThere")), .bl (decide (c = "NoAnswer")), .bl (decide (c = "TooLarge"))]), .none]) := by
  unfold kindTxt at h
  split at h
  · rename_i e; subst e; cases h; kernel_rfl
  · split at h
    · rename_i e; subst e; cases h; kernel_rfl
    · split at h
      · rename_i e; subst e; cases h; kernel_rfl
      · split at h
        · rename_i e; subst e; cases h; kernel_rfl
        · cases h
/-- what the classes say -/
structure KindOk (K : PySem.W.Frag) (mg : Str → Option Value) : Prop where
  cls : ∀ c x, kindTxt c = some x → ∃ D, mg c = some (.ref D) ∧ ExcC K D ∧ ∀ y ∈ kindNames, ∃ C, mg y = some (.ref C) ∧ PySem.W.kitOne K (.ref D) (.ref C) = some (decide (c = y))
/-- the text's scopes are as they should be -/
def chkKindS (S sc : Scope) : Bool :=
  blkC kindN S sc (ownN kindN [2]) && (["isinstance", "NotRight", "NotThere", "NoAnswer", "TooLarge", "str", "sum", "range"] : List Str).all (isGl S) && isVis S "error" && (isLoc S "kinds" || isCell S "kinds") && isGl (relS sc S) "int" && isVis (relS sc S) "kinds" && isVis (relS sc S) "k" && chkT (relS sc S) kindN 0 (ownC sc) (.n 2) (.Name "k" ⟨0, 0, 0, 0⟩)
theorem chkT_pos {S : Scope} {N : List Str} {n : Nat} {cl : Str → Bool} {i : Nat} {x : Str} {p p' : Pos} (h : chkT S N n cl (.n i) (.Name x p) = true) : chkT S N n cl (.n i) (.Name x p') = true := by
  simpa only [chkT] using h
section
variable {X : Cx} {S sc : Scope} {a D : Addr} {oe : Obj} {q : Nat → Pos} {c x : Str}
theorem gl_of (hs : X.env.scope = S) {y : Str} (h : isGl S y = true) : Gl X y := by
  unfold isGl at h
  show X.env.scope.names.lookup y = _
  rw [hs]; simpa using h
theorem vis_of (hs : X.env.scope = S) {y : Str} (h : isVis S y = true) : Vis X.env.scope y := by
  unfold isVis at h
  unfold Vis
  rw [hs]
  split at h <;> simp_all
theorem kind_nown {d : M.D} (i : Nat) (h : isOwn [.none, .val d, .none] i) : False := by
  rcases h with ⟨e, h⟩ | ⟨e, h⟩ <;>
  match i, h with
  | 0, h => simp at h
  | 1, h => simp at h
  | 2, h => simp at h
  | k + 3, h => simp at h
theorem kind_walk (hc : HotC X) (hs : X.env.scope = S) (hkd : S.kind = .function) (hN : X.N = kindN) (hfn : ∀ y, X.fn y = true) (hu : X.A.units + 100 < cLine) (bn : ∀ y ∈ bnames, X.mg y = none) (kc : KindOk X.K X.mg)
    (hp : (a, oe) ∈ X.pn) (hz : Zc (.ref D) none oe) (hf : ∃ vs, oe.data = .fields vs) (hx : kindTxt c = some x) (hD : X.mg c = some (.ref D)) (h : chkKindS S sc = true) :
    ∃ t, PSs X (kindBody q sc) t ∧ ∀ (D : Ends) (H : Hp), (∀ H', (∀ b o, H b = some o → H' b = some o) → D.rt (.str x) H') → t D [some (.ref a), none, none] H := by
  unfold chkKindS at h
  simp only [Bool.and_eq_true, List.all_eq_true] at h
  obtain ⟨⟨⟨⟨⟨⟨⟨g1, g2⟩, g3⟩, g4⟩, g5⟩, g6⟩, g7⟩, g8⟩ := h
  obtain ⟨D', hD', Cd, hcl⟩ := kc.cls c x hx
  rw [hD] at hD'; cases hD'
  have nd : X.N.Nodup := by rw [hN]; decide
  have hv : ∀ p, PE X (.Name "error" p) (tVar 0) := fun p => pe_var (by rw [hN]; rfl) (vis_of hs g3)
  have call : ∀ (k : Nat) (y : Str), y ∈ kindNames → PE X (kindCall q k y) (fun σ H Q => (σ.length = X.N.length → σ[0]? = some (some (.ref a))) ∧ Q (.bl (decide (c = y))) H) := fun k y hy => by
    obtain ⟨C, e1, e2⟩ := hcl y hy
    refine pe_isK Cd hp hz hf (hv _) (gl_of hs (g2 _ (by simp))) (bn _ (by decide)) (gl_of hs (g2 y ?_)) e1 ?_ e2
    · simp only [kindNames, List.mem_cons, List.not_mem_nil, or_false] at hy
      rcases hy with rfl | rfl | rfl | rfl <;> simp
    · simp only [kindNames, List.mem_cons, List.not_mem_nil, or_false] at hy
      rcases hy with rfl | rfl | rfl | rfl <;> decide
  have hl : Loc X.env.scope "kinds" := by
    rw [hs]
    simp only [Bool.or_eq_true] at g4
    rcases g4 with g | g
    · exact .inl (by unfold isLoc at g; simpa using g)
    · exact .inr (by unfold isCell at g; simpa using g)
  have P1 := ps_set (X := X) (i := 1) (x := "kinds") (pos' := q 16) (pos := q 18) nd (by rw [hN]; rfl) hl
      (pe_lst (pos := q 17) (pa_cons (call 0 "NotRight" (by decide)) (pa_cons (call 4 "NotThere" (by decide)) (pa_cons (call 8 "NoAnswer" (by decide)) (pa_cons (call 12 "TooLarge" (by decide)) pa_nil))))) rfl (.inl (hfn _))
  -- the return
  have blkE : ∀ (s : Shared) (H : Hp) (C : Addr) (cl : List (Str × Addr)) (fp : List Addr), (X.blk s H sc (compEnvC sc cl C X.env) fp).env.scope = relS sc S := fun s H C cl fp => by rw [← hs]; rfl
  have P2 : ∀ (B : Bs), B.nin = 0 → DS X B noW (.Return (some (.BinOp (.Constant (.str "refused ") 0 (q 34)) .Add (.Call (.Name "str" (q 35)) [.Call (.Name "sum" (q 36)) [kindLc q sc] [] (q 37)] [] (q 38)) (q 39))) (q 40)) (exec (.ret kindCE)) := fun B hb => by
    refine ds_ret (de_bin (op := .add) (de_k (de_pure pe_str fun σ H Q q => q _ fun G => by simp only [Rep]; exact ⟨trivial, by decide +kernel, by rw [sizeLine_eq]; decide +kernel⟩)) (de_biH (bi := .str) (op_biH hc _ (.inr (.inl rfl))) (.inr (.inl rfl)) (gl_of hs (g2 _ (by simp [bname]))) (bn _ (by decide)) (da_cons (de_biH (bi := .sum) (op_biH hc _ (.inr (.inr rfl))) (.inr (.inr rfl)) (gl_of hs (g2 _ (by simp [bname]))) (bn _ (by decide)) (da_cons ?_ da_nil rfl) rfl rfl) da_nil rfl) rfl rfl))
    refine de_lcH (own := ownN kindN [2]) hc nd (fun i hi => by rw [hb]; exact Nat.zero_le _) (by intro i hi; exact hi) (by rw [hN, hs]; exact blkOk_by g1) (gl_of hs (g2 _ (by simp))) (bn _ (by decide)) (de_k (de_pure pe_int fun σ H Q q => q _ fun G => by simp only [Rep])) rfl ?_ ?_ ?_
    · intro s H C cl fp B' e
      have sc8 := chkT_pos (p' := q 29) g8
      simp only [chkT, Bool.and_eq_true, Bool.or_eq_true, decide_eq_true_eq] at sc8
      obtain ⟨⟨_, _⟩, h3⟩ := sc8
      have ix : (X.blk s H sc (compEnvC sc cl C X.env) fp).N[2]? = some ("k" : Str) := by show X.N[2]? = _; rw [hN]; rfl
      rcases h3 with h3 | ⟨h3, h4⟩
      · have hl : (X.blk s H sc (compEnvC sc cl C X.env) fp).env.scope.names.lookup ("k" : Str) = some .local := by rw [blkE]; unfold isLoc at h3; simpa using h3
        exact dg_name (by rw [e, hb]; omega) (pg_name nd ix (.inl hl) (.inr hl))
      · have hl : (X.blk s H sc (compEnvC sc cl C X.env) fp).env.scope.names.lookup ("k" : Str) = some .cell := by rw [blkE]; unfold isCell at h3; simpa using h3
        exact dg_name (by rw [e, hb]; omega) (pg_name nd ix (.inr hl) (.inl h4))
    · exact fun s H C cl fp B' e => dts_nil
    · intro s H C cl fp B' e
      have vk : ∀ p, DE (X.blk s H sc (compEnvC sc cl C X.env) fp) B' noW (.Name "k" p) (ev (.v 2)) := fun p => de_var (pe_var (by show X.N[2]? = _; rw [hN]; rfl) (vis_of (blkE s H C cl fp) g7))
      have vn : ∀ p, DE (X.blk s H sc (compEnvC sc cl C X.env) fp) B' noW (.Name "kinds" p) (ev (.v 1)) := fun p => de_var (pe_var (by show X.N[1]? = _; rw [hN]; rfl) (vis_of (blkE s H C cl fp) g6))
      refine de_bin (op := .mul) (de_bin (op := .add) (vk _) (de_k (de_pure pe_int fun σ H Q q => q _ fun G => by simp only [Rep]))) ?_
      have op : CallR (X.blk s H sc (compEnvC sc cl C X.env) fp) (bval .int) (rBI X.K X.mg .int) := op_int
      exact de_biH (bi := .int) op (.inl rfl) (gl_of (blkE s H C cl fp) g5) (bn _ (by decide)) (da_cons (de_sub hu (vn _) (vk _) (fun _ _ => rfl)) da_nil rfl) rfl rfl
  have P3 : PS X (.Return (some (.BinOp (.Constant (.str "refused ") 0 (q 34)) .Add (.Call (.Name "str" (q 35)) [.Call (.Name "sum" (q 36)) [kindLc q sc] [] (q 37)] [] (q 38)) (q 39))) (q 40)) (fun D σ H => ∃ B : Bs, B.nin = 0 ∧ tS X.K X.mg B noW (exec (.ret kindCE)) D σ H) :=
    ⟨fun pins s σ H D I ⟨B, hb, h⟩ => (P2 B hb).run pins s σ H D I h⟩
  refine ⟨_, pss_cons P1 (pss_cons P3 pss_nil), fun E H hw => ?_⟩
  refine ⟨fun _ => rfl, fun _ => rfl, fun _ => rfl, fun _ => rfl, by rw [sizeLine_eq]; show 4 ≤ _; omega, fun p hp => ?_⟩
  refine ⟨⟨fun b => if b = p then some (.lst [.bl (decide (c = "NotRight")), .bl (decide (c = "NotThere")), .bl (decide (c = "NoAnswer")), .bl (decide (c = "TooLarge"))]) else none, upd H p (.lst [.bl (decide (c = "NotRight")), .bl (decide (c = "NotThere")), .bl (decide (c = "NoAnswer")), .bl (decide (c = "TooLarge"))]), 0, [], [], []⟩, rfl,
    fun b => if b = p then some (.lst [.bl (decide (c = "NotRight")), .bl (decide (c = "NotThere")), .bl (decide (c = "NoAnswer")), .bl (decide (c = "TooLarge"))]) else none, [.none, .val (.lst [.bl (decide (c = "NotRight")), .bl (decide (c = "NotThere")), .bl (decide (c = "NoAnswer")), .bl (decide (c = "TooLarge"))]), .none], [], ?_, ?_⟩
  · have hG : ∀ {b : Addr} {o : HO}, (if b = p then some (HO.lst [.bl (decide (c = "NotRight")), .bl (decide (c = "NotThere")), .bl (decide (c = "NoAnswer")), .bl (decide (c = "TooLarge"))]) else none) = some o → upd H p (.lst [.bl (decide (c = "NotRight")), .bl (decide (c = "NotThere")), .bl (decide (c = "NoAnswer")), .bl (decide (c = "TooLarge"))]) b = some o := fun {b o} e => by
      split at e
      · rename_i eb; subst eb; rw [upd_same]; exact e
      · cases e
    refine ⟨rfl, fun b o e => .inl (hG e), fun i d e => ?_, fun i d e => ?_, fun i d e => ?_, fun x hx => (nomatch hx), fun i j p' ne hi _ _ => ?_, fun i p' hi => ?_, List.nodup_nil, Same.refl _, fun b o e _ => .inl e, fun b o e => .inl e, fun b ⟨j, hj, _⟩ => absurd hj (Nat.not_lt_zero j), fun j hj => absurd hj (Nat.not_lt_zero j), fun x hx => (nomatch hx), fun i d e => ?_, fun x hx => (nomatch hx)⟩
    · match i, e with
      | 1, e =>
        simp at e; subst e
        refine ⟨.ref p, rfl, ?_⟩
        simp only [Rep]
        exact ⟨p, [.bl (decide (c = "NotRight")), .bl (decide (c = "NotThere")), .bl (decide (c = "NoAnswer")), .bl (decide (c = "TooLarge"))], rfl, .inl (by simp), by simp [RepL, Rep]⟩
      | 0, e => simp at e
      | 2, e => simp at e
      | k + 3, e => simp at e
    · exact (kind_nown i (.inl ⟨d, e⟩)).elim
    · exact (kind_nown i (.inr ⟨d, e⟩)).elim
    · exact (kind_nown i hi).elim
    · exact (kind_nown i hi).elim
    · exact (kind_nown i (.inr ⟨d, e⟩)).elim
  · rw [kind_ev hx]
    intro v σ' G' H' s' S' a'
    obtain rfl : v = .str x := by
      have : Rep X.K X.mg G' (.str x) v := a'
      simp only [Rep] at this
      exact this.1
    refine hw H' fun b o e => ?_
    have e2 : upd H p (HO.lst [.bl (decide (c = "NotRight")), .bl (decide (c = "NotThere")), .bl (decide (c = "NoAnswer")), .bl (decide (c = "TooLarge"))]) b = some o := by
      rw [upd_ne (fun z => by rw [z, hp] at e; cases e)]; exact e
    have e3 := S'.h0 b o e2 fun ⟨j, hj, _⟩ => absurd hj (Nat.not_lt_zero j)
    exact e3.resolve_right fun ⟨_, z⟩ => nomatch z
end
/-- what the def _law_kind promises of an error of the class D -/
def KindFn (P : Program) (w : World) (K : PySem.W.Frag) (mg : Str → Option Value) (base : Heap) (f : Addr) : Prop :=
  ∀ (A : Around) (outer : List PySem.Env) (s : Shared) (H : Hp) (Q : VK) (E : XK) (p : Addr × Obj) (D : Addr) (c x : Str), RoomH 1 A → Hot1 A p → Zc (.ref D) none p.2 → PinOk outer H s p → Env0 P w K mg base A outer s H → mg c = some (.ref D) → kindTxt c = some x →
    (∀ H', (∀ b o, H b = some o → H' b = some o) → Q (.str x) H') → codeAny (model P w) A (.call (.ref f) ⟨[.ref p.1], []⟩) (CR (L2N.CX P w) outer P w H s Q E) s
theorem kind_fn {P : Program} {w : World} {K : PySem.W.Frag} {mg : Str → Option Value} {base : Heap} {x : Str} {args : Arguments} {scope sc : Scope} {f : Addr} {fd : FuncData} {q : Nat → Pos}
    (F : FunD K x x args (kindBody q sc) scope [] [] f fd) (S : FnScope kindN ["error"] scope) (bT : Binds K fd ["error"] []) (bn : ∀ y ∈ bnames, mg y = none) (kc : KindOk K mg) (h : chkKindS scope sc = true) : KindFn P w K mg base f := by
  intro A outer s H Q E p D c t hr hot hz hpin e0 hD ht hw
  obtain ⟨oc, od, dV, kV, doc, pm, an, cdv, ct, osl, rfl, lk, hcd, _, _⟩ := F.ex
  have KX : K.In s.heap := e0.mod.kin.keeps fun b o e => (e0.bs b o e).1
  have lim : s.heap.NoLimit := e0.mod.nolimit.keeps fun b o e => (e0.bs b o e).1
  have hkind : ∀ y ∈ (["error"] : List Str).zip [Value.ref p.1], scope.names.lookup y.1 = some .local ∨ (scope.names.lookup y.1 = some .cell ∧ ((cellsFrom (s.heap.objs.size + 1) scope.names []).lookup y.1).isSome = true) := fun ⟨n, v⟩ hy => by
    rcases S.par n (List.of_mem_zip hy).1 with z | z
    · exact .inl z
    · exact .inr ⟨z, PySem.W.cellsFrom_some _ _ _ (.inl z)⟩
  have b := bT s [Value.ref p.1] KX rfl
  refine codeAny_call_function hr.depth (KX _ _ lk) rfl S.co S.gen rfl (PySem.W.codeRec_of KX hcd) (b _ _ _ _ ?_)
  refine wpAny_newFunctionEnv_cells S.kind hkind fun env he s1 z => ?_
  subst he
  refine ⟨lim.keeps z.toInCall.keep, codeAny_func ?_⟩
  have I : Inv (cxH (L2N.CX P w) P w K mg base kindN x scope f cdv A outer s H E p) [] (L2.start kindN [.ref p.1]) H s1 := inv_startH S hpin e0 rfl (.cons rfl .nil) z
  have hf : ∃ vs, p.2.data = .fields vs := by obtain ⟨_, vs, e, _⟩ := hot; exact ⟨vs, e⟩
  have hu : (cxH (L2N.CX P w) P w K mg base kindN x scope f cdv A outer s H E p).A.units + 100 < cLine := by
    have := hr.un
    show A.units + 3 + 100 < cLine
    omega
  obtain ⟨T, hT, hq⟩ := kind_walk (X := cxH (L2N.CX P w) P w K mg base kindN x scope f cdv A outer s H E p) (S := scope) (sc := sc) (a := p.1) (D := D) (oe := p.2) (q := q) ⟨p, hot, List.mem_singleton.mpr rfl⟩ rfl S.kind rfl (fun _ => rfl) hu bn kc (List.mem_singleton.mpr rfl) hz hf ht hD h
  refine wpAny_mono (hT.run [] s1 (L2.start kindN [.ref p.1]) H { nx := fun _ H' => Q .non H', rt := Q } I (hq _ _ hw)) (fun fl s' hs => ?_) fun e s' hs => hs
  have fin : ∀ {σ' : L2.St} {H' : Hp} {v : V} {u : Value}, Inv (cxH (L2N.CX P w) P w K mg base kindN x scope f cdv A outer s H E p) [] σ' H' s' → RelV v u → Q v H' → L2.CE outer P w H s Q u s' :=
    fun {σ' H' v u} J rv q => ⟨v, H', J.os, J.bare, J.base, J.hok, rv, q⟩
  cases fl with
  | ret u =>
    obtain ⟨v, σ', H', J, rv, q⟩ := hs
    exact fin J rv q
  | next =>
    obtain ⟨σ', H', J, q⟩ := hs
    exact fin (v := V.non) (u := Value.none) J rfl q
  | brk =>
    obtain ⟨_, _, _, q⟩ := hs
    exact False.elim q
  | cont =>
    obtain ⟨_, _, _, q⟩ := hs
    exact False.elim q
/-! ### the call, in the suite -/
section
variable {X : Cx} {a f : Addr} {oe : Obj} {i : Nat} {n y : Str} {p p1 pos pos2 : Pos}
/-- what the suite reaches -/
def tKind (X : Cx) (i : Nat) (a : Addr) (cls : Value) (d : Option Addr) : TE := fun σ H Q => (σ.length = X.N.length → σ[i]? = some (some (.ref a))) ∧ ∃ c x D, kindTxt c = some x ∧ X.mg c = some (.ref D) ∧ cls = .ref D ∧ d = none ∧ ∀ H', (∀ b o, H b = some o → H' b = some o) → Q (.str x) H'
theorem pe_kind {cls : Value} {d : Option Addr} (hf : KindFn X.prog X.w X.K X.mg X.base f) (hr : RoomH 1 X.A) (hot : Hot1 X.A (a, oe)) (hp : (a, oe) ∈ X.pn) (hz : Zc cls d oe) (hg : Gl X y) (hm : X.mg y = some (.ref f)) (hk : PySem.W.keepIn X.K (.ref f) = true) (hd : (y == ("__debug__" : Str)) = false)
    (hv : PE X (.Name n p1) (tVar i)) :
    PE X (.Call (.Name y p) [.Name n p1] [] pos) (tKind X i a cls d) := by
  refine ⟨fun pins s σ H Q I h => ?_⟩
  obtain ⟨h1, c, x, D, hx, hD, rfl, rfl, hw⟩ := h
  have hA : PA X [.Name n p1] (tCons _ tNil) := pa_cons (pe_at (v := .ref a) hv) pa_nil
  refine wpAny_Call_Name_kw (ld_glob I hg hm ?_ hd)
  refine PySem.W.callWith_K (h₀ := X.base) I.ok.mod.kin hk (thn (hA.run pos pins s σ H (fun vs H1 => vs = [V.ref a] ∧ H1 = H) I ⟨h1, rfl, rfl⟩) fun us s1 ⟨vs, H1, I1, r, ev, eH⟩ => ⟨I1.kIn, ?_⟩) rfl rfl
  subst ev eH
  rw [Vals.ref1 r]
  have P1 := I1.pin (a, oe) (List.mem_append_left _ hp)
  have hpin : PinOk X.stack H1 s1 (a, oe) := ⟨P1.1, P1.2.1, fun hm => (List.mem_cons.mp (I1.stkSub a hm)).elim P1.2.2.1 P1.2.2.2.1, P1.2.2.2.2⟩
  refine wpAny_call (codeAny_mono (hf X.A X.stack s1 H1 Q (fun _ _ _ => False) (a, oe) D c x hr hot hz hpin I1.env0 hD hx hw) fun r s' hq => ?_)
  cases r with
  | error e =>
    obtain ⟨_, _, _, _, _, _, _, _, _, _, _, _, z⟩ := hq
    exact z.elim
  | ok fl =>
    cases fl with
    | ret u => exact I1.after hq
    | next => exact False.elim hq
    | brk => exact False.elim hq
    | cont => exact False.elim hq
end
end M
end
section
set_option linter.all false
set_option maxRecDepth 100000
set_option maxHeartbeats 4000000
/-! MTold: a def whose body is one try. -/
namespace M
open PySem PySem.Spec PyProof.Rows L2 HotX L2H
/-- what an error gives -/
def toldRun (kf : Str → Option D) (f : List D → Out (Res × List D)) (ds : List D) : Out (Res × List D) := match f ds with
  | .exc c q => match kf c with
    | some d => .ok (.val d, [])
    | none => .stuck
  | r => r
def kindD (c : Str) : Option D := (kindTxt c).map .str
/-- a def's body within a try, by its term: what it wishes of an error, and of its end -/
theorem told_body {P : Program} {w : World} {K : PySem.W.Frag} {mg : Str → Option Value} {base : Heap} {x : Str} {body : List Stmt} {scope : Scope} {f : Addr} {N ps : List Str} {k : Nat} {cs : List CS} {kf : Str → Option D} {hd : WX → Ends → WX} {st : Stmt}
    (S : FnScope N ps scope) (bn : ∀ y ∈ bnames, mg y = none)
    (hF : ∀ F ∈ fnsSs cs, OkF P w K mg base k F) (hG : ∀ g ∈ glsSs cs, GlOk K mg g.1 g.2) (hR : ∀ c ∈ rsSs cs, RaiseOk K mg c) (hc : chkSs N 0 cs scope body = true)
    (cdv : Value) (A : Around) (outer : List PySem.Env) (s : Shared) (H : Hp) (vs : List V) (Q : VK) (E : XK) (hr : Room k (A.deeper (envOfC x scope s.heap.objs.size f cdv))) (h : spF K mg ⟨x, 0, none, toldRun kf (fnRun N.length ps.length 0 cs)⟩ vs H Q E)
    (rule : ∀ tb : WX → TS, (∀ (W : WX) (pn : List (Addr × PySem.Obj)) (xe : Value → Shared → Prop), L2N.Takes ((cxOf (L2N.CX P w) P w K mg base N x scope f cdv A outer s H E).tr pn xe) W → PassesOwn (model P w) (A.deeper (envOfC x scope s.heap.objs.size f cdv)) (envOfC x scope s.heap.objs.size f cdv) xe → PSs ((cxOf (L2N.CX P w) P w K mg base N x scope f cdv A outer s H E).tr pn xe) body (tb W)) →
      PS (cxOf (L2N.CX P w) P w K mg base N x scope f cdv A outer s H E) st (fun D σ H' => tb (hd (fun cls d _ H => E cls d H) D) D σ H'))
    (hyes : ∀ (D : Ends) (c : Str) (d : M.D) (cls : Value) (od : Option Addr) (σ : L2.St) (H' : Hp), kf c = some d → XIs mg c .non cls od H' → (∀ v H2, (∀ b o, H' b = some o → H2 b = some o) → (∀ G, Rep K mg G d v) → D.rt v H2) → hd (fun cls d _ H => E cls d H) D cls od σ H') :
    ∃ t, PSs (cxOf (L2N.CX P w) P w K mg base N x scope f cdv A outer s H E) [st] t ∧ t { nx := fun _ H' => Q .non H', rt := Q } (L2.start N vs) H := by
  have hpl : ps.length ≤ N.length := by have := congrArg List.length S.pre; rw [List.length_take] at this; omega
  obtain ⟨G, is, qs, ds, ws, rfl, l1, l2, nd, cl, fz, r, h⟩ := h
  have h : AfterF K mg G H qs Q E (toldRun kf (fnRun N.length ps.length 0 cs) (is ++ ds)) := h
  have l1 : qs.length = 0 := l1
  obtain rfl : qs = [] := List.length_eq_zero_iff.mp l1
  obtain rfl : is = [] := List.length_eq_zero_iff.mp l2
  have lr := r.length
  have hB : ∀ (pn : List (Addr × PySem.Obj)) (xe : Value → Shared → Prop) (W : WX), L2N.Takes ((cxOf (L2N.CX P w) P w K mg base N x scope f cdv A outer s H E).tr pn xe) W → PassesOwn (model P w) (A.deeper (envOfC x scope s.heap.objs.size f cdv)) (envOfC x scope s.heap.objs.size f cdv) xe →
      DSs ((cxOf (L2N.CX P w) P w K mg base N x scope f cdv A outer s H E).tr pn xe) ⟨G, H, 0, ws, [], []⟩ W body (execs cs) := fun pn xe W tk hp =>
    sSs (nin := 0) (N := N) (k := k) (S := scope) cs ⟨⟨rfl, rfl, S.nd, rfl, hr, bn⟩, tk, hp, S.kind, fun _ => rfl⟩ rfl ⟨hF, hG⟩ hR hc
  refine ⟨_, pss_cons (rule (fun W => tS K mg ⟨G, H, 0, ws, [], []⟩ W (execs cs)) fun W pn xe tk hp => hB pn xe W tk hp) pss_nil, ?_⟩
  show tS K mg ⟨G, H, 0, ws, [], []⟩ (hd (fun cls d _ H => E cls d H) { nx := fun _ H' => Q .non H', rt := Q }) (execs cs) { nx := fun _ H' => Q .non H', rt := Q } (L2.start N ws) H
  have h : AfterF K mg G H [] Q E (toldRun kf (fnRun N.length ps.length 0 cs) ds) := h
  unfold toldRun fnRun at h
  by_cases hl : ds.length = ps.length
  · rw [if_pos hl] at h
    have S0 := Sm.start (K := K) (mg := mg) (N := N) fz l2 nd cl r (by simp only [List.length_nil]; omega)
    have S0 : Sm K mg ⟨G, H, 0, ws, [], []⟩ G (([] : List M.D).map .own ++ ds.map .val ++ List.replicate (N.length - (([] : List M.D).length + ds.length)) .none) (L2.start N ws) H [] := S0
    have e3 : N.length - (([] : List M.D).length + ds.length) = N.length - ps.length := by simp [hl]
    rw [e3] at S0
    refine ⟨G, _, [], S0, ?_⟩
    have h : AfterF K mg G H [] Q E (match (execs cs (([] : List M.D).map .own ++ ds.map .val ++ List.replicate (N.length - ps.length) .none)).bind fun p =>
      match owns p.2 0 with
      | some outs => match p.1 with
        | .ret r => (retRes 0 p.2 r).bind fun r => .ok (r, outs)
        | .next => .ok (.val .non, outs)
        | _ => .stuck
      | none => .stuck with
      | .exc c q => match kf c with
        | some d => .ok (.val d, [])
        | none => .stuck
      | r => r) := h
    cases hx : execs cs (([] : List M.D).map .own ++ ds.map .val ++ List.replicate (N.length - ps.length) .none) with
    | stuck => rw [hx] at h; exact h.elim
    | exc c q =>
      rw [hx] at h
      intro σ' cls d H' x1 x2
      have x3 : ∀ b o, H b = some o → H' b = some o := fun b o e => (x2.h0 b o e fun ⟨j, hj, _⟩ => absurd hj (Nat.not_lt_zero j)).resolve_right fun ⟨_, z, _⟩ => nomatch z
      cases hk : kf c with
      | none =>
        have h : AfterF K mg G H [] Q E (match kf c with
          | some d => .ok (.val d, [])
          | none => .stuck) := h
        rw [hk] at h
        exact h.elim
      | some t =>
        have h9 : AfterF K mg G H [] Q E (match kf c with
          | some d => .ok (.val d, [])
          | none => .stuck) := h
        rw [hk] at h9
        obtain ⟨C, y1, y2, rfl, y4⟩ := x1
        refine hyes _ c t cls d σ' H' hk ⟨C, y1, y2, rfl, y4⟩ fun v H2 ext rv => ?_
        refine h9 v G H2 (Same.refl _) (fun a o e => ?_) (fun a o e => .inl e) (fun a o e _ => ext a o (x3 a o e)) (fun x hx => nomatch hx) rfl (rv G)
        rcases fz a o e with z | ⟨z1, ob, z⟩
        · exact .inl (ext _ _ (x3 _ _ z))
        · exact .inr ⟨z1, ob, ext _ _ (x3 _ _ z)⟩
    | ok p =>
      rw [hx] at h
      refine body_ok (E := E) (qs := []) (ws := ws) (nin := 0) rfl nd ?_
      have h : AfterF K mg G H [] Q E (match (match owns p.2 0 with
        | some outs => match p.1 with
          | .ret r => (retRes 0 p.2 r).bind fun r => (.ok (r, outs) : Out (Res × List M.D))
          | .next => .ok (.val .non, outs)
          | _ => .stuck
        | none => .stuck) with
        | .exc c q => match kf c with
          | some d => .ok (.val d, [])
          | none => .stuck
        | r => r) := h
      have noex : ∀ {o : Out (Res × List M.D)}, (∀ c q, o ≠ .exc c q) → (match o with
        | .exc c q => match kf c with
          | some d => .ok (.val d, [])
          | none => .stuck
        | r => r) = o := fun {o} hn => by
        cases o with
        | exc c q => exact absurd rfl (hn c q)
        | _ => rfl
      rw [noex] at h
      · exact h
      · intro c q z
        cases ho : owns p.2 0 with
        | none => rw [ho] at z; cases z
        | some outs =>
          rw [ho] at z
          obtain ⟨fl, ρ'⟩ := p
          cases fl with
          | ret r =>
            have z : ((retRes 0 ρ' r).bind fun r => (.ok (r, outs) : Out (Res × List M.D))) = .exc c q := z
            cases r with
            | val d => cases z
            | own d => cases z
            | slot i =>
              simp only [retRes] at z
              split at z
              · split at z <;> cases z
              · cases z
              · cases z
          | next => cases z
          | brk => cases z
          | cont => cases z
  · rw [if_neg hl] at h
    exact h.elim
theorem told_len {K : PySem.W.Frag} {mg : Str → Option Value} {x : Str} {m np : Nat} {cs : List CS} {kf : Str → Option D} {vs : List V} {H : Hp} {Q : VK} {E : XK} (h : spF K mg ⟨x, 0, none, toldRun kf (fnRun m np 0 cs)⟩ vs H Q E) : vs.length = np := by
  obtain ⟨G, is, qs, ds, ws, rfl, l1, l2, nd, cl, fz, r, h⟩ := h
  have l1 : qs.length = 0 := l1
  obtain rfl : qs = [] := List.length_eq_zero_iff.mp l1
  obtain rfl : is = [] := List.length_eq_zero_iff.mp l2
  have h : AfterF K mg G H [] Q E (toldRun kf (fnRun m np 0 cs) ds) := h
  unfold toldRun fnRun at h
  by_cases hl : ds.length = np
  · rw [← hl, r.length]; simp
  · rw [if_neg hl] at h
    exact h.elim
/-- try: .. except C as n: return _law_kind(n) -/
theorem okF_kind {P : Program} {w : World} {K : PySem.W.Frag} {mg : Str → Option Value} {base : Heap} {x z cm n y : Str} {args : Arguments} {body : List Stmt} {scope : Scope} {f fk Cm : Addr} {fd : FuncData} {N ps : List Str} {k i : Nat} {cs : List CS} {np p0 p1 p2 p3 p4 pos : Pos}
    (F : FunD K x x args [.Try body [.ExceptHandler (some (.Name cm np)) (some n) [.Return (some (.Call (.Name y p1) [.Name n p2] [] p3)) p4] p0] [] [] pos] scope [] [] f fd) (hx : mg z = some (.ref f)) (S : FnScope N ps scope) (bT : Binds K fd ps []) (bn : ∀ y ∈ bnames, mg y = none)
    (hF : ∀ F ∈ fnsSs cs, OkF P w K mg base k F) (hG : ∀ g ∈ glsSs cs, GlOk K mg g.1 g.2) (hR : ∀ c ∈ rsSs cs, RaiseOk K mg c) (hc : chkSs N 0 cs scope body = true)
    (hi : N[i]? = some n) (hn : isLoc scope n = true) (hpn : plainName n = true) (hcm : mg cm = some (.ref Cm)) (hgc : isGl scope cm = true) (hpc : plainName cm = true) (hmy : mg y = some (.ref fk)) (hgy : isGl scope y = true) (hpy : plainName y = true) (hky : PySem.W.keepIn K (.ref fk) = true)
    (hk1 : 1 ≤ k) (hk : KindFn P w K mg base fk) (hcl : ∀ c x, kindTxt c = some x → ∀ D, mg c = some (.ref D) → PySem.W.exmOne K (.ref D) (.ref Cm) = some true) :
    OkF P w K mg base (k + 1) ⟨z, 0, none, toldRun kindD (fnRun N.length ps.length 0 cs)⟩ := by
  refine ⟨f, hx, F.kp, ?_⟩
  have hln : scope.names.lookup n = some .local := by unfold isLoc at hn; simpa using hn
  have key : FnOk P w K mg base (L2N.CX P w) (k + 1) f fd ps (spF K mg ⟨x, 0, none, toldRun kindD (fnRun N.length ps.length 0 cs)⟩) :=
    F.ok S (fun vs H Q E h => told_len h) (fun cdv A outer s H vs Q E hr h => by
      have C : Ctx (cxOf (L2N.CX P w) P w K mg base N x scope f cdv A outer s H E) scope N k := ⟨rfl, rfl, S.nd, rfl, hr, bn⟩
      refine told_body (hd := fun Wout D => wAs K (.ref Cm) i (fun a cls d => tSeq (tRet (tKind (cxOf (L2N.CX P w) P w K mg base N x scope f cdv A outer s H E) i a cls d)) tNext) Wout D) S bn hF hG hR hc cdv A outer s H vs Q E hr h (fun tb htb => ?_) ?_
      · refine L2N.ps_try_as (X := cxOf (L2N.CX P w) P w K mg base N x scope f cdv A outer s H E) rfl rfl S.nd hi hln ⟨C.gl hgc, (plain_debug hpc).1, .inl hcm⟩ (L2N.takes_of rfl rfl rfl rfl) htb fun a oe cls d pn hz hf => ?_
        obtain ⟨vs1, hvs1⟩ := hf
        have hot : Hot1 ((cxOf (L2N.CX P w) P w K mg base N x scope f cdv A outer s H E).suite a ((a, oe) :: pn)).A (a, oe) := ⟨rfl, vs1, hvs1, hz.2.2 vs1 hvs1⟩
        refine pss_cons (ps_ret (pe_kind (X := (cxOf (L2N.CX P w) P w K mg base N x scope f cdv A outer s H E).suite a ((a, oe) :: pn)) hk ?_ hot List.mem_cons_self hz.zc ?_ hmy hky (plain_debug hpy).1 ?_)) pss_nil
        · refine ⟨?_, ?_⟩
          · have := hr.dp
            show (A.deeper (envOfC x scope s.heap.objs.size f cdv)).depth + 3 * 1 + 5 < _
            omega
          · have := hr.un
            show (A.deeper (envOfC x scope s.heap.objs.size f cdv)).units + 16 * 1 + 200 < _
            omega
        · exact C.gl hgy
        · exact pe_var hi (.inl hln) (plain_debug hpn).1 (plain_debug hpn).2
      · intro D c d cls od σ H' hkd hxi hrt
        obtain ⟨C2, y1, rfl, _, rfl⟩ := hxi
        unfold kindD at hkd
        rw [Option.map_eq_some_iff] at hkd
        obtain ⟨t, ht, rfl⟩ := hkd
        refine ⟨true, hcl c t ht C2 y1, fun _ a ha => ⟨fun hl => ?_, c, t, C2, ht, y1, rfl, rfl, fun H2 ext => hrt _ H2 ext fun G => ?_⟩, fun z => nomatch z⟩
        · have : i < N.length := (List.getElem?_eq_some_iff.mp hi).1
          rw [List.length_set] at hl
          exact List.getElem?_set_self (by rw [hl]; exact this)
        · simp only [Rep]
          refine ⟨trivial, ?_⟩
          unfold kindTxt at ht
          repeat' (split at ht)
          all_goals first | (cases ht; done) | (cases ht; exact ⟨by decide +kernel, by rw [sizeLine_eq]; decide +kernel⟩))
  have := key.raw bT .nil
  refine this.imp fun vs H Q E h => ?_
  show spF K mg _ (vs ++ []) H Q E
  rw [List.append_nil]; exact h
end M
end
section
set_option linter.all false
set_option maxRecDepth 100000
set_option maxHeartbeats 4000000
/-! MHead: what the head's look at the module must say, and the end. -/
namespace M
open PySem PySem.Spec PyProof.Rows L2
/-- all of a list, one by one -/
def AllL {α : Type} (p : α → Prop) : List α → Prop
  | [] => True
  | x :: xs => p x ∧ AllL p xs
theorem all_of {α : Type} {p : α → Prop} : ∀ {l : List α}, AllL p l → ∀ x ∈ l, p x
  | [], _, _, h => nomatch h
  | x :: xs, ⟨h1, h2⟩, y, h => by
    rcases List.mem_cons.mp h with rfl | h
    · exact h1
    · exact all_of h2 y h
/-! ### the Hook: no list of the module's is held -/
def isLstO (o : Obj) : Bool := match o.cls with
  | .type c => decide (c = "list")
  | _ => false
def asM (g : Addr → Option Obj) (n : Nat) : List Addr := (He.asD g n).filter fun a => match g a with
  | some o => !isLstO o
  | none => true
def obsM (fa : List He.Fa) (fn : List He.DefD) (xt : PySem.W.Frag → Bool) (K : PySem.W.Frag) : He.AlD := (((fa.all fun f => f.ok K) && fn.all fun d => d.ok K) && xt K, fn.map fun d => He.fnW K d.at_)
structure SaysM (fa : List He.Fa) (fn : List He.DefD) (xt : PySem.W.Frag → Bool) (K : PySem.W.Frag) : Prop where
  obs : obsM fa fn xt K = He.valD fn
  nol : ∀ a o, K.lookup a = some o → isLstO o = false
theorem frG_mem {g : Addr → Option Obj} {a : Addr} {o : Obj} : ∀ as : List Addr, (He.frG g as).lookup a = some o → a ∈ as
  | [], e => nomatch (show (none : Option Obj) = some o from e)
  | b :: r, e => by
    unfold He.frG at e
    cases hb : g b with
    | none =>
      rw [List.filterMap_cons, hb] at e
      exact List.mem_cons_of_mem _ (frG_mem r e)
    | some ob =>
      rw [List.filterMap_cons, hb] at e
      have e2 : (match a == b with | true => some ob | false => (He.frG g r).lookup a) = some o := e
      cases q : (a == b) with
      | true => rw [beq_iff_eq.mp q]; exact List.mem_cons_self
      | false =>
        rw [q] at e2
        exact List.mem_cons_of_mem _ (frG_mem r e2)
theorem asM_nol {g : Addr → Option Obj} {n : Nat} {a : Addr} {o : Obj} (h : (He.frG g (asM g n)).lookup a = some o) : isLstO o = false := by
  have h1 := frG_mem _ h
  have h2 := He.frG_at _ h
  unfold asM at h1
  have h3 := (List.mem_filter.mp h1).2
  rw [h2] at h3
  simpa using h3
def hookM (n : Nat) (fa : List He.Fa) (fn : List He.DefD) (xt : PySem.W.Frag → Bool) : PySem.W.Hook where
  α := He.AlD
  obs := fun s => obsM fa fn xt (He.frG s.heap.get? (asM s.heap.get? n))
  val := fun _ => He.valD fn
  says := fun _ h => ∃ K : PySem.W.Frag, K.In h ∧ SaysM fa fn xt K
  of := fun _ _ e => ⟨_, He.frG_in, e, fun _ _ h => asM_nol h⟩
  keeps := fun _ _ _ ⟨K, hK, c⟩ k => ⟨K, PySem.W.Frag.In.keeps hK k, c⟩
def obsMG (n : Nat) (fa : List He.Fa) (fn : List He.DefD) (xt : PySem.W.Frag → Bool) (g : Addr → Option Obj) : He.AlD := obsM fa fn xt (He.frG g (asM g n))
theorem obsMG_eq {n : Nat} {fa : List He.Fa} {fn : List He.DefD} {xt : PySem.W.Frag → Bool} {g : Addr → Option Obj} {s : Shared} (h : ∀ a, g a = s.heap.get? a) : obsMG n fa fn xt g = (hookM n fa fn xt).obs s := by
  have e : g = s.heap.get? := funext h
  rw [e] <;> rfl
section
variable {fa : List He.Fa} {fn : List He.DefD} {xt : PySem.W.Frag → Bool} {K : PySem.W.Frag} {h : Heap} {mg : Str → Option Value}
theorem SaysM.b (c : SaysM fa fn xt K) : ((fa.all fun f => f.ok K) && fn.all fun d => d.ok K) = true ∧ xt K = true := He.ba (congrArg (fun z : He.AlD => z.1) c.obs)
theorem SaysM.extra (c : SaysM fa fn xt K) : xt K = true := c.b.2
theorem SaysM.fact (c : SaysM fa fn xt K) (i : Nat) {f : He.Fa} (h : fa[i]? = some f) : f.ok K = true := List.all_eq_true.mp (He.ba c.b.1).1 f (List.mem_of_getElem? h)
theorem SaysM.def_ (c : SaysM fa fn xt K) (i : Nat) {d : He.DefD} (h : fn[i]? = some d) : ∃ fd, FunD K d.name d.qual d.params d.body d.scope (d.dvs K) (d.kws K) (He.fAd K d.at_) fd := by
  have e : fn.map (fun d => He.fnW K d.at_) = fn.map He.DefD.val := congrArg (fun z : He.AlD => z.2) c.obs
  have e2 : (fn.map fun d => He.fnW K d.at_)[i]? = (fn.map He.DefD.val)[i]? := by rw [e]
  rw [List.getElem?_map, List.getElem?_map, h] at e2
  exact He.DefD.funD (Option.some.inj e2) (List.all_eq_true.mp (He.ba c.b.1).2 d (List.mem_of_getElem? h))
/-! ### the module's constants -/
mutual
def repB (K : PySem.W.Frag) : D → Value → Bool
  | .non, .none => true
  | .bl b, .bool c => b == c
  | .int i, .int j _ => decide (i = j)
  | .str x, .str y _ => decide (x = y) && PySem.PyData.strOk x && decide (x.length ≤ 1000)
  | .tup ds, .ref a => match K.lookup a with
    | some ⟨.type c, _, .seq its _, _⟩ => decide (c = "tuple") && decide (its.size ≤ 1000) && repBs K ds its.toList
    | _ => false
  | .fn x, .ref a => decide (PySem.W.nsIn K mainGlobals x = some (some (.ref a)))
  | _, _ => false
def repBs (K : PySem.W.Frag) : List D → List Value → Bool
  | [], [] => true
  | d :: ds, v :: vs => repB K d v && repBs K ds vs
  | _, _ => false
end
mutual
theorem repB_ok (X : K.In h) (N : h.Ns mainGlobals mg) : ∀ {d : D} {u : Value}, repB K d u = true → ∃ v, RelV v u ∧ ∀ G, Rep K mg G d v
  | .non, .none, _ => ⟨.non, rfl, fun G => by simp only [Rep]⟩
  | .bl b, .bool c, e => by
    have e : (b == c) = true := e
    obtain rfl := eq_of_beq e
    exact ⟨.bl b, rfl, fun G => by simp only [Rep]⟩
  | .int i, .int j t, e => by
    have e : decide (i = j) = true := e
    obtain rfl := of_decide_eq_true e
    exact ⟨.int i, ⟨t, rfl⟩, fun G => by simp only [Rep]⟩
  | .str x, .str y t, e => by
    have e : (decide (x = y) && PySem.PyData.strOk x && decide (x.length ≤ 1000)) = true := e
    simp only [Bool.and_eq_true, decide_eq_true_eq] at e
    obtain ⟨⟨rfl, e1⟩, e2⟩ := e
    exact ⟨.str x, ⟨t, rfl⟩, fun G => by simp only [Rep]; exact ⟨trivial, e1, by rw [sizeLine_eq]; omega⟩⟩
  | .tup ds, .ref a, e => by
    simp only [repB] at e
    split at e
    · rename_i c od its n sl hk
      simp only [Bool.and_eq_true, decide_eq_true_eq] at e
      obtain ⟨⟨rfl, e1⟩, e2⟩ := e
      obtain ⟨vs, rv, rp⟩ := repBs_ok X N e2
      refine ⟨.ref a, rfl, fun G => ?_⟩
      simp only [Rep]
      exact ⟨a, vs, rfl, .inr ⟨_, its, n, hk, rfl, rfl, by rw [sizeLine_eq]; omega, rv⟩, rp G⟩
    · cases e
  | .fn x, .ref a, e => by
    have e : decide (PySem.W.nsIn K mainGlobals x = some (some (.ref a))) = true := e
    have e := of_decide_eq_true e
    refine ⟨.ref a, rfl, fun G => ?_⟩
    simp only [Rep]
    exact ⟨a, PySem.W.mg_of X N e, rfl⟩
theorem repBs_ok (X : K.In h) (N : h.Ns mainGlobals mg) : ∀ {ds : List D} {us : List Value}, repBs K ds us = true → ∃ vs, Vals vs us ∧ ∀ G, RepL K mg G ds vs
  | [], [], _ => ⟨[], .nil, fun G => RepL.nil⟩
  | d :: ds, u :: us, e => by
    simp only [repBs, Bool.and_eq_true] at e
    obtain ⟨v, r, q⟩ := repB_ok X N e.1
    obtain ⟨vs, rs, qs⟩ := repBs_ok X N e.2
    exact ⟨v :: vs, .cons r rs, fun G => RepL.cons (q G) (qs G)⟩
end
def glB (K : PySem.W.Frag) (x : Str) (d : D) : Bool := match PySem.W.nsIn K mainGlobals x with
  | some (some v) => repB K d v
  | _ => false
theorem glB_ok (X : K.In h) (N : h.Ns mainGlobals mg) {x : Str} {d : D} (e : glB K x d = true) : GlOk K mg x d := by
  unfold glB at e
  split at e
  · rename_i u hu
    obtain ⟨v, r, q⟩ := repB_ok X N e
    exact ⟨v, u, PySem.W.mg_of X N hu, r, q⟩
  · cases e
theorem all_gl (X : K.In h) (N : h.Ns mainGlobals mg) {gs : List (Str × D)} (e : (gs.all fun g => glB K g.1 g.2) = true) : ∀ g ∈ gs, GlOk K mg g.1 g.2 := fun g hg => glB_ok X N (List.all_eq_true.mp e g hg)
/-! ### errors -/
theorem raise_of (X : K.In h) (N : h.Ns mainGlobals mg) {x : Str} (c1 : (He.Fa.glo x).ok K = true) (c2 : (He.Fa.exc x).ok K = true) : RaiseOk K mg x := by
  obtain ⟨e1, e2, e3, e4⟩ := He.exc_ok c2
  exact ⟨He.ga K x, He.veBase, "ValueError", "ValueError.__new__", _, PySem.F.excBase_ValueError, e1, He.glo_ok X N c1, e2, e3, e4⟩
/-- the four errors of _law_kind -/
def excCB (K : PySem.W.Frag) (D : Addr) : Bool := He.eqO (PySem.W.findIn K (.ref D) "__getattribute__") (some (some (.builtin "BaseException.__getattribute__"))) && He.eqO (PySem.W.findIn K (.ref D) "__getattr__") (some none) && decide (PySem.W.subIn K (.ref D) (.type "BaseException") = some true) && PySem.W.hasDictIn K D &&
  He.eqO (PySem.W.findIn K (.ref D) "__class__") (some (some (.builtin "object.__class__"))) && He.eqO (PySem.W.specialIn K (.builtin "object.__class__") "__get__") (some (some (.builtin "getset_descriptor.__get__"))) && decide (PySem.W.takesIn K (.builtin "object.__class__") = some true) && decide (PySem.W.mroIn K D (.type "object") = some true)
theorem excCB_ok {D : Addr} (e : excCB K D = true) : ExcC K D := by
  unfold excCB at e
  simp only [Bool.and_eq_true, decide_eq_true_eq] at e
  obtain ⟨⟨⟨⟨⟨⟨⟨e1, e2⟩, e3⟩, e4⟩, e5⟩, e6⟩, e7⟩, e8⟩ := e
  exact ⟨He.eqO_ok e1, He.eqO_ok e2, e3, e4, He.eqO_ok e5, He.eqO_ok e6, e7, e8⟩
def kindB (K : PySem.W.Frag) : Bool := kindNames.all fun c => He.eqO (PySem.W.nsIn K mainGlobals c) (some (some (.ref (He.ga K c)))) && excCB K (He.ga K c) && kindNames.all fun y => decide (PySem.W.kitOne K (.ref (He.ga K c)) (.ref (He.ga K y)) = some (decide (c = y)))
theorem kindTxt_mem {c x : Str} (e : kindTxt c = some x) : c ∈ kindNames := by
  unfold kindTxt at e
  unfold kindNames
  split at e
  · rename_i h; subst h; simp
  · split at e
    · rename_i h; subst h; simp
    · split at e
      · rename_i h; subst h; simp
      · split at e
        · rename_i h; subst h; simp
        · cases e
theorem kindB_ok (X : K.In h) (N : h.Ns mainGlobals mg) (e : kindB K = true) : KindOk K mg := by
  refine ⟨fun c x hx => ?_⟩
  have hc := List.all_eq_true.mp e c (kindTxt_mem hx)
  simp only [Bool.and_eq_true] at hc
  obtain ⟨⟨h1, h2⟩, h3⟩ := hc
  refine ⟨He.ga K c, PySem.W.mg_of X N (He.eqO_ok h1), excCB_ok h2, fun y hy => ?_⟩
  have h4 := List.all_eq_true.mp e y hy
  simp only [Bool.and_eq_true] at h4
  exact ⟨He.ga K y, PySem.W.mg_of X N (He.eqO_ok h4.1.1), of_decide_eq_true (List.all_eq_true.mp h3 y hy)⟩
/-- MotionError takes them -/
def exmB (K : PySem.W.Frag) (cm : Str) : Bool := kindNames.all fun c => He.eqO (PySem.W.nsIn K mainGlobals c) (some (some (.ref (He.ga K c)))) && decide (PySem.W.exmOne K (.ref (He.ga K c)) (.ref (He.ga K cm)) = some true)
theorem exmB_ok (X : K.In h) (N : h.Ns mainGlobals mg) {cm : Str} (e : exmB K cm = true) : ∀ c x, kindTxt c = some x → ∀ D, mg c = some (.ref D) → PySem.W.exmOne K (.ref D) (.ref (He.ga K cm)) = some true := fun c x hx D hD => by
  have hc := List.all_eq_true.mp e c (kindTxt_mem hx)
  simp only [Bool.and_eq_true] at hc
  have := PySem.W.mg_of X N (He.eqO_ok hc.1)
  rw [hD] at this; cases this
  exact of_decide_eq_true hc.2
end
/-! ### defs, under any name -/
section
variable {P : Program} {w : World} {K : PySem.W.Frag} {mg : Str → Option Value} {base : Heap}
theorem OkF.named {k : Nat} {F : FnE} {y : Str} (h : OkF P w K mg base k F) (e : mg y = mg F.name) : OkF P w K mg base k { F with name := y } := by
  obtain ⟨f, h1, h2, h3⟩ := h
  exact ⟨f, by rw [← h1]; exact e, h2, h3⟩
/-- a def that is never run -/
theorem okF_stuck {k nin : Nat} {y : Str} {st : Option Nat} {f : Addr} (hx : mg y = some (.ref f)) (hk : PySem.W.keepIn K (.ref f) = true) : OkF P w K mg base k ⟨y, nin, st, fun _ => .stuck⟩ := by
  refine ⟨f, hx, hk, fun A outer s H us vs Q E hr e0 r h => ?_⟩
  obtain ⟨_, _, _, _, _, _, _, _, _, _, _, _, h⟩ := h
  exact h.elim
end
/-- the law's def, as its promise -/
theorem fnOk_def {P : Program} {w : World} {K : PySem.W.Frag} {mg : Str → Option Value} {base : Heap} {x : Str} {args : Arguments} {body : List Stmt} {scope : Scope} {f : Addr} {fd : FuncData} {N ps : List Str} {k nin : Nat} {cs : List CS}
    (F : FunD K x x args body scope [] [] f fd) (S : FnScope N ps scope) (bn : ∀ y ∈ bnames, mg y = none)
    (hF : ∀ F ∈ fnsSs cs, OkF P w K mg base k F) (hG : ∀ g ∈ glsSs cs, GlOk K mg g.1 g.2) (hR : ∀ c ∈ rsSs cs, RaiseOk K mg c) (hc : chkSs N nin cs scope body = true) :
    FnOk P w K mg base (L2N.CX P w) (k + 1) f fd ps (spF K mg ⟨x, nin, none, fnRun N.length ps.length nin cs⟩) :=
  F.ok S (fun vs H Q E h => spF_len h) (fun cdv A outer s H vs Q E hr h => def_body S bn hF hG hR hc cdv A outer s H vs Q E hr h)
/-- the end, the callers' wish over the world -/
theorem walk_ofM {l : PySem.W.OpenLaw} {n k : Nat} {q : Program} {loose : List Str} {XP : (Str → Option Value) → Heap → Prop} {YP : World → Heap → Prop} {d : DefRec} {x : Str}
    (hn : l.most = some n) (hn2 : n ≤ sizeLine) (hdf : d.params.defaults = []) (hr : Room k callerA)
    (F : ∀ (w : World) (mg : Str → Option Value) (fa : Addr) (h : Heap), YP w h → h.Ns mainGlobals mg → mg d.name = some (.ref fa) →
      ∃ (K : PySem.W.Frag) (fd : FuncData) (sp : Sp), K.In h ∧ (∀ (s : Shared) (u : Value), BindsTo s fd ⟨[u], []⟩ [(x, u)]) ∧
        (∀ (H : Hp) (a : Addr) (ns : List Int), ns.length ≤ n → Only H → SqL K H a (ns.map V.int) → sp [.ref a] H (fun v _ => v = .bl true) fun _ _ _ => False) ∧
        ∀ base : Heap, K.In base → base.Ns mainGlobals mg → FnOk l.prog w K mg base (L2N.CX l.prog w) k fa fd [x] sp) :
    PySem.W.WalkO q loose XP YP l.row.toRowW d [] (fun f vs => PySem.call f vs) := by
  refine Att.attach_call hn hdf fun w s₀ s₁ mg mb fa o pm cd doc a vs ns G Y ho hd hcd hmg hobj hints hlen hg => ?_
  obtain ⟨K, fd, sp, KX, hb, hsp, hF⟩ := F w mg fa _ Y G.T.g hmg
  refine law_call KX G.T.g G.T.b G.T.builtins G.T.nolimit hg hobj hints (Nat.le_trans hlen hn2) hr hF hb (fun H hO hS => hsp H a ns hlen hO hS) fun H e s' z => ?_
  obtain ⟨_, _, _, _, _, _, _, _, _, _, _, _, z⟩ := z
  exact z.elim
/-- what the law's own promise asks, at the script -/
theorem law_sp {K : PySem.W.Frag} {mg : Str → Option Value} {F : FnE} {H : Hp} {a : Addr} {ns : List Int} (nol : ∀ a o, K.lookup a = some o → isLstO o = false) (hF : F.nin = 0) (hs : F.star = none) (hS : SqL K H a (ns.map V.int))
    (h : F.run [.lst (ns.map .int)] = .ok (.val (.bl true), [])) : spF K mg F [.ref a] H (fun v _ => v = .bl true) fun _ _ _ => False := by
  have hR : Rd H a (.lst (ns.map V.int)) := by
    rcases hS with h | ⟨o, its, n, e1, e2, e3, e4, e5, e6⟩
    · exact h
    · have := nol a o e1
      unfold isLstO at this
      rw [e2] at this
      simp at this
  have rp : ∀ ns : List Int, RepL K mg H (ns.map .int) (ns.map V.int) := by
    intro ns
    induction ns with
    | nil => exact RepL.nil
    | cons n ns ih => exact RepL.cons (by simp only [Rep]) ih
  refine ⟨H, [], [], [.lst (ns.map .int)], [.ref a], rfl, by rw [hF]; rfl, rfl, List.nodup_nil, (fun x hx => nomatch hx), (fun b o e => .inl e), RepL.cons ?_ RepL.nil, ?_⟩
  · simp only [Rep]
    exact ⟨a, _, rfl, hR, rp ns⟩
  · rw [hs]
    show AfterF K mg H H [] _ _ (F.run [.lst (ns.map .int)])
    rw [h]
    intro v G' H' _ _ _ _ _ _ hv
    have hv : Rep K mg G' (.bl true) v := hv
    simpa only [Rep] using hv
end M
end
section
set_option linter.all false
set_option maxRecDepth 100000
namespace K54
open M
def c_is_integer : List CS :=
    [.ret (.and [.isi (.v 0) [.int], .not (.isi (.v 0) [.bool])])]
def F_is_integer : FnE := ⟨"is_integer", 0, none, fnRun 1 1 0 c_is_integer⟩
def c_is_within : List CS :=
    [.ret (.and [.call F_is_integer [.v 0], .chain .le .le (.v 1) (.v 0) (.v 2)])]
def F_is_within : FnE := ⟨"is_within", 0, none, fnRun 3 3 0 c_is_within⟩
def c_are_ascending : List CS :=
    [.ret (.bi .all [.lc (.cmp .lt (.v 1) (.v 2)) (.tup [(.n 1), (.n 2)]) (.zip (.v 0) (.sl (.v 0) (some (.k (.int 1))) none)) [1, 2] none])]
def F_are_ascending : FnE := ⟨"are_ascending", 0, none, fnRun 3 1 0 c_are_ascending⟩
def c_is_name : List CS :=
    [.ite (.or [.not (.isi (.v 0) [.str]), .not (.chain .le .le (.k (.int 1)) (.bi .len [.v 0]) (.gl "MOST_SIGNS" (.int 12))), .not (.chain .le .le (.k (.str "a")) (.sub (.v 0) (.k (.int 0))) (.k (.str "z")))]) [.ret (.k (.bl false))] [],
      .ret (.bi .all [.lc (.or [.chain .le .le (.k (.str "a")) (.v 1) (.k (.str "z")), .chain .le .le (.k (.str "0")) (.v 1) (.k (.str "9"))]) (.n 1) (.e (.v 0)) [1] none])]
def F_is_name : FnE := ⟨"is_name", 0, none, fnRun 2 1 0 c_is_name⟩
def c_check : List CS :=
    [.ite (.not (.v 0)) [.raise "NotRight"] []]
def F_check : FnE := ⟨"check", 0, none, fnRun 1 1 0 c_check⟩
def c_is_day : List CS :=
    [.ret (.call F_is_within [.v 0, .k (.int 0), .gl "LAST_DAY_notices" (.int 100000)])]
def F_is_day : FnE := ⟨"is_day", 0, none, fnRun 1 1 0 c_is_day⟩
def c_are_days : List CS :=
    [.ret (.and [.isi (.v 0) [.tuple], .bi .all [.lc (.call F_is_within [.v 2, .k (.int 0), .v 1]) (.n 2) (.e (.v 0)) [2] none], .call F_are_ascending [.v 0]])]
def F_are_days : FnE := ⟨"are_days", 0, none, fnRun 3 2 0 c_are_days⟩
def c_are_free_days : List CS :=
    [.ite (.or [.not (.isi (.v 0) [.tuple]), .cmp .ne (.bi .len [.v 0]) (.k (.int 2))]) [.ret (.k (.bl false))] [],
      .ite (.or [.not (.call F_are_days [.sub (.v 0) (.k (.int 0)), .bin .sub (.gl "WEEK_notices" (.int 7)) (.k (.int 1))]), .not (.call F_are_days [.sub (.v 0) (.k (.int 1)), .gl "LAST_DAY_notices" (.int 100000)])]) [.ret (.k (.bl false))] [],
      .ret (.and [.cmp .lt (.bi .len [.sub (.v 0) (.k (.int 0))]) (.gl "WEEK_notices" (.int 7)), .cmp .le (.bi .len [.sub (.v 0) (.k (.int 1))]) (.gl "MOST_DATES" (.int 100))])]
def F_are_free_days : FnE := ⟨"are_free_days", 0, none, fnRun 1 1 0 c_are_free_days⟩
def c_is_notice_rule : List CS :=
    [.ite (.or [.not (.isi (.v 0) [.tuple]), .cmp .ne (.bi .len [.v 0]) (.k (.int 3)), .not (.isi (.sub (.v 0) (.k (.int 0))) [.str])]) [.ret (.k (.bl false))] [],
      .ret (.and [.cmp .inn (.sub (.v 0) (.k (.int 0))) (.tup [.gl "DAYS" (.str "days"), .gl "WORKING" (.str "working")]), .call F_is_within [.sub (.v 0) (.k (.int 1)), .k (.int 1), .gl "MOST_DAYS" (.int 60)], .isi (.sub (.v 0) (.k (.int 2))) [.bool]])]
def F_is_notice_rule : FnE := ⟨"is_notice_rule", 0, none, fnRun 1 1 0 c_is_notice_rule⟩
def c_check_free : List CS :=
    [.ex (.call F_check [.call F_are_free_days [.v 0]]),
      .ex (.call F_check [.bi .all [.lc (.call F_is_day [.v 2]) (.n 2) (.e (.v 1)) [2] none]])]
def F_check_free : FnE := ⟨"check_free", 0, (some 1), starRun 1 (fnRun 3 2 0 c_check_free)⟩
def c_check_rule : List CS :=
    [.ex (.call F_check [.call F_are_free_days [.v 0]]),
      .ex (.call F_check [.call F_is_notice_rule [.v 1]]),
      .ex (.call F_check [.bi .all [.lc (.call F_is_day [.v 3]) (.n 3) (.e (.v 2)) [3] none]])]
def F_check_rule : FnE := ⟨"check_rule", 0, (some 2), starRun 2 (fnRun 4 3 0 c_check_rule)⟩
def c_works_notices : List CS :=
    [.ret (.and [.cmp .notin (.bin .mod (.v 1) (.gl "WEEK_notices" (.int 7))) (.sub (.v 0) (.k (.int 0))), .cmp .notin (.v 1) (.sub (.v 0) (.k (.int 1)))])]
def F_works_notices : FnE := ⟨"works_notices", 0, none, fnRun 2 2 0 c_works_notices⟩
def c_is_working : List CS :=
    [.ex (.call F_check_free [.v 0, .v 1]),
      .ret (.call F_works_notices [.v 0, .v 1])]
def F_is_working : FnE := ⟨"is_working", 0, none, fnRun 2 2 0 c_is_working⟩
def c_worked_before : List CS :=
    [.asgT (.tup [(.n 2), (.n 3)]) (.bi .divmod [.v 1, .gl "WEEK_notices" (.int 7)]),
      .asg 4 (.bin .add (.bin .mul (.v 2) (.bin .sub (.gl "WEEK_notices" (.int 7)) (.bi .len [.sub (.v 0) (.k (.int 0))]))) (.bi .len [.lc (.v 5) (.n 5) (.range1 (.v 3)) [5] (some (.cmp .notin (.v 5) (.sub (.v 0) (.k (.int 0)))))])),
      .ret (.bin .sub (.v 4) (.bi .len [.lc (.v 5) (.n 5) (.e (.sub (.v 0) (.k (.int 1)))) [5] (some (.and [.cmp .lt (.v 5) (.v 1), .cmp .notin (.bin .mod (.v 5) (.gl "WEEK_notices" (.int 7))) (.sub (.v 0) (.k (.int 0)))]))]))]
def F_worked_before : FnE := ⟨"worked_before", 0, none, fnRun 6 2 0 c_worked_before⟩
def c_between : List CS :=
    [.ret (.ite (.cmp .gt (.v 2) (.v 1)) (.bi .max [.k (.int 0), .bin .sub (.call F_worked_before [.v 0, .v 2]) (.call F_worked_before [.v 0, .bin .add (.v 1) (.k (.int 1))])]) (.k (.int 0)))]
def F_between : FnE := ⟨"between", 0, none, fnRun 3 3 0 c_between⟩
def c_working_between : List CS :=
    [.ex (.call F_check_free [.v 0, .v 1, .v 2]),
      .ret (.call F_between [.v 0, .v 1, .v 2])]
def F_working_between : FnE := ⟨"working_between", 0, none, fnRun 3 3 0 c_working_between⟩
def c_is_far : List CS :=
    [.asgT (.tup [(.n 4), (.n 5), (.n 6)]) (.v 1),
      .ret (.ite (.cmp .eq (.v 4) (.gl "DAYS" (.str "days"))) (.cmp .ge (.bin .sub (.bin .sub (.v 3) (.v 2)) (.k (.int 1))) (.v 5)) (.cmp .ge (.call F_between [.v 0, .v 2, .v 3]) (.v 5)))]
def F_is_far : FnE := ⟨"is_far", 0, none, fnRun 7 4 0 c_is_far⟩
def c_is_tolled : List CS :=
    [.ret (.and [.sub (.v 1) (.k (.int 2)), .not (.call F_works_notices [.v 0, .v 2])])]
def F_is_tolled : FnE := ⟨"is_tolled", 0, none, fnRun 3 3 0 c_is_tolled⟩
def c_keeps_notices : List CS :=
    [.ret (.and [.not (.call F_is_tolled [.v 0, .v 1, .v 3]), .call F_is_far [.v 0, .v 1, .v 2, .v 3]])]
def F_keeps_notices : FnE := ⟨"keeps_notices", 0, none, fnRun 4 4 0 c_keeps_notices⟩
def c_does_keep : List CS :=
    [.ex (.call F_check_rule [.v 0, .v 1, .v 2, .v 3]),
      .ret (.call F_keeps_notices [.v 0, .v 1, .v 2, .v 3])]
def F_does_keep : FnE := ⟨"does_keep", 0, none, fnRun 4 4 0 c_does_keep⟩
def c_first_meeting : List CS :=
    [.ex (.call F_check_rule [.v 0, .v 1, .v 2]),
      .asg 3 (.bin .add (.v 2) (.k (.int 1))),
      .whil (.and [.cmp .le (.v 3) (.gl "LAST_DAY_notices" (.int 100000)), .not (.call F_keeps_notices [.v 0, .v 1, .v 2, .v 3])]) [.aug 3 .add (.k (.int 1))],
      .ite (.cmp .gt (.v 3) (.gl "LAST_DAY_notices" (.int 100000))) [.raise "NoAnswer"] [],
      .ret (.v 3)]
def F_first_meeting : FnE := ⟨"first_meeting", 0, none, fnRun 4 3 0 c_first_meeting⟩
def c_last_notice : List CS :=
    [.ex (.call F_check_rule [.v 0, .v 1, .v 2]),
      .ite (.call F_is_tolled [.v 0, .v 1, .v 2]) [.ret (.k .non)] [],
      .asg 3 (.bin .sub (.v 2) (.k (.int 1))),
      .whil (.and [.cmp .ge (.v 3) (.k (.int 0)), .not (.call F_is_far [.v 0, .v 1, .v 3, .v 2])]) [.aug 3 .sub (.k (.int 1))],
      .ret (.ite (.cmp .ge (.v 3) (.k (.int 0))) (.v 3) (.k .non))]
def F_last_notice : FnE := ⟨"last_notice", 0, none, fnRun 4 3 0 c_last_notice⟩
def c_is_call : List CS :=
    [.ite (.or [.not (.isi (.v 0) [.tuple]), .cmp .ne (.bi .len [.v 0]) (.k (.int 3))]) [.ret (.k (.bl false))] [],
      .ret (.and [.call F_is_name [.sub (.v 0) (.k (.int 0))], .call F_is_day [.sub (.v 0) (.k (.int 1))], .call F_is_day [.sub (.v 0) (.k (.int 2))]])]
def F_is_call : FnE := ⟨"is_call", 0, none, fnRun 1 1 0 c_is_call⟩
def c_check_calls : List CS :=
    [.ex (.call F_check_rule [.v 0, .v 1]),
      .ex (.call F_check [.and [.isi (.v 2) [.list], .cmp .le (.bi .len [.v 2]) (.gl "MOST_CALLS" (.int 40)), .bi .all [.lc (.call F_is_call [.v 3]) (.n 3) (.e (.v 2)) [3] none]]]),
      .ex (.call F_check [.cmp .eq (.bi .len [.dc (.sub (.v 3) (.k (.int 0))) (.k (.bl true)) (.n 3) (.e (.v 2)) [3] none]) (.bi .len [.v 2])])]
def F_check_calls : FnE := ⟨"check_calls", 0, none, fnRun 4 3 0 c_check_calls⟩
def c_states_of : List CS :=
    [.par [3, 4] [.lst [], .dct []],
      .forr (.tup [(.n 5), (.n 6), (.n 7)]) (.e (.v 2)) [.asg 8 (.ite (.cmp .inn (.v 7) (.v 4)) (.k (.str "taken")) (.k .non)),
      .ite (.not (.call F_is_far [.v 0, .v 1, .v 6, .v 7])) [.asg 8 (.k (.str "rule"))] [],
      .ite (.call F_is_tolled [.v 0, .v 1, .v 7]) [.asg 8 (.k (.str "day"))] [],
      .ite (.cmp .is (.v 8) (.k .non)) [.setIx 4 (.v 7) (.k (.bl true))] [],
      .ex (.mm .append 3 [.v 8])],
      .ret (.v 3)]
def F_states_of : FnE := ⟨"states_of", 0, none, fnRun 9 3 0 c_states_of⟩
def c_good_calls : List CS :=
    [.ex (.call F_check_calls [.v 0, .v 1, .v 2]),
      .ret (.lc (.sub (.v 3) (.k (.int 0))) (.tup [(.n 3), (.n 4)]) (.zip (.v 2) (.call F_states_of [.v 0, .v 1, .v 2])) [3, 4] (some (.cmp .is (.v 4) (.k .non))))]
def F_good_calls : FnE := ⟨"good_calls", 0, none, fnRun 5 3 0 c_good_calls⟩
def c_why_bad : List CS :=
    [.ex (.call F_check_calls [.v 0, .v 1, .v 2]),
      .ret (.dc (.sub (.v 3) (.k (.int 0))) (.v 4) (.tup [(.n 3), (.n 4)]) (.zip (.v 2) (.call F_states_of [.v 0, .v 1, .v 2])) [3, 4] (some (.cmp .isnot (.v 4) (.k .non))))]
def F_why_bad : FnE := ⟨"why_bad", 0, none, fnRun 5 3 0 c_why_bad⟩
def c_next_working : List CS :=
    [.ex (.call F_check_free [.v 0, .v 1]),
      .ex (.call F_check [.call F_is_within [.v 2, .k (.int 1), .gl "MOST_WORKED" (.int 400)]]),
      .asg 3 (.v 2),
      .whil (.cmp .le (.v 1) (.gl "LAST_DAY_notices" (.int 100000))) [.aug 3 .sub (.ite (.call F_works_notices [.v 0, .v 1]) (.k (.int 1)) (.k (.int 0))),
      .ite (.cmp .eq (.v 3) (.k (.int 0))) [.ret (.v 1)] [],
      .aug 1 .add (.k (.int 1))],
      .raise "NoAnswer"]
def F_next_working : FnE := ⟨"next_working", 0, none, fnRun 4 3 0 c_next_working⟩
def c_meetings_in : List CS :=
    [.ex (.call F_check_rule [.v 0, .v 1, .v 2, .v 3, .v 4]),
      .ex (.call F_check [.cmp .le (.bin .sub (.v 4) (.v 3)) (.gl "MOST_LISTED" (.int 400))]),
      .ret (.lc (.v 5) (.n 5) (.range2 (.v 3) (.bin .add (.v 4) (.k (.int 1)))) [5] (some (.call F_keeps_notices [.v 0, .v 1, .v 2, .v 5])))]
def F_meetings_in : FnE := ⟨"meetings_in", 0, none, fnRun 6 5 0 c_meetings_in⟩
def c_need_free : List CS :=
    [.ex (.call F_check [.and [.isi (.v 0) [.tuple], .cmp .eq (.bi .len [.v 0]) (.k (.int 2)), .bi .all [.lc (.isi (.v 1) [.tuple]) (.n 1) (.e (.v 0)) [1] none]]]),
      .ex (.call F_check [.and [.bi .all [.lc (.call F_is_within [.v 2, .k (.int 0), .bin .sub (.gl "WEEK_checkmore" (.int 7)) (.k (.int 1))]) (.n 2) (.e (.sub (.v 0) (.k (.int 0)))) [2] none], .call F_are_ascending [.sub (.v 0) (.k (.int 0))], .cmp .lt (.bi .len [.sub (.v 0) (.k (.int 0))]) (.gl "WEEK_checkmore" (.int 7))]]),
      .ex (.call F_check [.and [.cmp .le (.bi .len [.sub (.v 0) (.k (.int 1))]) (.k (.int 100)), .bi .all [.lc (.call F_is_within [.v 2, .k (.int 0), .gl "LAST_DAY_checkmore" (.int 100000)]) (.n 2) (.e (.sub (.v 0) (.k (.int 1)))) [2] none], .call F_are_ascending [.sub (.v 0) (.k (.int 1))]]])]
def F_need_free : FnE := ⟨"need_free", 0, none, fnRun 3 1 0 c_need_free⟩
def c_is_rule : List CS :=
    [.ite (.or [.not (.isi (.v 0) [.tuple]), .cmp .ne (.bi .len [.v 0]) (.k (.int 3)), .not (.isi (.sub (.v 0) (.k (.int 0))) [.str])]) [.ret (.k (.bl false))] [],
      .ret (.and [.cmp .inn (.sub (.v 0) (.k (.int 0))) (.tup [.k (.str "days"), .k (.str "working")]), .call F_is_within [.sub (.v 0) (.k (.int 1)), .k (.int 1), .k (.int 60)], .isi (.sub (.v 0) (.k (.int 2))) [.bool]])]
def F_is_rule : FnE := ⟨"is_rule", 0, none, fnRun 1 1 0 c_is_rule⟩
def c_works : List CS :=
    [.ret (.and [.cmp .notin (.bin .mod (.v 1) (.gl "WEEK_checkmore" (.int 7))) (.sub (.v 0) (.k (.int 0))), .cmp .notin (.v 1) (.sub (.v 0) (.k (.int 1)))])]
def F_works : FnE := ⟨"works", 0, none, fnRun 2 2 0 c_works⟩
def F_works_checkmore : FnE := { F_works with name := "works_checkmore" }
def c_keeps : List CS :=
    [.asgT (.tup [(.n 4), (.n 5), (.n 6)]) (.v 1),
      .ite (.and [.v 6, .not (.call F_works_checkmore [.v 0, .v 3])]) [.ret (.k (.bl false))] [],
      .ite (.cmp .eq (.v 4) (.k (.str "days"))) [.ret (.cmp .ge (.bin .sub (.bin .sub (.v 3) (.v 2)) (.k (.int 1))) (.v 5))] [],
      .par [7, 8] [.k (.int 0), .bin .add (.v 2) (.k (.int 1))],
      .whil (.and [.cmp .lt (.v 8) (.v 3), .cmp .lt (.v 7) (.v 5)]) [.aug 7 .add (.ite (.call F_works_checkmore [.v 0, .v 8]) (.k (.int 1)) (.k (.int 0))),
      .aug 8 .add (.k (.int 1))],
      .ret (.cmp .ge (.v 7) (.v 5))]
def F_keeps : FnE := ⟨"keeps", 0, none, fnRun 9 4 0 c_keeps⟩
def F_keeps_checkmore : FnE := { F_keeps with name := "keeps_checkmore" }
def c_takes_meeting : List CS :=
    [.ex (.call F_need_free [.v 0]),
      .ite (.or [.not (.call F_is_rule [.v 1]), .not (.call F_is_within [.v 2, .k (.int 0), .gl "LAST_DAY_checkmore" (.int 100000)]), .not (.call F_is_within [.v 3, .k (.int 0), .gl "LAST_DAY_checkmore" (.int 100000)])]) [.ret (.k (.bl false))] [],
      .ite (.not (.call F_keeps_checkmore [.v 0, .v 1, .v 2, .v 3])) [.ret (.k (.bl false))] [],
      .asg 4 (.bin .sub (.v 3) (.k (.int 1))),
      .whil (.and [.cmp .gt (.v 4) (.v 2), .sub (.v 1) (.k (.int 2)), .not (.call F_works_checkmore [.v 0, .v 4])]) [.aug 4 .sub (.k (.int 1))],
      .ret (.or [.cmp .le (.v 4) (.v 2), .not (.call F_keeps_checkmore [.v 0, .v 1, .v 2, .v 4])])]
def F_takes_meeting : FnE := ⟨"takes_meeting", 0, none, fnRun 5 4 0 c_takes_meeting⟩
def c_takes_calls : List CS :=
    [.ex (.call F_need_free [.v 0]),
      .ite (.or [.not (.call F_is_rule [.v 1]), .not (.isi (.v 2) [.list]), .cmp .gt (.bi .len [.v 2]) (.k (.int 40))]) [.ret (.k (.bl false))] [],
      .forr (.n 4) (.e (.v 2)) [.ite (.or [.not (.isi (.v 4) [.tuple]), .cmp .ne (.bi .len [.v 4]) (.k (.int 3)), .not (.call F_is_name [.sub (.v 4) (.k (.int 0))])]) [.ret (.k (.bl false))] [],
      .ite (.or [.not (.call F_is_within [.sub (.v 4) (.k (.int 1)), .k (.int 0), .gl "LAST_DAY_checkmore" (.int 100000)]), .not (.call F_is_within [.sub (.v 4) (.k (.int 2)), .k (.int 0), .gl "LAST_DAY_checkmore" (.int 100000)])]) [.ret (.k (.bl false))] []],
      .ite (.cmp .lt (.bi .len [.dc (.v 7) (.k (.bl true)) (.tup [(.n 7), (.n 10), (.n 10)]) (.e (.v 2)) [7, 10, 10] none]) (.bi .len [.v 2])) [.ret (.k (.bl false))] [],
      .par [5, 6] [.dct [], .lst []],
      .forr (.tup [(.n 7), (.n 8), (.n 9)]) (.e (.v 2)) [.ite (.and [.cmp .notin (.v 9) (.v 5), .call F_keeps_checkmore [.v 0, .v 1, .v 8, .v 9]]) [.setIx 5 (.v 9) (.k (.bl true)),
      .ex (.mm .append 6 [.v 7])] []],
      .ret (.cmp .eq (.v 3) (.v 6))]
def F_takes_calls : FnE := ⟨"takes_calls", 0, none, fnRun 11 4 0 c_takes_calls⟩
def c__law_draws : List CS :=
    [.asg 1 (.lst []),
      .forr (.n 2) (.e (.v 0)) [.asg 3 (.bin .mod (.bi .int [.bi .abs [.v 2]]) (.bin .pow (.k (.int 997)) (.k (.int 60)))),
      .ite (.cmp .lt (.v 3) (.bin .pow (.k (.int 10)) (.k (.int 18)))) [.asg 4 (.bin .mod (.bi .int [.bin .add (.bin .mul (.v 3) (.k (.int 48271))) (.k (.int 11))]) (.k (.int 2147483647))),
      .ex (.mm .append 1 [.bin .mod (.bi .int [.bin .add (.bin .mul (.v 4) (.k (.int 69621))) (.v 3)]) (.k (.int 2147483629))]),
      .ex (.mm .append 1 [.bin .mod (.bi .int [.bin .add (.v 4) (.bin .fdiv (.v 3) (.k (.int 7)))]) (.k (.int 1000003))]),
      .asg 3 (.k (.int 0))] [],
      .forr (.n 5) (.range1 (.k (.int 60))) [.ite (.cmp .gt (.v 3) (.k (.int 0))) [.ex (.mm .append 1 [.bin .mod (.bi .int [.v 3]) (.k (.int 997))]),
      .asg 3 (.bin .fdiv (.v 3) (.k (.int 997)))] []]],
      .asg 6 (.k (.int 1)),
      .ite (.cmp .gt (.bi .len [.v 0]) (.k (.int 0))) [.asg 6 (.bin .add (.k (.int 1)) (.bi .abs [.sub (.v 0) (.k (.int 0))]))] [],
      .forr (.n 5) (.range1 (.k (.int 2000))) [.asg 6 (.bin .mod (.bi .int [.bin .add (.bin .mul (.v 6) (.k (.int 48271))) (.k (.int 69621))]) (.k (.int 2147483647))),
      .ex (.mm .append 1 [.bin .fdiv (.v 6) (.k (.int 5))])],
      .ret (.biI .list (.reversed (.v 1)))]
def F__law_draws : FnE := ⟨"_law_draws", 0, none, fnRun 7 1 0 c__law_draws⟩
def c__law_take : List CS :=
    [.ite (.cmp .eq (.bi .len [.v 0]) (.k (.int 0))) [.ret (.k (.int 0))] [],
      .ret (.bin .mod (.bi .int [.mm .pop 0 []]) (.v 1))]
def F__law_take : FnE := ⟨"_law_take", 1, none, fnRun 2 2 1 c__law_take⟩
def c__law_pick : List CS :=
    [.ret (.sub (.v 1) (.call F__law_take [.v 0, .bi .len [.v 1]]))]
def F__law_pick : FnE := ⟨"_law_pick", 1, none, fnRun 2 2 1 c__law_pick⟩
def c__law_mixed : List CS :=
    [.asg 2 (.bi .list [.v 1]),
      .asg 3 (.lst []),
      .forr (.n 4) (.range1 (.bi .len [.v 1])) [.ex (.mm .append 3 [.mm .pop 2 [.call F__law_take [.v 0, .bi .len [.v 2]]]])],
      .ret (.v 3)]
def F__law_mixed : FnE := ⟨"_law_mixed", 1, none, fnRun 5 2 1 c__law_mixed⟩
def c__law_same (F__law_same : FnE) : List CS :=
    [.ite (.isi (.v 1) [.dict]) [.ite (.or [.not (.isi (.v 0) [.dict]), .cmp .ne (.bi .sorted [.bi .list [.v 0]]) (.bi .sorted [.bi .list [.v 1]])]) [.ret (.k (.bl false))] [],
      .ret (.bi .all [.lc (.call F__law_same [.sub (.v 0) (.v 2), .sub (.v 1) (.v 2)]) (.n 2) (.e (.v 1)) [2] none])] [],
      .ite (.or [.isi (.v 1) [.tuple], .isi (.v 1) [.list]]) [.ite (.or [.cmp .ne (.isi (.v 1) [.tuple]) (.isi (.v 0) [.tuple]), .cmp .ne (.isi (.v 1) [.list]) (.isi (.v 0) [.list])]) [.ret (.k (.bl false))] [],
      .ret (.and [.cmp .eq (.bi .len [.v 0]) (.bi .len [.v 1]), .bi .all [.lc (.call F__law_same [.sub (.v 0) (.v 3), .sub (.v 1) (.v 3)]) (.n 3) (.range1 (.bi .len [.v 1])) [3] none]])] [],
      .ite (.cmp .is (.v 1) (.k .non)) [.ret (.cmp .is (.v 0) (.k .non))] [],
      .ite (.cmp .ne (.isi (.v 1) [.bool]) (.isi (.v 0) [.bool])) [.ret (.k (.bl false))] [],
      .ite (.or [.cmp .ne (.isi (.v 1) [.int]) (.isi (.v 0) [.int]), .cmp .ne (.isi (.v 1) [.str]) (.isi (.v 0) [.str])]) [.ret (.k (.bl false))] [],
      .ret (.cmp .eq (.v 0) (.v 1))]
def R__law_same : Nat → FnE
  | 0 => ⟨"_law_same", 0, none, fun _ => .stuck⟩
  | n + 1 => ⟨"_law_same", 0, none, fnRun 4 2 0 (c__law_same (R__law_same n))⟩
def F__law_same : FnE := R__law_same 12
def c__law_kind : List CS :=
    [.asg 1 (.lst [.isi (.v 0) [.cls "NotRight"], .isi (.v 0) [.cls "NotThere"], .isi (.v 0) [.cls "NoAnswer"], .isi (.v 0) [.cls "TooLarge"]]),
      .ret (.bin .add (.k (.str "refused ")) (.bi .str [.bi .sum [.lc (.bin .mul (.bin .add (.v 2) (.k (.int 1))) (.bi .int [.sub (.v 1) (.v 2)])) (.n 2) (.range1 (.k (.int 4))) [2] none]]))]
def F__law_kind : FnE := ⟨"_law_kind", 0, none, fnRun 3 1 0 c__law_kind⟩
def c__law_free : List CS :=
    [.asg 1 (.bi .tuple [.bi .sorted [.sl (.call F__law_mixed [.v 0, .biI .list (.range1 (.k (.int 7)))]) none (some (.call F__law_take [.v 0, .k (.int 4)]))]]),
      .ret (.tup [.v 1, .bi .tuple [.bi .sorted [.sl (.call F__law_mixed [.v 0, .biI .list (.range1 (.k (.int 40)))]) none (some (.call F__law_take [.v 0, .k (.int 8)]))]]])]
def F__law_free : FnE := ⟨"_law_free", 1, none, fnRun 2 1 1 c__law_free⟩
def c__law_works : List CS :=
    [.ret (.and [.cmp .notin (.bin .mod (.bi .int [.v 1]) (.k (.int 7))) (.sub (.v 0) (.k (.int 0))), .cmp .notin (.v 1) (.sub (.v 0) (.k (.int 1)))])]
def F__law_works : FnE := ⟨"_law_works", 0, none, fnRun 2 2 0 c__law_works⟩
def c__law_rule : List CS :=
    [.ret (.tup [.call F__law_pick [.v 0, .lst [.k (.str "days"), .k (.str "working")]], .bin .add (.k (.int 1)) (.call F__law_take [.v 0, .v 1]), .cmp .eq (.call F__law_take [.v 0, .k (.int 2)]) (.k (.int 0))])]
def F__law_rule : FnE := ⟨"_law_rule", 1, none, fnRun 2 2 1 c__law_rule⟩
def c__law_between : List CS :=
    [.ret (.bi .len [.lc (.v 3) (.n 3) (.range2 (.bin .add (.v 1) (.k (.int 1))) (.v 2)) [3] (some (.call F__law_works [.v 0, .v 3]))])]
def F__law_between : FnE := ⟨"_law_between", 0, none, fnRun 4 3 0 c__law_between⟩
def c__law_word : List CS :=
    [.ite (.and [.sub (.v 1) (.k (.int 2)), .not (.call F__law_works [.v 0, .v 3])]) [.ret (.k (.str "day"))] [],
      .asg 4 (.ite (.cmp .eq (.sub (.v 1) (.k (.int 0))) (.k (.str "days"))) (.bi .max [.k (.int 0), .bin .sub (.bin .sub (.v 3) (.v 2)) (.k (.int 1))]) (.call F__law_between [.v 0, .v 2, .v 3])),
      .ret (.ite (.cmp .lt (.v 4) (.sub (.v 1) (.k (.int 1)))) (.k (.str "rule")) (.k .non))]
def F__law_word : FnE := ⟨"_law_word", 0, none, fnRun 5 4 0 c__law_word⟩
def c__law_told : List CS :=
    [.ite (.cmp .eq (.v 0) (.k (.int 0))) [.ret (.call F_is_working [.v 1, .v 2])] [],
      .ite (.cmp .lt (.v 0) (.k (.int 7))) [.ret (.dyn [F_working_between, F_first_meeting, F_last_notice, F_good_calls, F_why_bad, F_next_working] (.sub (.lst [.gl "working_between" (.fn "working_between"), .gl "first_meeting" (.fn "first_meeting"), .gl "last_notice" (.fn "last_notice"), .gl "good_calls" (.fn "good_calls"), .gl "why_bad" (.fn "why_bad"), .gl "next_working" (.fn "next_working")]) (.bin .sub (.v 0) (.k (.int 1)))) [.v 1, .v 2, .v 3])] [],
      .ite (.cmp .lt (.v 0) (.k (.int 10))) [.ret (.dyn [F_does_keep, F_takes_meeting, F_takes_calls] (.sub (.lst [.gl "does_keep" (.fn "does_keep"), .gl "takes_meeting" (.fn "takes_meeting"), .gl "takes_calls" (.fn "takes_calls")]) (.bin .sub (.v 0) (.k (.int 7)))) [.v 1, .v 2, .v 3, .v 4])] [],
      .ret (.call F_meetings_in [.v 1, .v 2, .v 3, .sub (.v 4) (.k (.int 0)), .sub (.v 4) (.k (.int 1))])]
def F__law_told : FnE := ⟨"_law_told", 0, none, toldRun kindD (fnRun 6 5 0 c__law_told)⟩
def c__law_are_days_due : List CS :=
    [.par [3, 4] [.call F__law_take [.v 0, .k (.int 40)], .call F__law_take [.v 0, .k (.int 40)]],
      .asg 5 (.lst [.call F_are_free_days [.v 1], .call F_is_notice_rule [.v 2], .call F__law_told [.k (.int 0), .v 1, .v 3, .k .non, .k .non], .call F__law_told [.k (.int 1), .v 1, .v 3, .v 4, .k .non], .call F__law_told [.k (.int 7), .v 1, .v 2, .v 3, .v 4]]),
      .ite (.not (.call F__law_same [.v 5, .lst [.k (.bl true), .k (.bl true), .call F__law_works [.v 1, .v 3], .call F__law_between [.v 1, .v 3, .v 4], .cmp .is (.call F__law_word [.v 1, .v 2, .v 3, .v 4]) (.k .non)]])) [.ret (.k (.bl false))] [],
      .asg 6 (.bin .add (.v 3) (.k (.int 1))),
      .whil (.cmp .isnot (.call F__law_word [.v 1, .v 2, .v 3, .v 6]) (.k .non)) [.asg 6 (.bin .add (.v 6) (.k (.int 1)))],
      .asg 7 (.lc (.v 10) (.n 10) (.range1 (.v 4)) [10] (some (.cmp .is (.call F__law_word [.v 1, .v 2, .v 10, .v 4]) (.k .non)))),
      .ite (.not (.call F__law_same [.lst [.call F__law_told [.k (.int 2), .v 1, .v 2, .v 3, .k .non], .call F__law_told [.k (.int 3), .v 1, .v 2, .v 4, .k .non]], .lst [.v 6, .sub (.bin .add (.lst [.k .non]) (.v 7)) (.neg (.k (.int 1)))]])) [.ret (.k (.bl false))] [],
      .asg 8 (.call F__law_pick [.v 0, .lst [.v 6, .bin .add (.v 6) (.k (.int 1)), .bin .sub (.v 6) (.k (.int 1)), .v 3, .k .non]]),
      .ite (.not (.call F__law_same [.lst [.call F__law_told [.k (.int 8), .v 1, .v 2, .v 3, .v 6], .call F__law_told [.k (.int 8), .v 1, .v 2, .v 3, .v 8]], .lst [.k (.bl true), .cmp .eq (.v 8) (.v 6)]])) [.ret (.k (.bl false))] [],
      .par [9, 10] [.bin .add (.k (.int 1)) (.call F__law_take [.v 0, .k (.int 9)]), .bin .sub (.v 3) (.k (.int 1))],
      .asg 11 (.v 9),
      .whil (.cmp .gt (.v 11) (.k (.int 0))) [.asg 10 (.bin .add (.v 10) (.k (.int 1))),
      .asg 11 (.bin .sub (.v 11) (.bi .int [.call F__law_works [.v 1, .v 10]]))],
      .asg 12 (.lc (.v 13) (.n 13) (.range2 (.v 3) (.bin .add (.v 4) (.k (.int 1)))) [13] (some (.cmp .is (.call F__law_word [.v 1, .v 2, .k (.int 5), .v 13]) (.k .non)))),
      .ret (.call F__law_same [.lst [.call F__law_told [.k (.int 6), .v 1, .v 3, .v 9, .k .non], .call F__law_told [.k (.int 10), .v 1, .v 2, .k (.int 5), .tup [.v 3, .v 4]]], .lst [.v 10, .v 12]])]
def F__law_are_days_due : FnE := ⟨"_law_are_days_due", 1, none, fnRun 14 3 1 c__law_are_days_due⟩
def c__law_are_calls_due : List CS :=
    [.par [3, 4, 5, 6] [.lst [], .lst [], .dct [], .lst []],
      .forr (.n 7) (.e (.sl (.call F__law_mixed [.v 0, .lst [.k (.str "a"), .k (.str "b"), .k (.str "c1"), .k (.str "d"), .k (.str "e"), .k (.str "f")]]) none (some (.call F__law_take [.v 0, .k (.int 7)])))) [.ex (.mm .append 3 [.tup [.v 7, .call F__law_take [.v 0, .k (.int 12)], .call F__law_pick [.v 0, .lst [.k (.int 9), .k (.int 13), .k (.int 20), .call F__law_take [.v 0, .k (.int 40)]]]]])],
      .forr (.tup [(.n 7), (.n 8), (.n 9)]) (.e (.v 3)) [.asg 10 (.call F__law_word [.v 1, .v 2, .v 8, .v 9]),
      .ite (.and [.cmp .is (.v 10) (.k .non), .cmp .inn (.v 9) (.v 4)]) [.asg 10 (.k (.str "taken"))] [],
      .ite (.cmp .is (.v 10) (.k .non)) [.par [6, 4] [.bin .add (.v 6) (.lst [.v 7]), .bin .add (.v 4) (.lst [.v 9])]] [.setIx 5 (.v 7) (.v 10)]],
      .asg 11 (.call F__law_told [.k (.int 5), .v 1, .v 2, .bi .list [.v 3], .k .non]),
      .ite (.or [.not (.call F__law_same [.lst [.call F__law_told [.k (.int 4), .v 1, .v 2, .bi .list [.v 3], .k .non], .v 11], .lst [.v 6, .v 5]]), .cmp .ne (.bi .list [.v 11]) (.bi .list [.v 5])]) [.ret (.k (.bl false))] [],
      .asg 12 (.call F__law_pick [.v 0, .lst [.v 6, .sl (.v 6) (some (.k (.int 1))) none, .lc (.sub (.v 13) (.k (.int 0))) (.n 13) (.e (.v 3)) [13] none, .rev (.v 6), .bi .tuple [.v 6]]]),
      .ret (.call F__law_same [.lst [.call F__law_told [.k (.int 9), .v 1, .v 2, .bi .list [.v 3], .bi .list [.v 6]], .call F__law_told [.k (.int 9), .v 1, .v 2, .bi .list [.v 3], .v 12]], .lst [.k (.bl true), .cmp .eq (.v 12) (.v 6)]])]
def F__law_are_calls_due : FnE := ⟨"_law_are_calls_due", 1, none, fnRun 14 3 1 c__law_are_calls_due⟩
def c_law : List CS :=
    [.asg 1 (.call F__law_draws [.v 0]),
      .forr (.n 2) (.range1 (.k (.int 6))) [.par [3, 4] [.call F__law_free [.v 1], .call F__law_rule [.v 1, .k (.int 9)]],
      .ite (.or [.not (.call F__law_are_days_due [.v 1, .v 3, .v 4]), .not (.call F__law_are_calls_due [.v 1, .v 3, .v 4])]) [.ret (.k (.bl false))] []],
      .asg 5 (.lst [.k .non, .lst [.tup [], .tup []], .tup [.tup []], .tup [.tup [.k (.int 7)], .tup []], .tup [.tup [.k (.int 1), .k (.int 0)], .tup []], .tup [.tup [.k (.int 0), .k (.int 1), .k (.int 2), .k (.int 3), .k (.int 4), .k (.int 5), .k (.int 6)], .tup []], .tup [.tup [], .tup [.neg (.k (.int 1))]], .tup [.tup [], .tup [.k (.int 100001)]], .tup [.tup [], .tup [.k (.int 2), .k (.int 1)]], .tup [.lst [.k (.int 5)], .tup []], .tup [.tup [.k (.bl true)], .tup []]]),
      .ex (.mm .append 5 [.tup [.tup [], .biI .tuple (.range1 (.k (.int 101)))]]),
      .asg 6 (.lst [.k .non, .tup [.k (.str "days"), .k (.int 1)], .lst [.k (.str "days"), .k (.int 1), .k (.bl true)], .tup [.k (.str "weeks"), .k (.int 1), .k (.bl true)], .tup [.k (.str "days"), .k (.int 0), .k (.bl true)], .tup [.k (.str "days"), .k (.int 61), .k (.bl true)], .tup [.k (.str "days"), .k (.bl true), .k (.bl true)]]),
      .asg 6 (.bin .add (.v 6) (.lst [.tup [.k (.str "days"), .k (.int 1), .k (.int 1)], .tup [.k (.int 1), .k (.int 1), .k (.bl true)]])),
      .ite (.not (.call F__law_same [.bin .add (.lc (.call F_are_free_days [.v 15]) (.n 15) (.e (.v 5)) [15] none) (.lc (.call F_is_notice_rule [.v 15]) (.n 15) (.e (.v 6)) [15] none), .bin .mul (.lst [.k (.bl false)]) (.k (.int 21))])) [.ret (.k (.bl false))] [],
      .par [7, 8, 9] [.call F__law_pick [.v 1, .v 5], .call F__law_pick [.v 1, .v 6], .call F__law_pick [.v 1, .lst [.neg (.k (.int 1)), .k (.int 100001), .k .non, .k (.bl true)]]],
      .par [10, 11] [.tup [.tup [.k (.int 5), .k (.int 6)], .tup [.k (.int 2)]], .tup [.k (.str "working"), .k (.int 2), .k (.bl true)]],
      .asg 12 (.lst [.call F__law_told [.k (.int 0), .v 7, .k (.int 0), .k .non, .k .non], .call F__law_told [.k (.int 0), .v 10, .v 9, .k .non, .k .non], .call F__law_told [.k (.int 1), .v 7, .k (.int 0), .k (.int 1), .k .non]]),
      .asg 12 (.bin .add (.v 12) (.lst [.call F__law_told [.k (.int 1), .v 10, .v 9, .k (.int 1), .k .non], .call F__law_told [.k (.int 1), .v 10, .k (.int 1), .v 9, .k .non]])),
      .asg 12 (.bin .add (.bin .add (.v 12) (.lc (.call F__law_told [.v 16, .v 7, .v 11, .k (.int 0), .k .non]) (.n 16) (.e (.lst [.k (.int 2), .k (.int 3)])) [16] none)) (.lc (.call F__law_told [.v 16, .v 10, .v 8, .k (.int 0), .k .non]) (.n 16) (.e (.lst [.k (.int 2), .k (.int 3)])) [16] none)),
      .asg 12 (.bin .add (.bin .add (.v 12) (.lc (.call F__law_told [.v 16, .v 10, .v 11, .v 9, .k .non]) (.n 16) (.e (.lst [.k (.int 2), .k (.int 3)])) [16] none)) (.lst [.call F__law_told [.k (.int 6), .v 7, .k (.int 0), .k (.int 1), .k .non], .call F__law_told [.k (.int 6), .v 10, .v 9, .k (.int 1), .k .non]])),
      .asg 12 (.bin .add (.bin .add (.v 12) (.lc (.call F__law_told [.k (.int 6), .v 10, .k (.int 0), .v 17, .k .non]) (.n 17) (.e (.lst [.k (.int 0), .k (.int 401), .k .non])) [17] none)) (.lst [.call F__law_told [.k (.int 7), .v 7, .v 11, .k (.int 0), .k (.int 9)], .call F__law_told [.k (.int 7), .v 10, .v 8, .k (.int 0), .k (.int 9)]])),
      .asg 12 (.bin .add (.v 12) (.lst [.call F__law_told [.k (.int 7), .v 10, .v 11, .v 9, .k (.int 9)], .call F__law_told [.k (.int 7), .v 10, .v 11, .k (.int 0), .v 9], .call F__law_told [.k (.int 10), .v 7, .v 11, .k (.int 0), .tup [.k (.int 0), .k (.int 9)]]])),
      .asg 12 (.bin .add (.v 12) (.lst [.call F__law_told [.k (.int 10), .v 10, .v 8, .k (.int 0), .tup [.k (.int 0), .k (.int 9)]], .call F__law_told [.k (.int 10), .v 10, .v 11, .v 9, .tup [.k (.int 0), .k (.int 9)]]])),
      .asg 12 (.bin .add (.v 12) (.lc (.call F__law_told [.k (.int 10), .v 10, .v 11, .k (.int 0), .v 18]) (.n 18) (.e (.lst [.tup [.v 9, .k (.int 9)], .tup [.k (.int 0), .v 9], .tup [.k (.int 0), .k (.int 401)]])) [18] none)),
      .asg 13 (.call F__law_pick [.v 1, .lst [.k .non, .tup [.tup [.k (.str "a"), .k (.int 0), .k (.int 9)]], .lst [.tup [.k (.str "a"), .k (.int 0)]], .lst [.tup [.k (.str "A"), .k (.int 0), .k (.int 9)]], .lst [.tup [.k (.str "a"), .neg (.k (.int 1)), .k (.int 9)]], .lst [.tup [.k (.str "a"), .k (.int 0), .k (.int 9)], .tup [.k (.str "a"), .k (.int 1), .k (.int 20)]], .lst [.lst [.k (.str "a"), .k (.int 0), .k (.int 9)]]]]),
      .asg 12 (.bin .add (.bin .add (.v 12) (.lc (.call F__law_told [.v 16, .v 7, .v 11, .lst [], .k .non]) (.n 16) (.e (.lst [.k (.int 4), .k (.int 5)])) [16] none)) (.lc (.call F__law_told [.v 16, .v 10, .v 8, .lst [], .k .non]) (.n 16) (.e (.lst [.k (.int 4), .k (.int 5)])) [16] none)),
      .asg 12 (.bin .add (.bin .add (.v 12) (.lc (.call F__law_told [.v 16, .v 10, .v 11, .v 13, .k .non]) (.n 16) (.e (.lst [.k (.int 4), .k (.int 5)])) [16] none)) (.lst [.call F__law_told [.k (.int 8), .v 7, .v 11, .k (.int 0), .k (.int 4)], .call F__law_told [.k (.int 9), .v 7, .v 11, .lst [], .lst []]])),
      .ite (.cmp .ne (.lc (.v 15) (.n 15) (.e (.v 12)) [15] (some (.cmp .ne (.v 15) (.k (.str "refused 1"))))) (.lst [])) [.ret (.k (.bl false))] [],
      .asg 12 (.lst [.call F__law_told [.k (.int 8), .v 10, .v 8, .k (.int 0), .k (.int 4)], .call F__law_told [.k (.int 8), .v 10, .v 11, .v 9, .k (.int 4)], .call F__law_told [.k (.int 9), .v 10, .v 8, .lst [], .lst []], .call F__law_told [.k (.int 9), .v 10, .v 11, .v 13, .lst []]]),
      .ite (.not (.call F__law_same [.v 12, .bin .mul (.lst [.k (.bl false)]) (.k (.int 4))])) [.ret (.k (.bl false))] [],
      .asg 14 (.bin .add (.lc (.call F__law_told [.k (.int 2), .tup [.tup [], .tup []], .tup [.k (.str "days"), .k (.int 3), .k (.bl false)], .v 19, .k .non]) (.n 19) (.e (.lst [.k (.int 99996), .k (.int 99997)])) [19] none) (.lc (.call F__law_told [.k (.int 6), .tup [.tup [], .tup []], .k (.int 99999), .v 17, .k .non]) (.n 17) (.e (.lst [.k (.int 2), .k (.int 3)])) [17] none)),
      .ret (.and [.call F__law_same [.v 14, .lst [.k (.int 100000), .k (.str "refused 3"), .k (.int 100000), .k (.str "refused 3")]], .cmp .is (.call F__law_told [.k (.int 8), .tup [.tup [], .tup []], .tup [.k (.str "days"), .k (.int 3), .k (.bl false)], .k (.int 99997), .k (.int 100000)]) (.k (.bl false))])]
def F_law : FnE := ⟨"law", 0, none, fnRun 20 1 0 c_law⟩
end K54
end
section
set_option linter.all false
set_option maxRecDepth 100000
/-! MRun: running the evaluator by simp. -/
namespace MR
open M
open PySem (Str)
@[simp] theorem bind_ok {α β : Type} (a : α) (f : α → Out β) : (Out.ok a).bind f = f a := rfl
@[simp] theorem bind_exc {α β : Type} (c : Str) (p : D) (f : α → Out β) : (Out.exc c p).bind f = .exc c p := rfl
@[simp] theorem bind_stuck {α β : Type} (f : α → Out β) : (Out.stuck).bind f = .stuck := rfl
/-! ### expressions -/
@[simp] theorem ev_k (d : D) (ρ : Env) : ev (.k d) ρ = .ok (.val d, ρ) := by first | (simp only [ev]; done) | (simp only [ev]; rfl)
@[simp] theorem ev_gl (x : Str) (d : D) (ρ : Env) : ev (.gl x d) ρ = .ok (.val d, ρ) := by first | (simp only [ev]; done) | (simp only [ev]; rfl)
@[simp] theorem ev_v (i : Nat) (ρ : Env) : ev (.v i) ρ = match ρ[i]? with
    | some (.val d) => .ok (.val d, ρ)
    | some (.own _) => .ok (.slot i, ρ)
    | some (.lck _) => .ok (.slot i, ρ)
    | _ => .stuck := by first | (simp only [ev]; done) | (simp only [ev]; rfl)
@[simp] theorem ev_bin (op : BinO) (a b : CE) (ρ : Env) : ev (.bin op a b) ρ = (ev a ρ).bind fun p => (ev b p.2).bind fun q => k2 (binD op) p q := by first | (simp only [ev]; done) | (simp only [ev]; rfl)
@[simp] theorem ev_neg (a : CE) (ρ : Env) : ev (.neg a) ρ = (ev a ρ).bind fun p => k1 negD p := by first | (simp only [ev]; done) | (simp only [ev]; rfl)
@[simp] theorem ev_cmp (op : CmpO) (a b : CE) (ρ : Env) : ev (.cmp op a b) ρ = (ev a ρ).bind fun p => (ev b p.2).bind fun q => k2 (cmpR op) p q := by first | (simp only [ev]; done) | (simp only [ev]; rfl)
@[simp] theorem ev_chain (o o' : CmpO) (a b c : CE) (ρ : Env) : ev (.chain o o' a b c) ρ = (ev a ρ).bind fun p => (ev b p.2).bind fun q => (k2 (cmpR o) p q).bind fun r =>
      if isTt r.1 then (ev c r.2).bind fun s => k2 (cmpR o') (q.1, s.2) s else .ok r := by first | (simp only [ev]; done) | (simp only [ev]; rfl)
@[simp] theorem ev_and (es : List CE) (ρ : Env) : ev (.and es) ρ = evAnd es ρ := by first | (simp only [ev]; done) | (simp only [ev]; rfl)
@[simp] theorem ev_or (es : List CE) (ρ : Env) : ev (.or es) ρ = evOr es ρ := by first | (simp only [ev]; done) | (simp only [ev]; rfl)
@[simp] theorem ev_not (a : CE) (ρ : Env) : ev (.not a) ρ = ((ev a ρ).bind tru).bind fun p => .ok (.val (.bl (!p.1)), p.2) := by first | (simp only [ev]; done) | (simp only [ev]; rfl)
@[simp] theorem ev_ite (c a b : CE) (ρ : Env) : ev (.ite c a b) ρ = ((ev c ρ).bind tru).bind fun p => if p.1 then ev a p.2 else ev b p.2 := by first | (simp only [ev]; done) | (simp only [ev]; rfl)
@[simp] theorem ev_tup (es : List CE) (ρ : Env) : ev (.tup es) ρ = (evs es ρ).bind fun p => (freezes p.2 p.1).bind fun q => .ok (.val (.tup q.1), q.2) := by first | (simp only [ev]; done) | (simp only [ev]; rfl)
@[simp] theorem ev_lst (es : List CE) (ρ : Env) : ev (.lst es) ρ = (evs es ρ).bind fun p => (freezes p.2 p.1).bind fun q => .ok (.own (.lst q.1), q.2) := by first | (simp only [ev]; done) | (simp only [ev]; rfl)
@[simp] theorem ev_dct (es : List CE) (ρ : Env) : ev (.dct es) ρ = (evKV es [] ρ).bind fun p => .ok (.own (.dct p.1), p.2) := by first | (simp only [ev]; done) | (simp only [ev]; rfl)
@[simp] theorem ev_call (F : FnE) (es : List CE) (ρ : Env) : ev (.call F es) ρ = (evs es ρ).bind fun p => callF F p.1 p.2 := by first | (simp only [ev]; done) | (simp only [ev]; rfl)
@[simp] theorem ev_bi (b : BI) (es : List CE) (ρ : Env) : ev (.bi b es) ρ = (evs es ρ).bind fun p => kL (biD b) p := by first | (simp only [ev]; done) | (simp only [ev]; rfl)
@[simp] theorem ev_biI (b : BI) (it : CI) (ρ : Env) : ev (.biI b it) ρ = (evI it ρ).bind (biFin b) := by first | (simp only [ev]; done) | (simp only [ev]; rfl)
@[simp] theorem ev_isi (e : CE) (ts : List TyN) (ρ : Env) : ev (.isi e ts) ρ = (ev e ρ).bind fun p => k1 (isiD ts) p := by first | (simp only [ev]; done) | (simp only [ev]; rfl)
@[simp] theorem ev_get1 (a k : CE) (ρ : Env) : ev (.get1 a k) ρ = (ev a ρ).bind fun p => if isDct (deref p.2 p.1) then (ev k p.2).bind fun q => k2 getD1 p q else .stuck := by first | (simp only [ev]; done) | (simp only [ev]; rfl)
@[simp] theorem ev_get2 (a k d : CE) (ρ : Env) : ev (.get2 a k d) ρ = (ev a ρ).bind fun p => if isDct (deref p.2 p.1) then (ev k p.2).bind fun q => (ev d q.2).bind fun r => (freeze r.2 r.1).bind fun z => k2 (getD2 z.1) p (q.1, z.2) else .stuck := by first | (simp only [ev]; done) | (simp only [ev]; rfl)
@[simp] theorem ev_mm (m : MM) (i : Nat) (es : List CE) (ρ : Env) : ev (.mm m i es) ρ = if ownL ρ i then (evs es ρ).bind fun p => (freezes p.2 p.1).bind fun q => kMut m i q else .stuck := by first | (simp only [ev]; done) | (simp only [ev]; rfl)
@[simp] theorem ev_sub (a i : CE) (ρ : Env) : ev (.sub a i) ρ = (ev a ρ).bind fun p => (ev i p.2).bind fun q => k2 subR p q := by first | (simp only [ev]; done) | (simp only [ev]; rfl)
@[simp] theorem ev_sl (a : CE) (lo hi : Option CE) (ρ : Env) : ev (.sl a lo hi) ρ = (ev a ρ).bind fun p => (evO lo p.2).bind fun q => (evO hi q.2).bind fun r => k1 (fun d => slD d q.1 r.1) (p.1, r.2) := by first | (simp only [ev]; done) | (simp only [ev]; rfl)
@[simp] theorem ev_rev (a : CE) (ρ : Env) : ev (.rev a) ρ = (ev a ρ).bind fun p => k1 revD p := by first | (simp only [ev]; done) | (simp only [ev]; rfl)
@[simp] theorem evs_nil (ρ : Env) : evs [] ρ = .ok ([], ρ) := by first | (simp only [evs]; done) | (simp only [evs]; rfl)
@[simp] theorem evs_cons (e : CE) (es : List CE) (ρ : Env) : evs (e :: es) ρ = (ev e ρ).bind fun p => (evs es p.2).bind fun q => .ok (p.1 :: q.1, q.2) := by first | (simp only [evs]; done) | (simp only [evs]; rfl)
@[simp] theorem evKV_nil (acc : List (Key × D)) (ρ : Env) : evKV [] acc ρ = .ok (acc, ρ) := by first | (simp only [evKV]; done) | (simp only [evKV]; rfl)
@[simp] theorem evKV_cons (k v : CE) (r : List CE) (acc : List (Key × D)) (ρ : Env) : evKV (k :: v :: r) acc ρ = (ev k ρ).bind fun p => (freeze p.2 p.1).bind fun p' => (ev v p'.2).bind fun q => (freeze q.2 q.1).bind fun q' =>
      match p'.1.key? with
      | some key => evKV r (putK acc key q'.1) q'.2
      | none => .stuck := by first | (simp only [evKV]; done) | (simp only [evKV]; rfl)
@[simp] theorem evAnd_one (e : CE) (ρ : Env) : evAnd [e] ρ = ev e ρ := by first | (simp only [evAnd]; done) | (simp only [evAnd]; rfl)
@[simp] theorem evAnd_cons (e e' : CE) (es : List CE) (ρ : Env) : evAnd (e :: e' :: es) ρ = (ev e ρ).bind fun p => (tru p).bind fun b => if b.1 then evAnd (e' :: es) p.2 else .ok p := by first | (simp only [evAnd]; done) | (simp only [evAnd]; rfl)
@[simp] theorem evOr_one (e : CE) (ρ : Env) : evOr [e] ρ = ev e ρ := by first | (simp only [evOr]; done) | (simp only [evOr]; rfl)
@[simp] theorem evOr_cons (e e' : CE) (es : List CE) (ρ : Env) : evOr (e :: e' :: es) ρ = (ev e ρ).bind fun p => (tru p).bind fun b => if b.1 then .ok p else evOr (e' :: es) p.2 := by first | (simp only [evOr]; done) | (simp only [evOr]; rfl)
@[simp] theorem evC_none (ρ : Env) : evC none ρ = .ok (true, ρ) := by first | (simp only [evC]; done) | (simp only [evC]; rfl)
@[simp] theorem evC_some (c : CE) (ρ : Env) : evC (some c) ρ = (ev c ρ).bind tru := by first | (simp only [evC]; done) | (simp only [evC]; rfl)
@[simp] theorem evO_none (ρ : Env) : evO none ρ = .ok (none, ρ) := by first | (simp only [evO]; done) | (simp only [evO]; rfl)
@[simp] theorem evO_some (e : CE) (ρ : Env) : evO (some e) ρ = (ev e ρ).bind fun p => match deref p.2 p.1 with
      | some (.int i) => .ok (some i, p.2)
      | _ => .stuck := by first | (simp only [evO]; done) | (simp only [evO]; rfl)
@[simp] theorem evI_e (e : CE) (ρ : Env) : evI (.e e) ρ = (ev e ρ).bind fun p => kI itemsD p := by first | (simp only [evI]; done) | (simp only [evI]; rfl)
@[simp] theorem evI_range1 (a : CE) (ρ : Env) : evI (.range1 a) ρ = (ev a ρ).bind fun p => kR range1D p := by first | (simp only [evI]; done) | (simp only [evI]; rfl)
@[simp] theorem evI_range2 (a b : CE) (ρ : Env) : evI (.range2 a b) ρ = (ev a ρ).bind fun p => (ev b p.2).bind fun q => kR2 range2D p q := by first | (simp only [evI]; done) | (simp only [evI]; rfl)
@[simp] theorem evI_enum (e : CE) (ρ : Env) : evI (.enum e) ρ = (ev e ρ).bind fun p => kI enumD p := by first | (simp only [evI]; done) | (simp only [evI]; rfl)
@[simp] theorem evI_zip (a b : CE) (ρ : Env) : evI (.zip a b) ρ = (ev a ρ).bind fun p => (ev b p.2).bind fun q => kI2 zip2D p q := by first | (simp only [evI]; done) | (simp only [evI]; rfl)
@[simp] theorem evI_items (e : CE) (ρ : Env) : evI (.items e) ρ = (ev e ρ).bind fun p => kI pairsD p := by first | (simp only [evI]; done) | (simp only [evI]; rfl)
@[simp] theorem evI_values (e : CE) (ρ : Env) : evI (.values e) ρ = (ev e ρ).bind fun p => kI valuesD p := by first | (simp only [evI]; done) | (simp only [evI]; rfl)
@[simp] theorem evI_reversed (e : CE) (ρ : Env) : evI (.reversed e) ρ = (ev e ρ).bind fun p => kI revItemsD p := by first | (simp only [evI]; done) | (simp only [evI]; rfl)
/-! ### statements -/
@[simp] theorem execs_nil (ρ : Env) : execs [] ρ = .ok (.next, ρ) := by first | (simp only [execs]; done) | (simp only [execs]; rfl)
@[simp] theorem execs_cons (s : CS) (ss : List CS) (ρ : Env) : execs (s :: ss) ρ = (exec s ρ).bind fun p => match p.1 with
      | .next => execs ss p.2
      | f => .ok (f, p.2) := by first | (simp only [execs]; done) | (simp only [execs]; rfl)
@[simp] theorem ex_asg (i : Nat) (e : CE) (ρ : Env) : exec (.asg i e) ρ = (ev e ρ).bind fun p => (setRes p.2 i p.1).bind fun ρ' => .ok (.next, ρ') := by first | (simp only [exec]; done) | (simp only [exec]; rfl)
@[simp] theorem ex_asgT (t : CT) (e : CE) (ρ : Env) : exec (.asgT t e) ρ = (ev e ρ).bind fun p => (freeze p.2 p.1).bind fun q => (setT t q.1 q.2).bind fun ρ' => .ok (.next, ρ') := by first | (simp only [exec]; done) | (simp only [exec]; rfl)
@[simp] theorem ex_par (is : List Nat) (es : List CE) (ρ : Env) : exec (.par is es) ρ = (evs es ρ).bind fun p => (settle p.2 p.1).bind fun q => (setSlots is q.1 q.2).bind fun ρ' => .ok (.next, ρ') := by first | (simp only [exec]; done) | (simp only [exec]; rfl)
@[simp] theorem ex_ex (e : CE) (ρ : Env) : exec (.ex e) ρ = (ev e ρ).bind fun p => .ok (.next, p.2) := by first | (simp only [exec]; done) | (simp only [exec]; rfl)
@[simp] theorem ex_ret (e : CE) (ρ : Env) : exec (.ret e) ρ = (ev e ρ).bind fun p => .ok (.ret p.1, p.2) := by first | (simp only [exec]; done) | (simp only [exec]; rfl)
@[simp] theorem ex_retN (ρ : Env) : exec .retN ρ = .ok (.ret (.val .non), ρ) := by first | (simp only [exec]; done) | (simp only [exec]; rfl)
@[simp] theorem ex_ite (c : CE) (a b : List CS) (ρ : Env) : exec (.ite c a b) ρ = (evT c ρ).bind fun p => if p.1 then execs a p.2 else execs b p.2 := by first | (simp only [exec]; done) | (simp only [exec]; rfl)
@[simp] theorem evT_eq (c : CE) (ρ : Env) : evT c ρ = (ev c ρ).bind tru := rfl
theorem ex_whil (c : CE) (b : List CS) (ρ : Env) : exec (.whil c b) ρ = whileL (fun ρ => evT c ρ) (fun ρ => execs b ρ) fuel ρ := by first | (simp only [exec]; done) | (simp only [exec]; rfl)
@[simp] theorem ex_brk (ρ : Env) : exec .brk ρ = .ok (.brk, ρ) := by first | (simp only [exec]; done) | (simp only [exec]; rfl)
@[simp] theorem ex_cont (ρ : Env) : exec .cont ρ = .ok (.cont, ρ) := by first | (simp only [exec]; done) | (simp only [exec]; rfl)
@[simp] theorem ex_pass (ρ : Env) : exec .pass ρ = .ok (.next, ρ) := by first | (simp only [exec]; done) | (simp only [exec]; rfl)
@[simp] theorem ex_raise (c : Str) (ρ : Env) : exec (.raise c) ρ = .exc c .non := by first | (simp only [exec]; done) | (simp only [exec]; rfl)
@[simp] theorem ex_aug (i : Nat) (op : BinO) (e : CE) (ρ : Env) : exec (.aug i op e) ρ = if isSet ρ i then (ev e ρ).bind fun p => match p.2[i]?, deref p.2 p.1 with
      | some (.val d), some d' => match augD op d d' with
        | some r => .ok (.next, p.2.set i (.val r))
        | none => .stuck
      | some (.own (.lst xs)), some (.lst ys) => match op with
        | .add => if xs.length + ys.length ≤ line then .ok (.next, p.2.set i (.own (.lst (xs ++ ys)))) else .stuck
        | _ => .stuck
      | _, _ => .stuck
      else .stuck := by first | (simp only [exec]; done) | (simp only [exec]; rfl)
theorem ex_forr (t : CT) (it : CI) (body : List CS) (ρ : Env) : exec (.forr t it body) ρ = (evI it ρ).bind fun p =>
      (forL t (fun ρ => execs body ρ) p.1.1 (lockSlot p.2 p.1.2)).bind fun q => .ok (q.1, unlockSlot p.2 q.2 p.1.2) := by first | (simp only [exec]; done) | (simp only [exec]; rfl)
@[simp] theorem ex_setIx (i : Nat) (k e : CE) (ρ : Env) : exec (.setIx i k e) ρ = (ev e ρ).bind fun p => (freeze p.2 p.1).bind fun p' => if isOwnS p'.2 i then (ev k p'.2).bind fun q => (freeze q.2 q.1).bind fun q' => match q'.2[i]? with
      | some (.own d) => match setIxD d q'.1 p'.1 with
        | some d' => .ok (.next, q'.2.set i (.own d'))
        | none => .stuck
      | _ => .stuck
      else .stuck := by first | (simp only [exec]; done) | (simp only [exec]; rfl)
/-! ### the state -/
@[simp] theorem tru_val (d : D) (ρ : Env) : tru (.val d, ρ) = match truD d with
    | some b => .ok (b, ρ)
    | none => .stuck := rfl
@[simp] theorem tru_own (d : D) (ρ : Env) : tru (.own d, ρ) = match truD d with
    | some b => .ok (b, ρ)
    | none => .stuck := rfl
@[simp] theorem deref_val (ρ : Env) (d : D) : deref ρ (.val d) = some d := rfl
@[simp] theorem deref_own (ρ : Env) (d : D) : deref ρ (.own d) = some d := rfl
@[simp] theorem deref_slot (ρ : Env) (i : Nat) : deref ρ (.slot i) = match ρ[i]? with
    | some (.own d) => some d
    | some (.val d) => some d
    | some (.lck d) => some d
    | _ => none := rfl
end MR
namespace MR
open M
open PySem (Str)
@[simp] theorem freeze_val (ρ : Env) (d : D) : freeze ρ (.val d) = .ok (d, ρ) := rfl
@[simp] theorem freeze_own (ρ : Env) (d : D) : freeze ρ (.own d) = .ok (d, ρ) := rfl
@[simp] theorem freeze_slot (ρ : Env) (i : Nat) : freeze ρ (.slot i) = match ρ[i]? with
    | some (.own d) => .ok (d, ρ.set i (.val d))
    | some (.val d) => .ok (d, ρ)
    | _ => .stuck := rfl
@[simp] theorem freezes_nil (ρ : Env) : freezes ρ [] = .ok ([], ρ) := rfl
@[simp] theorem freezes_cons (ρ : Env) (r : Res) (rs : List Res) : freezes ρ (r :: rs) = (freeze ρ r).bind fun p => (freezes p.2 rs).bind fun q => .ok (p.1 :: q.1, q.2) := rfl
@[simp] theorem derefs_nil (ρ : Env) : derefs ρ [] = some [] := rfl
@[simp] theorem derefs_cons (ρ : Env) (r : Res) (rs : List Res) : derefs ρ (r :: rs) = match deref ρ r, derefs ρ rs with
    | some d, some ds => some (d :: ds)
    | _, _ => none := rfl
@[simp] theorem k1_eq (f : D → Option Res) (p : Res × Env) : k1 f p = match deref p.2 p.1 with
    | some d => match f d with
      | some r => .ok (r, p.2)
      | none => .stuck
    | none => .stuck := rfl
@[simp] theorem k2_eq (f : D → D → Option Res) (p q : Res × Env) : k2 f p q = match deref q.2 p.1 with
    | some d => match deref q.2 q.1 with
      | some e => match f d e with
        | some r => .ok (r, q.2)
        | none => .stuck
      | none => .stuck
    | none => .stuck := rfl
@[simp] theorem kL_eq (f : List D → Option Res) (p : List Res × Env) : kL f p = match derefs p.2 p.1 with
    | some ds => match f ds with
      | some r => .ok (r, p.2)
      | none => .stuck
    | none => .stuck := rfl
@[simp] theorem put_eq (ρ : Env) (i : Nat) (s : Slot) : put ρ i s = match ρ[i]? with
    | some (.lck _) => .stuck
    | some _ => .ok (ρ.set i s)
    | none => .stuck := rfl
@[simp] theorem setRes_val (ρ : Env) (i : Nat) (d : D) : setRes ρ i (.val d) = put ρ i (.val d) := rfl
@[simp] theorem setRes_own (ρ : Env) (i : Nat) (d : D) : setRes ρ i (.own d) = put ρ i (.own d) := rfl
@[simp] theorem setRes_slot (ρ : Env) (i j : Nat) : setRes ρ i (.slot j) = match ρ[j]? with
    | some (.own d) => put (ρ.set j (.val d)) i (.val d)
    | some (.val d) => put ρ i (.val d)
    | _ => .stuck := rfl
@[simp] theorem setT_n (i : Nat) (d : D) (ρ : Env) : setT (.n i) d ρ = put ρ i (.val d) := by first | (simp only [setT]; done) | (simp only [setT]; rfl)
@[simp] theorem setT_tup (ts : List CT) (ds : List D) (ρ : Env) : setT (.tup ts) (.tup ds) ρ = setTs ts ds ρ := by first | (simp only [setT]; done) | (simp only [setT]; rfl)
@[simp] theorem setTs_nil (ρ : Env) : setTs [] [] ρ = .ok ρ := by first | (simp only [setTs]; done) | (simp only [setTs]; rfl)
@[simp] theorem setTs_cons (t : CT) (ts : List CT) (d : D) (ds : List D) (ρ : Env) : setTs (t :: ts) (d :: ds) ρ = (setT t d ρ).bind (setTs ts ds) := by first | (simp only [setTs]; done) | (simp only [setTs]; rfl)
@[simp] theorem wipe_nil (ρ : Env) : wipe [] ρ = .ok ρ := rfl
@[simp] theorem wipe_cons (i : Nat) (is : List Nat) (ρ : Env) : wipe (i :: is) ρ = (put ρ i .none).bind (wipe is) := rfl
@[simp] theorem back_nil (ρ₀ ρ : Env) : back ρ₀ [] ρ = .ok ρ := rfl
@[simp] theorem back_cons (ρ₀ ρ : Env) (i : Nat) (is : List Nat) : back ρ₀ (i :: is) ρ = (put ρ i (match ρ₀[i]? with
    | some (.val d) => .val d
    | _ => .none)).bind (back ρ₀ is) := rfl
/-! ### calls -/
@[simp] theorem inouts0 (ρ : Env) (rs : List Res) : inouts ρ 0 rs = some ([], [], rs) := rfl
@[simp] theorem inouts1 (ρ : Env) (i : Nat) (rs : List Res) : inouts ρ 1 (.slot i :: rs) = match ρ[i]? with
    | some (.own d) => some ([i], [d], rs)
    | _ => none := by
  simp only [inouts]
  cases ρ[i]? with
  | none => rfl
  | some s => cases s <;> simp
@[simp] theorem callF_eq (F : FnE) (rs : List Res) (ρ : Env) : callF F rs ρ = match inouts ρ F.nin rs with
  | some (is, ds, rs') => if apart is rs' then match derefs ρ rs' with
    | some es => (F.run (packed F.star (ds ++ es))).bind fun p =>
        if flatR p.1 && p.2.all flatL then .ok (p.1, putBack ρ is p.2)
        else if anyLck ρ rs' then .stuck else .ok (p.1, putBack (lent ρ rs') is p.2)
    | none => .stuck
    else .stuck
  | none => .stuck := rfl
@[simp] theorem packed_none (ds : List D) : packed none ds = ds := rfl
@[simp] theorem packed_some (k : Nat) (ds : List D) : packed (some k) ds = ds.take k ++ [.tup (ds.drop k)] := rfl
@[simp] theorem apart_nil (is : List Nat) : apart is [] = true := rfl
@[simp] theorem apart_cons (is : List Nat) (r : Res) (rs : List Res) : apart is (r :: rs) = ((match r with
  | .slot j => !is.contains j
  | _ => true) && apart is rs) := rfl
@[simp] theorem anyLck_nil (ρ : Env) : anyLck ρ [] = false := rfl
@[simp] theorem anyLck_cons (ρ : Env) (r : Res) (rs : List Res) : anyLck ρ (r :: rs) = ((match r with
  | .slot i => match ρ[i]? with
    | some (.lck _) => true
    | _ => false
  | _ => false) || anyLck ρ rs) := rfl
@[simp] theorem lent_nil (ρ : Env) : lent ρ [] = ρ := rfl
@[simp] theorem lent_val (ρ : Env) (d : D) (rs : List Res) : lent ρ (.val d :: rs) = lent ρ rs := rfl
@[simp] theorem lent_own' (ρ : Env) (d : D) (rs : List Res) : lent ρ (.own d :: rs) = lent ρ rs := rfl
@[simp] theorem lent_slot (ρ : Env) (i : Nat) (rs : List Res) : lent ρ (.slot i :: rs) = match ρ[i]? with
    | some (.own d) => lent (ρ.set i (.val d)) rs
    | _ => lent ρ rs := by
  first | (simp only [lent]; done) | (simp only [lent]; rfl)
@[simp] theorem putBack_nil (ρ : Env) (ds : List D) : putBack ρ [] ds = ρ := by cases ds <;> rfl
@[simp] theorem putBack_cons (ρ : Env) (i : Nat) (is : List Nat) (d : D) (ds : List D) : putBack ρ (i :: is) (d :: ds) = (putBack ρ is ds).set i (.own d) := rfl
@[simp] theorem flatR_val (d : D) : flatR (.val d) = d.flat := rfl
@[simp] theorem flatR_own (d : D) : flatR (.own d) = false := rfl
@[simp] theorem owns_0 (ρ : Env) : owns ρ 0 = some [] := rfl
@[simp] theorem owns_1 (ρ : Env) : owns ρ 1 = match ρ[0]? with
    | some (Slot.own d) => some [d]
    | _ => none := by
  simp only [owns]
  cases ρ[0]? with
  | none => rfl
  | some s => cases s <;> simp
@[simp] theorem retRes_val (n : Nat) (ρ : Env) (d : D) : retRes n ρ (.val d) = .ok (.val d) := rfl
@[simp] theorem retRes_own (n : Nat) (ρ : Env) (d : D) : retRes n ρ (.own d) = .ok (.own d) := rfl
@[simp] theorem retRes_slot (n : Nat) (ρ : Env) (i : Nat) : retRes n ρ (.slot i) = match ρ[i]? with
    | some (.own d) => if i < n then .stuck else .ok (.own d)
    | some (.val d) => .ok (.val d)
    | _ => .stuck := rfl
/-! ### operations -/
@[simp] theorem add_int (i j : Int) : binD .add (.int i) (.int j) = some (.val (.int (i + j))) := rfl
@[simp] theorem sub_int (i j : Int) : binD .sub (.int i) (.int j) = some (.val (.int (i - j))) := rfl
@[simp] theorem mod_int (i j : Int) (h : 0 < j) : binD .mod (.int i) (.int j) = some (.val (.int (i % j))) := by simp [binD, h]
@[simp] theorem fdiv_int (i j : Int) (h : 0 < j) (h2 : j < 1073741824) : binD .fdiv (.int i) (.int j) = some (.val (.int (i / j))) := by simp [binD, h, h2]
@[simp] theorem mul_int (i j : Int) (h : smallF i = true ∨ smallF j = true) : binD .mul (.int i) (.int j) = some (.val (.int (i * j))) := by
  rcases h with h | h <;> simp [binD, h]
theorem eqv_int (i j : Int) : PySem.PyData.eqv (.int i) (.int j) = decide (i = j) := by
  simp only [PySem.PyData.eqv]
  by_cases h : i = j <;> simp [h]
@[simp] theorem eqD_int (i j : Int) : eqD (.int i) (.int j) = some (decide (i = j)) := by
  simp [eqD, D.plain, D.py, eqv_int]
@[simp] theorem ltD_int (i j : Int) : ltD (.int i) (.int j) = some (decide (i < j)) := by
  have : PySem.W.dataLt (.int i) (.int j) = decide (i < j) := by
    simp only [PySem.W.dataLt, PySem.W.keyToks]
    show PyProof.Rows.lexLt PyProof.Rows.itemOrd [Sum.inl i] [Sum.inl j] = _
    rw [PyProof.Rows.lex_cons]
    have e : ∀ a b : Int, PyProof.Rows.itemOrd.blt (Sum.inl a) (Sum.inl b) = decide (a < b) := fun _ _ => rfl
    have e2 : PyProof.Rows.lexLt PyProof.Rows.itemOrd [] [] = false := by rw [PyProof.Rows.lexLt]
    rw [e, e, e2]; simp
  simp [ltD, D.plain, D.py, PySem.W.alike, isNonD, this]
@[simp] theorem cmpR_eq (d e : D) : cmpR .eq d e = (eqD d e).map fun b => .val (.bl b) := rfl
@[simp] theorem cmpR_ne (d e : D) : cmpR .ne d e = ((eqD d e).map (!·)).map fun b => .val (.bl b) := rfl
@[simp] theorem cmpR_lt (d e : D) : cmpR .lt d e = (ltD d e).map fun b => .val (.bl b) := rfl
@[simp] theorem cmpR_gt (d e : D) : cmpR .gt d e = (ltD e d).map fun b => .val (.bl b) := rfl
@[simp] theorem cmpR_le (d e : D) : cmpR .le d e = ((ltD e d).map (!·)).map fun b => .val (.bl b) := rfl
@[simp] theorem cmpR_ge (d e : D) : cmpR .ge d e = ((ltD d e).map (!·)).map fun b => .val (.bl b) := rfl
@[simp] theorem cmpR_inn (d e : D) : cmpR .inn d e = (inD d e).map fun b => .val (.bl b) := rfl
@[simp] theorem cmpR_notin (d e : D) : cmpR .notin d e = ((inD d e).map (!·)).map fun b => .val (.bl b) := rfl
@[simp] theorem truD_bl (b : Bool) : truD (.bl b) = some b := rfl
@[simp] theorem truD_non : truD .non = some false := rfl
@[simp] theorem isTt_val (b : Bool) : isTt (.val (.bl b)) = b := by cases b <;> rfl
theorem in_ints (x : Int) (ys : List Int) : (ys.map D.int).any (fun y => PySem.PyData.eqv y.py (D.py (.int x))) = ys.contains x := by
  induction ys with
  | nil => rfl
  | cons y ys ih =>
    rw [List.map_cons, List.any_cons, ih, List.contains_cons]
    congr 1
    simp only [D.py, eqv_int]
    by_cases h : y = x
    · subst h; simp
    · simp [h, Ne.symm h]
theorem plain_ints (n : Nat) (ys : List Int) : (ys.map D.int).all (D.plain n) = true := by
  rw [List.all_eq_true]
  intro d hd
  obtain ⟨i, _, rfl⟩ := List.mem_map.mp hd
  cases n <;> rfl
@[simp] theorem inD_ints (x : Int) (ys : List Int) : inD (.int x) (.tup (ys.map .int)) = some (ys.contains x) := by
  show (if D.plain 8 (.int x) && (ys.map D.int).all (D.plain 8) then _ else _) = _
  rw [plain_ints]
  simp only [D.plain, Bool.and_self, if_true]
  rw [in_ints]
@[simp] theorem inD_intsL (x : Int) (ys : List Int) : inD (.int x) (.lst (ys.map .int)) = some (ys.contains x) := by
  show (if D.plain 8 (.int x) && (ys.map D.int).all (D.plain 8) then _ else _) = _
  rw [plain_ints]
  simp only [D.plain, Bool.and_self, if_true]
  rw [in_ints]
@[simp] theorem isi_int (i : Int) : isiD [.int] (.int i) = some (.val (.bl true)) := rfl
@[simp] theorem isib_int (i : Int) : isiD [.bool] (.int i) = some (.val (.bl false)) := rfl
end MR
end
section
set_option linter.all false
set_option maxRecDepth 100000
namespace K54
open M MR
@[simp] theorem nin_is_integer : F_is_integer.nin = 0 := rfl
@[simp] theorem star_is_integer : F_is_integer.star = none := rfl
theorem run_is_integer (ds : List D) : F_is_integer.run ds = fnRun 1 1 0 c_is_integer ds := rfl
@[simp] theorem nin_is_within : F_is_within.nin = 0 := rfl
@[simp] theorem star_is_within : F_is_within.star = none := rfl
theorem run_is_within (ds : List D) : F_is_within.run ds = fnRun 3 3 0 c_is_within ds := rfl
@[simp] theorem nin_are_ascending : F_are_ascending.nin = 0 := rfl
@[simp] theorem star_are_ascending : F_are_ascending.star = none := rfl
theorem run_are_ascending (ds : List D) : F_are_ascending.run ds = fnRun 3 1 0 c_are_ascending ds := rfl
@[simp] theorem nin_is_name : F_is_name.nin = 0 := rfl
@[simp] theorem star_is_name : F_is_name.star = none := rfl
theorem run_is_name (ds : List D) : F_is_name.run ds = fnRun 2 1 0 c_is_name ds := rfl
@[simp] theorem nin_check : F_check.nin = 0 := rfl
@[simp] theorem star_check : F_check.star = none := rfl
theorem run_check (ds : List D) : F_check.run ds = fnRun 1 1 0 c_check ds := rfl
@[simp] theorem nin_is_day : F_is_day.nin = 0 := rfl
@[simp] theorem star_is_day : F_is_day.star = none := rfl
theorem run_is_day (ds : List D) : F_is_day.run ds = fnRun 1 1 0 c_is_day ds := rfl
@[simp] theorem nin_are_days : F_are_days.nin = 0 := rfl
@[simp] theorem star_are_days : F_are_days.star = none := rfl
theorem run_are_days (ds : List D) : F_are_days.run ds = fnRun 3 2 0 c_are_days ds := rfl
@[simp] theorem nin_are_free_days : F_are_free_days.nin = 0 := rfl
@[simp] theorem star_are_free_days : F_are_free_days.star = none := rfl
theorem run_are_free_days (ds : List D) : F_are_free_days.run ds = fnRun 1 1 0 c_are_free_days ds := rfl
@[simp] theorem nin_is_notice_rule : F_is_notice_rule.nin = 0 := rfl
@[simp] theorem star_is_notice_rule : F_is_notice_rule.star = none := rfl
theorem run_is_notice_rule (ds : List D) : F_is_notice_rule.run ds = fnRun 1 1 0 c_is_notice_rule ds := rfl
@[simp] theorem nin_check_free : F_check_free.nin = 0 := rfl
@[simp] theorem star_check_free : F_check_free.star = some 1 := rfl
theorem run_check_free (ds : List D) : F_check_free.run ds = starRun 1 (fnRun 3 2 0 c_check_free) ds := rfl
@[simp] theorem nin_check_rule : F_check_rule.nin = 0 := rfl
@[simp] theorem star_check_rule : F_check_rule.star = some 2 := rfl
theorem run_check_rule (ds : List D) : F_check_rule.run ds = starRun 2 (fnRun 4 3 0 c_check_rule) ds := rfl
@[simp] theorem nin_works_notices : F_works_notices.nin = 0 := rfl
@[simp] theorem star_works_notices : F_works_notices.star = none := rfl
theorem run_works_notices (ds : List D) : F_works_notices.run ds = fnRun 2 2 0 c_works_notices ds := rfl
@[simp] theorem nin_is_working : F_is_working.nin = 0 := rfl
@[simp] theorem star_is_working : F_is_working.star = none := rfl
theorem run_is_working (ds : List D) : F_is_working.run ds = fnRun 2 2 0 c_is_working ds := rfl
@[simp] theorem nin_worked_before : F_worked_before.nin = 0 := rfl
@[simp] theorem star_worked_before : F_worked_before.star = none := rfl
theorem run_worked_before (ds : List D) : F_worked_before.run ds = fnRun 6 2 0 c_worked_before ds := rfl
@[simp] theorem nin_between : F_between.nin = 0 := rfl
@[simp] theorem star_between : F_between.star = none := rfl
theorem run_between (ds : List D) : F_between.run ds = fnRun 3 3 0 c_between ds := rfl
@[simp] theorem nin_working_between : F_working_between.nin = 0 := rfl
@[simp] theorem star_working_between : F_working_between.star = none := rfl
theorem run_working_between (ds : List D) : F_working_between.run ds = fnRun 3 3 0 c_working_between ds := rfl
@[simp] theorem nin_is_far : F_is_far.nin = 0 := rfl
@[simp] theorem star_is_far : F_is_far.star = none := rfl
theorem run_is_far (ds : List D) : F_is_far.run ds = fnRun 7 4 0 c_is_far ds := rfl
@[simp] theorem nin_is_tolled : F_is_tolled.nin = 0 := rfl
@[simp] theorem star_is_tolled : F_is_tolled.star = none := rfl
theorem run_is_tolled (ds : List D) : F_is_tolled.run ds = fnRun 3 3 0 c_is_tolled ds := rfl
@[simp] theorem nin_keeps_notices : F_keeps_notices.nin = 0 := rfl
@[simp] theorem star_keeps_notices : F_keeps_notices.star = none := rfl
theorem run_keeps_notices (ds : List D) : F_keeps_notices.run ds = fnRun 4 4 0 c_keeps_notices ds := rfl
@[simp] theorem nin_does_keep : F_does_keep.nin = 0 := rfl
@[simp] theorem star_does_keep : F_does_keep.star = none := rfl
theorem run_does_keep (ds : List D) : F_does_keep.run ds = fnRun 4 4 0 c_does_keep ds := rfl
@[simp] theorem nin_first_meeting : F_first_meeting.nin = 0 := rfl
@[simp] theorem star_first_meeting : F_first_meeting.star = none := rfl
theorem run_first_meeting (ds : List D) : F_first_meeting.run ds = fnRun 4 3 0 c_first_meeting ds := rfl
@[simp] theorem nin_last_notice : F_last_notice.nin = 0 := rfl
@[simp] theorem star_last_notice : F_last_notice.star = none := rfl
theorem run_last_notice (ds : List D) : F_last_notice.run ds = fnRun 4 3 0 c_last_notice ds := rfl
@[simp] theorem nin_is_call : F_is_call.nin = 0 := rfl
@[simp] theorem star_is_call : F_is_call.star = none := rfl
theorem run_is_call (ds : List D) : F_is_call.run ds = fnRun 1 1 0 c_is_call ds := rfl
@[simp] theorem nin_check_calls : F_check_calls.nin = 0 := rfl
@[simp] theorem star_check_calls : F_check_calls.star = none := rfl
theorem run_check_calls (ds : List D) : F_check_calls.run ds = fnRun 4 3 0 c_check_calls ds := rfl
@[simp] theorem nin_states_of : F_states_of.nin = 0 := rfl
@[simp] theorem star_states_of : F_states_of.star = none := rfl
theorem run_states_of (ds : List D) : F_states_of.run ds = fnRun 9 3 0 c_states_of ds := rfl
@[simp] theorem nin_good_calls : F_good_calls.nin = 0 := rfl
@[simp] theorem star_good_calls : F_good_calls.star = none := rfl
theorem run_good_calls (ds : List D) : F_good_calls.run ds = fnRun 5 3 0 c_good_calls ds := rfl
@[simp] theorem nin_why_bad : F_why_bad.nin = 0 := rfl
@[simp] theorem star_why_bad : F_why_bad.star = none := rfl
theorem run_why_bad (ds : List D) : F_why_bad.run ds = fnRun 5 3 0 c_why_bad ds := rfl
@[simp] theorem nin_next_working : F_next_working.nin = 0 := rfl
@[simp] theorem star_next_working : F_next_working.star = none := rfl
theorem run_next_working (ds : List D) : F_next_working.run ds = fnRun 4 3 0 c_next_working ds := rfl
@[simp] theorem nin_meetings_in : F_meetings_in.nin = 0 := rfl
@[simp] theorem star_meetings_in : F_meetings_in.star = none := rfl
theorem run_meetings_in (ds : List D) : F_meetings_in.run ds = fnRun 6 5 0 c_meetings_in ds := rfl
@[simp] theorem nin_need_free : F_need_free.nin = 0 := rfl
@[simp] theorem star_need_free : F_need_free.star = none := rfl
theorem run_need_free (ds : List D) : F_need_free.run ds = fnRun 3 1 0 c_need_free ds := rfl
@[simp] theorem nin_is_rule : F_is_rule.nin = 0 := rfl
@[simp] theorem star_is_rule : F_is_rule.star = none := rfl
theorem run_is_rule (ds : List D) : F_is_rule.run ds = fnRun 1 1 0 c_is_rule ds := rfl
@[simp] theorem nin_works : F_works.nin = 0 := rfl
@[simp] theorem star_works : F_works.star = none := rfl
theorem run_works (ds : List D) : F_works.run ds = fnRun 2 2 0 c_works ds := rfl
@[simp] theorem nin_works_checkmore : F_works_checkmore.nin = 0 := rfl
@[simp] theorem star_works_checkmore : F_works_checkmore.star = none := rfl
theorem run_works_checkmore (ds : List D) : F_works_checkmore.run ds = fnRun 2 2 0 c_works ds := rfl
@[simp] theorem nin_keeps : F_keeps.nin = 0 := rfl
@[simp] theorem star_keeps : F_keeps.star = none := rfl
theorem run_keeps (ds : List D) : F_keeps.run ds = fnRun 9 4 0 c_keeps ds := rfl
@[simp] theorem nin_keeps_checkmore : F_keeps_checkmore.nin = 0 := rfl
@[simp] theorem star_keeps_checkmore : F_keeps_checkmore.star = none := rfl
theorem run_keeps_checkmore (ds : List D) : F_keeps_checkmore.run ds = fnRun 9 4 0 c_keeps ds := rfl
@[simp] theorem nin_takes_meeting : F_takes_meeting.nin = 0 := rfl
@[simp] theorem star_takes_meeting : F_takes_meeting.star = none := rfl
theorem run_takes_meeting (ds : List D) : F_takes_meeting.run ds = fnRun 5 4 0 c_takes_meeting ds := rfl
@[simp] theorem nin_takes_calls : F_takes_calls.nin = 0 := rfl
@[simp] theorem star_takes_calls : F_takes_calls.star = none := rfl
theorem run_takes_calls (ds : List D) : F_takes_calls.run ds = fnRun 11 4 0 c_takes_calls ds := rfl
@[simp] theorem nin__law_draws : F__law_draws.nin = 0 := rfl
@[simp] theorem star__law_draws : F__law_draws.star = none := rfl
theorem run__law_draws (ds : List D) : F__law_draws.run ds = fnRun 7 1 0 c__law_draws ds := rfl
@[simp] theorem nin__law_take : F__law_take.nin = 1 := rfl
@[simp] theorem star__law_take : F__law_take.star = none := rfl
theorem run__law_take (ds : List D) : F__law_take.run ds = fnRun 2 2 1 c__law_take ds := rfl
@[simp] theorem nin__law_pick : F__law_pick.nin = 1 := rfl
@[simp] theorem star__law_pick : F__law_pick.star = none := rfl
theorem run__law_pick (ds : List D) : F__law_pick.run ds = fnRun 2 2 1 c__law_pick ds := rfl
@[simp] theorem nin__law_mixed : F__law_mixed.nin = 1 := rfl
@[simp] theorem star__law_mixed : F__law_mixed.star = none := rfl
theorem run__law_mixed (ds : List D) : F__law_mixed.run ds = fnRun 5 2 1 c__law_mixed ds := rfl
@[simp] theorem nin__law_same : F__law_same.nin = 0 := rfl
@[simp] theorem star__law_same : F__law_same.star = none := rfl
@[simp] theorem ninR__law_same (n : Nat) : (R__law_same n).nin = 0 := by cases n <;> rfl
@[simp] theorem starR__law_same (n : Nat) : (R__law_same n).star = none := by cases n <;> rfl
theorem runR__law_same (n : Nat) (ds : List D) : (R__law_same (n + 1)).run ds = fnRun 4 2 0 (c__law_same (R__law_same n)) ds := rfl
@[simp] theorem nin__law_kind : F__law_kind.nin = 0 := rfl
@[simp] theorem star__law_kind : F__law_kind.star = none := rfl
theorem run__law_kind (ds : List D) : F__law_kind.run ds = fnRun 3 1 0 c__law_kind ds := rfl
@[simp] theorem nin__law_free : F__law_free.nin = 1 := rfl
@[simp] theorem star__law_free : F__law_free.star = none := rfl
theorem run__law_free (ds : List D) : F__law_free.run ds = fnRun 2 1 1 c__law_free ds := rfl
@[simp] theorem nin__law_works : F__law_works.nin = 0 := rfl
@[simp] theorem star__law_works : F__law_works.star = none := rfl
theorem run__law_works (ds : List D) : F__law_works.run ds = fnRun 2 2 0 c__law_works ds := rfl
@[simp] theorem nin__law_rule : F__law_rule.nin = 1 := rfl
@[simp] theorem star__law_rule : F__law_rule.star = none := rfl
theorem run__law_rule (ds : List D) : F__law_rule.run ds = fnRun 2 2 1 c__law_rule ds := rfl
@[simp] theorem nin__law_between : F__law_between.nin = 0 := rfl
@[simp] theorem star__law_between : F__law_between.star = none := rfl
theorem run__law_between (ds : List D) : F__law_between.run ds = fnRun 4 3 0 c__law_between ds := rfl
@[simp] theorem nin__law_word : F__law_word.nin = 0 := rfl
@[simp] theorem star__law_word : F__law_word.star = none := rfl
theorem run__law_word (ds : List D) : F__law_word.run ds = fnRun 5 4 0 c__law_word ds := rfl
@[simp] theorem nin__law_told : F__law_told.nin = 0 := rfl
@[simp] theorem star__law_told : F__law_told.star = none := rfl
theorem run__law_told (ds : List D) : F__law_told.run ds = toldRun kindD (fnRun 6 5 0 c__law_told) ds := rfl
@[simp] theorem nin__law_are_days_due : F__law_are_days_due.nin = 1 := rfl
@[simp] theorem star__law_are_days_due : F__law_are_days_due.star = none := rfl
theorem run__law_are_days_due (ds : List D) : F__law_are_days_due.run ds = fnRun 14 3 1 c__law_are_days_due ds := rfl
@[simp] theorem nin__law_are_calls_due : F__law_are_calls_due.nin = 1 := rfl
@[simp] theorem star__law_are_calls_due : F__law_are_calls_due.star = none := rfl
theorem run__law_are_calls_due (ds : List D) : F__law_are_calls_due.run ds = fnRun 14 3 1 c__law_are_calls_due ds := rfl
@[simp] theorem nin_law : F_law.nin = 0 := rfl
@[simp] theorem star_law : F_law.star = none := rfl
theorem run_law (ds : List D) : F_law.run ds = fnRun 20 1 0 c_law ds := rfl
end K54
end
section
set_option linter.all false
set_option maxRecDepth 100000
/-! MRun2: comprehensions and loops, run. -/
namespace MR
open M
open PySem (Str)
theorem set_at {α : Type} {l : List α} {i : Nat} {x : α} (h : l[i]? = some x) : l.set i x = l := by
  apply List.ext_getElem?
  intro j
  by_cases e : i = j
  · subst e
    rw [List.getElem?_set_self (List.getElem?_eq_some_iff.mp h).1, h]
  · rw [List.getElem?_set_ne e]
/-- a slot that may be stored -/
def free (s : Slot) : Prop := ∀ d, s ≠ .lck d
theorem lcL_gen {t : CT} {test : Env → Out (Bool × Env)} {elt : Env → Out (D × Env)} {own : List Nat} {P : Env → Prop} {T : D → Env} {p : D → Bool} {f : D → D} : ∀ {xs : List D} {ρ : Env}, P ρ →
    (∀ ρ', P ρ' → ∀ x ∈ xs, (wipe own ρ').bind (setT t x) = .ok (T x)) → (∀ x ∈ xs, P (T x)) → (∀ x ∈ xs, test (T x) = .ok (p x, T x)) → (∀ x ∈ xs, p x = true → elt (T x) = .ok (f x, T x)) →
    ∃ ρ', P ρ' ∧ lcL t test elt own xs ρ = .ok ((xs.filter p).map f, ρ')
  | [], ρ, h0, _, _, _, _ => ⟨ρ, h0, rfl⟩
  | x :: xs, ρ, h0, h1, h2, h3, h4 => by
    obtain ⟨ρ', q, e⟩ := lcL_gen (t := t) (test := test) (elt := elt) (own := own) (xs := xs) (h2 x List.mem_cons_self) (fun ρ' hp y hy => h1 ρ' hp y (List.mem_cons_of_mem _ hy)) (fun y hy => h2 y (List.mem_cons_of_mem _ hy)) (fun y hy => h3 y (List.mem_cons_of_mem _ hy)) (fun y hy => h4 y (List.mem_cons_of_mem _ hy))
    refine ⟨ρ', q, ?_⟩
    simp only [lcL]
    rw [h1 ρ h0 x List.mem_cons_self, bind_ok, h3 x List.mem_cons_self, bind_ok]
    cases hp : p x with
    | false =>
      rw [if_neg (by simp)]
      rw [List.filter_cons_of_neg (by simp [hp])]
      exact e
    | true =>
      rw [if_pos rfl, h4 x List.mem_cons_self hp, bind_ok]
      simp only
      rw [e, bind_ok, List.filter_cons_of_pos hp]
      rfl
/-- [e for i in it if c], i a name of its own -/
theorem ev_lc1 {e : CE} {it : CI} {i : Nat} {c : Option CE} {ρ : Env} {xs : List D} {o : Option Nat} (p : D → Bool) (f : D → D) (hI : evI it ρ = .ok ((xs, o), ρ)) (hs : ρ[i]? = some .none ∨ ∃ d, ρ[i]? = some (.val d)) (hn : (lockSlot ρ o)[i]? = ρ[i]?) (hu : unlockSlot ρ (lockSlot ρ o) o = ρ) (hl : xs.length ≤ line)
    (ht : ∀ x ∈ xs, evC c ((lockSlot ρ o).set i (.val x)) = .ok (p x, (lockSlot ρ o).set i (.val x))) (he : ∀ x ∈ xs, p x = true → (ev e ((lockSlot ρ o).set i (.val x))).bind (fun r => freeze r.2 r.1) = .ok (f x, (lockSlot ρ o).set i (.val x))) :
    ev (.lc e (.n i) it [i] c) ρ = .ok (.own (.lst ((xs.filter p).map f)), ρ) := by
  have hlt : i < (lockSlot ρ o).length := by
    rcases hs with h | ⟨d, h⟩
    · rw [← hn] at h; exact (List.getElem?_eq_some_iff.mp h).1
    · rw [← hn] at h; exact (List.getElem?_eq_some_iff.mp h).1
  have hset : ∀ s, free s → ∀ x, (wipe [i] ((lockSlot ρ o).set i s)).bind (setT (.n i) x) = .ok ((lockSlot ρ o).set i (.val x)) := fun s hf x => by
    have e1 : ((lockSlot ρ o).set i s)[i]? = some s := List.getElem?_set_self hlt
    have e2 : ((lockSlot ρ o).set i Slot.none)[i]? = some .none := List.getElem?_set_self hlt
    cases s with
    | lck d => exact absurd rfl (hf d)
    | none => simp [e1, e2]
    | val d => simp [e1, e2]
    | own d => simp [e1, e2]
  have h0 : (fun ρ' => ∃ s, free s ∧ ρ' = (lockSlot ρ o).set i s) (lockSlot ρ o) := by
    rcases hs with h | ⟨d, h⟩
    · refine ⟨.none, (fun _ z => nomatch z), ?_⟩
      rw [← hn] at h
      exact (set_at h).symm
    · refine ⟨.val d, (fun _ z => nomatch z), ?_⟩
      rw [← hn] at h
      exact (set_at h).symm
  obtain ⟨ρ', ⟨s, hf, rfl⟩, q⟩ := lcL_gen (t := .n i) (test := fun ρ => evC c ρ) (elt := fun ρ => (ev e ρ).bind fun r => freeze r.2 r.1) (own := [i]) (T := fun x => (lockSlot ρ o).set i (.val x)) (p := p) (f := f) (xs := xs) (P := fun ρ' => ∃ s, free s ∧ ρ' = (lockSlot ρ o).set i s) h0
    (fun ρ' ⟨s, hf, e⟩ x _ => by rw [e]; exact hset s hf x) (fun x _ => ⟨.val x, (fun _ z => nomatch z), rfl⟩) ht he
  have hb : back ρ [i] ((lockSlot ρ o).set i s) = .ok (lockSlot ρ o) := by
    have e1 : ((lockSlot ρ o).set i s)[i]? = some s := List.getElem?_set_self hlt
    have key : ∀ s0, (lockSlot ρ o)[i]? = some s0 → ((lockSlot ρ o).set i s).set i s0 = lockSlot ρ o := fun s0 h => by
      rw [List.set_set]; exact set_at h
    rcases hs with h | ⟨d, h⟩
    · cases s with
      | lck d => exact absurd rfl (hf d)
      | none => simp [e1, h]; exact set_at (by rw [hn]; exact h)
      | val d => simp [e1, h]; exact set_at (by rw [hn]; exact h)
      | own d => simp [e1, h]; exact set_at (by rw [hn]; exact h)
    · cases s with
      | lck d => exact absurd rfl (hf d)
      | none => simp [e1, h]; exact set_at (by rw [hn]; exact h)
      | val d => simp [e1, h]; exact set_at (by rw [hn]; exact h)
      | own d => simp [e1, h]; exact set_at (by rw [hn]; exact h)
  simp only [ev]
  rw [hI, bind_ok]
  simp only
  rw [q]
  simp only [noexc]
  rw [bind_ok, if_pos (by
    simp only [List.length_map]
    exact Nat.le_trans (List.length_filter_le _ _) hl), hb, bind_ok, hu]
/-- what a target of two names makes -/
def T2 (ρ : Env) (i j : Nat) : D → Env
  | .tup [a, b] => (ρ.set i (.val a)).set j (.val b)
  | _ => ρ
/-- [e for i, j in it if c] -/
theorem ev_lc2n {e : CE} {it : CI} {i j : Nat} {c : Option CE} {ρ : Env} {xs : List D} {o : Option Nat} (p : D → Bool) (f : D → D) (hij : i ≠ j) (hI : evI it ρ = .ok ((xs, o), ρ)) (hsi : ρ[i]? = some .none ∨ ∃ d, ρ[i]? = some (.val d)) (hsj : ρ[j]? = some .none ∨ ∃ d, ρ[j]? = some (.val d))
    (hni : (lockSlot ρ o)[i]? = ρ[i]?) (hnj : (lockSlot ρ o)[j]? = ρ[j]?) (hu : unlockSlot ρ (lockSlot ρ o) o = ρ) (hl : xs.length ≤ line) (hx : ∀ x ∈ xs, ∃ a b, x = .tup [a, b])
    (ht : ∀ x ∈ xs, evC c (T2 (lockSlot ρ o) i j x) = .ok (p x, T2 (lockSlot ρ o) i j x)) (he : ∀ x ∈ xs, p x = true → (ev e (T2 (lockSlot ρ o) i j x)).bind (fun r => freeze r.2 r.1) = .ok (f x, T2 (lockSlot ρ o) i j x)) :
    ev (.lc e (.tup [.n i, .n j]) it [i, j] c) ρ = .ok (.own (.lst ((xs.filter p).map f)), ρ) := by
  generalize hL : lockSlot ρ o = L at *
  have hlt : i < L.length := by
    rcases hsi with h | ⟨d, h⟩ <;> (rw [← hni] at h; exact (List.getElem?_eq_some_iff.mp h).1)
  have hlt2 : j < L.length := by
    rcases hsj with h | ⟨d, h⟩ <;> (rw [← hnj] at h; exact (List.getElem?_eq_some_iff.mp h).1)
  have at_i : ∀ s1 s2, ((L.set i s1).set j s2)[i]? = some s1 := fun s1 s2 => by
    rw [List.getElem?_set_ne (Ne.symm hij)]; exact List.getElem?_set_self hlt
  have at_j : ∀ s1 s2, ((L.set i s1).set j s2)[j]? = some s2 := fun s1 s2 => List.getElem?_set_self (by simpa using hlt2)
  have set_i : ∀ s1 s2 s, ((L.set i s1).set j s2).set i s = (L.set i s).set j s2 := fun s1 s2 s => by
    rw [List.set_comm _ _ (Ne.symm hij), List.set_set]
  have set_j : ∀ s1 s2 s, ((L.set i s1).set j s2).set j s = (L.set i s1).set j s := fun s1 s2 s => by rw [List.set_set]
  have put_i : ∀ s1 s2 s, free s1 → put ((L.set i s1).set j s2) i s = .ok ((L.set i s).set j s2) := fun s1 s2 s hf => by
    rw [put_eq, at_i, set_i]
    cases s1 <;> first
      | rfl
      | exact absurd rfl (hf _)
  have put_j : ∀ s1 s2 s, free s2 → put ((L.set i s1).set j s2) j s = .ok ((L.set i s1).set j s) := fun s1 s2 s hf => by
    rw [put_eq, at_j, set_j]
    cases s2 <;> first
      | rfl
      | exact absurd rfl (hf _)
  have fn : free .none := fun _ z => nomatch z
  have fv : ∀ d, free (.val d) := fun _ _ z => nomatch z
  have hset : ∀ s1 s2, free s1 → free s2 → ∀ x, (∃ a b, x = .tup [a, b]) → (wipe [i, j] ((L.set i s1).set j s2)).bind (setT (.tup [.n i, .n j]) x) = .ok (T2 L i j x) := fun s1 s2 h1 h2 x ⟨a, b, ex⟩ => by
    subst ex
    simp only [wipe_cons, wipe_nil]
    rw [put_i _ _ _ h1, bind_ok]
    show ((put _ j .none).bind (wipe [])).bind _ = _
    rw [put_j _ _ _ h2, bind_ok, wipe_nil, bind_ok, setT_tup, setTs_cons, setT_n, put_i _ _ _ fn, bind_ok, setTs_cons, setT_n, put_j _ _ _ fn, bind_ok, setTs_nil]
    rfl
  have orig : ∃ s1 s2, free s1 ∧ free s2 ∧ L = (L.set i s1).set j s2 := by
    have k : ∀ {s1 s2 : Slot}, L[i]? = some s1 → L[j]? = some s2 → L = (L.set i s1).set j s2 := fun {s1 s2} h1 h2 => by rw [set_at h1, set_at h2]
    rcases hsi with h | ⟨d, h⟩ <;> rcases hsj with h' | ⟨d', h'⟩ <;> rw [← hni] at h <;> rw [← hnj] at h'
    · exact ⟨_, _, fn, fn, k h h'⟩
    · exact ⟨_, _, fn, fv _, k h h'⟩
    · exact ⟨_, _, fv _, fn, k h h'⟩
    · exact ⟨_, _, fv _, fv _, k h h'⟩
  obtain ⟨ρ', ⟨s1, s2, f1, f2, rfl⟩, q⟩ := lcL_gen (t := .tup [.n i, .n j]) (test := fun ρ => evC c ρ) (elt := fun ρ => (ev e ρ).bind fun r => freeze r.2 r.1) (own := [i, j]) (T := T2 L i j) (p := p) (f := f) (xs := xs) (P := fun ρ' => ∃ s1 s2, free s1 ∧ free s2 ∧ ρ' = (L.set i s1).set j s2) orig
    (fun ρ' ⟨s1, s2, h1, h2, e⟩ x hm => by rw [e]; exact hset s1 s2 h1 h2 x (hx x hm)) (fun x hm => by
      obtain ⟨a, b, ex⟩ := hx x hm
      subst ex
      exact ⟨.val a, .val b, fv _, fv _, rfl⟩) ht he
  have hb : back ρ [i, j] ((L.set i s1).set j s2) = .ok L := by
    have k : ∀ {s1' s2' : Slot}, L[i]? = some s1' → L[j]? = some s2' → (L.set i s1').set j s2' = L := fun {s1' s2'} h1 h2 => by rw [set_at h1, set_at h2]
    simp only [back_cons, back_nil]
    rw [put_i _ _ _ f1, bind_ok]
    show (put _ j _).bind (back ρ []) = _
    rw [put_j _ _ _ f2, bind_ok, back_nil]
    rcases hsi with h | ⟨d, h⟩ <;> rcases hsj with h' | ⟨d', h'⟩ <;> rw [h, h'] <;> rw [← hni] at h <;> rw [← hnj] at h' <;> exact congrArg Out.ok (k h h')
  simp only [ev]
  rw [hI, bind_ok]
  simp only
  rw [hL, q]
  simp only [noexc]
  rw [bind_ok, if_pos (by
    simp only [List.length_map]
    exact Nat.le_trans (List.length_filter_le _ _) hl), hb, bind_ok, hu]
/-! ### dict comprehensions -/
def dcF (kf : D → Key) (vf : D → D) : List (Key × D) → List D → List (Key × D)
  | acc, [] => acc
  | acc, x :: xs => dcF kf vf (putK acc (kf x) (vf x)) xs
theorem putK_len {κ : Type} [DecidableEq κ] (kvs : List (κ × D)) (k : κ) (v : D) : (putK kvs k v).length ≤ kvs.length + 1 := by
  unfold putK
  split
  · simp
  · simp
theorem dcL_gen {t : CT} {test : Env → Out (Bool × Env)} {ke : Env → Out ((D × D) × Env)} {own : List Nat} {P : Env → Prop} {T : D → Env} {p : D → Bool} {kf : D → Key} {vf : D → D} : ∀ {xs : List D} {ρ : Env} {acc : List (Key × D)}, P ρ → acc.length + xs.length ≤ line →
    (∀ ρ', P ρ' → ∀ x ∈ xs, (wipe own ρ').bind (setT t x) = .ok (T x)) → (∀ x ∈ xs, P (T x)) → (∀ x ∈ xs, test (T x) = .ok (p x, T x)) → (∀ x ∈ xs, p x = true → ∃ kd, kd.key? = some (kf x) ∧ ke (T x) = .ok ((kd, vf x), T x)) →
    ∃ ρ', P ρ' ∧ dcL t test ke own xs (.dct acc) ρ = .ok (.dct (dcF kf vf acc (xs.filter p)), ρ')
  | [], ρ, acc, h0, _, _, _, _, _ => ⟨ρ, h0, rfl⟩
  | x :: xs, ρ, acc, h0, hl, h1, h2, h3, h4 => by
    have h2' := h2 x List.mem_cons_self
    simp only [dcL]
    rw [h1 ρ h0 x List.mem_cons_self, bind_ok, h3 x List.mem_cons_self, bind_ok]
    cases hp : p x with
    | false =>
      rw [if_neg (by simp), List.filter_cons_of_neg (by simp [hp])]
      exact dcL_gen h2' (by rw [List.length_cons] at hl; omega) (fun ρ' hp y hy => h1 ρ' hp y (List.mem_cons_of_mem _ hy)) (fun y hy => h2 y (List.mem_cons_of_mem _ hy)) (fun y hy => h3 y (List.mem_cons_of_mem _ hy)) (fun y hy => h4 y (List.mem_cons_of_mem _ hy))
    | true =>
      obtain ⟨kd, hk, hke⟩ := h4 x List.mem_cons_self hp
      rw [if_pos rfl, hke, bind_ok, List.filter_cons_of_pos hp]
      simp only [hk]
      rw [List.length_cons] at hl
      rw [if_pos (by omega)]
      exact dcL_gen h2' (by have := putK_len acc (kf x) (vf x); omega) (fun ρ' hp y hy => h1 ρ' hp y (List.mem_cons_of_mem _ hy)) (fun y hy => h2 y (List.mem_cons_of_mem _ hy)) (fun y hy => h3 y (List.mem_cons_of_mem _ hy)) (fun y hy => h4 y (List.mem_cons_of_mem _ hy))
/-- different keys: they stand as they come -/
theorem dcF_nodup {kf : D → Key} {vf : D → D} : ∀ {xs : List D} {acc : List (Key × D)}, (acc.map (·.1) ++ xs.map kf).Nodup → dcF kf vf acc xs = acc ++ xs.map fun x => (kf x, vf x)
  | [], acc, _ => by simp [dcF]
  | x :: xs, acc, h => by
    have hx : (acc.any fun kv => decide (kv.1 = kf x)) = false := by
      rw [List.any_eq_false]
      intro kv hkv
      simp only [decide_eq_true_eq]
      intro e
      rw [List.map_cons, List.nodup_append] at h
      exact h.2.2 kv.1 (List.mem_map.mpr ⟨kv, hkv, rfl⟩) (kf x) List.mem_cons_self e
    have e : putK acc (kf x) (vf x) = acc ++ [(kf x, vf x)] := by
      unfold putK
      rw [hx]
      rfl
    simp only [dcF]
    rw [e, dcF_nodup (xs := xs) (acc := acc ++ [(kf x, vf x)]) (by simpa using h)]
    simp
/-- {k: e for i in it if c} -/
theorem ev_dc1 {ck e : CE} {it : CI} {i : Nat} {c : Option CE} {ρ : Env} {xs : List D} {o : Option Nat} (p : D → Bool) (kf : D → Key) (vf : D → D) (hI : evI it ρ = .ok ((xs, o), ρ)) (hs : ρ[i]? = some .none ∨ ∃ d, ρ[i]? = some (.val d)) (hn : (lockSlot ρ o)[i]? = ρ[i]?) (hu : unlockSlot ρ (lockSlot ρ o) o = ρ) (hl : xs.length ≤ line)
    (ht : ∀ x ∈ xs, evC c ((lockSlot ρ o).set i (.val x)) = .ok (p x, (lockSlot ρ o).set i (.val x))) (hk : ∀ x ∈ xs, p x = true → ∃ kd, kd.key? = some (kf x) ∧ (ev ck ((lockSlot ρ o).set i (.val x))).bind (fun r => freeze r.2 r.1) = .ok (kd, (lockSlot ρ o).set i (.val x)))
    (he : ∀ x ∈ xs, p x = true → (ev e ((lockSlot ρ o).set i (.val x))).bind (fun r => freeze r.2 r.1) = .ok (vf x, (lockSlot ρ o).set i (.val x))) :
    ev (.dc ck e (.n i) it [i] c) ρ = .ok (.own (.dct (dcF kf vf [] (xs.filter p))), ρ) := by
  generalize hL : lockSlot ρ o = L at *
  have hlt : i < L.length := by
    rcases hs with h | ⟨d, h⟩ <;> (rw [← hn] at h; exact (List.getElem?_eq_some_iff.mp h).1)
  have fn : free .none := fun _ z => nomatch z
  have fv : ∀ d, free (.val d) := fun _ _ z => nomatch z
  have put_i : ∀ s s', free s → put (L.set i s) i s' = .ok (L.set i s') := fun s s' hf => by
    rw [put_eq, List.getElem?_set_self hlt, List.set_set]
    cases s <;> first
      | rfl
      | exact absurd rfl (hf _)
  have hset : ∀ s, free s → ∀ x, (wipe [i] (L.set i s)).bind (setT (.n i) x) = .ok (L.set i (.val x)) := fun s hf x => by
    simp only [wipe_cons]
    rw [put_i _ _ hf, bind_ok, wipe_nil, bind_ok, setT_n, put_i _ _ fn]
  have orig : ∃ s, free s ∧ L = L.set i s := by
    rcases hs with h | ⟨d, h⟩ <;> rw [← hn] at h
    · exact ⟨_, fn, (set_at h).symm⟩
    · exact ⟨_, fv _, (set_at h).symm⟩
  obtain ⟨ρ', ⟨s, hf, rfl⟩, q⟩ := dcL_gen (t := .n i) (test := fun ρ => evC c ρ) (ke := fun ρ => (ev ck ρ).bind fun r => (freeze r.2 r.1).bind fun r' => (ev e r'.2).bind fun s => (freeze s.2 s.1).bind fun s' => .ok ((r'.1, s'.1), s'.2)) (own := [i]) (T := fun x => L.set i (.val x)) (p := p) (kf := kf) (vf := vf) (xs := xs) (acc := []) (P := fun ρ' => ∃ s, free s ∧ ρ' = L.set i s) orig (by simpa using hl)
    (fun ρ' ⟨s, hf, e⟩ x _ => by rw [e]; exact hset s hf x) (fun x _ => ⟨.val x, fv _, rfl⟩) ht (fun x hx hp => by
      obtain ⟨kd, h1, h2⟩ := hk x hx hp
      have h3 := he x hx hp
      refine ⟨kd, h1, ?_⟩
      cases h4 : ev ck (L.set i (.val x)) with
      | stuck => rw [h4] at h2; cases h2
      | exc _ _ => rw [h4] at h2; cases h2
      | ok r =>
        rw [h4] at h2
        have h2 : freeze r.2 r.1 = .ok (kd, L.set i (.val x)) := h2
        rw [bind_ok, h2, bind_ok]
        cases h5 : ev e (L.set i (.val x)) with
        | stuck => rw [h5] at h3; cases h3
        | exc _ _ => rw [h5] at h3; cases h3
        | ok r2 =>
          rw [h5] at h3
          have h3 : freeze r2.2 r2.1 = .ok (vf x, L.set i (.val x)) := h3
          simp only [h5]
          rw [bind_ok, h3, bind_ok])
  have hb : back ρ [i] (L.set i s) = .ok L := by
    simp only [back_cons, back_nil]
    rw [put_i _ _ hf, bind_ok, back_nil]
    rcases hs with h | ⟨d, h⟩ <;> rw [h] <;> rw [← hn] at h <;> exact congrArg Out.ok (set_at h)
  simp only [ev]
  rw [hI, bind_ok]
  simp only
  rw [hL, q]
  simp only [noexc]
  rw [bind_ok, hb, bind_ok, hu]
/-- {k: e for i, j in it if c} -/
theorem ev_dc2n {ck e : CE} {it : CI} {i j : Nat} {c : Option CE} {ρ : Env} {xs : List D} {o : Option Nat} (p : D → Bool) (kf : D → Key) (vf : D → D) (hij : i ≠ j) (hI : evI it ρ = .ok ((xs, o), ρ)) (hsi : ρ[i]? = some .none ∨ ∃ d, ρ[i]? = some (.val d)) (hsj : ρ[j]? = some .none ∨ ∃ d, ρ[j]? = some (.val d))
    (hni : (lockSlot ρ o)[i]? = ρ[i]?) (hnj : (lockSlot ρ o)[j]? = ρ[j]?) (hu : unlockSlot ρ (lockSlot ρ o) o = ρ) (hl : xs.length ≤ line) (hx : ∀ x ∈ xs, ∃ a b, x = .tup [a, b])
    (ht : ∀ x ∈ xs, evC c (T2 (lockSlot ρ o) i j x) = .ok (p x, T2 (lockSlot ρ o) i j x)) (hk : ∀ x ∈ xs, p x = true → ∃ kd, kd.key? = some (kf x) ∧ (ev ck (T2 (lockSlot ρ o) i j x)).bind (fun r => freeze r.2 r.1) = .ok (kd, T2 (lockSlot ρ o) i j x))
    (he : ∀ x ∈ xs, p x = true → (ev e (T2 (lockSlot ρ o) i j x)).bind (fun r => freeze r.2 r.1) = .ok (vf x, T2 (lockSlot ρ o) i j x)) :
    ev (.dc ck e (.tup [.n i, .n j]) it [i, j] c) ρ = .ok (.own (.dct (dcF kf vf [] (xs.filter p))), ρ) := by
  generalize hL : lockSlot ρ o = L at *
  have hlt : i < L.length := by
    rcases hsi with h | ⟨d, h⟩ <;> (rw [← hni] at h; exact (List.getElem?_eq_some_iff.mp h).1)
  have hlt2 : j < L.length := by
    rcases hsj with h | ⟨d, h⟩ <;> (rw [← hnj] at h; exact (List.getElem?_eq_some_iff.mp h).1)
  have at_i : ∀ s1 s2, ((L.set i s1).set j s2)[i]? = some s1 := fun s1 s2 => by
    rw [List.getElem?_set_ne (Ne.symm hij)]; exact List.getElem?_set_self hlt
  have at_j : ∀ s1 s2, ((L.set i s1).set j s2)[j]? = some s2 := fun s1 s2 => List.getElem?_set_self (by simpa using hlt2)
  have set_i : ∀ s1 s2 s, ((L.set i s1).set j s2).set i s = (L.set i s).set j s2 := fun s1 s2 s => by
    rw [List.set_comm _ _ (Ne.symm hij), List.set_set]
  have set_j : ∀ s1 s2 s, ((L.set i s1).set j s2).set j s = (L.set i s1).set j s := fun s1 s2 s => by rw [List.set_set]
  have put_i : ∀ s1 s2 s, free s1 → put ((L.set i s1).set j s2) i s = .ok ((L.set i s).set j s2) := fun s1 s2 s hf => by
    rw [put_eq, at_i, set_i]
    cases s1 <;> first
      | rfl
      | exact absurd rfl (hf _)
  have put_j : ∀ s1 s2 s, free s2 → put ((L.set i s1).set j s2) j s = .ok ((L.set i s1).set j s) := fun s1 s2 s hf => by
    rw [put_eq, at_j, set_j]
    cases s2 <;> first
      | rfl
      | exact absurd rfl (hf _)
  have fn : free .none := fun _ z => nomatch z
  have fv : ∀ d, free (.val d) := fun _ _ z => nomatch z
  have hset : ∀ s1 s2, free s1 → free s2 → ∀ x, (∃ a b, x = .tup [a, b]) → (wipe [i, j] ((L.set i s1).set j s2)).bind (setT (.tup [.n i, .n j]) x) = .ok (T2 L i j x) := fun s1 s2 h1 h2 x ⟨a, b, ex⟩ => by
    subst ex
    simp only [wipe_cons, wipe_nil]
    rw [put_i _ _ _ h1, bind_ok]
    show ((put _ j .none).bind (wipe [])).bind _ = _
    rw [put_j _ _ _ h2, bind_ok, wipe_nil, bind_ok, setT_tup, setTs_cons, setT_n, put_i _ _ _ fn, bind_ok, setTs_cons, setT_n, put_j _ _ _ fn, bind_ok, setTs_nil]
    rfl
  have orig : ∃ s1 s2, free s1 ∧ free s2 ∧ L = (L.set i s1).set j s2 := by
    have k : ∀ {s1 s2 : Slot}, L[i]? = some s1 → L[j]? = some s2 → L = (L.set i s1).set j s2 := fun {s1 s2} h1 h2 => by rw [set_at h1, set_at h2]
    rcases hsi with h | ⟨d, h⟩ <;> rcases hsj with h' | ⟨d', h'⟩ <;> rw [← hni] at h <;> rw [← hnj] at h'
    · exact ⟨_, _, fn, fn, k h h'⟩
    · exact ⟨_, _, fn, fv _, k h h'⟩
    · exact ⟨_, _, fv _, fn, k h h'⟩
    · exact ⟨_, _, fv _, fv _, k h h'⟩
  obtain ⟨ρ', ⟨s1, s2, f1, f2, rfl⟩, q⟩ := dcL_gen (t := .tup [.n i, .n j]) (test := fun ρ => evC c ρ) (ke := fun ρ => (ev ck ρ).bind fun r => (freeze r.2 r.1).bind fun r' => (ev e r'.2).bind fun s => (freeze s.2 s.1).bind fun s' => .ok ((r'.1, s'.1), s'.2)) (own := [i, j]) (T := T2 L i j) (p := p) (kf := kf) (vf := vf) (xs := xs) (acc := []) (P := fun ρ' => ∃ s1 s2, free s1 ∧ free s2 ∧ ρ' = (L.set i s1).set j s2) orig (by simpa using hl)
    (fun ρ' ⟨s1, s2, h1, h2, e⟩ x hm => by rw [e]; exact hset s1 s2 h1 h2 x (hx x hm)) (fun x hm => by
      obtain ⟨a, b, ex⟩ := hx x hm
      subst ex
      exact ⟨.val a, .val b, fv _, fv _, rfl⟩) ht (fun x hx hp => by
      obtain ⟨kd, h1, h2⟩ := hk x hx hp
      have h3 := he x hx hp
      refine ⟨kd, h1, ?_⟩
      cases h4 : ev ck (T2 L i j x) with
      | stuck => rw [h4] at h2; cases h2
      | exc _ _ => rw [h4] at h2; cases h2
      | ok r =>
        rw [h4] at h2
        have h2 : freeze r.2 r.1 = .ok (kd, T2 L i j x) := h2
        rw [bind_ok, h2, bind_ok]
        cases h5 : ev e (T2 L i j x) with
        | stuck => rw [h5] at h3; cases h3
        | exc _ _ => rw [h5] at h3; cases h3
        | ok r2 =>
          rw [h5] at h3
          have h3 : freeze r2.2 r2.1 = .ok (vf x, T2 L i j x) := h3
          simp only [h5]
          rw [bind_ok, h3, bind_ok])
  have hb : back ρ [i, j] ((L.set i s1).set j s2) = .ok L := by
    have k : ∀ {s1' s2' : Slot}, L[i]? = some s1' → L[j]? = some s2' → (L.set i s1').set j s2' = L := fun {s1' s2'} h1 h2 => by rw [set_at h1, set_at h2]
    simp only [back_cons, back_nil]
    rw [put_i _ _ _ f1, bind_ok]
    show (put _ j _).bind (back ρ []) = _
    rw [put_j _ _ _ f2, bind_ok, back_nil]
    rcases hsi with h | ⟨d, h⟩ <;> rcases hsj with h' | ⟨d', h'⟩ <;> rw [h, h'] <;> rw [← hni] at h <;> rw [← hnj] at h' <;> exact congrArg Out.ok (k h h')
  simp only [ev]
  rw [hI, bind_ok]
  simp only
  rw [hL, q]
  simp only [noexc]
  rw [bind_ok, hb, bind_ok, hu]
/-! ### loops -/
/-- for: a state S goes from turn to turn -/
theorem forL_fold {t : CT} {body : Env → Out (Flow × Env)} {S : Type} {env : S → Env} {step : S → D → S} : ∀ {xs : List D} {s : S}, (∀ s, ∀ x ∈ xs, ((setT t x (env s)).bind body = .ok (.next, env (step s x)) ∨ (setT t x (env s)).bind body = .ok (.cont, env (step s x)))) → forL t body xs (env s) = .ok (.next, env (xs.foldl step s))
  | [], s, _ => rfl
  | x :: xs, s, h => by
    simp only [forL]
    have ih := forL_fold (t := t) (body := body) (env := env) (step := step) (xs := xs) (s := step s x) fun s y hy => h s y (List.mem_cons_of_mem _ hy)
    have h1 := h s x List.mem_cons_self
    cases e : setT t x (env s) with
    | stuck => rw [e] at h1; rcases h1 with h1 | h1 <;> cases h1
    | exc c q => rw [e] at h1; rcases h1 with h1 | h1 <;> cases h1
    | ok ρ =>
      rw [e] at h1
      simp only [bind_ok] at h1
      rw [bind_ok]
      rcases h1 with h1 | h1 <;> (rw [h1, bind_ok]; exact ih)
/-- for: with an invariant of the items that were seen -/
theorem forL_inv {t : CT} {body : Env → Out (Flow × Env)} {I : Nat → Env → Prop} {Q : Out (Flow × Env) → Prop} : ∀ {xs : List D} {n : Nat} {ρ : Env}, I n ρ →
    (∀ k ρ x, n ≤ k → xs[k - n]? = some x → I k ρ → (∃ ρ', ((setT t x ρ).bind body = .ok (.next, ρ') ∨ (setT t x ρ).bind body = .ok (.cont, ρ')) ∧ I (k + 1) ρ')) → (∀ ρ, I (n + xs.length) ρ → Q (.ok (.next, ρ))) → Q (forL t body xs ρ)
  | [], n, ρ, h0, _, hq => hq ρ h0
  | x :: xs, n, ρ, h0, h, hq => by
    obtain ⟨ρ', h1, h2⟩ := h n ρ x (Nat.le_refl _) (by simp) h0
    simp only [forL]
    cases e : setT t x ρ with
    | stuck => rw [e] at h1; rcases h1 with h1 | h1 <;> cases h1
    | exc c q => rw [e] at h1; rcases h1 with h1 | h1 <;> cases h1
    | ok ρ1 =>
      rw [e] at h1
      simp only [bind_ok] at h1
      rw [bind_ok]
      have ih := forL_inv (t := t) (body := body) (I := I) (Q := Q) (xs := xs) (n := n + 1) h2 (fun k ρ y hk hy hI => h k ρ y (by omega) (by
        rw [show k - n = (k - (n + 1)) + 1 by omega, List.getElem?_cons_succ]; exact hy) hI) (fun ρ hI => hq ρ (by rw [List.length_cons]; rw [show n + (xs.length + 1) = n + 1 + xs.length by omega]; exact hI))
      rcases h1 with h1 | h1 <;> (rw [h1, bind_ok]; exact ih)
/-- while: k turns, then the test fails -/
theorem whileL_k {test : Env → Out (Bool × Env)} {body : Env → Out (Flow × Env)} {env : Nat → Env} : ∀ {k f : Nat} {j : Nat}, k < f →
    (∀ n, j ≤ n → n < j + k → test (env n) = .ok (true, env n) ∧ (body (env n) = .ok (.next, env (n + 1)) ∨ body (env n) = .ok (.cont, env (n + 1)))) → test (env (j + k)) = .ok (false, env (j + k)) → whileL test body f (env j) = .ok (.next, env (j + k))
  | k, 0, j, hf, _, _ => absurd hf (Nat.not_lt_zero _)
  | 0, f + 1, j, hf, _, he => by
    simp only [whileL]
    rw [Nat.add_zero] at he
    rw [he, bind_ok]
    rfl
  | k + 1, f + 1, j, hf, h, he => by
    obtain ⟨h1, h2⟩ := h j (Nat.le_refl _) (by omega)
    have ih := whileL_k (test := test) (body := body) (env := env) (k := k) (f := f) (j := j + 1) (by omega) (fun n a b => h n (by omega) (by omega)) (by rw [show j + 1 + k = j + (k + 1) by omega]; exact he)
    simp only [whileL]
    rw [h1, bind_ok, if_pos rfl]
    rw [show j + (k + 1) = j + 1 + k by omega]
    rcases h2 with h2 | h2 <;> (rw [h2, bind_ok]; exact ih)
/-- while: k turns, then the body hands back -/
theorem whileL_ret {test : Env → Out (Bool × Env)} {body : Env → Out (Flow × Env)} {env : Nat → Env} {r : Res} {ρ : Env} : ∀ {k f : Nat} {j : Nat}, k < f →
    (∀ n, j ≤ n → n < j + k → test (env n) = .ok (true, env n) ∧ (body (env n) = .ok (.next, env (n + 1)) ∨ body (env n) = .ok (.cont, env (n + 1)))) → test (env (j + k)) = .ok (true, env (j + k)) → body (env (j + k)) = .ok (.ret r, ρ) → whileL test body f (env j) = .ok (.ret r, ρ)
  | k, 0, j, hf, _, _, _ => absurd hf (Nat.not_lt_zero _)
  | 0, f + 1, j, hf, _, he, hb => by
    simp only [whileL]
    rw [Nat.add_zero] at he hb
    rw [he, bind_ok, if_pos rfl, hb, bind_ok]
  | k + 1, f + 1, j, hf, h, he, hb => by
    obtain ⟨h1, h2⟩ := h j (Nat.le_refl _) (by omega)
    have ih := whileL_ret (test := test) (body := body) (env := env) (r := r) (ρ := ρ) (k := k) (f := f) (j := j + 1) (by omega) (fun n a b => h n (by omega) (by omega)) (by rw [show j + 1 + k = j + (k + 1) by omega]; exact he) (by rw [show j + 1 + k = j + (k + 1) by omega]; exact hb)
    simp only [whileL]
    rw [h1, bind_ok, if_pos rfl]
    rcases h2 with h2 | h2 <;> (rw [h2, bind_ok]; exact ih)
end MR
end
section
set_option linter.all false
set_option maxRecDepth 100000
namespace K54
open M MR
theorem bools_map {α : Type} (xs : List α) (g : α → Bool) : bools? (xs.map fun x => D.bl (g x)) = some (xs.map g) := by
  induction xs with
  | nil => rfl
  | cons x xs ih => simp [bools?, ih]
theorem all_true {α : Type} {xs : List α} {g : α → Bool} (h : ∀ x ∈ xs, g x = true) : (xs.map g).all id = true := by
  simp; exact h
@[simp] theorem all_lc {α : Type} (xs : List α) (g : α → Bool) : biD .all [.lst (xs.map fun x => .bl (g x))] = some (.val (.bl (xs.all g))) := by
  show (bools? _).map _ = _
  rw [bools_map]
  simp [List.all_map]
@[simp] theorem filter_tt {α : Type} (xs : List α) : xs.filter (fun _ => true) = xs := List.filter_eq_self.mpr fun _ _ => rfl
@[simp high] theorem all_tt {α : Type} (xs : List α) : biD .all [.lst (xs.map fun _ => .bl true)] = some (.val (.bl true)) := by
  rw [all_lc xs fun _ => true]
  simp
def fr (w ds : List Int) : D := .tup [.tup (w.map .int), .tup (ds.map .int)]
def rl (kind : PySem.Str) (n : Int) (b : Bool) : D := .tup [.str kind, .int n, .bl b]
structure Good (w ds : List Int) : Prop where
  w1 : ∀ x ∈ w, 0 ≤ x ∧ x ≤ 6
  w2 : w.Pairwise (· < ·)
  w3 : w.length < 7
  d1 : ∀ x ∈ ds, 0 ≤ x ∧ x ≤ 100000
  d2 : ds.Pairwise (· < ·)
  d3 : ds.length ≤ 100
@[simp] theorem is_integer_int (i : Int) : F_is_integer.run [.int i] = .ok (.val (.bl true), []) := rfl
@[simp] theorem is_within_int (i lo hi : Int) : F_is_within.run [.int i, .int lo, .int hi] = .ok (.val (.bl (decide (lo ≤ i) && decide (i ≤ hi))), []) := by
  rw [run_is_within]
  simp [fnRun, c_is_within]
  by_cases h : lo ≤ i
  · have h2 : (!decide (hi < i)) = decide (i ≤ hi) := by by_cases h : i ≤ hi <;> simp [h] <;> omega
    simp [h, h2]
  · simp [h]; omega
@[simp] theorem check_true : F_check.run [.bl true] = .ok (.val .non, []) := rfl
@[simp] theorem check_false : F_check.run [.bl false] = .exc "NotRight" .non := rfl
theorem line_eq : line = 16777216 := rfl
theorem zipD_tail (x : Int) (xs : List Int) : ∀ z ∈ zipD ((x :: xs).map D.int) (xs.map D.int), ∃ a b, z = .tup [.int a, .int b] := by
  induction xs generalizing x with
  | nil => intro z h; simp [zipD] at h
  | cons y ys ih =>
    intro z h
    simp only [List.map_cons, zipD, List.mem_cons] at h
    rcases h with rfl | h
    · exact ⟨x, y, rfl⟩
    · exact ih y z (by simpa [zipD] using h)
def ltT : D → Bool
  | .tup [.int a, .int b] => decide (a < b)
  | _ => false
theorem asc_all {x : Int} {xs : List Int} (h : (x :: xs).Pairwise (· < ·)) : ∀ z ∈ zipD ((x :: xs).map D.int) (xs.map D.int), ltT z = true := by
  induction xs generalizing x with
  | nil => intro z hz; simp [zipD] at hz
  | cons y ys ih =>
    intro z hz
    simp only [List.map_cons, zipD, List.mem_cons] at hz
    rcases hz with rfl | hz
    · have := (List.pairwise_cons.mp h).1 y List.mem_cons_self
      simp [ltT, this]
    · exact ih (List.pairwise_cons.mp h).2 z (by simpa [zipD] using hz)
theorem cut_tail (xs : List D) : (xs.drop (min 1 xs.length)).take (xs.length - min 1 xs.length) = xs.tail := by
  cases xs with
  | nil => rfl
  | cons x xs => simp
theorem zipD_len_le : ∀ (xs ys : List D), (zipD xs ys).length ≤ xs.length
  | [], _ => by simp [zipD]
  | _ :: _, [] => by simp [zipD]
  | x :: xs, y :: ys => by simp [zipD]; exact zipD_len_le xs ys
theorem are_ascending_ok {xs : List Int} (h : xs.Pairwise (· < ·)) (hl : xs.length ≤ 1000) : F_are_ascending.run [.tup (xs.map .int)] = .ok (.val (.bl true), []) := by
  rw [run_are_ascending]
  have hI : evI (.zip (.v 0) (.sl (.v 0) (some (.k (.int 1))) none)) [.val (.tup (xs.map .int)), .none, .none] = .ok ((zipD (xs.map .int) (xs.map .int).tail, none), [.val (.tup (xs.map .int)), .none, .none]) := by
    have := cut_tail (xs.map .int)
    simp only [List.length_map] at this
    simp [slD, kI2, zip2D, slot2, cut, sIx, this]
  have key : ∀ z ∈ zipD (xs.map .int) (xs.map D.int).tail, (∃ a b, z = .tup [.int a, .int b]) ∧ ltT z = true := by
    cases xs with
    | nil => intro z hz; simp [zipD] at hz
    | cons x xs => exact fun z hz => ⟨zipD_tail x xs z hz, asc_all h z hz⟩
  have hlc := ev_lc2n (e := .cmp .lt (.v 1) (.v 2)) (i := 1) (j := 2) (c := none) (fun _ => true) (fun z => .bl (ltT z)) (by decide) hI (.inl rfl) (.inl rfl) rfl rfl rfl
    (Nat.le_trans (zipD_len_le _ _) (by rw [line_eq, List.length_map]; omega)) (fun z hz => let ⟨a, b, e⟩ := (key z hz).1; ⟨_, _, e⟩) (fun z hz => evC_none _) (fun z hz _ => by
      obtain ⟨a, b, e⟩ := (key z hz).1
      subst e
      simp [T2, lockSlot, ltT])
  have h2 : ((zipD (xs.map .int) (xs.map D.int).tail).filter fun _ => true).map (fun z => D.bl (ltT z)) = (zipD (xs.map .int) (xs.map D.int).tail).map (fun z => D.bl (ltT z)) := by rw [List.filter_eq_self.mpr (fun _ _ => rfl)]
  rw [h2] at hlc
  have h3 : (zipD (xs.map .int) (xs.map D.int).tail).all ltT = true := List.all_eq_true.mpr fun z hz => (key z hz).2
  simp only [fnRun, c_are_ascending, List.length_cons, List.length_nil, List.take_zero, List.map_nil, List.drop_zero, List.map_cons, List.nil_append, List.cons_append, List.replicate, execs_cons, ex_ret, ev_bi, evs_cons, if_true, Nat.reduceAdd, Nat.reduceSub]
  rw [hlc]
  simp [h3]
@[simp] theorem is_day_int (i : Int) : F_is_day.run [.int i] = .ok (.val (.bl (decide (0 ≤ i) && decide (i ≤ 100000))), []) := by
  rw [run_is_day]
  simp [fnRun, c_is_day]
theorem are_days_ok {xs : List Int} {last : Int} (h1 : ∀ x ∈ xs, 0 ≤ x ∧ x ≤ last) (h : xs.Pairwise (· < ·)) (hl : xs.length ≤ 1000) : F_are_days.run [.tup (xs.map .int), .int last] = .ok (.val (.bl true), []) := by
  rw [run_are_days]
  have hlc := ev_lc1 (e := .call F_is_within [.v 2, .k (.int 0), .v 1]) (it := .e (.v 0)) (i := 2) (c := none) (ρ := [.val (.tup (xs.map .int)), .val (.int last), .none]) (xs := xs.map .int) (o := none) (fun _ => true) (fun _ => .bl true) (by simp [kI, itemsD, slotOf]) (.inl rfl) rfl rfl (by rw [line_eq]; simp; omega) (fun z hz => by simp) (fun z hz _ => by
    obtain ⟨x, hx, rfl⟩ := List.mem_map.mp hz
    have := h1 x hx
    simp [lockSlot, D.flat, this])
  simp [fnRun, c_are_days, isiD, tyAny, tyOf, tySub, isClsN, hlc, are_ascending_ok h hl, Function.comp_def]
theorem eqD_int' (i j : Int) : eqD (.int i) (.int j) = some (decide (i = j)) := eqD_int i j
@[simp] theorem len_tup (xs : List D) : biD .len [.tup xs] = some (.val (.int xs.length)) := rfl
@[simp] theorem len_lst (xs : List D) : biD .len [.lst xs] = some (.val (.int xs.length)) := rfl
@[simp] theorem isi_tup_tup (xs : List D) : isiD [.tuple] (.tup xs) = some (.val (.bl true)) := rfl
@[simp] theorem isi_str_str (x : PySem.Str) : isiD [.str] (.str x) = some (.val (.bl true)) := rfl
@[simp] theorem isi_bool_bl (b : Bool) : isiD [.bool] (.bl b) = some (.val (.bl true)) := rfl
@[simp] theorem isi_lst_lst (xs : List D) : isiD [.list] (.lst xs) = some (.val (.bl true)) := rfl
@[simp] theorem sub_tup0 (x : D) (xs : List D) : subR (.tup (x :: xs)) (.int 0) = some (.val x) := by
  simp [subR, subD, atI, ixN]
@[simp] theorem sub_tup1 (x y : D) (xs : List D) : subR (.tup (x :: y :: xs)) (.int 1) = some (.val y) := by
  have h : (1 : Int) < xs.length + 1 + 1 := by omega
  simp [subR, subD, atI, ixN, h]
@[simp] theorem sub_tup2 (x y z : D) (xs : List D) : subR (.tup (x :: y :: z :: xs)) (.int 2) = some (.val z) := by
  have h : (2 : Int) < xs.length + 1 + 1 + 1 := by omega
  simp [subR, subD, atI, ixN, h]
variable {w ds : List Int}
theorem are_free_days_ok (g : Good w ds) : F_are_free_days.run [fr w ds] = .ok (.val (.bl true), []) := by
  rw [run_are_free_days]
  have h1 := are_days_ok (last := 6) g.w1 g.w2 (by have := g.w3; omega)
  have h2 := are_days_ok (last := 100000) g.d1 g.d2 (by have := g.d3; omega)
  have h3 := g.w3
  have h4 := g.d3
  have h5 : (w.length : Int) < 7 := by omega
  have h6 : ¬ (100 : Int) < ds.length := by omega
  simp [fnRun, c_are_free_days, fr, h1, h2, h5, h6]
@[simp] theorem works_ok (w ds : List Int) (day : Int) : F_works_notices.run [fr w ds, .int day] = .ok (.val (.bl (!w.contains (day % 7) && !ds.contains day)), []) := by
  rw [run_works_notices]
  by_cases h : day % 7 ∈ w <;> simp [fnRun, c_works_notices, fr, h]
theorem rule_ok {kind : PySem.Str} {n : Int} {b : Bool} (hk : kind = "days" ∨ kind = "working") (h1 : 1 ≤ n) (h2 : n ≤ 60) : F_is_notice_rule.run [rl kind n b] = .ok (.val (.bl true), []) := by
  rw [run_is_notice_rule]
  have e : inD (.str kind) (.tup [.str "days", .str "working"]) = some true := by
    rcases hk with rfl | rfl <;> kernel_rfl
  simp [fnRun, c_is_notice_rule, rl, e, h1, h2]
theorem ints_days {xs : List Int} (h : ∀ x ∈ xs, 0 ≤ x ∧ x ≤ 100000) (ρ : Env) (i j : Nat) (hj : ρ[j]? = some (.val (.tup (xs.map .int)))) (hi : ρ[i]? = some .none) (hl : xs.length ≤ 1000) (hij : i < ρ.length) : ev (.lc (.call F_is_day [.v i]) (.n i) (.e (.v j)) [i] none) ρ = .ok (.own (.lst (xs.map fun _ => .bl true)), ρ) := by
  have hlc := ev_lc1 (e := .call F_is_day [.v i]) (it := .e (.v j)) (i := i) (c := none) (ρ := ρ) (xs := xs.map .int) (o := none) (fun _ => true) (fun _ => .bl true) (by simp [hj, kI, itemsD, slotOf]) (.inl hi) rfl rfl (by rw [line_eq, List.length_map]; omega) (fun z hz => evC_none _) (fun z hz _ => by
    obtain ⟨x, hx, rfl⟩ := List.mem_map.mp hz
    have h1 : (ρ.set i (.val (.int x)))[i]? = some (.val (.int x)) := List.getElem?_set_self hij
    simp [lockSlot, D.flat, h x hx, h1])
  rw [hlc]
  simp [Function.comp_def]
theorem check_free_ok (g : Good w ds) {xs : List Int} (h : ∀ x ∈ xs, 0 ≤ x ∧ x ≤ 100000) (hl : xs.length ≤ 5) : F_check_free.run [fr w ds, .tup (xs.map .int)] = .ok (.val .non, []) := by
  rw [run_check_free]
  have hlc := ints_days h [.val (fr w ds), .val (.tup (xs.map .int)), .none] 2 1 rfl rfl (by omega) (by simp)
  simp [starRun, fnRun, c_check_free, are_free_days_ok g, hlc, D.flat, hl]
theorem check_rule_ok (g : Good w ds) {kind : PySem.Str} {n : Int} {b : Bool} (hk : kind = "days" ∨ kind = "working") (h1 : 1 ≤ n) (h2 : n ≤ 60) {xs : List Int} (h : ∀ x ∈ xs, 0 ≤ x ∧ x ≤ 100000) (hl : xs.length ≤ 5) : F_check_rule.run [fr w ds, rl kind n b, .tup (xs.map .int)] = .ok (.val .non, []) := by
  rw [run_check_rule]
  have hlc := ints_days h [.val (fr w ds), .val (rl kind n b), .val (.tup (xs.map .int)), .none] 3 2 rfl rfl (by omega) (by simp)
  simp [starRun, fnRun, c_check_rule, are_free_days_ok g, rule_ok hk h1 h2, hlc, D.flat, hl]
/-! ### counting -/
def rangeI (lo : Int) : Nat → List Int
  | 0 => []
  | n + 1 => lo :: rangeI (lo + 1) n
theorem rangeN_eq : ∀ (n : Nat) (lo : Int), rangeN lo n = (rangeI lo n).map .int
  | 0, _ => rfl
  | n + 1, lo => by simp [rangeN, rangeI, rangeN_eq n]
theorem rangeI_len : ∀ (n : Nat) (lo : Int), (rangeI lo n).length = n
  | 0, _ => rfl
  | n + 1, lo => by simp [rangeI, rangeI_len n]
theorem mem_rangeI : ∀ {n : Nat} {lo x : Int}, x ∈ rangeI lo n ↔ lo ≤ x ∧ x < lo + n
  | 0, lo, x => by simp [rangeI]
  | n + 1, lo, x => by
    simp only [rangeI, List.mem_cons, mem_rangeI (n := n)]
    omega
def wk (w ds : List Int) (day : Int) : Bool := !w.contains (day % 7) && !ds.contains day
def wb (w ds : List Int) (day : Int) : Int := (day / 7) * (7 - w.length) + ((rangeI 0 (day % 7).toNat).filter fun k => !w.contains k).length - (ds.filter fun d => decide (d < day) && !w.contains (d % 7)).length
def pInt (p : Int → Bool) : D → Bool
  | .int i => p i
  | _ => false
theorem filter_ints (xs : List Int) (p : Int → Bool) : (xs.map D.int).filter (pInt p) = (xs.filter p).map .int := by
  rw [List.filter_map]; rfl
theorem smallF_of {i : Int} (h : -1000 < i) (h2 : i < 1000) : smallF i = true := by
  unfold smallF
  simp only [Bool.and_eq_true, decide_eq_true_eq]
  omega
theorem smallB_of' {i : Int} (h : -1000000000 < i) (h2 : i < 1000000000) : smallB i = true := by
  unfold smallB
  simp only [Bool.and_eq_true, decide_eq_true_eq]
  omega
theorem worked_before_ok (g : Good w ds) (day : Int) : F_worked_before.run [fr w ds, .int day] = .ok (.val (.int (wb w ds day)), []) := by
  rw [run_worked_before]
  have hl1 : ev (.lc (.v 5) (.n 5) (.range1 (.v 3)) [5] (some (.cmp .notin (.v 5) (.sub (.v 0) (.k (.int 0)))))) [.val (fr w ds), .val (.int day), .val (.int (day / 7)), .val (.int (day % 7)), .none, .none] =
      .ok (.own (.lst (((rangeI 0 (day % 7).toNat).filter fun k => !w.contains k).map .int)), [.val (fr w ds), .val (.int day), .val (.int (day / 7)), .val (.int (day % 7)), .none, .none]) := by
    have := ev_lc1 (e := .v 5) (it := .range1 (.v 3)) (i := 5) (c := some (.cmp .notin (.v 5) (.sub (.v 0) (.k (.int 0))))) (ρ := [.val (fr w ds), .val (.int day), .val (.int (day / 7)), .val (.int (day % 7)), .none, .none]) (xs := rangeN 0 (day % 7).toNat) (o := none) (pInt fun k => !w.contains k) (fun z => z)
      (by simp [kR, range1D, smallB_of' (i := day % 7) (by omega) (by omega)]) (.inl rfl) rfl rfl (by rw [line_eq, rangeN_eq, List.length_map, rangeI_len]; omega)
      (fun z hz => by
        rw [rangeN_eq] at hz
        obtain ⟨x, hx, rfl⟩ := List.mem_map.mp hz
        simp [lockSlot, fr, pInt])
      (fun z hz _ => by simp [lockSlot])
    rw [this, rangeN_eq, filter_ints]
    simp
  have hl2 : ∀ s, ev (.lc (.v 5) (.n 5) (.e (.sub (.v 0) (.k (.int 1)))) [5] (some (.and [.cmp .lt (.v 5) (.v 1), .cmp .notin (.bin .mod (.v 5) (.gl "WEEK_notices" (.int 7))) (.sub (.v 0) (.k (.int 0)))]))) [.val (fr w ds), .val (.int day), .val (.int (day / 7)), .val (.int (day % 7)), .val s, .none] =
      .ok (.own (.lst ((ds.filter fun d => decide (d < day) && !w.contains (d % 7)).map .int)), [.val (fr w ds), .val (.int day), .val (.int (day / 7)), .val (.int (day % 7)), .val s, .none]) := by
    intro s
    have := ev_lc1 (e := .v 5) (it := .e (.sub (.v 0) (.k (.int 1)))) (i := 5) (c := some (.and [.cmp .lt (.v 5) (.v 1), .cmp .notin (.bin .mod (.v 5) (.gl "WEEK_notices" (.int 7))) (.sub (.v 0) (.k (.int 0)))])) (ρ := [.val (fr w ds), .val (.int day), .val (.int (day / 7)), .val (.int (day % 7)), .val s, .none]) (xs := ds.map .int) (o := none) (pInt fun d => decide (d < day) && !w.contains (d % 7)) (fun z => z)
      (by simp [kI, fr, itemsD, slotOf]) (.inl rfl) rfl rfl (by have := g.d3; rw [line_eq, List.length_map]; omega)
      (fun z hz => by
        obtain ⟨x, hx, rfl⟩ := List.mem_map.mp hz
        by_cases h : x < day <;> simp [lockSlot, fr, pInt, h])
      (fun z hz _ => by simp [lockSlot])
    rw [this, filter_ints]
    simp
  have h3 := g.w3
  have hm := mul_int (day / 7) (7 - w.length) (.inr (smallF_of (by omega) (by omega)))
  simp only [fr] at hl1 hl2
  simp [fnRun, c_worked_before, biD, hl1, hl2, fr, hm, wb]
/-! ### between, far, tolled -/
def bt (w ds : List Int) (a b : Int) : Int := if a < b then (if 0 < wb w ds b - wb w ds (a + 1) then wb w ds b - wb w ds (a + 1) else 0) else 0
theorem between_ok (g : Good w ds) (a b : Int) : F_between.run [fr w ds, .int a, .int b] = .ok (.val (.int (bt w ds a b)), []) := by
  rw [run_between]
  by_cases h : a < b <;> simp [fnRun, c_between, h, worked_before_ok g, D.flat, biD, bt]
def far (w ds : List Int) (kind : PySem.Str) (n a b : Int) : Bool := if kind = "days" then decide (n ≤ b - a - 1) else decide (n ≤ bt w ds a b)
@[simp] theorem eq_dd : eqD (.str "days") (.str "days") = some true := by kernel_rfl
@[simp] theorem eq_wd : eqD (.str "working") (.str "days") = some false := by kernel_rfl
theorem wne : ("working" : PySem.Str) ≠ "days" := by decide
theorem is_far_ok (g : Good w ds) {kind : PySem.Str} (hk : kind = "days" ∨ kind = "working") (n : Int) (b : Bool) (x y : Int) : F_is_far.run [fr w ds, rl kind n b, .int x, .int y] = .ok (.val (.bl (far w ds kind n x y)), []) := by
  rw [run_is_far]
  rcases hk with rfl | rfl
  · have e : (!decide (y - x - 1 < n)) = decide (n ≤ y - x - 1) := by by_cases h : n ≤ y - x - 1 <;> simp [h] <;> omega
    simp [fnRun, c_is_far, rl, far, e]
  · have e : (!decide (bt w ds x y < n)) = decide (n ≤ bt w ds x y) := by by_cases h : n ≤ bt w ds x y <;> simp [h] <;> omega
    simp [fnRun, c_is_far, rl, far, wne, between_ok g, D.flat, e]
theorem is_tolled_ok (w ds : List Int) (kind : PySem.Str) (n : Int) (b : Bool) (y : Int) : F_is_tolled.run [fr w ds, rl kind n b, .int y] = .ok (.val (.bl (b && !wk w ds y)), []) := by
  rw [run_is_tolled]
  cases b <;> simp [fnRun, c_is_tolled, rl, D.flat, wk]
def kp (w ds : List Int) (kind : PySem.Str) (n : Int) (b : Bool) (x y : Int) : Bool := !(b && !wk w ds y) && far w ds kind n x y
theorem keeps_ok (g : Good w ds) {kind : PySem.Str} (hk : kind = "days" ∨ kind = "working") (n : Int) (b : Bool) (x y : Int) : F_keeps_notices.run [fr w ds, rl kind n b, .int x, .int y] = .ok (.val (.bl (kp w ds kind n b x y)), []) := by
  rw [run_keeps_notices]
  cases h : (b && !wk w ds y) <;> simp [fnRun, c_keeps_notices, is_tolled_ok, is_far_ok g hk, D.flat, h, kp]
structure GoodR (kind : PySem.Str) (n : Int) : Prop where
  k : kind = "days" ∨ kind = "working"
  n1 : 1 ≤ n
  n2 : n ≤ 60
variable {kind : PySem.Str} {n : Int} {b : Bool}
theorem does_keep_ok (g : Good w ds) (r : GoodR kind n) {x y : Int} (hx : 0 ≤ x ∧ x ≤ 100000) (hy : 0 ≤ y ∧ y ≤ 100000) : F_does_keep.run [fr w ds, rl kind n b, .int x, .int y] = .ok (.val (.bl (kp w ds kind n b x y)), []) := by
  rw [run_does_keep]
  have := check_rule_ok (b := b) g r.k r.n1 r.n2 (xs := [x, y]) (by simp; exact ⟨hx, hy⟩) (by simp)
  simp at this
  simp [fnRun, c_does_keep, this, keeps_ok g r.k, D.flat]
theorem is_working_ok (g : Good w ds) {x : Int} (hx : 0 ≤ x ∧ x ≤ 100000) : F_is_working.run [fr w ds, .int x] = .ok (.val (.bl (wk w ds x)), []) := by
  rw [run_is_working]
  have := check_free_ok g (xs := [x]) (by simp; exact hx) (by simp)
  simp at this
  simp [fnRun, c_is_working, this, D.flat, wk]
theorem working_between_ok (g : Good w ds) {x y : Int} (hx : 0 ≤ x ∧ x ≤ 100000) (hy : 0 ≤ y ∧ y ≤ 100000) : F_working_between.run [fr w ds, .int x, .int y] = .ok (.val (.int (bt w ds x y)), []) := by
  rw [run_working_between]
  have := check_free_ok g (xs := [x, y]) (by simp; exact ⟨hx, hy⟩) (by simp)
  simp at this
  simp [fnRun, c_working_between, this, D.flat, between_ok g]
end K54
end
section
set_option linter.all false
set_option maxRecDepth 100000
namespace K54
open M MR
variable {w ds : List Int} {kind : PySem.Str} {n : Int} {b : Bool}
theorem fuel_gt {k : Nat} (h : k ≤ 3000000) : k < fuel := by unfold fuel; omega
theorem first_meeting_ok (g : Good w ds) (r : GoodR kind n) {x d : Int} (hx : 0 ≤ x ∧ x ≤ 100000) (h1 : x < d) (h2 : d ≤ 100000) (h3 : kp w ds kind n b x d = true) (h4 : ∀ y, x < y → y < d → kp w ds kind n b x y = false) :
    F_first_meeting.run [fr w ds, rl kind n b, .int x] = .ok (.val (.int d), []) := by
  rw [run_first_meeting]
  have hc := check_rule_ok (b := b) g r.k r.n1 r.n2 (xs := [x]) (by simp; exact hx) (by simp)
  simp at hc
  obtain ⟨k, rfl⟩ : ∃ k : Nat, d = x + 1 + k := ⟨(d - x - 1).toNat, by omega⟩
  have e1 : ¬ (100000 : Int) < x + 1 + k := by omega
  have e2 : x + 1 + (k : Int) ≤ 100000 := by omega
  have hw : exec (.whil (.and [.cmp .le (.v 3) (.gl "LAST_DAY_notices" (.int 100000)), .not (.call F_keeps_notices [.v 0, .v 1, .v 2, .v 3])]) [.aug 3 .add (.k (.int 1))]) [.val (fr w ds), .val (rl kind n b), .val (.int x), .val (.int (x + 1))] =
      .ok (.next, [.val (fr w ds), .val (rl kind n b), .val (.int x), .val (.int (x + 1 + k))]) := by
    rw [ex_whil]
    have := whileL_k (test := fun ρ => evT (.and [.cmp .le (.v 3) (.gl "LAST_DAY_notices" (.int 100000)), .not (.call F_keeps_notices [.v 0, .v 1, .v 2, .v 3])]) ρ) (body := fun ρ => execs [.aug 3 .add (.k (.int 1))] ρ)
      (env := fun j => [.val (fr w ds), .val (rl kind n b), .val (.int x), .val (.int (x + 1 + j))]) (k := k) (f := fuel) (j := 0) (fuel_gt (by omega))
      (fun m _ hm => by
        have e1 : x + 1 + (m : Int) ≤ 100000 := by omega
        have e2 := h4 (x + 1 + m) (by omega) (by omega)
        simp [keeps_ok g r.k, D.flat, e1, e2, isSet, augD]
        omega)
      (by simp [keeps_ok g r.k, D.flat, e2, h3])
    simpa using this
  simp [fnRun, c_first_meeting, hc, D.flat, hw, e1]
theorem last_notice_tolled (g : Good w ds) (r : GoodR kind n) {y : Int} (hy : 0 ≤ y ∧ y ≤ 100000) (h : (b && !wk w ds y) = true) : F_last_notice.run [fr w ds, rl kind n b, .int y] = .ok (.val .non, []) := by
  rw [run_last_notice]
  have hc := check_rule_ok (b := b) g r.k r.n1 r.n2 (xs := [y]) (by simp; exact hy) (by simp)
  simp at hc
  simp [fnRun, c_last_notice, hc, D.flat, is_tolled_ok, h]
/-- d: the last day ahead that is far enough, or -1 -/
theorem last_notice_ok (g : Good w ds) (r : GoodR kind n) {y d : Int} (hy : 0 ≤ y ∧ y ≤ 100000) (h : (b && !wk w ds y) = false) (h1 : d < y) (h2 : -1 ≤ d) (h3 : d = -1 ∨ far w ds kind n d y = true) (h4 : ∀ x, d < x → x < y → far w ds kind n x y = false) :
    F_last_notice.run [fr w ds, rl kind n b, .int y] = .ok (.val (if 0 ≤ d then .int d else .non), []) := by
  rw [run_last_notice]
  have hc := check_rule_ok (b := b) g r.k r.n1 r.n2 (xs := [y]) (by simp; exact hy) (by simp)
  simp at hc
  obtain ⟨k, rfl⟩ : ∃ k : Nat, d = y - 1 - k := ⟨(y - 1 - d).toNat, by omega⟩
  have hw : exec (.whil (.and [.cmp .ge (.v 3) (.k (.int 0)), .not (.call F_is_far [.v 0, .v 1, .v 3, .v 2])]) [.aug 3 .sub (.k (.int 1))]) [.val (fr w ds), .val (rl kind n b), .val (.int y), .val (.int (y - 1))] =
      .ok (.next, [.val (fr w ds), .val (rl kind n b), .val (.int y), .val (.int (y - 1 - k))]) := by
    rw [ex_whil]
    have := whileL_k (test := fun ρ => evT (.and [.cmp .ge (.v 3) (.k (.int 0)), .not (.call F_is_far [.v 0, .v 1, .v 3, .v 2])]) ρ) (body := fun ρ => execs [.aug 3 .sub (.k (.int 1))] ρ)
      (env := fun j => [.val (fr w ds), .val (rl kind n b), .val (.int y), .val (.int (y - 1 - j))]) (k := k) (f := fuel) (j := 0) (fuel_gt (by omega))
      (fun m _ hm => by
        have e1 : (m : Int) ≤ y - 1 := by omega
        have e2 := h4 (y - 1 - m) (by omega) (by omega)
        simp [is_far_ok g r.k, D.flat, e1, e2, isSet, augD]
        omega)
      (by
        by_cases e : (0 : Int) ≤ y - 1 - k
        · have e2 := h3.resolve_left (by omega)
          have e3 : (k : Int) ≤ y - 1 := by omega
          simp [is_far_ok g r.k, D.flat, e3, e2]
        · have e2 : y - 1 - (k : Int) < 0 := by omega
          have e3 : ¬ (k : Int) ≤ y - 1 := by omega
          simp [e2, e3])
    simpa using this
  by_cases e : (0 : Int) ≤ y - 1 - k
  · have e3 : (k : Int) ≤ y - 1 := by omega
    simp [fnRun, c_last_notice, hc, D.flat, is_tolled_ok, h, hw, e3]
  · have e2 : y - 1 - (k : Int) < 0 := by omega
    have e3 : ¬ (k : Int) ≤ y - 1 := by omega
    simp [fnRun, c_last_notice, hc, D.flat, is_tolled_ok, h, hw, e2, e3]
/-- working days among j days from a on -/
def cw (w ds : List Int) (a : Int) (j : Nat) : Nat := ((rangeI a j).filter (wk w ds)).length
theorem rangeI_succ : ∀ (j : Nat) (a : Int), rangeI a (j + 1) = rangeI a j ++ [a + j]
  | 0, a => by simp [rangeI]
  | j + 1, a => by
    rw [rangeI, rangeI_succ j (a + 1)]
    have : a + 1 + (j : Int) = a + ((j + 1 : Nat) : Int) := by omega
    rw [this]
    rfl
theorem cw_succ (w ds : List Int) (a : Int) (j : Nat) : cw w ds a (j + 1) = cw w ds a j + (if wk w ds (a + j) then 1 else 0) := by
  unfold cw
  rw [rangeI_succ, List.filter_append, List.length_append]
  cases h : wk w ds (a + j) <;> simp [h]
theorem cw_zero (w ds : List Int) (a : Int) : cw w ds a 0 = 0 := rfl
@[simp high] theorem works_wk (w ds : List Int) (day : Int) : F_works_notices.run [fr w ds, .int day] = .ok (.val (.bl (wk w ds day)), []) := works_ok w ds day
theorem cw_mono (w ds : List Int) (a : Int) {j k : Nat} (h : j ≤ k) : cw w ds a j ≤ cw w ds a k := by
  induction k with
  | zero => have : j = 0 := by omega
            subst this; exact Nat.le_refl _
  | succ k ih =>
    by_cases e : j = k + 1
    · subst e; exact Nat.le_refl _
    · have := ih (by omega)
      rw [cw_succ]; omega
theorem next_working_ok (g : Good w ds) {a m : Int} (ha : 0 ≤ a ∧ a ≤ 100000) (hm : 1 ≤ m ∧ m ≤ 400) {k : Nat} (h1 : a + k ≤ 100000) (h2 : (cw w ds a k : Int) + 1 = m) (h3 : wk w ds (a + k) = true) :
    F_next_working.run [fr w ds, .int a, .int m] = .ok (.val (.int (a + k)), []) := by
  rw [run_next_working]
  have hc := check_free_ok g (xs := [a]) (by simp; exact ha) (by simp)
  simp at hc
  have hw : exec (.whil (.cmp .le (.v 1) (.gl "LAST_DAY_notices" (.int 100000))) [.aug 3 .sub (.ite (.call F_works_notices [.v 0, .v 1]) (.k (.int 1)) (.k (.int 0))),
      .ite (.cmp .eq (.v 3) (.k (.int 0))) [.ret (.v 1)] [],
      .aug 1 .add (.k (.int 1))]) [.val (fr w ds), .val (.int a), .val (.int m), .val (.int m)] =
      .ok (.ret (.val (.int (a + k))), [.val (fr w ds), .val (.int (a + k)), .val (.int m), .val (.int 0)]) := by
    rw [ex_whil]
    have := whileL_ret (test := fun ρ => evT (.cmp .le (.v 1) (.gl "LAST_DAY_notices" (.int 100000))) ρ) (body := fun ρ => execs [.aug 3 .sub (.ite (.call F_works_notices [.v 0, .v 1]) (.k (.int 1)) (.k (.int 0))),
      .ite (.cmp .eq (.v 3) (.k (.int 0))) [.ret (.v 1)] [],
      .aug 1 .add (.k (.int 1))] ρ)
      (env := fun j => [.val (fr w ds), .val (.int (a + j)), .val (.int m), .val (.int (m - cw w ds a j))]) (k := k) (f := fuel) (j := 0) (r := .val (.int (a + k))) (ρ := [.val (fr w ds), .val (.int (a + k)), .val (.int m), .val (.int 0)]) (fuel_gt (by omega))
      (fun q _ hq => by
        have e1 : a + (q : Int) ≤ 100000 := by omega
        have e2 := cw_mono w ds a (j := q + 1) (k := k) (by omega)
        have e3 := cw_succ w ds a q
        refine ⟨by simp [e1], .inl ?_⟩
        cases e : wk w ds (a + q) with
        | true =>
          rw [e] at e3
          have e4 : ¬ m - (cw w ds a q : Int) - 1 = 0 := by simp at e3; omega
          have e5 : m - (cw w ds a q : Int) - 1 = m - ((cw w ds a q : Int) + 1) := by omega
          simp [D.flat, isSet, augD, e, e3, e4]
          omega
        | false =>
          rw [e] at e3
          have e4 : ¬ m - (cw w ds a q : Int) = 0 := by simp at e3; omega
          simp [D.flat, isSet, augD, e, e3, e4]
          omega)
      (by simp; omega)
      (by
        have e4 : m - (cw w ds a k : Int) - 1 = 0 := by omega
        simp [D.flat, isSet, augD, h3, e4])
    simp only [Int.natCast_zero, Int.add_zero, cw_zero, Int.sub_zero] at this
    exact this
  simp [fnRun, c_next_working, hc, D.flat, hm, hw]
theorem meetings_in_ok (g : Good w ds) (r : GoodR kind n) {x a c : Int} (hx : 0 ≤ x ∧ x ≤ 100000) (ha : 0 ≤ a ∧ a ≤ 100000) (hc : 0 ≤ c ∧ c ≤ 100000) (h : c - a ≤ 400) :
    F_meetings_in.run [fr w ds, rl kind n b, .int x, .int a, .int c] = .ok (.own (.lst (((rangeI a (c + 1 - a).toNat).filter (kp w ds kind n b x)).map .int)), []) := by
  rw [run_meetings_in]
  have hk := check_rule_ok (b := b) g r.k r.n1 r.n2 (xs := [x, a, c]) (by simp; exact ⟨hx, ha, hc⟩) (by simp)
  simp at hk
  have hl := ev_lc1 (e := .v 5) (it := .range2 (.v 3) (.bin .add (.v 4) (.k (.int 1)))) (i := 5) (c := some (.call F_keeps_notices [.v 0, .v 1, .v 2, .v 5])) (ρ := [.val (fr w ds), .val (rl kind n b), .val (.int x), .val (.int a), .val (.int c), .none]) (xs := rangeN a (c + 1 - a).toNat) (o := none) (pInt (kp w ds kind n b x)) (fun z => z)
    (by simp [kR2, range2D, smallB_of' (i := a) (by omega) (by omega), smallB_of' (i := c + 1) (by omega) (by omega)]) (.inl rfl) rfl rfl (by rw [line_eq, rangeN_eq, List.length_map, rangeI_len]; omega)
    (fun z hz => by
      rw [rangeN_eq] at hz
      obtain ⟨y, hy, rfl⟩ := List.mem_map.mp hz
      simp [lockSlot, keeps_ok g r.k, D.flat, pInt])
    (fun z hz _ => by simp [lockSlot])
  rw [rangeN_eq, filter_ints] at hl
  simp at hl
  have h' : ¬ 400 < c - a := by omega
  simp [fnRun, c_meetings_in, hk, D.flat, h', hl]
end K54
end
section
set_option linter.all false
set_option maxRecDepth 100000
namespace K54
open M MR
open PySem (Str)
variable {w ds : List Int} {kind : PySem.Str} {n : Int} {b : Bool}
abbrev Call := Str × Int × Int
def cD (c : Call) : D := .tup [.str c.1, .int c.2.1, .int c.2.2]
def NM : List Str := ["a", "b", "c1", "d", "e", "f"]
theorem is_name_ok : ∀ x ∈ NM, F_is_name.run [.str x] = .ok (.val (.bl true), []) := by
  intro x hx
  simp only [NM, List.mem_cons, List.not_mem_nil, or_false] at hx
  rcases hx with rfl | rfl | rfl | rfl | rfl | rfl <;> kernel_rfl
structure GoodC (cs : List Call) : Prop where
  nm : ∀ c ∈ cs, c.1 ∈ NM
  nd : (cs.map (·.1)).Nodup
  d1 : ∀ c ∈ cs, 0 ≤ c.2.1 ∧ c.2.1 ≤ 1000
  d2 : ∀ c ∈ cs, 0 ≤ c.2.2 ∧ c.2.2 ≤ 1000
  ln : cs.length ≤ 40
@[simp] theorem len_dct (kvs : List (Key × D)) : biD .len [.dct kvs] = some (.val (.int kvs.length)) := rfl
theorem is_call_ok {c : Call} (h : c.1 ∈ NM) (h1 : 0 ≤ c.2.1 ∧ c.2.1 ≤ 1000) (h2 : 0 ≤ c.2.2 ∧ c.2.2 ≤ 1000) : F_is_call.run [cD c] = .ok (.val (.bl true), []) := by
  rw [run_is_call]
  have e1 : c.2.1 ≤ 100000 := by omega
  have e2 : c.2.2 ≤ 100000 := by omega
  simp [fnRun, c_is_call, cD, is_name_ok _ h, D.flat, h1, h2, e1, e2]
def kfC : D → Key
  | .tup (.str s :: _) => .inr s
  | _ => .inl 0
theorem check_calls_ok (g : Good w ds) (r : GoodR kind n) {cs : List Call} (c : GoodC cs) : F_check_calls.run [fr w ds, rl kind n b, .lst (cs.map cD)] = .ok (.val .non, []) := by
  rw [run_check_calls]
  have hk := check_rule_ok (b := b) g r.k r.n1 r.n2 (xs := []) (by simp) (by simp)
  simp at hk
  have hl := ev_lc1 (e := .call F_is_call [.v 3]) (it := .e (.v 2)) (i := 3) (c := none) (ρ := [.val (fr w ds), .val (rl kind n b), .val (.lst (cs.map cD)), .none]) (xs := cs.map cD) (o := none) (fun _ => true) (fun _ => .bl true) (by simp [kI, itemsD, slotOf]) (.inl rfl) rfl rfl (by rw [line_eq, List.length_map]; have := c.ln; omega) (fun z hz => evC_none _) (fun z hz _ => by
    obtain ⟨x, hx, rfl⟩ := List.mem_map.mp hz
    simp [lockSlot, D.flat, is_call_ok (c.nm x hx) (c.d1 x hx) (c.d2 x hx)])
  have hd := ev_dc1 (ck := .sub (.v 3) (.k (.int 0))) (e := .k (.bl true)) (it := .e (.v 2)) (i := 3) (c := none) (ρ := [.val (fr w ds), .val (rl kind n b), .val (.lst (cs.map cD)), .none]) (xs := cs.map cD) (o := none) (fun _ => true) kfC (fun _ => .bl true) (by simp [kI, itemsD, slotOf]) (.inl rfl) rfl rfl (by rw [line_eq, List.length_map]; have := c.ln; omega) (fun z hz => evC_none _) (fun z hz _ => by
    obtain ⟨x, hx, rfl⟩ := List.mem_map.mp hz
    exact ⟨.str x.1, rfl, by simp [lockSlot, cD]⟩) (fun z hz _ => by simp)
  rw [filter_tt, dcF_nodup (by
    simp only [List.map_nil, List.nil_append, List.map_map]
    have : (kfC ∘ cD) = (fun s : Str => (Sum.inr s : Key)) ∘ (fun c : Call => c.1) := rfl
    rw [this, ← List.map_map]
    exact List.Pairwise.map _ (fun a b h e => h (Sum.inr.inj e)) c.nd)] at hd
  have h40 : ¬ (40 : Int) < cs.length := by have := c.ln; omega
  simp [fnRun, c_check_calls, hk, D.flat, hl, hd, h40, Function.comp_def]
/-! ### the states of calls -/
def oD : Option Str → D
  | none => .non
  | some x => .str x
def sl : Option D → Slot
  | none => .none
  | some d => .val d
theorem sl_put (o : Option D) : (match (some (sl o) : Option Slot) with
    | some (.lck _) => true
    | _ => false) = false := by cases o <;> rfl
def tkD (t : List Int) : List (Key × D) := t.map fun m => (Sum.inl m, D.bl true)
def wd (w ds : List Int) (kind : Str) (n : Int) (b : Bool) (t : List Int) (c : Call) : Option Str :=
  if (b && !wk w ds c.2.2) then some "day" else if !far w ds kind n c.2.1 c.2.2 then some "rule" else if t.contains c.2.2 then some "taken" else none
def stp (w ds : List Int) (kind : Str) (n : Int) (b : Bool) (s : List (Option Str) × List Int) (c : Call) : List (Option Str) × List Int :=
  (s.1 ++ [wd w ds kind n b s.2 c], if wd w ds kind n b s.2 c = none then s.2 ++ [c.2.2] else s.2)
def st (w ds : List Int) (kind : Str) (n : Int) (b : Bool) (cs : List Call) : List (Option Str) × List Int := cs.foldl (stp w ds kind n b) ([], [])
theorem st_snoc (cs : List Call) (c : Call) : st w ds kind n b (cs ++ [c]) = stp w ds kind n b (st w ds kind n b cs) c := by
  unfold st; rw [List.foldl_append]; rfl
theorem st_len : ∀ (k : Nat) (cs : List Call), cs.length = k → (st w ds kind n b cs).1.length = k ∧ (st w ds kind n b cs).2.length ≤ k
  | 0, cs, h => by
    have : cs = [] := List.length_eq_zero_iff.mp h
    subst this; exact ⟨rfl, Nat.le_refl _⟩
  | k + 1, cs, h => by
    have hne : cs ≠ [] := by intro z; subst z; cases h
    obtain ⟨cs', c, rfl⟩ : ∃ cs' c, cs = cs' ++ [c] := ⟨cs.dropLast, cs.getLast hne, (List.dropLast_concat_getLast hne).symm⟩
    obtain ⟨h1, h2⟩ := st_len k cs' (by simpa using h)
    rw [st_snoc]
    unfold stp
    refine ⟨by simp [h1], ?_⟩
    show (if _ then _ else _ : List Int).length ≤ k + 1
    split
    · simp; exact h2
    · omega
theorem find_tk (t : List Int) (m : Int) : (findK (tkD t) (Sum.inl m)).isSome = t.contains m := by
  induction t with
  | nil => rfl
  | cons x t ih =>
    unfold findK tkD at ih ⊢
    rw [List.map_cons, List.find?_cons, List.contains_cons]
    by_cases h : x = m
    · subst h; simp
    · have e1 : decide ((Sum.inl x : Key) = Sum.inl m) = false := by simp [h]
      have e2 : (m == x) = false := by simp [Ne.symm h]
      rw [e1, e2]
      simpa using ih
theorem put_tk {t : List Int} {m : Int} (h : t.contains m = false) : putK (tkD t) (Sum.inl m) (.bl true) = tkD (t ++ [m]) := by
  have e : ((tkD t).any fun kv => decide (kv.1 = (Sum.inl m : Key))) = false := by
    rw [List.any_eq_false]
    intro kv hkv
    obtain ⟨x, hx, rfl⟩ := List.mem_map.mp hkv
    simp only [decide_eq_true_eq]
    intro z
    have z := Sum.inl.inj z
    subst z
    simp at h
    exact h hx
  unfold putK
  rw [e]
  simp [tkD]
theorem states_of_ok (g : Good w ds) (r : GoodR kind n) {cs : List Call} (c : GoodC cs) : F_states_of.run [fr w ds, rl kind n b, .lst (cs.map cD)] = .ok (.own (.lst ((st w ds kind n b cs).1.map oD)), []) := by
  rw [run_states_of]
  have hf : ∃ o5 o6 o7 o8 : Option D, exec (.forr (.tup [(.n 5), (.n 6), (.n 7)]) (.e (.v 2)) [.asg 8 (.ite (.cmp .inn (.v 7) (.v 4)) (.k (.str "taken")) (.k .non)),
      .ite (.not (.call F_is_far [.v 0, .v 1, .v 6, .v 7])) [.asg 8 (.k (.str "rule"))] [],
      .ite (.call F_is_tolled [.v 0, .v 1, .v 7]) [.asg 8 (.k (.str "day"))] [],
      .ite (.cmp .is (.v 8) (.k .non)) [.setIx 4 (.v 7) (.k (.bl true))] [],
      .ex (.mm .append 3 [.v 8])]) [.val (fr w ds), .val (rl kind n b), .val (.lst (cs.map cD)), .own (.lst []), .own (.dct []), .none, .none, .none, .none] =
      .ok (.next, [.val (fr w ds), .val (rl kind n b), .val (.lst (cs.map cD)), .own (.lst ((st w ds kind n b cs).1.map oD)), .own (.dct (tkD (st w ds kind n b cs).2)), sl o5, sl o6, sl o7, sl o8]) := by
    rw [ex_forr]
    simp only [evI_e, ev_v, List.getElem?_cons_succ, List.getElem?_cons_zero, MR.bind_ok]
    simp only [kI, deref_val, itemsD, MR.bind_ok, slotOf, lockSlot, unlockSlot]
    refine forL_inv (n := 0) (I := fun k ρ => ∃ o5 o6 o7 o8 : Option D, ρ = [.val (fr w ds), .val (rl kind n b), .val (.lst (cs.map cD)), .own (.lst ((st w ds kind n b (cs.take k)).1.map oD)), .own (.dct (tkD (st w ds kind n b (cs.take k)).2)), sl o5, sl o6, sl o7, sl o8]) (Q := fun o => ∃ o5 o6 o7 o8 : Option D, (o.bind fun q => .ok (q.1, q.2)) = .ok (.next, [.val (fr w ds), .val (rl kind n b), .val (.lst (cs.map cD)), .own (.lst ((st w ds kind n b cs).1.map oD)), .own (.dct (tkD (st w ds kind n b cs).2)), sl o5, sl o6, sl o7, sl o8]))
      ⟨none, none, none, none, rfl⟩ ?_ ?_
    · rintro k ρ x - hx ⟨o5, o6, o7, o8, rfl⟩
      rw [Nat.sub_zero, List.getElem?_map, Option.map_eq_some_iff] at hx
      obtain ⟨c1, hc1, rfl⟩ := hx
      have hk : k < cs.length := (List.getElem?_eq_some_iff.mp hc1).1
      have e1 : cs.take (k + 1) = cs.take k ++ [c1] := by rw [List.take_add_one, hc1]; rfl
      rw [e1, st_snoc]
      obtain ⟨l1, l2⟩ := st_len (w := w) (ds := ds) (kind := kind) (n := n) (b := b) k (cs.take k) (by rw [List.length_take]; omega)
      generalize st w ds kind n b (cs.take k) = s at *
      obtain ⟨ws, t⟩ := s
      have hln := c.ln
      have l3 : ws.length < line := by rw [line_eq]; simp at l1; omega
      have l4 : (tkD t).length < line := by rw [line_eq]; simp [tkD] at l2 ⊢; omega
      have hfd := find_tk t c1.2.2
      refine ⟨[.val (fr w ds), .val (rl kind n b), .val (.lst (cs.map cD)), .own (.lst ((stp w ds kind n b (ws, t) c1).1.map oD)), .own (.dct (tkD (stp w ds kind n b (ws, t) c1).2)), .val (.str c1.1), .val (.int c1.2.1), .val (.int c1.2.2), .val (oD (wd w ds kind n b t c1))], .inl ?_, ⟨some _, some _, some _, some _, rfl⟩⟩
      have hset : setT (.tup [.n 5, .n 6, .n 7]) (cD c1) [.val (fr w ds), .val (rl kind n b), .val (.lst (cs.map cD)), .own (.lst (ws.map oD)), .own (.dct (tkD t)), sl o5, sl o6, sl o7, sl o8] =
          .ok [.val (fr w ds), .val (rl kind n b), .val (.lst (cs.map cD)), .own (.lst (ws.map oD)), .own (.dct (tkD t)), .val (.str c1.1), .val (.int c1.2.1), .val (.int c1.2.2), sl o8] := by
        cases o5 <;> cases o6 <;> cases o7 <;> simp [cD, sl]
      show (setT (.tup [.n 5, .n 6, .n 7]) (cD c1) [.val (fr w ds), .val (rl kind n b), .val (.lst (cs.map cD)), .own (.lst (ws.map oD)), .own (.dct (tkD t)), sl o5, sl o6, sl o7, sl o8]).bind _ = _
      rw [hset, MR.bind_ok]
      have hput : ∀ s, put [.val (fr w ds), .val (rl kind n b), .val (.lst (cs.map cD)), .own (.lst (ws.map oD)), .own (.dct (tkD t)), .val (.str c1.1), .val (.int c1.2.1), .val (.int c1.2.2), sl o8] 8 s =
          .ok [.val (fr w ds), .val (rl kind n b), .val (.lst (cs.map cD)), .own (.lst (ws.map oD)), .own (.dct (tkD t)), .val (.str c1.1), .val (.int c1.2.1), .val (.int c1.2.2), s] := fun s => by
        cases o8 <;> simp [sl]
      have hin : inD (.int c1.2.2) (.dct (tkD t)) = some (t.contains c1.2.2) := by
        show some ((findK (tkD t) (Sum.inl c1.2.2)).isSome) = _
        rw [hfd]
      clear hput
      have ki : ∀ i : Int, (D.int i).key? = some (Sum.inl i) := fun _ => rfl
      have isn : cmpR .is .non .non = some (.val (.bl true)) := rfl
      have iss : ∀ x, cmpR .is (.str x) .non = some (.val (.bl false)) := fun _ => rfl
      have m1 : t.contains c1.2.2 = true → c1.2.2 ∈ t := fun h => by simpa using h
      have m0 : t.contains c1.2.2 = false → ¬ c1.2.2 ∈ t := fun h => by simpa using h
      cases h1 : t.contains c1.2.2 <;> (first | (have h1' := m0 h1) | (have h1' := m1 h1)) <;> cases h2 : far w ds kind n c1.2.1 c1.2.2 <;> cases h3 : (b && !wk w ds c1.2.2) <;> cases o8 <;>
        simp [sl, ki, hin, h1, h1', h2, h3, is_far_ok g r.k, is_tolled_ok, D.flat, stp, wd, oD, isn, iss, ownL, kMut, mmD, l3, isOwnS, setIxD, l4, put_tk]
    · rintro ρ ⟨o5, o6, o7, o8, rfl⟩
      refine ⟨o5, o6, o7, o8, ?_⟩
      rw [Nat.zero_add, List.length_map, List.take_length]
      rfl
  obtain ⟨o5, o6, o7, o8, hf⟩ := hf
  simp [fnRun, c_states_of, settle, setSlots, hf]
end K54
end
section
set_option linter.all false
set_option maxRecDepth 100000
namespace K54
open M MR
open PySem (Str)
variable {w ds : List Int} {kind : PySem.Str} {n : Int} {b : Bool}
theorem zipD_map {α β : Type} (f : α → D) (g : β → D) : ∀ (xs : List α) (ys : List β), zipD (xs.map f) (ys.map g) = (xs.zip ys).map fun p => .tup [f p.1, g p.2]
  | [], _ => by simp [zipD]
  | _ :: _, [] => by simp [zipD]
  | x :: xs, y :: ys => by simp [zipD, zipD_map f g xs ys]
/-- calls with their words -/
def zw (w ds : List Int) (kind : Str) (n : Int) (b : Bool) (cs : List Call) : List (Call × Option Str) := cs.zip (st w ds kind n b cs).1
def goodL (w ds : List Int) (kind : Str) (n : Int) (b : Bool) (cs : List Call) : List Str := ((zw w ds kind n b cs).filter fun p => p.2.isNone).map (·.1.1)
def badL (w ds : List Int) (kind : Str) (n : Int) (b : Bool) (cs : List Call) : List (Key × D) := ((zw w ds kind n b cs).filter fun p => p.2.isSome).map fun p => (Sum.inr p.1.1, oD p.2)
def ntD : D → Bool
  | .tup [_, .non] => true
  | _ => false
def nmD : D → D
  | .tup [.tup (x :: _), _] => x
  | _ => .non
def nkD : D → Key
  | .tup [.tup (.str s :: _), _] => .inr s
  | _ => .inl 0
def wdD : D → D
  | .tup [_, x] => x
  | _ => .non
theorem zw_len (cs : List Call) : (zw w ds kind n b cs).length ≤ cs.length := by
  unfold zw; rw [List.length_zip]; exact Nat.min_le_left _ _
theorem zw_fst (cs : List Call) : (zw w ds kind n b cs).map (·.1) = cs := by
  unfold zw
  exact List.map_fst_zip (by rw [(st_len cs.length cs rfl).1]; exact Nat.le_refl _)
theorem is_nn : cmpR .is .non .non = some (.val (.bl true)) := rfl
theorem is_sn (x : Str) : cmpR .is (.str x) .non = some (.val (.bl false)) := rfl
theorem isnot_nn : cmpR .isnot .non .non = some (.val (.bl false)) := rfl
theorem isnot_sn (x : Str) : cmpR .isnot (.str x) .non = some (.val (.bl true)) := rfl
theorem good_calls_ok (g : Good w ds) (r : GoodR kind n) {cs : List Call} (c : GoodC cs) : F_good_calls.run [fr w ds, rl kind n b, .lst (cs.map cD)] = .ok (.own (.lst ((goodL w ds kind n b cs).map .str)), []) := by
  rw [run_good_calls]
  have hI : evI (.zip (.v 2) (.call F_states_of [.v 0, .v 1, .v 2])) [.val (fr w ds), .val (rl kind n b), .val (.lst (cs.map cD)), .none, .none] = .ok (((zw w ds kind n b cs).map fun p => .tup [cD p.1, oD p.2], none), [.val (fr w ds), .val (rl kind n b), .val (.lst (cs.map cD)), .none, .none]) := by
    simp [states_of_ok g r c, D.flat, kI2, zip2D, slot2, zipD_map, zw]
  have hl := ev_lc2n (e := .sub (.v 3) (.k (.int 0))) (i := 3) (j := 4) (c := some (.cmp .is (.v 4) (.k .non))) ntD nmD (by decide) hI (.inl rfl) (.inl rfl) rfl rfl rfl
    (by rw [List.length_map, line_eq]; have := zw_len (w := w) (ds := ds) (kind := kind) (n := n) (b := b) cs; have := c.ln; omega)
    (fun z hz => by obtain ⟨p, _, rfl⟩ := List.mem_map.mp hz; exact ⟨_, _, rfl⟩)
    (fun z hz => by
      obtain ⟨⟨c1, o⟩, _, rfl⟩ := List.mem_map.mp hz
      cases o <;> simp [T2, lockSlot, oD, ntD, is_nn, is_sn])
    (fun z hz _ => by
      obtain ⟨⟨c1, o⟩, _, rfl⟩ := List.mem_map.mp hz
      simp [T2, lockSlot, nmD, cD])
  have e : (((zw w ds kind n b cs).map fun p => D.tup [cD p.1, oD p.2]).filter ntD).map nmD = (goodL w ds kind n b cs).map .str := by
    unfold goodL
    rw [List.filter_map, List.map_map, List.map_map]
    have : (ntD ∘ fun p : Call × Option Str => D.tup [cD p.1, oD p.2]) = fun p => p.2.isNone := by
      funext ⟨c1, o⟩
      cases o <;> rfl
    rw [this]
    rfl
  rw [e] at hl
  simp [fnRun, c_good_calls, check_calls_ok g r c, D.flat, hl]
theorem names_nd {cs : List Call} (c : GoodC cs) (p : Call × Option Str → Bool) : (((zw w ds kind n b cs).filter p).map fun q => (Sum.inr q.1.1 : Key)).Nodup := by
  have h1 : ((zw w ds kind n b cs).map fun q => q.1.1).Nodup := by
    have e : ((zw w ds kind n b cs).map fun q => q.1.1) = ((zw w ds kind n b cs).map (·.1)).map (·.1) := by rw [List.map_map]; rfl
    rw [e, zw_fst]
    exact c.nd
  have h2 : (((zw w ds kind n b cs).filter p).map fun q => q.1.1).Nodup := List.Nodup.sublist (List.Sublist.map _ List.filter_sublist) h1
  have e : (((zw w ds kind n b cs).filter p).map fun q => (Sum.inr q.1.1 : Key)) = (((zw w ds kind n b cs).filter p).map fun q => q.1.1).map (Sum.inr : Str → Key) := by rw [List.map_map]; rfl
  rw [e]
  exact List.Pairwise.map _ (fun a b h e => h (Sum.inr.inj e)) h2
theorem why_bad_ok (g : Good w ds) (r : GoodR kind n) {cs : List Call} (c : GoodC cs) : F_why_bad.run [fr w ds, rl kind n b, .lst (cs.map cD)] = .ok (.own (.dct (badL w ds kind n b cs)), []) := by
  rw [run_why_bad]
  have hI : evI (.zip (.v 2) (.call F_states_of [.v 0, .v 1, .v 2])) [.val (fr w ds), .val (rl kind n b), .val (.lst (cs.map cD)), .none, .none] = .ok (((zw w ds kind n b cs).map fun p => .tup [cD p.1, oD p.2], none), [.val (fr w ds), .val (rl kind n b), .val (.lst (cs.map cD)), .none, .none]) := by
    simp [states_of_ok g r c, D.flat, kI2, zip2D, slot2, zipD_map, zw]
  have hl := ev_dc2n (ck := .sub (.v 3) (.k (.int 0))) (e := .v 4) (i := 3) (j := 4) (c := some (.cmp .isnot (.v 4) (.k .non))) (fun z => !ntD z) nkD wdD (by decide) hI (.inl rfl) (.inl rfl) rfl rfl rfl
    (by rw [List.length_map, line_eq]; have := zw_len (w := w) (ds := ds) (kind := kind) (n := n) (b := b) cs; have := c.ln; omega)
    (fun z hz => by obtain ⟨p, _, rfl⟩ := List.mem_map.mp hz; exact ⟨_, _, rfl⟩)
    (fun z hz => by
      obtain ⟨⟨c1, o⟩, _, rfl⟩ := List.mem_map.mp hz
      cases o <;> simp [T2, lockSlot, oD, ntD, isnot_nn, isnot_sn])
    (fun z hz _ => by
      obtain ⟨⟨c1, o⟩, _, rfl⟩ := List.mem_map.mp hz
      exact ⟨.str c1.1, rfl, by simp [T2, lockSlot, cD]⟩)
    (fun z hz _ => by
      obtain ⟨⟨c1, o⟩, _, rfl⟩ := List.mem_map.mp hz
      simp [T2, lockSlot, wdD])
  have e : (((zw w ds kind n b cs).map fun p => D.tup [cD p.1, oD p.2]).filter fun z => !ntD z) = ((zw w ds kind n b cs).filter fun p => p.2.isSome).map fun p => D.tup [cD p.1, oD p.2] := by
    rw [List.filter_map]
    have : ((fun z => !ntD z) ∘ fun p : Call × Option Str => D.tup [cD p.1, oD p.2]) = fun p => p.2.isSome := by
      funext ⟨c1, o⟩
      cases o <;> rfl
    rw [this]
  rw [e, dcF_nodup (by
    rw [List.map_nil, List.nil_append, List.map_map]
    exact names_nd c _), List.nil_append, List.map_map] at hl
  have e2 : ((zw w ds kind n b cs).filter fun p => p.2.isSome).map ((fun x => (nkD x, wdD x)) ∘ fun p => D.tup [cD p.1, oD p.2]) = badL w ds kind n b cs := rfl
  rw [e2] at hl
  simp [fnRun, c_why_bad, check_calls_ok g r c, D.flat, hl]
/-! ### checkmore -/
theorem need_free_ok (g : Good w ds) : F_need_free.run [fr w ds] = .ok (.val .non, []) := by
  rw [run_need_free]
  have hl1 := ev_lc1 (e := .isi (.v 1) [.tuple]) (it := .e (.v 0)) (i := 1) (c := none) (ρ := [.val (fr w ds), .none, .none]) (xs := [.tup (w.map .int), .tup (ds.map .int)]) (o := none) (fun _ => true) (fun _ => .bl true) (by simp [fr, kI, itemsD, slotOf]) (.inl rfl) rfl rfl (by simp [line_eq]) (fun z hz => evC_none _) (fun z hz _ => by
    simp at hz
    rcases hz with rfl | rfl <;> simp [lockSlot])
  have hl2 := ev_lc1 (e := .call F_is_within [.v 2, .k (.int 0), .bin .sub (.gl "WEEK_checkmore" (.int 7)) (.k (.int 1))]) (it := .e (.sub (.v 0) (.k (.int 0)))) (i := 2) (c := none) (ρ := [.val (fr w ds), .none, .none]) (xs := w.map .int) (o := none) (fun _ => true) (fun _ => .bl true) (by simp [fr, kI, itemsD, slotOf]) (.inl rfl) rfl rfl (by rw [line_eq, List.length_map]; have := g.w3; omega) (fun z hz => evC_none _) (fun z hz _ => by
    obtain ⟨x, hx, rfl⟩ := List.mem_map.mp hz
    have := g.w1 x hx
    simp [lockSlot, D.flat, this])
  have hl3 := ev_lc1 (e := .call F_is_within [.v 2, .k (.int 0), .gl "LAST_DAY_checkmore" (.int 100000)]) (it := .e (.sub (.v 0) (.k (.int 1)))) (i := 2) (c := none) (ρ := [.val (fr w ds), .none, .none]) (xs := ds.map .int) (o := none) (fun _ => true) (fun _ => .bl true) (by simp [fr, kI, itemsD, slotOf]) (.inl rfl) rfl rfl (by rw [line_eq, List.length_map]; have := g.d3; omega) (fun z hz => evC_none _) (fun z hz _ => by
    obtain ⟨x, hx, rfl⟩ := List.mem_map.mp hz
    have := g.d1 x hx
    simp [lockSlot, D.flat, this])
  have a1 := are_ascending_ok g.w2 (by have := g.w3; omega)
  have a2 := are_ascending_ok g.d2 (by have := g.d3; omega)
  have h5 : (w.length : Int) < 7 := by have := g.w3; omega
  have h6 : ¬ (100 : Int) < ds.length := by have := g.d3; omega
  simp only [fr] at hl1 hl2 hl3
  have all2 : biD .all [.lst [.bl true, .bl true]] = some (.val (.bl true)) := rfl
  simp [fnRun, c_need_free, fr, all2, hl1, hl2, hl3, D.flat, a1, a2, h5, h6, Function.comp_def]
theorem is_rule_ok (r : GoodR kind n) : F_is_rule.run [rl kind n b] = .ok (.val (.bl true), []) := by
  rw [run_is_rule]
  have e : inD (.str kind) (.tup [.str "days", .str "working"]) = some true := by
    rcases r.k with rfl | rfl <;> kernel_rfl
  simp [fnRun, c_is_rule, rl, e, r.n1, r.n2]
theorem works_cm (w ds : List Int) (day : Int) : F_works_checkmore.run [fr w ds, .int day] = .ok (.val (.bl (wk w ds day)), []) := by
  rw [run_works_checkmore]
  by_cases h : day % 7 ∈ w <;> simp [fnRun, c_works, fr, h, wk]
/-- working days strictly between -/
def bw (w ds : List Int) (a b : Int) : Int := cw w ds (a + 1) (b - a - 1).toNat
def fw (w ds : List Int) (kind : Str) (n a b : Int) : Bool := if kind = "days" then decide (n ≤ b - a - 1) else decide (n ≤ bw w ds a b)
def kw (w ds : List Int) (kind : Str) (n : Int) (b : Bool) (x y : Int) : Bool := !(b && !wk w ds y) && fw w ds kind n x y
/-- the count of checkmore's keeps: it ends at m turns -/
theorem keeps_cm (g : Good w ds) (r : GoodR kind n) {x y : Int} (hx : 0 ≤ x) (hy : y ≤ 100000) : F_keeps_checkmore.run [fr w ds, rl kind n b, .int x, .int y] = .ok (.val (.bl (kw w ds kind n b x y)), []) := by
  rw [run_keeps_checkmore]
  cases ht : (b && !wk w ds y) with
  | true =>
    have hb : b = true := by cases b <;> simp_all
    have hw : wk w ds y = false := by cases h : wk w ds y <;> simp_all
    subst hb
    simp [fnRun, c_keeps, rl, D.flat, works_cm, hw, kw]
  | false =>
    have h0 : ∀ ρ : Env, True := fun _ => trivial
    by_cases hk : kind = "days"
    · subst hk
      have e : (!decide (y - x - 1 < n)) = decide (n ≤ y - x - 1) := by by_cases h : n ≤ y - x - 1 <;> simp [h] <;> omega
      cases hb : b with
      | false => subst hb; simp [fnRun, c_keeps, rl, D.flat, kw, fw, e]
      | true =>
        subst hb
        have hw : wk w ds y = true := by simpa using ht
        simp [fnRun, c_keeps, rl, D.flat, works_cm, hw, kw, fw, e]
    · have hkw : kind = "working" := r.k.resolve_left hk
      subst hkw
      -- the turn at which the loop ends
      have hex : ∃ m : Nat, m ≤ (y - x - 1).toNat ∧ (∀ q, q < m → (cw w ds (x + 1) q : Int) < n) ∧ (m = (y - x - 1).toNat ∨ n ≤ (cw w ds (x + 1) m : Int)) := by
        have gen : ∀ N : Nat, ∃ m : Nat, m ≤ N ∧ (∀ q, q < m → (cw w ds (x + 1) q : Int) < n) ∧ (m = N ∨ n ≤ (cw w ds (x + 1) m : Int)) := by
          intro N
          induction N with
          | zero => exact ⟨0, Nat.le_refl _, fun q hq => absurd hq (Nat.not_lt_zero _), .inl rfl⟩
          | succ N ih =>
            obtain ⟨m, h1, h2, h3⟩ := ih
            by_cases hn : n ≤ (cw w ds (x + 1) m : Int)
            · exact ⟨m, by omega, h2, .inr hn⟩
            · have : m = N := h3.resolve_right hn
              subst this
              refine ⟨m + 1, Nat.le_refl _, fun q hq => ?_, .inl rfl⟩
              by_cases e : q = m
              · subst e; omega
              · exact h2 q (by omega)
        exact gen _
      obtain ⟨m, m1, m2, m3⟩ := hex
      have hw : ∀ s, exec (.whil (.and [.cmp .lt (.v 8) (.v 3), .cmp .lt (.v 7) (.v 5)]) [.aug 7 .add (.ite (.call F_works_checkmore [.v 0, .v 8]) (.k (.int 1)) (.k (.int 0))),
      .aug 8 .add (.k (.int 1))]) [.val (fr w ds), .val s, .val (.int x), .val (.int y), .val (.str "working"), .val (.int n), .val (.bl b), .val (.int 0), .val (.int (x + 1))] =
        .ok (.next, [.val (fr w ds), .val s, .val (.int x), .val (.int y), .val (.str "working"), .val (.int n), .val (.bl b), .val (.int (cw w ds (x + 1) m)), .val (.int (x + 1 + m))]) := by
        intro s
        rw [ex_whil]
        have := whileL_k (test := fun ρ => evT (.and [.cmp .lt (.v 8) (.v 3), .cmp .lt (.v 7) (.v 5)]) ρ) (body := fun ρ => execs [.aug 7 .add (.ite (.call F_works_checkmore [.v 0, .v 8]) (.k (.int 1)) (.k (.int 0))), .aug 8 .add (.k (.int 1))] ρ)
          (env := fun j => [.val (fr w ds), .val s, .val (.int x), .val (.int y), .val (.str "working"), .val (.int n), .val (.bl b), .val (.int (cw w ds (x + 1) j)), .val (.int (x + 1 + j))]) (k := m) (f := fuel) (j := 0) (fuel_gt (by omega))
          (fun q _ hq => by
            have e1 : x + 1 + (q : Int) < y := by omega
            have e2 := m2 q (by omega)
            have e3 := cw_succ w ds (x + 1) q
            cases e : wk w ds (x + 1 + q) with
            | true =>
              rw [e] at e3
              simp [works_cm, D.flat, e1, e2, e, e3, isSet, augD]
              omega
            | false =>
              rw [e] at e3
              simp [works_cm, D.flat, e1, e2, e, e3, isSet, augD]
              omega)
          (by
            by_cases e1 : x + 1 + (m : Int) < y
            · have e2 : ¬ (cw w ds (x + 1) m : Int) < n := by omega
              simp [e1, e2]
            · simp [e1])
        simpa [cw_zero] using this
      have hfin : (!decide ((cw w ds (x + 1) m : Int) < n)) = decide (n ≤ bw w ds x y) := by
        have hm := cw_mono w ds (x + 1) m1
        unfold bw
        by_cases h : n ≤ (cw w ds (x + 1) m : Int)
        · have h2 : n ≤ (cw w ds (x + 1) (y - x - 1).toNat : Int) := by omega
          have h3 : ¬ (cw w ds (x + 1) m : Int) < n := by omega
          rw [decide_eq_true h2, decide_eq_false h3]; rfl
        · have h1 := m3.resolve_right h
          rw [← h1]
          have h3 : (cw w ds (x + 1) m : Int) < n := by omega
          rw [decide_eq_false h, decide_eq_true h3]; rfl
      cases hb : b with
      | false => subst hb; simp [fnRun, c_keeps, rl, D.flat, kw, fw, hw, hfin, wne, settle, setSlots]
      | true =>
        subst hb
        have hw' : wk w ds y = true := by simpa using ht
        simp [fnRun, c_keeps, rl, D.flat, works_cm, hw', kw, fw, hw, hfin, wne, settle, setSlots]
end K54
end
section
set_option linter.all false
set_option maxRecDepth 100000
namespace K54
open M MR
open PySem (Str)
variable {w ds : List Int} {kind : PySem.Str} {n : Int} {b : Bool}
/-! ### counting, plain -/
theorem filter_or {l : List Int} {x : Int} {p : Int → Bool} (h : p x = false) : (l.filter fun k => (k == x) || p k).length = (l.filter fun k => k == x).length + (l.filter p).length := by
  induction l with
  | nil => rfl
  | cons y l ih =>
    by_cases e : y = x
    · subst e
      simp [h, ih]; omega
    · have e2 : (y == x) = false := by simpa using e
      cases hp : p y <;> simp [e, e2, hp, ih] <;> omega
theorem one_in : ∀ {N : Nat} {lo x : Int}, lo ≤ x → x < lo + N → ((rangeI lo N).filter fun k => k == x).length = 1
  | 0, lo, x, h1, h2 => by omega
  | N + 1, lo, x, h1, h2 => by
    have none : ∀ {M : Nat} {a : Int}, x < a → ((rangeI a M).filter fun k => k == x) = [] := fun {M a} h => by
      rw [List.filter_eq_nil_iff]
      intro k hk
      have := (mem_rangeI.mp hk).1
      simp; omega
    rw [rangeI]
    by_cases e : lo = x
    · subst e
      rw [List.filter_cons_of_pos (by simp), none (by omega)]
      rfl
    · rw [List.filter_cons_of_neg (by simpa using e)]
      exact one_in (by omega) (by omega)
theorem cnt_mem {N : Nat} {lo : Int} : ∀ {w : List Int}, w.Nodup → (∀ x ∈ w, lo ≤ x ∧ x < lo + N) → ((rangeI lo N).filter fun k => w.contains k).length = w.length
  | [], _, _ => by simp
  | x :: w, h, h2 => by
    have hx : w.contains x = false := by
      have := (List.nodup_cons.mp h).1
      simpa using this
    have e : (fun k => (x :: w).contains k) = fun k : Int => (k == x) || w.contains k := by
      funext k; rw [List.contains_cons]
    rw [e, filter_or hx, one_in (h2 x List.mem_cons_self).1 (h2 x List.mem_cons_self).2, cnt_mem (List.nodup_cons.mp h).2 fun y hy => h2 y (List.mem_cons_of_mem _ hy), List.length_cons]
    omega
theorem filter_not {l : List Int} {p : Int → Bool} : (l.filter fun k => !p k).length + (l.filter p).length = l.length := by
  induction l with
  | nil => rfl
  | cons y l ih => cases hp : p y <;> simp [hp] <;> omega
theorem nodup_lt {l : List Int} (h : l.Pairwise (· < ·)) : l.Nodup := h.imp fun hab => by omega
theorem cnt_lt {q : Int → Bool} {d : Int} : ∀ {ds : List Int}, ds.Nodup → (ds.filter fun x => decide (x < d + 1) && q x).length = (ds.filter fun x => decide (x < d) && q x).length + (if ds.contains d && q d then 1 else 0)
  | [], _ => by simp
  | x :: ds, h => by
    have ih := cnt_lt (q := q) (d := d) (List.nodup_cons.mp h).2
    have hx := (List.nodup_cons.mp h).1
    by_cases e : x = d
    · subst e
      have e1 : ds.contains x = false := by simpa using hx
      rw [e1] at ih
      have e0 : x < x + 1 := by omega
      rw [List.contains_cons, beq_self_eq_true, Bool.true_or, Bool.true_and]
      rw [Bool.false_and] at ih
      cases hq : q x
      · rw [List.filter_cons_of_neg (by simp [hq]), List.filter_cons_of_neg (by simp), ih]
      · rw [List.filter_cons_of_pos (by simp [hq, e0]), List.filter_cons_of_neg (by simp), List.length_cons, ih]
        simp
    · have e1 : (x < d + 1) = (x < d) := by apply propext; omega
      have e2 : (d == x) = false := by simp; omega
      rw [List.contains_cons, e2, Bool.false_or]
      rw [List.filter_cons, List.filter_cons]
      simp only [e1]
      split
      · rw [List.length_cons, List.length_cons, ih]; omega
      · exact ih
theorem wb_succ (g : Good w ds) (d : Int) : wb w ds (d + 1) = wb w ds d + (if wk w ds d then 1 else 0) := by
  have hd := cnt_lt (q := fun x => !w.contains (x % 7)) (d := d) (nodup_lt g.d2)
  have key : (d + 1) / 7 * (7 - (w.length : Int)) + ((rangeI 0 ((d + 1) % 7).toNat).filter fun k => !w.contains k).length = d / 7 * (7 - (w.length : Int)) + ((rangeI 0 (d % 7).toNat).filter fun k => !w.contains k).length + (if w.contains (d % 7) then 0 else 1) := by
    have one : (((rangeI 0 ((d % 7).toNat + 1)).filter fun k => !w.contains k).length : Int) = ((rangeI 0 (d % 7).toNat).filter fun k => !w.contains k).length + (if w.contains (d % 7) then 0 else 1) := by
      rw [rangeI_succ, List.filter_append, List.length_append]
      have : (0 : Int) + ((d % 7).toNat : Int) = d % 7 := by omega
      rw [this]
      cases h : w.contains (d % 7)
      · rw [List.filter_cons_of_pos (by rw [h]; rfl)]; simp
      · rw [List.filter_cons_of_neg (by rw [h]; decide)]; simp
    by_cases h6 : d % 7 = 6
    · have e1 : (d + 1) / 7 = d / 7 + 1 := by omega
      have e2 : (d + 1) % 7 = 0 := by omega
      rw [e1, e2]
      have c1 := cnt_mem (N := 7) (lo := 0) (nodup_lt g.w2) fun x hx => by have := g.w1 x hx; omega
      have c2 := filter_not (l := rangeI 0 7) (p := fun k => w.contains k)
      rw [rangeI_len] at c2
      have e3 : (d % 7).toNat + 1 = 7 := by omega
      rw [e3] at one
      rw [Int.add_mul, Int.add_assoc (d / 7 * _), Int.add_assoc (d / 7 * _), ← one]
      simp [rangeI] at *
      omega
    · have e1 : (d + 1) / 7 = d / 7 := by omega
      have e2 : ((d + 1) % 7).toNat = (d % 7).toNat + 1 := by omega
      rw [e1, e2, one]; omega
  unfold wb
  rw [key, hd]
  unfold wk
  cases h1 : w.contains (d % 7) <;> cases h2 : ds.contains d <;> simp <;> omega
theorem wb_add (g : Good w ds) (a : Int) : ∀ j : Nat, wb w ds (a + j) = wb w ds a + cw w ds a j
  | 0 => by simp [cw_zero]
  | j + 1 => by
    have h := wb_succ g (a + j)
    have e : a + ((j + 1 : Nat) : Int) = a + j + 1 := by omega
    rw [e, h, wb_add g a j, cw_succ]
    split <;> simp <;> omega
theorem bt_bw (g : Good w ds) (x y : Int) : bt w ds x y = bw w ds x y := by
  unfold bt bw
  by_cases h : x < y
  · have e : x + 1 + (((y - x - 1).toNat : Nat) : Int) = y := by omega
    have := wb_add g (x + 1) (y - x - 1).toNat
    rw [e] at this
    rw [if_pos h]
    split <;> omega
  · rw [if_neg h]
    have : (y - x - 1).toNat = 0 := by omega
    rw [this, cw_zero]; rfl
theorem far_fw (g : Good w ds) (x y : Int) : far w ds kind n x y = fw w ds kind n x y := by
  unfold far fw; rw [bt_bw g]
theorem kp_kw (g : Good w ds) (x y : Int) : kp w ds kind n b x y = kw w ds kind n b x y := by
  unfold kp kw; rw [far_fw g]
theorem fw_mono {x y z : Int} (h : y ≤ z) (h1 : fw w ds kind n x y = true) : fw w ds kind n x z = true := by
  unfold fw at *
  split
  · rename_i hk
    rw [if_pos hk] at h1
    simp at *; omega
  · rename_i hk
    rw [if_neg hk] at h1
    unfold bw at *
    have := cw_mono w ds (x + 1) (j := (y - x - 1).toNat) (k := (z - x - 1).toNat) (by omega)
    simp only [decide_eq_true_eq] at *
    omega
theorem fw_ahead (hn : 1 ≤ n) {x y : Int} (h : fw w ds kind n x y = true) : x + 1 < y := by
  unfold fw at h
  split at h
  · simp at h; omega
  · unfold bw at h
    by_cases e : x + 1 < y
    · exact e
    · have : (y - x - 1).toNat = 0 := by omega
      rw [this, cw_zero] at h
      simp at h; omega
end K54
end
section
set_option linter.all false
set_option maxRecDepth 100000
namespace K54
open M MR
open PySem (Str)
variable {w ds : List Int} {kind : PySem.Str} {n : Int} {b : Bool}
theorem ex_down (P : Int → Bool) : ∀ {k : Nat} {x m : Int}, m = x + 1 + k → ∃ a, x ≤ a ∧ a < m ∧ (∀ y, a < y → y < m → P y = true) ∧ (a = x ∨ P a = false)
  | 0, x, m, h => ⟨x, Int.le_refl _, by omega, fun y h1 h2 => by omega, .inl rfl⟩
  | k + 1, x, m, h => by
    cases hp : P (m - 1) with
    | false => exact ⟨m - 1, by omega, by omega, fun y h1 h2 => by omega, .inr hp⟩
    | true =>
      obtain ⟨a, h1, h2, h3, h4⟩ := ex_down P (k := k) (x := x) (m := m - 1) (by omega)
      refine ⟨a, h1, by omega, fun y h5 h6 => ?_, h4⟩
      by_cases e : y = m - 1
      · subst e; exact hp
      · exact h3 y h5 (by omega)
theorem kw_ahead (hn : 1 ≤ n) {x y : Int} (h : kw w ds kind n b x y = true) : x + 1 < y := by
  unfold kw at h
  rw [Bool.and_eq_true] at h
  exact fw_ahead hn h.2
theorem takes_meeting_ok (g : Good w ds) (r : GoodR kind n) {x d m : Int} (hx : 0 ≤ x ∧ x ≤ 100000) (hm : 0 ≤ m ∧ m ≤ 100000) (h3 : kw w ds kind n b x d = true) (h4 : ∀ y, x < y → y < d → kw w ds kind n b x y = false) :
    F_takes_meeting.run [fr w ds, rl kind n b, .int x, .int m] = .ok (.val (.bl (decide (m = d))), []) := by
  rw [run_takes_meeting]
  have hk := keeps_cm (b := b) g r hx.1 hm.2
  cases e : kw w ds kind n b x m with
  | false =>
    rw [e] at hk
    have ne : m ≠ d := fun z => by subst z; rw [h3] at e; cases e
    simp [fnRun, c_takes_meeting, need_free_ok g, is_rule_ok r, D.flat, hx, hm, hk, ne]
  | true =>
    rw [e] at hk
    have hxm := kw_ahead r.n1 e
    have hxd := kw_ahead r.n1 h3
    obtain ⟨a, a1, a2, a3, a4⟩ := ex_down (fun y => b && !wk w ds y) (k := (m - x - 1).toNat) (x := x) (m := m) (by omega)
    obtain ⟨k, rfl⟩ : ∃ k : Nat, a = m - 1 - k := ⟨(m - 1 - a).toNat, by omega⟩
    have hka := keeps_cm (b := b) g r (x := x) (y := m - 1 - k) hx.1 (by omega)
    have hw : exec (.whil (.and [.cmp .gt (.v 4) (.v 2), .sub (.v 1) (.k (.int 2)), .not (.call F_works_checkmore [.v 0, .v 4])]) [.aug 4 .sub (.k (.int 1))]) [.val (fr w ds), .val (rl kind n b), .val (.int x), .val (.int m), .val (.int (m - 1))] =
        .ok (.next, [.val (fr w ds), .val (rl kind n b), .val (.int x), .val (.int m), .val (.int (m - 1 - k))]) := by
      rw [ex_whil]
      have := whileL_k (test := fun ρ => evT (.and [.cmp .gt (.v 4) (.v 2), .sub (.v 1) (.k (.int 2)), .not (.call F_works_checkmore [.v 0, .v 4])]) ρ) (body := fun ρ => execs [.aug 4 .sub (.k (.int 1))] ρ)
        (env := fun j => [.val (fr w ds), .val (rl kind n b), .val (.int x), .val (.int m), .val (.int (m - 1 - j))]) (k := k) (f := fuel) (j := 0) (fuel_gt (by omega))
        (fun q _ hq => by
          have e1 := a3 (m - 1 - q) (by omega) (by omega)
          rw [Bool.and_eq_true] at e1
          have e2 : x < m - 1 - q := by omega
          have e3 : wk w ds (m - 1 - q) = false := by simpa using e1.2
          have e4 := e1.1
          subst e4
          simp [works_cm, D.flat, rl, e2, e3, isSet, augD]
          omega)
        (by
          rcases a4 with e1 | e1
          · have e2 : ¬ x < m - 1 - (k : Int) := by omega
            simp [e2]
          · by_cases e2 : x < m - 1 - (k : Int)
            · cases hb : b with
              | false => subst hb; simp [e2, rl]
              | true =>
                subst hb
                have e3 : wk w ds (m - 1 - k) = true := by simpa using e1
                simp [e2, rl, works_cm, D.flat, e3]
            · simp [e2])
      simpa using this
    have fin : (!decide (x < m - 1 - (k : Int)) || !kw w ds kind n b x (m - 1 - k)) = decide (m = d) := by
      by_cases hmd : m = d
      · subst hmd
        by_cases e2 : x < m - 1 - (k : Int)
        · simp [h4 _ e2 (by omega)]
        · simp [e2]
      · have hd : d < m := by
          rcases Int.lt_trichotomy d m with h | h | h
          · exact h
          · exact absurd h.symm hmd
          · have := h4 m (by omega) h
            rw [e] at this; cases this
        have h3' := h3
        unfold kw at h3'
        rw [Bool.and_eq_true] at h3'
        have hda : d ≤ m - 1 - k := by
          by_cases z : d ≤ m - 1 - k
          · exact z
          · have := a3 d (by omega) hd
            rw [this] at h3'; cases h3'.1
        have e2 : x < m - 1 - (k : Int) := by omega
        have e3 : kw w ds kind n b x (m - 1 - k) = true := by
          unfold kw
          rw [a4.resolve_left (by omega), fw_mono hda h3'.2]; rfl
        simp [e2, e3, hmd]
    by_cases e2 : x < m - 1 - (k : Int)
    · simp only [e2, decide_true, Bool.not_true, Bool.false_or] at fin
      simp [fnRun, c_takes_meeting, need_free_ok g, is_rule_ok r, D.flat, hx, hm, hk, hw, e2, hka, fin]
    · simp only [e2, decide_false, Bool.not_false, Bool.true_or] at fin
      simp [fnRun, c_takes_meeting, need_free_ok g, is_rule_ok r, D.flat, hx, hm, hk, hw, e2, ← fin]
theorem takes_none (g : Good w ds) (r : GoodR kind n) {x : Int} (hx : 0 ≤ x ∧ x ≤ 100000) : F_takes_meeting.run [fr w ds, rl kind n b, .int x, .non] = .ok (.val (.bl false), []) := by
  rw [run_takes_meeting]
  have : F_is_within.run [.non, .int 0, .int 100000] = .ok (.val (.bl false), []) := by kernel_rfl
  simp [fnRun, c_takes_meeting, need_free_ok g, is_rule_ok r, D.flat, hx, this]
end K54
end
section
set_option linter.all false
set_option maxRecDepth 100000
/-! MRun3: a dict comprehension with any target. -/
namespace MR
open M
open PySem (Str)
theorem ev_dcG {ck e : CE} {it : CI} {t : CT} {own : List Nat} {c : Option CE} {ρ : Env} {xs : List D} {o : Option Nat} (P : Env → Prop) (T : D → Env) (p : D → Bool) (kf : D → Key) (vf : D → D) (hI : evI it ρ = .ok ((xs, o), ρ))
    (h0 : P (lockSlot ρ o)) (hset : ∀ ρ', P ρ' → ∀ x ∈ xs, (wipe own ρ').bind (setT t x) = .ok (T x)) (hP : ∀ x ∈ xs, P (T x)) (hb : ∀ ρ', P ρ' → back ρ own ρ' = .ok (lockSlot ρ o)) (hu : unlockSlot ρ (lockSlot ρ o) o = ρ) (hl : xs.length ≤ line)
    (ht : ∀ x ∈ xs, evC c (T x) = .ok (p x, T x)) (hk : ∀ x ∈ xs, p x = true → ∃ kd, kd.key? = some (kf x) ∧ (ev ck (T x)).bind (fun r => freeze r.2 r.1) = .ok (kd, T x))
    (he : ∀ x ∈ xs, p x = true → (ev e (T x)).bind (fun r => freeze r.2 r.1) = .ok (vf x, T x)) :
    ev (.dc ck e t it own c) ρ = .ok (.own (.dct (dcF kf vf [] (xs.filter p))), ρ) := by
  obtain ⟨ρ', hρ', q⟩ := dcL_gen (t := t) (test := fun ρ => evC c ρ) (ke := fun ρ => (ev ck ρ).bind fun r => (freeze r.2 r.1).bind fun r' => (ev e r'.2).bind fun s => (freeze s.2 s.1).bind fun s' => .ok ((r'.1, s'.1), s'.2)) (own := own) (T := T) (p := p) (kf := kf) (vf := vf) (xs := xs) (acc := []) (P := P) h0 (by simpa using hl)
    hset hP ht (fun x hx hp => by
      obtain ⟨kd, h1, h2⟩ := hk x hx hp
      have h3 := he x hx hp
      refine ⟨kd, h1, ?_⟩
      cases h4 : ev ck (T x) with
      | stuck => rw [h4] at h2; cases h2
      | exc _ _ => rw [h4] at h2; cases h2
      | ok r =>
        rw [h4] at h2
        have h2 : freeze r.2 r.1 = .ok (kd, T x) := h2
        rw [bind_ok, h2, bind_ok]
        cases h5 : ev e (T x) with
        | stuck => rw [h5] at h3; cases h3
        | exc _ _ => rw [h5] at h3; cases h3
        | ok r2 =>
          rw [h5] at h3
          have h3 : freeze r2.2 r2.1 = .ok (vf x, T x) := h3
          simp only [h5]
          rw [bind_ok, h3, bind_ok])
  simp only [ev]
  rw [hI, bind_ok]
  simp only
  rw [q]
  simp only [noexc]
  rw [bind_ok, hb ρ' hρ', bind_ok, hu]
/-- for, with an invariant -/
theorem ex_forr_inv {t : CT} {it : CI} {body : List CS} {ρ ρ₁ : Env} {xs : List D} (hI : evI it ρ = .ok ((xs, none), ρ₁)) (I : Nat → Env → Prop) (h0 : I 0 ρ₁)
    (hs : ∀ k ρ x, xs[k]? = some x → I k ρ → ∃ ρ', ((setT t x ρ).bind (fun ρ => execs body ρ) = .ok (.next, ρ') ∨ (setT t x ρ).bind (fun ρ => execs body ρ) = .ok (.cont, ρ')) ∧ I (k + 1) ρ') : ∃ ρ', exec (.forr t it body) ρ = .ok (.next, ρ') ∧ I xs.length ρ' := by
  have := forL_inv (t := t) (body := fun ρ => execs body ρ) (I := I) (Q := fun o => ∃ ρ', o = .ok (.next, ρ') ∧ I xs.length ρ') (xs := xs) (n := 0) (ρ := ρ₁) h0 (fun k ρ x _ hx h => hs k ρ x (by simpa using hx) h) (fun ρ h => ⟨ρ, rfl, by simpa using h⟩)
  obtain ⟨ρ', h1, h2⟩ := this
  refine ⟨ρ', ?_, h2⟩
  rw [ex_forr, hI, bind_ok]
  simp only [lockSlot, unlockSlot]
  rw [h1, bind_ok]
/-- for, walking a slot's own list -/
theorem ex_forr_own {t : CT} {it : CI} {body : List CS} {ρ ρ₁ : Env} {xs : List D} {i : Nat} {d : D} (hI : evI it ρ = .ok ((xs, some i), ρ₁)) (hi : ρ₁[i]? = some (.own d)) (I : Nat → Env → Prop) (h0 : I 0 (ρ₁.set i (.lck d)))
    (hs : ∀ k ρ x, xs[k]? = some x → I k ρ → ∃ ρ', ((setT t x ρ).bind (fun ρ => execs body ρ) = .ok (.next, ρ') ∨ (setT t x ρ).bind (fun ρ => execs body ρ) = .ok (.cont, ρ')) ∧ I (k + 1) ρ')
    (hk : ∀ k ρ, I k ρ → ρ[i]? = some (.lck d)) : ∃ ρ', exec (.forr t it body) ρ = .ok (.next, ρ'.set i (.own d)) ∧ I xs.length ρ' := by
  have := forL_inv (t := t) (body := fun ρ => execs body ρ) (I := I) (Q := fun o => ∃ ρ', o = .ok (.next, ρ') ∧ I xs.length ρ') (xs := xs) (n := 0) h0 (fun k ρ x _ hx h => hs k ρ x (by simpa using hx) h) (fun ρ h => ⟨ρ, rfl, by simpa using h⟩)
  obtain ⟨ρ', h1, h2⟩ := this
  refine ⟨ρ', ?_, h2⟩
  have e1 : lockSlot ρ₁ (some i) = ρ₁.set i (.lck d) := by simp only [lockSlot, hi]
  rw [ex_forr, hI, bind_ok]
  simp only
  rw [e1, h1, bind_ok]
  simp only [unlockSlot, hi, hk _ _ h2]
end MR
end
section
set_option linter.all false
set_option maxRecDepth 100000
namespace K54
open M MR
open PySem (Str)
variable {w ds : List Int} {kind : PySem.Str} {n : Int} {b : Bool}
theorem goodL_snoc (cs : List Call) (c : Call) : goodL w ds kind n b (cs ++ [c]) = goodL w ds kind n b cs ++ (if wd w ds kind n b (st w ds kind n b cs).2 c = none then [c.1] else []) := by
  unfold goodL zw
  rw [st_snoc]
  show (((cs ++ [c]).zip ((st w ds kind n b cs).1 ++ [wd w ds kind n b (st w ds kind n b cs).2 c])).filter _).map _ = _
  rw [List.zip_append ((st_len cs.length cs rfl).1.symm), List.filter_append, List.map_append]
  congr 1
  cases h : wd w ds kind n b (st w ds kind n b cs).2 c <;> simp
theorem wd_none (t : List Int) (c : Call) : (wd w ds kind n b t c = none) ↔ (t.contains c.2.2 = false ∧ kp w ds kind n b c.2.1 c.2.2 = true) := by
  unfold wd kp
  cases h1 : t.contains c.2.2 <;> cases h2 : (b && !wk w ds c.2.2) <;> cases h3 : far w ds kind n c.2.1 c.2.2 <;> simp
def tD (names : List Str) : D := .lst (names.map .str)
theorem takes_calls_ok (g : Good w ds) (r : GoodR kind n) {cs : List Call} (c : GoodC cs) {told : D} {res : Bool} (ht : eqD told (tD (goodL w ds kind n b cs)) = some res) :
    F_takes_calls.run [fr w ds, rl kind n b, .lst (cs.map cD), told] = .ok (.val (.bl res), []) := by
  rw [run_takes_calls]
  have h40 : ¬ (40 : Int) < cs.length := by have := c.ln; omega
  -- the first loop
  have hf1 : ∃ o : Option D, exec (.forr (.n 4) (.e (.v 2)) [.ite (.or [.not (.isi (.v 4) [.tuple]), .cmp .ne (.bi .len [.v 4]) (.k (.int 3)), .not (.call F_is_name [.sub (.v 4) (.k (.int 0))])]) [.ret (.k (.bl false))] [],
      .ite (.or [.not (.call F_is_within [.sub (.v 4) (.k (.int 1)), .k (.int 0), .gl "LAST_DAY_checkmore" (.int 100000)]), .not (.call F_is_within [.sub (.v 4) (.k (.int 2)), .k (.int 0), .gl "LAST_DAY_checkmore" (.int 100000)])]) [.ret (.k (.bl false))] []])
      [.val (fr w ds), .val (rl kind n b), .val (.lst (cs.map cD)), .val told, .none, .none, .none, .none, .none, .none, .none] =
      .ok (.next, [.val (fr w ds), .val (rl kind n b), .val (.lst (cs.map cD)), .val told, sl o, .none, .none, .none, .none, .none, .none]) := by
    rw [ex_forr]
    simp only [evI_e, ev_v, List.getElem?_cons_succ, List.getElem?_cons_zero, MR.bind_ok]
    simp only [kI, deref_val, itemsD, MR.bind_ok, slotOf, lockSlot, unlockSlot]
    have := forL_fold (t := .n 4) (body := fun ρ => execs [.ite (.or [.not (.isi (.v 4) [.tuple]), .cmp .ne (.bi .len [.v 4]) (.k (.int 3)), .not (.call F_is_name [.sub (.v 4) (.k (.int 0))])]) [.ret (.k (.bl false))] [],
      .ite (.or [.not (.call F_is_within [.sub (.v 4) (.k (.int 1)), .k (.int 0), .gl "LAST_DAY_checkmore" (.int 100000)]), .not (.call F_is_within [.sub (.v 4) (.k (.int 2)), .k (.int 0), .gl "LAST_DAY_checkmore" (.int 100000)])]) [.ret (.k (.bl false))] []] ρ) (S := Option D) (env := fun o => [.val (fr w ds), .val (rl kind n b), .val (.lst (cs.map cD)), .val told, sl o, .none, .none, .none, .none, .none, .none]) (step := fun _ x => some x) (xs := cs.map cD) (s := none) (fun s x hx => .inl (by
        obtain ⟨c1, hc1, rfl⟩ := List.mem_map.mp hx
        have d1 := c.d1 c1 hc1
        have d2 := c.d2 c1 hc1
        have e1 : c1.2.1 ≤ 100000 := by omega
        have e2 : c1.2.2 ≤ 100000 := by omega
        have hn := is_name_ok _ (c.nm c1 hc1)
        cases s <;> simp [sl, cD, D.flat, hn, d1, d2, e1, e2]))
    exact ⟨_, by
      simp only [sl] at this
      rw [this]
      rfl⟩
  obtain ⟨o4, hf1⟩ := hf1
  have hd := ev_dcG (ck := .v 7) (e := .k (.bl true)) (t := .tup [.n 7, .n 10, .n 10]) (it := .e (.v 2)) (own := [7, 10, 10]) (c := none) (ρ := [.val (fr w ds), .val (rl kind n b), .val (.lst (cs.map cD)), .val told, sl o4, .none, .none, .none, .none, .none, .none]) (xs := cs.map cD) (o := none)
    (fun ρ' => ∃ o7 o10, ρ' = [.val (fr w ds), .val (rl kind n b), .val (.lst (cs.map cD)), .val told, sl o4, .none, .none, sl o7, .none, .none, sl o10])
    (fun x => match x with
      | .tup [a, _, z] => [.val (fr w ds), .val (rl kind n b), .val (.lst (cs.map cD)), .val told, sl o4, .none, .none, .val a, .none, .none, .val z]
      | _ => []) (fun _ => true) kfC (fun _ => .bl true) (by simp [kI, itemsD, slotOf]) ⟨none, none, rfl⟩
    (fun ρ' ⟨o7, o10, e⟩ x hx => by
      obtain ⟨c1, hc1, rfl⟩ := List.mem_map.mp hx
      subst e
      cases o7 <;> cases o10 <;> simp [sl, cD])
    (fun x hx => by
      obtain ⟨c1, hc1, rfl⟩ := List.mem_map.mp hx
      exact ⟨some _, some _, rfl⟩)
    (fun ρ' ⟨o7, o10, e⟩ => by
      subst e
      cases o7 <;> cases o10 <;> simp [sl, lockSlot])
    rfl (by rw [line_eq, List.length_map]; have := c.ln; omega) (fun z hz => evC_none _)
    (fun x hx _ => by
      obtain ⟨c1, hc1, rfl⟩ := List.mem_map.mp hx
      exact ⟨.str c1.1, rfl, by simp [cD]⟩)
    (fun x hx _ => by simp)
  rw [filter_tt, dcF_nodup (by
    simp only [List.map_nil, List.nil_append, List.map_map]
    have : (kfC ∘ cD) = (fun s : Str => (Sum.inr s : Key)) ∘ (fun c : Call => c.1) := rfl
    rw [this, ← List.map_map]
    exact List.Pairwise.map _ (fun a b h e => h (Sum.inr.inj e)) c.nd)] at hd
  have hf2 : ∃ o7 o8 o9 : Option D, exec (.forr (.tup [(.n 7), (.n 8), (.n 9)]) (.e (.v 2)) [.ite (.and [.cmp .notin (.v 9) (.v 5), .call F_keeps_checkmore [.v 0, .v 1, .v 8, .v 9]]) [.setIx 5 (.v 9) (.k (.bl true)),
      .ex (.mm .append 6 [.v 7])] []]) [.val (fr w ds), .val (rl kind n b), .val (.lst (cs.map cD)), .val told, sl o4, .own (.dct []), .own (.lst []), .none, .none, .none, .none] =
      .ok (.next, [.val (fr w ds), .val (rl kind n b), .val (.lst (cs.map cD)), .val told, sl o4, .own (.dct (tkD (st w ds kind n b cs).2)), .own (tD (goodL w ds kind n b cs)), sl o7, sl o8, sl o9, .none]) := by
    rw [ex_forr]
    simp only [evI_e, ev_v, List.getElem?_cons_succ, List.getElem?_cons_zero, MR.bind_ok]
    simp only [kI, deref_val, itemsD, MR.bind_ok, slotOf, lockSlot, unlockSlot]
    refine forL_inv (n := 0) (I := fun k ρ => ∃ o7 o8 o9 : Option D, ρ = [.val (fr w ds), .val (rl kind n b), .val (.lst (cs.map cD)), .val told, sl o4, .own (.dct (tkD (st w ds kind n b (cs.take k)).2)), .own (tD (goodL w ds kind n b (cs.take k))), sl o7, sl o8, sl o9, .none]) (Q := fun o => ∃ o7 o8 o9 : Option D, (o.bind fun q => .ok (q.1, q.2)) = .ok (.next, [.val (fr w ds), .val (rl kind n b), .val (.lst (cs.map cD)), .val told, sl o4, .own (.dct (tkD (st w ds kind n b cs).2)), .own (tD (goodL w ds kind n b cs)), sl o7, sl o8, sl o9, .none]))
      ⟨none, none, none, rfl⟩ ?_ ?_
    · rintro k ρ x - hx ⟨o7, o8, o9, rfl⟩
      rw [Nat.sub_zero, List.getElem?_map, Option.map_eq_some_iff] at hx
      obtain ⟨c1, hc1, rfl⟩ := hx
      have hk : k < cs.length := (List.getElem?_eq_some_iff.mp hc1).1
      have hmem : c1 ∈ cs := List.mem_of_getElem? hc1
      have e1 : cs.take (k + 1) = cs.take k ++ [c1] := by rw [List.take_add_one, hc1]; rfl
      rw [e1, st_snoc, goodL_snoc]
      have l1 : (goodL w ds kind n b (cs.take k)).length ≤ k := by
        unfold goodL
        rw [List.length_map]
        refine Nat.le_trans (List.length_filter_le _ _) (Nat.le_trans (zw_len _) ?_)
        rw [List.length_take]; omega
      obtain ⟨-, l2⟩ := st_len (w := w) (ds := ds) (kind := kind) (n := n) (b := b) k (cs.take k) (by rw [List.length_take]; omega)
      generalize goodL w ds kind n b (cs.take k) = gs at *
      generalize st w ds kind n b (cs.take k) = s at *
      obtain ⟨ws, t⟩ := s
      have hln := c.ln
      have l3 : gs.length < line := by rw [line_eq]; omega
      have l4 : (tkD t).length < line := by rw [line_eq]; simp [tkD] at l2 ⊢; omega
      have hfd := find_tk t c1.2.2
      have hkc := keeps_cm (b := b) g r (x := c1.2.1) (y := c1.2.2) (c.d1 c1 hmem).1 (by have := c.d2 c1 hmem; omega)
      rw [← kp_kw g] at hkc
      refine ⟨[.val (fr w ds), .val (rl kind n b), .val (.lst (cs.map cD)), .val told, sl o4, .own (.dct (tkD (stp w ds kind n b (ws, t) c1).2)), .own (tD (gs ++ if wd w ds kind n b t c1 = none then [c1.1] else [])), .val (.str c1.1), .val (.int c1.2.1), .val (.int c1.2.2), .none], .inl ?_, ⟨some _, some _, some _, rfl⟩⟩
      have hset : setT (.tup [.n 7, .n 8, .n 9]) (cD c1) [.val (fr w ds), .val (rl kind n b), .val (.lst (cs.map cD)), .val told, sl o4, .own (.dct (tkD t)), .own (tD gs), sl o7, sl o8, sl o9, .none] =
          .ok [.val (fr w ds), .val (rl kind n b), .val (.lst (cs.map cD)), .val told, sl o4, .own (.dct (tkD t)), .own (tD gs), .val (.str c1.1), .val (.int c1.2.1), .val (.int c1.2.2), .none] := by
        cases o7 <;> cases o8 <;> cases o9 <;> simp [cD, sl]
      show (setT (.tup [.n 7, .n 8, .n 9]) (cD c1) [.val (fr w ds), .val (rl kind n b), .val (.lst (cs.map cD)), .val told, sl o4, .own (.dct (tkD t)), .own (tD gs), sl o7, sl o8, sl o9, .none]).bind _ = _
      rw [hset, MR.bind_ok]
      have hin : inD (.int c1.2.2) (.dct (tkD t)) = some (t.contains c1.2.2) := by
        show some ((findK (tkD t) (Sum.inl c1.2.2)).isSome) = _
        rw [hfd]
      have hwd := wd_none (w := w) (ds := ds) (kind := kind) (n := n) (b := b) t c1
      have ki : ∀ i : Int, (D.int i).key? = some (Sum.inl i) := fun _ => rfl
      have m1 : t.contains c1.2.2 = true → c1.2.2 ∈ t := fun h => by simpa using h
      have m0 : t.contains c1.2.2 = false → ¬ c1.2.2 ∈ t := fun h => by simpa using h
      cases h1 : t.contains c1.2.2 with
      | true =>
        have h1' := m1 h1
        have hwd : ¬ wd w ds kind n b t c1 = none := fun z => by have := hwd.mp z; rw [h1] at this; cases this.1
        simp [hin, h1, h1', D.flat, stp, hwd, tD]
      | false =>
        have h1' := m0 h1
        cases h2 : kp w ds kind n b c1.2.1 c1.2.2 with
        | false =>
          have hwd : ¬ wd w ds kind n b t c1 = none := fun z => by have := hwd.mp z; rw [h2] at this; cases this.2
          rw [h2] at hkc
          simp [hin, h1, h1', D.flat, stp, hwd, tD, hkc]
        | true =>
          have hwd : wd w ds kind n b t c1 = none := hwd.mpr ⟨h1, h2⟩
          rw [h2] at hkc
          simp [hin, h1, h1', D.flat, stp, hwd, tD, hkc, ki, ownL, kMut, mmD, l3, isOwnS, setIxD, l4, put_tk]
    · rintro ρ ⟨o7, o8, o9, rfl⟩
      refine ⟨o7, o8, o9, ?_⟩
      rw [Nat.zero_add, List.length_map, List.take_length]
      rfl
  obtain ⟨o7, o8, o9, hf2⟩ := hf2
  simp [fnRun, c_takes_calls, need_free_ok g, is_rule_ok r, D.flat, settle, setSlots, hf1, hf2, hd, h40, ht]
end K54
end
section
set_option linter.all false
set_option maxRecDepth 100000
namespace K54
open M MR
open PySem (Str)
theorem t0 (n : Nat) (h : n ≤ 1000) : smallB (n : Int) = true := smallB_of' (by omega) (by omega)
theorem range1D_nat (n : Nat) (h : n ≤ 1000) : range1D (.int n) = some (rangeN 0 n) := by
  have e : range1D (.int n) = if smallB n then some (rangeN 0 (n : Int).toNat) else none := by unfold range1D; simp only
  rw [e, if_pos (t0 n h), Int.toNat_natCast]
theorem kR_val (f : D → Option (List D)) (d : D) (ρ : Env) : kR f (.val d, ρ) = match f d with
    | some xs => .ok ((xs, none), ρ)
    | none => .stuck := rfl
theorem getLast_snoc {α : Type} (xs : List α) (x : α) : (xs ++ [x]).getLast? = some x := by simp
theorem law_take_ok (ns : List Int) {k : Int} (hk : 0 < k) : ∃ (r : Int) (ns' : List Int), (0 ≤ r ∧ r < k) ∧ F__law_take.run [.lst (ns.map .int), .int k] = .ok (.val (.int r), [.lst (ns'.map .int)]) := by
  rw [run__law_take]
  by_cases h : ns = []
  · subst h
    refine ⟨0, [], ⟨Int.le_refl _, hk⟩, ?_⟩
    simp [fnRun, c__law_take]
  · obtain ⟨ms, x, rfl⟩ : ∃ ms x, ns = ms ++ [x] := ⟨ns.dropLast, ns.getLast h, (List.dropLast_concat_getLast h).symm⟩
    refine ⟨x % k, ms, ⟨Int.emod_nonneg _ (by omega), Int.emod_lt_of_pos _ hk⟩, ?_⟩
    have e : ¬ ((ms.length : Int) + 1 = 0) := by omega
    have bi : biD .int [.int x] = some (.val (.int x)) := rfl
    simp [fnRun, c__law_take, ownL, kMut, mmD, e, bi, hk]
theorem ixN_of {n : Nat} {i : Int} (h : 0 ≤ i) (h2 : i < n) : ixN n i = some i.toNat := by simp [ixN, h, h2]
theorem subR_lst {xs : List D} {i : Int} (h : 0 ≤ i) (h2 : i < xs.length) : ∃ x, x ∈ xs ∧ subR (.lst xs) (.int i) = some (.val x) := by
  have hl : i.toNat < xs.length := by omega
  refine ⟨xs[i.toNat], List.getElem_mem hl, ?_⟩
  simp [subR, subD, atI, ixN_of h h2, List.getElem?_eq_getElem hl]
theorem law_pick_ok (ns : List Int) {xs : List D} (hx : xs ≠ []) : ∃ (x : D) (ns' : List Int), x ∈ xs ∧ F__law_pick.run [.lst (ns.map .int), .lst xs] = .ok (.val x, [.lst (ns'.map .int)]) := by
  rw [run__law_pick]
  have hl : (0 : Int) < xs.length := by cases xs with | nil => exact absurd rfl hx | cons x xs => simp
  obtain ⟨r, ns', ⟨h1, h2⟩, h3⟩ := law_take_ok ns hl
  obtain ⟨x, hm, hs⟩ := subR_lst h1 h2
  refine ⟨x, ns', hm, ?_⟩
  simp [fnRun, c__law_pick, h3, D.flat, hs]
theorem erase_perm {α : Type} : ∀ {l : List α} {i : Nat} (h : i < l.length), (l[i] :: l.eraseIdx i).Perm l
  | x :: l, 0, _ => List.Perm.refl _
  | x :: l, i + 1, h => by
    have h' : i < l.length := by simpa using h
    have := erase_perm h'
    show (l[i] :: x :: l.eraseIdx i).Perm (x :: l)
    exact (List.Perm.swap _ _ _).trans (List.Perm.cons x this)
theorem law_mixed_ok (ns : List Int) {xs : List D} (hx : xs.length ≤ 1000) : ∃ (ys : List D) (ns' : List Int), ys.Perm xs ∧ F__law_mixed.run [.lst (ns.map .int), .lst xs] = .ok (.own (.lst ys), [.lst (ns'.map .int)]) := by
  rw [run__law_mixed]
  have hl : ∃ (ys : List D) (ns' : List Int) (o4 : Option D), ys.Perm xs ∧ exec (.forr (.n 4) (.range1 (.bi .len [.v 1])) [.ex (.mm .append 3 [.mm .pop 2 [.call F__law_take [.v 0, .bi .len [.v 2]]]])]) [.own (.lst (ns.map .int)), .val (.lst xs), .own (.lst xs), .own (.lst []), .none] =
      .ok (.next, [.own (.lst (ns'.map .int)), .val (.lst xs), .own (.lst []), .own (.lst ys), sl o4]) := by
    obtain ⟨ρ', e, I⟩ := ex_forr_inv (t := .n 4) (it := .range1 (.bi .len [.v 1])) (body := [.ex (.mm .append 3 [.mm .pop 2 [.call F__law_take [.v 0, .bi .len [.v 2]]]])]) (ρ := [.own (.lst (ns.map .int)), .val (.lst xs), .own (.lst xs), .own (.lst []), .none]) (xs := rangeN 0 xs.length)
      (by simp -implicitDefEqProofs [kR_val, range1D_nat _ hx]; rfl)
      (fun k ρ => ∃ (ms : List Int) (left found : List D) (o : Option D), ρ = [.own (.lst (ms.map .int)), .val (.lst xs), .own (.lst left), .own (.lst found), sl o] ∧ (left ++ found).Perm xs ∧ left.length + k = xs.length)
      ⟨ns, xs, [], none, rfl, by simp, rfl⟩
      (fun k ρ x hk ⟨ms, left, found, o, e, hp, hlen⟩ => by
        subst e
        have hk' : k < xs.length := by
          have := (List.getElem?_eq_some_iff.mp hk).1
          rw [rangeN_eq, List.length_map, rangeI_len] at this
          exact this
        have hle : found.length + left.length = xs.length := by have := hp.length_eq; simp at this; omega
        obtain ⟨r, ms', ⟨h1, h2⟩, h3⟩ := law_take_ok ms (k := left.length) (by omega)
        have hr : r.toNat < left.length := by omega
        refine ⟨[.own (.lst (ms'.map .int)), .val (.lst xs), .own (.lst (left.eraseIdx r.toNat)), .own (.lst (found ++ [left[r.toNat]])), .val x], .inl ?_, ms', left.eraseIdx r.toNat, found ++ [left[r.toNat]], some x, rfl, ?_, ?_⟩
        · have e1 : (-9223372036854775808 : Int) ≤ r ∧ r < 9223372036854775808 := by omega
          have e2 : found.length < line := by rw [line_eq]; omega
          have e3 := ixN_of h1 h2
          have e4 := List.getElem?_eq_getElem hr
          cases o <;> simp [sl, h3, D.flat, ownL, kMut, mmD, e1.1, e1.2, e2, e3, e4]
        · have p1 : (left[r.toNat] :: left.eraseIdx r.toNat).Perm left := erase_perm hr
          refine List.Perm.trans ?_ hp
          rw [← List.append_assoc]
          exact (List.perm_append_comm).trans ((List.Perm.append_right found p1))
        · rw [List.length_eraseIdx_of_lt hr]; omega)
    obtain ⟨ms, left, found, o, e2, hp, hlen⟩ := I
    rw [rangeN_eq, List.length_map, rangeI_len] at hlen
    have : left = [] := List.length_eq_zero_iff.mp (by omega)
    subst this
    subst e2
    exact ⟨found, ms, o, by simpa using hp, e⟩
  obtain ⟨ys, ns', o4, hp, hl⟩ := hl
  refine ⟨ys, ns', hp, ?_⟩
  have bl : biD .list [.lst xs] = some (.own (.lst xs)) := by simp [biD]
  simp -implicitDefEqProofs [fnRun, c__law_mixed, bl, hl]
theorem flat_int (i : Int) : (D.int i).flat = true := rfl
/-- sorting ints -/
theorem dlt_int (i j : Int) : PySem.W.dataLt (.int i) (.int j) = decide (i < j) := by
  simp only [PySem.W.dataLt, PySem.W.keyToks]
  show PyProof.Rows.lexLt PyProof.Rows.itemOrd [Sum.inl i] [Sum.inl j] = _
  rw [PyProof.Rows.lex_cons]
  have e : ∀ a b : Int, PyProof.Rows.itemOrd.blt (Sum.inl a) (Sum.inl b) = decide (a < b) := fun _ _ => rfl
  have e2 : PyProof.Rows.lexLt PyProof.Rows.itemOrd [] [] = false := by rw [PyProof.Rows.lexLt]
  rw [e, e, e2]; simp
theorem dle_int (a b : Int) : PySem.W.dataLe false D.py (.int a) (.int b) = decide (a ≤ b) := by
  rw [PySem.W.dataLe_eq]
  show (!PySem.W.dataLt (.int b) (.int a)) = _
  rw [dlt_int]
  by_cases h : a ≤ b
  · have : ¬ b < a := by omega
    simp [h, this]
  · have : b < a := by omega
    simp [h, this]
theorem alike_ints (xs : List Int) : alikeAll (xs.map .int) = true := by
  unfold alikeAll
  rw [List.all_eq_true]
  intro x hx
  rw [List.all_eq_true]
  intro y hy
  obtain ⟨a, _, rfl⟩ := List.mem_map.mp hx
  obtain ⟨c, _, rfl⟩ := List.mem_map.mp hy
  rfl
theorem other_ints (xs : List Int) : (xs.map D.int).all isOther = true := by
  rw [List.all_eq_true]
  intro x hx
  obtain ⟨a, _, rfl⟩ := List.mem_map.mp hx
  rfl
theorem sortD_ints (xs : List Int) : sortD false (xs.map .int) = some ((xs.mergeSort fun a b => decide (a ≤ b)).map .int) := by
  unfold sortD
  rw [plain_ints, alike_ints, other_ints, Bool.or_true, if_pos (by rfl)]
  rw [List.map_mergeSort (s := PySem.W.dataLe false D.py) (fun a _ b _ => (dle_int a b).symm)]
theorem sort_ints {xs : List Int} (h : xs.Nodup) : ∃ ys : List Int, ys.Perm xs ∧ ys.Pairwise (· < ·) ∧ sortD false (xs.map .int) = some (ys.map .int) := by
  refine ⟨_, List.mergeSort_perm xs _, ?_, sortD_ints xs⟩
  have h1 := List.pairwise_mergeSort (le := fun a b : Int => decide (a ≤ b)) (fun a b c h1 h2 => by simp at *; omega) (fun a b => by simp; omega) xs
  have h2 : (xs.mergeSort fun a b => decide (a ≤ b)).Nodup := (List.mergeSort_perm xs _).nodup_iff.mpr h
  have h3 := List.Pairwise.and h1 h2
  exact h3.imp fun ⟨p, q⟩ => by simp at p; omega
theorem range_nodup : ∀ (N : Nat) (lo : Int), (rangeI lo N).Nodup
  | 0, _ => List.nodup_nil
  | N + 1, lo => by
    rw [rangeI, List.nodup_cons]
    exact ⟨fun h => by have := (mem_rangeI.mp h).1; omega, range_nodup N _⟩
theorem cut_take (xs : List D) {j : Int} (h : 0 ≤ j) : ∃ m : Nat, (m : Int) ≤ j ∧ slD (.lst xs) none (some j) = some (.own (.lst (xs.take m))) := by
  refine ⟨min j.toNat xs.length, by omega, ?_⟩
  have : ¬ j < 0 := by omega
  simp [slD, cut, sIx, this]
theorem perm_ints {ys : List D} {xs : List Int} (h : ys.Perm (xs.map .int)) : ∃ zs : List Int, ys = zs.map .int ∧ zs.Perm xs := by
  let f : D → Int := fun d => match d with
    | .int i => i
    | _ => 0
  refine ⟨ys.map f, ?_, ?_⟩
  · rw [List.map_map]
    have : ∀ y ∈ ys, (D.int ∘ f) y = y := fun y hy => by
      obtain ⟨a, _, rfl⟩ := List.mem_map.mp (h.mem_iff.mp hy)
      rfl
    rw [List.map_congr_left this]
    simp
  · have := h.map f
    rw [List.map_map] at this
    have e : (f ∘ D.int) = id := rfl
    rwa [e, List.map_id] at this
/-- some of 0..N-1, in order -/
theorem part_ok (ns : List Int) (N : Nat) (hN : N ≤ 1000) (j : Int) (hj : 0 < j) (s1 : Slot) : ∃ (w : List Int) (ns' : List Int), w.Pairwise (· < ·) ∧ (∀ x ∈ w, 0 ≤ x ∧ x < N) ∧ ((w.length : Int) < j) ∧
    ev (.bi .tuple [.bi .sorted [.sl (.call F__law_mixed [.v 0, .biI .list (.range1 (.k (.int N)))]) none (some (.call F__law_take [.v 0, .k (.int j)]))]]) [.own (.lst (ns.map .int)), s1] = .ok (.val (.tup (w.map .int)), [.own (.lst (ns'.map .int)), s1]) := by
  obtain ⟨ys, ns1, hp, h1⟩ := law_mixed_ok ns (xs := rangeN 0 N) (by rw [rangeN_eq, List.length_map, rangeI_len]; exact hN)
  obtain ⟨r, ns2, ⟨r1, r2⟩, h2⟩ := law_take_ok ns1 hj
  obtain ⟨m, hm, h3⟩ := cut_take ys r1
  rw [rangeN_eq] at hp
  obtain ⟨zs, rfl, hz⟩ := perm_ints hp
  have nd : (zs.take m).Nodup := List.Nodup.sublist (List.take_sublist _ _) (hz.nodup_iff.mpr (range_nodup N 0))
  obtain ⟨w, p1, p2, p3⟩ := sort_ints nd
  refine ⟨w, ns2, p2, fun x hx => ?_, ?_, ?_⟩
  · have : x ∈ rangeI 0 N := hz.mem_iff.mp (List.mem_of_mem_take (p1.mem_iff.mp hx))
    have := mem_rangeI.mp this
    omega
  · have := p1.length_eq
    rw [List.length_take] at this
    omega
  · have sm := range1D_nat N hN
    have bl : biD .list [.lst (rangeN 0 N)] = some (.own (.lst (rangeN 0 N))) := by simp [biD]
    have ll : (rangeN 0 N).length ≤ line := by rw [rangeN_eq, List.length_map, rangeI_len, line_eq]; omega
    have bs : ∀ d, biD .sorted [.lst d] = (sortD false d).map fun ys => .own (.lst ys) := fun _ => by simp only [biD]
    have bt : ∀ d, biD .tuple [.lst d] = some (.val (.tup d)) := fun _ => by simp [biD]
    rw [List.map_take] at p3
    simp -implicitDefEqProofs [kR_val, sm, biFin, bl, ll, h1, D.flat, h2, h3, bs, p3, bt]
theorem law_free_ok (ns : List Int) : ∃ (w ds ns' : List Int), Good w ds ∧ w.length ≤ 3 ∧ ds.length ≤ 7 ∧ (∀ x ∈ ds, 0 ≤ x ∧ x < 40) ∧ F__law_free.run [.lst (ns.map .int)] = .ok (.val (fr w ds), [.lst (ns'.map .int)]) := by
  rw [run__law_free]
  obtain ⟨w, ns1, w1, w2, w3, e1⟩ := part_ok ns 7 (by omega) 4 (by omega) .none
  obtain ⟨ds, ns2, d1, d2, d3, e2⟩ := part_ok ns1 40 (by omega) 8 (by omega) (.val (.tup (w.map .int)))
  refine ⟨w, ds, ns2, ⟨fun x hx => by have := w2 x hx; omega, w1, by omega, fun x hx => by have := d2 x hx; omega, d1, by omega⟩, by omega, by omega, fun x hx => by have := d2 x hx; omega, ?_⟩
  have f1 := e1
  have f2 := e2
  simp only [Int.cast_ofNat_Int] at f1 f2
  rw [fnRun, if_pos (by rfl)]
  simp only [c__law_free, List.take_succ_cons, List.take_zero, List.map_cons, List.map_nil, List.drop_succ_cons, List.drop_zero, List.nil_append, List.cons_append, List.replicate, Nat.reduceSub, execs_cons, ex_asg, ex_ret]
  rw [f1]
  simp only [MR.bind_ok, setRes_val, put_eq, List.getElem?_cons_succ, List.getElem?_cons_zero, List.set, ev_tup, evs_cons, ev_v, evs_nil]
  rw [f2]
  simp [fr]
theorem law_rule_ok (ns : List Int) : ∃ (kind : Str) (n : Int) (b : Bool) (ns' : List Int), GoodR kind n ∧ n ≤ 9 ∧ F__law_rule.run [.lst (ns.map .int), .int 9] = .ok (.val (rl kind n b), [.lst (ns'.map .int)]) := by
  rw [run__law_rule]
  obtain ⟨x, ns1, hx, h1⟩ := law_pick_ok ns (xs := [.str "days", .str "working"]) (by simp)
  obtain ⟨r, ns2, ⟨r1, r2⟩, h2⟩ := law_take_ok ns1 (k := 9) (by omega)
  obtain ⟨q, ns3, ⟨q1, q2⟩, h3⟩ := law_take_ok ns2 (k := 2) (by omega)
  have hx : ∃ kind : Str, (kind = "days" ∨ kind = "working") ∧ x = .str kind := by
    simp at hx
    rcases hx with rfl | rfl
    · exact ⟨_, .inl rfl, rfl⟩
    · exact ⟨_, .inr rfl, rfl⟩
  obtain ⟨kind, hk, rfl⟩ := hx
  refine ⟨kind, 1 + r, decide (q = 0), ns3, ⟨hk, by omega, by omega⟩, by omega, ?_⟩
  simp [fnRun, c__law_rule, h1, h2, h3, D.flat, rl]
/-! ### draws -/
theorem draws_step (k : Nat) (ms : List Int) (cells : D) (v : Int) (s2 s4 s6 : Slot) (o5 : Option D) (hm : ms.length ≤ 100000) :
    ∃ (ms' : List Int) (v' : Int) (o : Option D), ms'.length ≤ ms.length + 60 ∧ exec (.forr (.n 5) (.range1 (.k (.int 60))) [.ite (.cmp .gt (.v 3) (.k (.int 0))) [.ex (.mm .append 1 [.bin .mod (.bi .int [.v 3]) (.k (.int 997))]),
      .asg 3 (.bin .fdiv (.v 3) (.k (.int 997)))] []]) [.val cells, .own (.lst (ms.map .int)), s2, .val (.int v), s4, sl o5, s6] = .ok (.next, [.val cells, .own (.lst (ms'.map .int)), s2, .val (.int v'), s4, sl o, s6]) := by
  obtain ⟨ρ', e, I⟩ := ex_forr_inv (t := .n 5) (it := .range1 (.k (.int 60))) (body := [.ite (.cmp .gt (.v 3) (.k (.int 0))) [.ex (.mm .append 1 [.bin .mod (.bi .int [.v 3]) (.k (.int 997))]),
      .asg 3 (.bin .fdiv (.v 3) (.k (.int 997)))] []]) (ρ := [.val cells, .own (.lst (ms.map .int)), s2, .val (.int v), s4, sl o5, s6]) (ρ₁ := [.val cells, .own (.lst (ms.map .int)), s2, .val (.int v), s4, sl o5, s6]) (xs := rangeN 0 60)
    (by have := range1D_nat 60 (by omega); simp -implicitDefEqProofs [kR_val] at this ⊢; rw [this])
    (fun k ρ => ∃ (ms' : List Int) (v' : Int) (o : Option D), ms'.length ≤ ms.length + k ∧ ρ = [.val cells, .own (.lst (ms'.map .int)), s2, .val (.int v'), s4, sl o, s6])
    ⟨ms, v, o5, by omega, rfl⟩
    (fun k ρ x hk ⟨ms', v', o, h1, e⟩ => by
      subst e
      have hk' : k < 60 := by
        have := (List.getElem?_eq_some_iff.mp hk).1
        rw [rangeN_eq, List.length_map, rangeI_len] at this
        exact this
      have e2 : ms'.length < line := by rw [line_eq]; omega
      have bi : ∀ i, biD .int [.int i] = some (.val (.int i)) := fun _ => rfl
      by_cases hv : 0 < v'
      · refine ⟨[.val cells, .own (.lst ((ms' ++ [v' % 997]).map .int)), s2, .val (.int (v' / 997)), s4, .val x, s6], .inl ?_, ms' ++ [v' % 997], v' / 997, some x, by simp; omega, rfl⟩
        cases o <;> simp [sl, hv, ownL, kMut, mmD, bi, e2]
      · refine ⟨[.val cells, .own (.lst (ms'.map .int)), s2, .val (.int v'), s4, .val x, s6], .inl ?_, ms', v', some x, by omega, rfl⟩
        cases o <;> simp [sl, hv])
  obtain ⟨ms', v', o, h1, e2⟩ := I
  subst e2
  rw [rangeN_eq, List.length_map, rangeI_len] at h1
  exact ⟨ms', v', o, h1, e⟩
end K54
end
section
set_option linter.all false
set_option maxRecDepth 100000
namespace K54
open M MR
open PySem (Str)
def dstep : List CS := [.asg 3 (.bin .mod (.bi .int [.bi .abs [.v 2]]) (.bin .pow (.k (.int 997)) (.k (.int 60)))),
      .ite (.cmp .lt (.v 3) (.bin .pow (.k (.int 10)) (.k (.int 18)))) [.asg 4 (.bin .mod (.bi .int [.bin .add (.bin .mul (.v 3) (.k (.int 48271))) (.k (.int 11))]) (.k (.int 2147483647))),
      .ex (.mm .append 1 [.bin .mod (.bi .int [.bin .add (.bin .mul (.v 4) (.k (.int 69621))) (.v 3)]) (.k (.int 2147483629))]),
      .ex (.mm .append 1 [.bin .mod (.bi .int [.bin .add (.v 4) (.bin .fdiv (.v 3) (.k (.int 7)))]) (.k (.int 1000003))]),
      .asg 3 (.k (.int 0))] [],
      .forr (.n 5) (.range1 (.k (.int 60))) [.ite (.cmp .gt (.v 3) (.k (.int 0))) [.ex (.mm .append 1 [.bin .mod (.bi .int [.v 3]) (.k (.int 997))]),
      .asg 3 (.bin .fdiv (.v 3) (.k (.int 997)))] []]]
theorem dfirst (ms : List Int) (cells : D) (x : Int) (o3 o4 : Option D) (s5 : Slot) (hm : ms.length ≤ 90000) :
    ∃ (ms' : List Int) (v' : Int) (o : Option D), ms'.length ≤ ms.length + 2 ∧ ∀ rest, execs (.asg 3 (.bin .mod (.bi .int [.bi .abs [.v 2]]) (.bin .pow (.k (.int 997)) (.k (.int 60)))) ::
      .ite (.cmp .lt (.v 3) (.bin .pow (.k (.int 10)) (.k (.int 18)))) [.asg 4 (.bin .mod (.bi .int [.bin .add (.bin .mul (.v 3) (.k (.int 48271))) (.k (.int 11))]) (.k (.int 2147483647))),
      .ex (.mm .append 1 [.bin .mod (.bi .int [.bin .add (.bin .mul (.v 4) (.k (.int 69621))) (.v 3)]) (.k (.int 2147483629))]),
      .ex (.mm .append 1 [.bin .mod (.bi .int [.bin .add (.v 4) (.bin .fdiv (.v 3) (.k (.int 7)))]) (.k (.int 1000003))]),
      .asg 3 (.k (.int 0))] [] :: rest) [.val cells, .own (.lst (ms.map .int)), .val (.int x), sl o3, sl o4, s5, .none] = execs rest [.val cells, .own (.lst (ms'.map .int)), .val (.int x), .val (.int v'), sl o, s5, .none] := by
  obtain ⟨P, hP, hp⟩ : ∃ P : Int, 0 < P ∧ binD .pow (.int 997) (.int 60) = some (.val (.int P)) := ⟨997 ^ 60, by decide, by kernel_rfl⟩
  obtain ⟨Q, hq⟩ : ∃ Q : Int, binD .pow (.int 10) (.int 18) = some (.val (.int Q)) := ⟨10 ^ 18, by kernel_rfl⟩
  have ba : ∃ a, biD .abs [.int x] = some (.val (.int a)) := ⟨_, rfl⟩
  obtain ⟨a, ba⟩ := ba
  have bi : ∀ i, biD .int [.int i] = some (.val (.int i)) := fun _ => rfl
  have s1 : smallF 48271 = true := by decide
  have s2 : smallF 69621 = true := by decide
  have md : binD .mod (.int a) (.int P) = some (.val (.int (a % P))) := mod_int a P hP
  have l1 : ms.length < line := by rw [line_eq]; omega
  have l2 : ∀ z, (ms ++ [z]).length < line := fun z => by rw [line_eq, List.length_append, List.length_singleton]; omega
  by_cases h : a % P < Q
  · refine ⟨ms ++ [((a % P * 48271 + 11) % 2147483647 * 69621 + a % P) % 2147483629] ++ [((a % P * 48271 + 11) % 2147483647 + a % P / 7) % 1000003], 0, some (.int ((a % P * 48271 + 11) % 2147483647)), by simp, fun rest => ?_⟩
    have l2' := l2 (((a % P * 48271 + 11) % 2147483647 * 69621 + a % P) % 2147483629)
    simp only [List.length_append, List.length_singleton] at l2'
    cases o3 <;> cases o4 <;> simp -implicitDefEqProofs [sl, hp, hq, ba, bi, s1, s2, md, h, ownL, kMut, mmD, l1, l2']
  · refine ⟨ms, a % P, o4, by omega, fun rest => ?_⟩
    cases o3 <;> cases o4 <;> simp -implicitDefEqProofs [sl, hp, hq, ba, bi, s1, s2, md, h]
theorem dloop (ns : List Int) (h : ns.length ≤ 63) : ∃ (ms : List Int) (o2 o3 o4 o5 : Option D), ms.length ≤ 4000 ∧
    exec (.forr (.n 2) (.e (.v 0)) dstep) [.val (.lst (ns.map .int)), .own (.lst []), .none, .none, .none, .none, .none] = .ok (.next, [.val (.lst (ns.map .int)), .own (.lst (ms.map .int)), sl o2, sl o3, sl o4, sl o5, .none]) := by
  obtain ⟨ρ', e, I⟩ := ex_forr_inv (t := .n 2) (it := .e (.v 0)) (body := dstep) (ρ := [.val (.lst (ns.map .int)), .own (.lst []), .none, .none, .none, .none, .none]) (ρ₁ := [.val (.lst (ns.map .int)), .own (.lst []), .none, .none, .none, .none, .none]) (xs := ns.map .int)
    (by simp [kI, itemsD, slotOf])
    (fun k ρ => ∃ (ms : List Int) (o2 o3 o4 o5 : Option D), ms.length ≤ 62 * k ∧ ρ = [.val (.lst (ns.map .int)), .own (.lst (ms.map .int)), sl o2, sl o3, sl o4, sl o5, .none])
    ⟨[], none, none, none, none, by simp, rfl⟩
    (fun k ρ x hk ⟨ms, o2, o3, o4, o5, h1, e⟩ => by
      subst e
      have hk' : k < ns.length := by
        have := (List.getElem?_eq_some_iff.mp hk).1
        rwa [List.length_map] at this
      obtain ⟨i, _, rfl⟩ := List.mem_map.mp (List.mem_of_getElem? hk)
      obtain ⟨ms1, v1, p1, l1, q1⟩ := dfirst ms (.lst (ns.map .int)) i o3 o4 (sl o5) (by omega)
      obtain ⟨ms2, v2, p2, l2, q2⟩ := draws_step k ms1 (.lst (ns.map .int)) v1 (.val (.int i)) (sl p1) .none o5 (by omega)
      refine ⟨[.val (.lst (ns.map .int)), .own (.lst (ms2.map .int)), .val (.int i), .val (.int v2), sl p1, sl p2, .none], .inl ?_, ms2, some _, some _, p1, p2, by omega, rfl⟩
      have hs : setT (.n 2) (.int i) [.val (.lst (ns.map .int)), .own (.lst (ms.map .int)), sl o2, sl o3, sl o4, sl o5, .none] = .ok [.val (.lst (ns.map .int)), .own (.lst (ms.map .int)), .val (.int i), sl o3, sl o4, sl o5, .none] := by
        cases o2 <;> simp [sl]
      rw [hs, MR.bind_ok]
      unfold dstep
      rw [q1, execs_cons, q2, MR.bind_ok, execs_nil])
  obtain ⟨ms, o2, o3, o4, o5, h1, e2⟩ := I
  subst e2
  rw [List.length_map] at h1
  exact ⟨ms, o2, o3, o4, o5, by omega, e⟩
theorem dtail (ns ms : List Int) (c : Int) (o2 o3 o4 o5 : Option D) (h : ms.length ≤ 4000) : ∃ (ms' : List Int) (c' : Int) (o : Option D), ms'.length ≤ 6000 ∧
    exec (.forr (.n 5) (.range1 (.k (.int 2000))) [.asg 6 (.bin .mod (.bi .int [.bin .add (.bin .mul (.v 6) (.k (.int 48271))) (.k (.int 69621))]) (.k (.int 2147483647))),
      .ex (.mm .append 1 [.bin .fdiv (.v 6) (.k (.int 5))])]) [.val (.lst (ns.map .int)), .own (.lst (ms.map .int)), sl o2, sl o3, sl o4, sl o5, .val (.int c)] = .ok (.next, [.val (.lst (ns.map .int)), .own (.lst (ms'.map .int)), sl o2, sl o3, sl o4, sl o, .val (.int c')]) := by
  have hr : range1D (.int 2000) = some (rangeN 0 2000) := by
    have e : range1D (.int 2000) = if smallB 2000 then some (rangeN 0 (2000 : Int).toNat) else none := by unfold range1D; simp only
    rw [e, if_pos (smallB_of' (by omega) (by omega))]
    rfl
  obtain ⟨ρ', e, I⟩ := ex_forr_inv (t := .n 5) (it := .range1 (.k (.int 2000))) (body := [.asg 6 (.bin .mod (.bi .int [.bin .add (.bin .mul (.v 6) (.k (.int 48271))) (.k (.int 69621))]) (.k (.int 2147483647))),
      .ex (.mm .append 1 [.bin .fdiv (.v 6) (.k (.int 5))])]) (ρ := [.val (.lst (ns.map .int)), .own (.lst (ms.map .int)), sl o2, sl o3, sl o4, sl o5, .val (.int c)]) (ρ₁ := [.val (.lst (ns.map .int)), .own (.lst (ms.map .int)), sl o2, sl o3, sl o4, sl o5, .val (.int c)]) (xs := rangeN 0 2000)
    (by rw [evI_range1, ev_k, MR.bind_ok, kR_val, hr])
    (fun k ρ => ∃ (ms' : List Int) (c' : Int) (o : Option D), ms'.length ≤ ms.length + k ∧ ρ = [.val (.lst (ns.map .int)), .own (.lst (ms'.map .int)), sl o2, sl o3, sl o4, sl o, .val (.int c')])
    ⟨ms, c, o5, by omega, rfl⟩
    (fun k ρ x hk ⟨ms', c', o, h1, e⟩ => by
      subst e
      have hk' : k < 2000 := by
        have := (List.getElem?_eq_some_iff.mp hk).1
        rw [rangeN_eq, List.length_map, rangeI_len] at this
        exact this
      have e2 : ms'.length < line := by rw [line_eq]; omega
      have bi : ∀ i, biD .int [.int i] = some (.val (.int i)) := fun _ => rfl
      have s1 : smallF 48271 = true := by decide
      refine ⟨[.val (.lst (ns.map .int)), .own (.lst ((ms' ++ [(c' * 48271 + 69621) % 2147483647 / 5]).map .int)), sl o2, sl o3, sl o4, .val x, .val (.int ((c' * 48271 + 69621) % 2147483647))], .inl ?_, ms' ++ [(c' * 48271 + 69621) % 2147483647 / 5], _, some x, by simp; omega, rfl⟩
      cases o <;> simp [sl, ownL, kMut, mmD, bi, e2, s1])
  obtain ⟨ms', c', o, h1, e2⟩ := I
  subst e2
  rw [rangeN_eq, List.length_map, rangeI_len] at h1
  exact ⟨ms', c', o, by omega, e⟩
theorem law_draws_ok (ns : List Int) (h : ns.length ≤ 63) : ∃ ms : List Int, F__law_draws.run [.lst (ns.map .int)] = .ok (.own (.lst (ms.map .int)), []) := by
  rw [run__law_draws]
  obtain ⟨ms, o2, o3, o4, o5, l1, e1⟩ := dloop ns h
  unfold dstep at e1
  have hc : ∃ c : Int, ∀ rest, execs (.asg 6 (.k (.int 1)) :: .ite (.cmp .gt (.bi .len [.v 0]) (.k (.int 0))) [.asg 6 (.bin .add (.k (.int 1)) (.bi .abs [.sub (.v 0) (.k (.int 0))]))] [] :: rest) [.val (.lst (ns.map .int)), .own (.lst (ms.map .int)), sl o2, sl o3, sl o4, sl o5, .none] = execs rest [.val (.lst (ns.map .int)), .own (.lst (ms.map .int)), sl o2, sl o3, sl o4, sl o5, .val (.int c)] := by
    cases ns with
    | nil => exact ⟨1, fun rest => by simp⟩
    | cons x ns =>
      have ba : ∃ a, biD .abs [.int x] = some (.val (.int a)) := ⟨_, rfl⟩
      obtain ⟨a, ba⟩ := ba
      have h0 : (0 : Int) < ns.length + 1 := by omega
      refine ⟨1 + a, fun rest => ?_⟩
      have hs : subR (.lst ((x :: ns).map D.int)) (.int 0) = some (.val (.int x)) := by
        have e0 : ixN ((x :: ns).map D.int).length 0 = some 0 := by rw [ixN_of (Int.le_refl _) (by simp)]; rfl
        simp only [subR, subD, atI, e0]
        rfl
      rw [List.map_cons] at hs
      simp [ba, h0, hs]
  obtain ⟨c, e2⟩ := hc
  obtain ⟨ms', c', o, l3, e3⟩ := dtail ns ms c o2 o3 o4 o5 l1
  refine ⟨ms'.reverse, ?_⟩
  have bl : ∀ xs, biD .list [.lst xs] = some (.own (.lst xs)) := fun _ => by simp [biD]
  have ll : ms'.length ≤ line := by rw [line_eq]; omega
  rw [fnRun, if_pos (by rfl)]
  simp only [c__law_draws, List.take_zero, List.map_cons, List.map_nil, List.drop_zero, List.nil_append, List.cons_append, List.replicate, Nat.reduceSub]
  have e0 : ∀ rest, execs (.asg 1 (.lst []) :: rest) [.val (.lst (ns.map .int)), .none, .none, .none, .none, .none, .none] = execs rest [.val (.lst (ns.map .int)), .own (.lst []), .none, .none, .none, .none, .none] := fun rest => by simp
  rw [e0, execs_cons, e1, MR.bind_ok]
  simp only
  rw [e2, execs_cons, e3, MR.bind_ok]
  simp -implicitDefEqProofs [kI, revItemsD, slotOf, biFin, bl, ll]
end K54
end
section
set_option linter.all false
set_option maxRecDepth 100000
namespace K54
open M MR
open PySem (Str)
variable {w ds : List Int} {kind : PySem.Str} {n : Int} {b : Bool}
theorem bi_int (i : Int) : biD .int [.int i] = some (.val (.int i)) := rfl
theorem law_works_ok (w ds : List Int) (day : Int) : F__law_works.run [fr w ds, .int day] = .ok (.val (.bl (wk w ds day)), []) := by
  rw [run__law_works]
  by_cases h : day % 7 ∈ w <;> simp [fnRun, c__law_works, fr, h, wk, bi_int]
theorem range2D_ok {i j : Int} (h1 : -1000000 ≤ i ∧ i ≤ 1000000) (h2 : -1000000 ≤ j ∧ j ≤ 1000000) : range2D (.int i) (.int j) = some (rangeN i (j - i).toNat) := by
  have e : range2D (.int i) (.int j) = if smallB i && smallB j then some (rangeN i (j - i).toNat) else none := by unfold range2D; simp only
  rw [e, smallB_of' (by omega) (by omega), smallB_of' (by omega) (by omega)]
  rfl
theorem kR2_val (f : D → D → Option (List D)) (d e : D) (ρ ρ' : Env) : kR2 f (.val d, ρ) (.val e, ρ') = match f d e with
    | some xs => .ok ((xs, none), ρ')
    | none => .stuck := rfl
theorem law_between_ok {a c : Int} (ha : -1000 ≤ a ∧ a ≤ 100000) (hc : -1000 ≤ c ∧ c ≤ 100000) : F__law_between.run [fr w ds, .int a, .int c] = .ok (.val (.int (bw w ds a c)), []) := by
  rw [run__law_between]
  have hl := ev_lc1 (e := .v 3) (it := .range2 (.bin .add (.v 1) (.k (.int 1))) (.v 2)) (i := 3) (c := some (.call F__law_works [.v 0, .v 3])) (ρ := [.val (fr w ds), .val (.int a), .val (.int c), .none]) (xs := rangeN (a + 1) (c - (a + 1)).toNat) (o := none) (pInt (wk w ds)) (fun z => z)
    (by simp -implicitDefEqProofs [kR2_val, range2D_ok (i := a + 1) (j := c) (by omega) (by omega)]) (.inl rfl) rfl rfl (by rw [line_eq, rangeN_eq, List.length_map, rangeI_len]; omega)
    (fun z hz => by
      rw [rangeN_eq] at hz
      obtain ⟨x, hx, rfl⟩ := List.mem_map.mp hz
      simp [lockSlot, law_works_ok, D.flat, pInt])
    (fun z hz _ => by simp [lockSlot])
  rw [rangeN_eq, filter_ints] at hl
  have e : (c - (a + 1)).toNat = (c - a - 1).toNat := by omega
  rw [e, List.map_id'] at hl
  simp [fnRun, c__law_between, hl, bw, cw]
def wdl (w ds : List Int) (kind : Str) (n : Int) (b : Bool) (x y : Int) : Option Str :=
  if (b && !wk w ds y) then some "day" else if fw w ds kind n x y then none else some "rule"
theorem wdl_none (x y : Int) : (wdl w ds kind n b x y = none) ↔ kw w ds kind n b x y = true := by
  unfold wdl kw
  cases h1 : (b && !wk w ds y) <;> cases h2 : fw w ds kind n x y <;> simp
theorem law_word_ok (r : GoodR kind n) {x y : Int} (ha : -1000 ≤ x ∧ x ≤ 100000) (hc : -1000 ≤ y ∧ y ≤ 100000) : F__law_word.run [fr w ds, rl kind n b, .int x, .int y] = .ok (.val (oD (wdl w ds kind n b x y)), []) := by
  rw [run__law_word]
  cases ht : (b && !wk w ds y) with
  | true =>
    have hb : b = true := by cases b <;> simp_all
    have hw : wk w ds y = false := by cases h : wk w ds y <;> simp_all
    subst hb
    simp [fnRun, c__law_word, rl, D.flat, law_works_ok, hw, wdl, oD]
  | false =>
    have hb2 : b = false ∨ (b = true ∧ wk w ds y = true) := by cases b <;> simp_all
    have n1 := r.n1
    by_cases hk : kind = "days"
    · subst hk
      have mx : ∃ j, biD .max [.int 0, .int (y - x - 1)] = some (.val (.int j)) ∧ decide (j < n) = !decide (n ≤ y - x - 1) := by
        refine ⟨if y - x - 1 > 0 then y - x - 1 else 0, rfl, ?_⟩
        by_cases h1 : n ≤ y - x - 1
        · have h2 : ¬ (if y - x - 1 > 0 then y - x - 1 else 0) < n := by split <;> omega
          rw [decide_eq_true h1, decide_eq_false h2]; rfl
        · have h2 : (if y - x - 1 > 0 then y - x - 1 else 0) < n := by split <;> omega
          rw [decide_eq_false h1, decide_eq_true h2]; rfl
      obtain ⟨j, mx, e⟩ := mx
      by_cases h1 : n ≤ y - x - 1
      · have e' : ¬ j < n := by rw [decide_eq_true h1] at e; simpa using e
        rcases hb2 with hb | ⟨hb, hw⟩
        · subst hb
          simp [fnRun, c__law_word, rl, D.flat, mx, e', wdl, fw, h1, oD]
        · subst hb
          simp [fnRun, c__law_word, rl, D.flat, law_works_ok, hw, mx, e', wdl, fw, h1, oD]
      · have e' : j < n := by rw [decide_eq_false h1] at e; simpa using e
        rcases hb2 with hb | ⟨hb, hw⟩
        · subst hb
          simp [fnRun, c__law_word, rl, D.flat, mx, e', wdl, fw, h1, oD]
        · subst hb
          simp [fnRun, c__law_word, rl, D.flat, law_works_ok, hw, mx, e', wdl, fw, h1, oD]
    · have hkw : kind = "working" := r.k.resolve_left hk
      subst hkw
      have hb := law_between_ok (w := w) (ds := ds) ha hc
      by_cases h1 : n ≤ bw w ds x y
      · have e' : ¬ bw w ds x y < n := by omega
        rcases hb2 with hb' | ⟨hb', hw⟩
        · subst hb'
          simp [fnRun, c__law_word, rl, D.flat, hb, wdl, fw, h1, e', wne, oD]
        · subst hb'
          simp [fnRun, c__law_word, rl, D.flat, law_works_ok, hw, hb, wdl, fw, h1, e', wne, oD]
      · have e' : bw w ds x y < n := by omega
        rcases hb2 with hb' | ⟨hb', hw⟩
        · subst hb'
          simp [fnRun, c__law_word, rl, D.flat, hb, wdl, fw, h1, e', wne, oD]
        · subst hb'
          simp [fnRun, c__law_word, rl, D.flat, law_works_ok, hw, hb, wdl, fw, h1, e', wne, oD]
end K54
end
section
set_option linter.all false
set_option maxRecDepth 100000
namespace K54
open M MR
open PySem (Str)
variable {w ds : List Int} {kind : PySem.Str} {n : Int} {b : Bool}
mutual
theorem eq_py : ∀ (k : Nat) (d : D), d.plain k = true → PySem.PyData.eqv d.py d.py = true
  | _, .non, _ => by simp [D.py, PySem.PyData.eqv]
  | _, .bl _, _ => by simp [D.py, PySem.PyData.eqv]
  | _, .int _, _ => by simp [D.py, PySem.PyData.eqv]
  | _, .str _, _ => by simp [D.py, PySem.PyData.eqv]
  | 0, .lst xs, h => by simp [D.plain] at h
  | 0, .tup xs, h => by simp [D.plain] at h
  | k + 1, .lst xs, h => by
    simp only [D.py, PySem.PyData.eqv]
    exact eq_pys k xs (by simpa [D.plain] using h)
  | k + 1, .tup xs, h => by
    simp only [D.py, PySem.PyData.eqv]
    exact eq_pys k xs (by simpa [D.plain] using h)
  | k, .dct _, h => by cases k <;> simp [D.plain] at h
  | k, .dctT _, h => by cases k <;> simp [D.plain] at h
  | k, .fn _, h => by cases k <;> simp [D.plain] at h
theorem eq_pys : ∀ (k : Nat) (xs : List D), (∀ x ∈ xs, x.plain k = true) → PySem.PyData.eqvAll (D.pys xs) (D.pys xs) = true
  | _, [], _ => by simp [D.pys, PySem.PyData.eqvAll]
  | k, x :: xs, h => by
    simp only [D.pys, PySem.PyData.eqvAll]
    rw [eq_py k x (h x List.mem_cons_self), eq_pys k xs fun y hy => h y (List.mem_cons_of_mem _ hy)]
    rfl
end
theorem eqD_refl {d : D} (h : d.plain 9 = true) : eqD d d = some true := by
  unfold eqD
  rw [h]
  simp only [Bool.and_self, if_true]
  rw [eq_py 9 d h]
theorem eqD_any {d e : D} (h : d.plain 9 = true) (h2 : e.plain 9 = true) : ∃ r, eqD d e = some r := ⟨PySem.PyData.eqv d.py e.py, by unfold eqD; rw [h, h2]; rfl⟩
theorem plain_strs (k : Nat) (xs : List Str) : (D.lst (xs.map .str)).plain (k + 1) = true := by
  simp [D.plain]
theorem plain_strsT (k : Nat) (xs : List Str) : (D.tup (xs.map .str)).plain (k + 1) = true := by
  simp [D.plain]
theorem sortD_strs (xs : List Str) : ∃ ys : List Str, sortD false (xs.map .str) = some (ys.map .str) := by
  have h1 : (xs.map D.str).all (D.plain 8) = true := by simp [D.plain]
  have h2 : alikeAll (xs.map .str) = true := by
    unfold alikeAll
    rw [List.all_eq_true]
    intro x hx
    rw [List.all_eq_true]
    intro y hy
    obtain ⟨a, _, rfl⟩ := List.mem_map.mp hx
    obtain ⟨c, _, rfl⟩ := List.mem_map.mp hy
    rfl
  have h3 : (xs.map D.str).all isOther = true := by
    rw [List.all_eq_true]
    intro x hx
    obtain ⟨a, _, rfl⟩ := List.mem_map.mp hx
    rfl
  let f : D → Str := fun d => match d with
    | .str x => x
    | _ => ""
  refine ⟨((xs.map D.str).mergeSort (PySem.W.dataLe false D.py)).map f, ?_⟩
  unfold sortD
  rw [h1, h2, h3, Bool.or_true, if_pos (by rfl), List.map_map]
  congr 1
  have : ∀ y ∈ (xs.map D.str).mergeSort (PySem.W.dataLe false D.py), (D.str ∘ f) y = y := fun y hy => by
    rw [List.mem_mergeSort] at hy
    obtain ⟨a, _, rfl⟩ := List.mem_map.mp hy
    rfl
  rw [List.map_congr_left this]
  simp
/-- what law_same is asked of -/
def nice : Nat → D → Bool
  | _, .non => true
  | _, .bl _ => true
  | _, .int _ => true
  | _, .str _ => true
  | n + 1, .lst xs => xs.all (nice n) && decide (xs.length ≤ 1000)
  | n + 1, .tup xs => xs.all (nice n) && decide (xs.length ≤ 1000)
  | n + 1, .dct kvs => (kvs.all fun kv => nice n kv.2) && (kvs.all fun kv => kv.1.isRight) && decide (kvs.length ≤ 1000)
  | _, _ => false
theorem is_dct (d : List (Key × D)) : isiD [.dict] (.dct d) = some (.val (.bl true)) := rfl
theorem is_dct_l (d : List D) : isiD [.dict] (.lst d) = some (.val (.bl false)) := rfl
theorem is_dct_t (d : List D) : isiD [.dict] (.tup d) = some (.val (.bl false)) := rfl
theorem is_lst_t (d : List D) : isiD [.list] (.tup d) = some (.val (.bl false)) := rfl
theorem is_tup_l (d : List D) : isiD [.tuple] (.lst d) = some (.val (.bl false)) := rfl
theorem eq_bb (x : Bool) : eqD (.bl x) (.bl x) = some true := eqD_refl rfl
theorem subR_at {xs : List D} {k : Nat} (h : k < xs.length) : subR (.lst xs) (.int k) = some (.val xs[k]) := by
  have : ixN xs.length k = some k := by rw [ixN_of (by omega) (by omega)]; simp
  simp only [subR, subD, atI, this, Option.bind, List.getElem?_eq_getElem h, Option.map]
theorem subR_atT {xs : List D} {k : Nat} (h : k < xs.length) : subR (.tup xs) (.int k) = some (.val xs[k]) := by
  have : ixN xs.length k = some k := by rw [ixN_of (by omega) (by omega)]; simp
  simp only [subR, subD, atI, this, Option.bind, List.getElem?_eq_getElem h, Option.map]
theorem bi_list (xs : List D) : biD .list [.lst xs] = some (.own (.lst xs)) := by simp [biD]
theorem bi_listD (xs : List (Key × D)) : biD .list [.dct xs] = some (.own (.lst (xs.map fun kv => D.ofKey kv.1))) := by simp [biD]
theorem bi_sorted (xs : List D) : biD .sorted [.lst xs] = (sortD false xs).map fun ys => .own (.lst ys) := by simp only [biD]
theorem same_ok : ∀ (k : Nat) (d : D), nice k d = true → (R__law_same (k + 1)).run [d, d] = .ok (.val (.bl true), [])
  | k, .non, _ => by rw [runR__law_same]; kernel_rfl
  | k, .bl x, _ => by
    rw [runR__law_same]
    have i1 : isiD [.dict] (.bl x) = some (.val (.bl false)) := rfl
    have i2 : isiD [.tuple] (.bl x) = some (.val (.bl false)) := rfl
    have i3 : isiD [.list] (.bl x) = some (.val (.bl false)) := rfl
    have i4 : isiD [.int] (.bl x) = some (.val (.bl true)) := rfl
    have i5 : isiD [.str] (.bl x) = some (.val (.bl false)) := rfl
    have i6 : cmpR .is (.bl x) .non = some (.val (.bl false)) := rfl
    simp [fnRun, c__law_same, i1, i2, i3, i4, i5, i6, eq_bb]
  | k, .int x, _ => by
    rw [runR__law_same]
    have i1 : isiD [.dict] (.int x) = some (.val (.bl false)) := rfl
    have i2 : isiD [.tuple] (.int x) = some (.val (.bl false)) := rfl
    have i3 : isiD [.list] (.int x) = some (.val (.bl false)) := rfl
    have i5 : isiD [.str] (.int x) = some (.val (.bl false)) := rfl
    have i6 : cmpR .is (.int x) .non = some (.val (.bl false)) := rfl
    simp [fnRun, c__law_same, i1, i2, i3, i5, i6, eq_bb]
  | k, .str x, _ => by
    rw [runR__law_same]
    have i1 : isiD [.dict] (.str x) = some (.val (.bl false)) := rfl
    have i2 : isiD [.tuple] (.str x) = some (.val (.bl false)) := rfl
    have i3 : isiD [.list] (.str x) = some (.val (.bl false)) := rfl
    have i4 : isiD [.int] (.str x) = some (.val (.bl false)) := rfl
    have i5 : isiD [.bool] (.str x) = some (.val (.bl false)) := rfl
    have i6 : cmpR .is (.str x) .non = some (.val (.bl false)) := rfl
    have e : eqD (.str x) (.str x) = some true := eqD_refl rfl
    simp [fnRun, c__law_same, i1, i2, i3, i4, i5, i6, eq_bb, e]
  | k + 1, .lst xs, h => by
    rw [runR__law_same]
    simp only [nice, Bool.and_eq_true, List.all_eq_true, decide_eq_true_eq] at h
    have hl := ev_lc1 (e := .call (R__law_same (k + 1)) [.sub (.v 0) (.v 3), .sub (.v 1) (.v 3)]) (it := .range1 (.bi .len [.v 1])) (i := 3) (c := none) (ρ := [.val (.lst xs), .val (.lst xs), .none, .none]) (xs := rangeN 0 xs.length) (o := none) (fun _ => true) (fun _ => .bl true)
      (by simp -implicitDefEqProofs [kR_val, range1D_nat _ h.2]) (.inl rfl) rfl rfl (by rw [line_eq, rangeN_eq, List.length_map, rangeI_len]; omega) (fun z hz => evC_none _) (fun z hz _ => by
        rw [rangeN_eq] at hz
        obtain ⟨x, hx, rfl⟩ := List.mem_map.mp hz
        have hx := mem_rangeI.mp hx
        obtain ⟨j, rfl⟩ : ∃ j : Nat, x = j := ⟨x.toNat, by omega⟩
        have hj : j < xs.length := by omega
        have ih := same_ok k xs[j] (h.1 _ (List.getElem_mem hj))
        simp [lockSlot, subR_at hj, ih, D.flat])
    simp -implicitDefEqProofs [fnRun, c__law_same, is_dct_l, is_tup_l, eq_bb, hl]
  | k + 1, .tup xs, h => by
    rw [runR__law_same]
    simp only [nice, Bool.and_eq_true, List.all_eq_true, decide_eq_true_eq] at h
    have hl := ev_lc1 (e := .call (R__law_same (k + 1)) [.sub (.v 0) (.v 3), .sub (.v 1) (.v 3)]) (it := .range1 (.bi .len [.v 1])) (i := 3) (c := none) (ρ := [.val (.tup xs), .val (.tup xs), .none, .none]) (xs := rangeN 0 xs.length) (o := none) (fun _ => true) (fun _ => .bl true)
      (by simp -implicitDefEqProofs [kR_val, range1D_nat _ h.2]) (.inl rfl) rfl rfl (by rw [line_eq, rangeN_eq, List.length_map, rangeI_len]; omega) (fun z hz => evC_none _) (fun z hz _ => by
        rw [rangeN_eq] at hz
        obtain ⟨x, hx, rfl⟩ := List.mem_map.mp hz
        have hx := mem_rangeI.mp hx
        obtain ⟨j, rfl⟩ : ∃ j : Nat, x = j := ⟨x.toNat, by omega⟩
        have hj : j < xs.length := by omega
        have ih := same_ok k xs[j] (h.1 _ (List.getElem_mem hj))
        simp [lockSlot, subR_atT hj, ih, D.flat])
    simp -implicitDefEqProofs [fnRun, c__law_same, is_dct_t, is_lst_t, eq_bb, hl]
  | k + 1, .dct kvs, h => by
    rw [runR__law_same]
    simp only [nice, Bool.and_eq_true, List.all_eq_true, decide_eq_true_eq] at h
    obtain ⟨⟨h1, h2⟩, h3⟩ := h
    have hkeys : ∃ xs : List Str, (kvs.map fun kv => D.ofKey kv.1) = xs.map .str := by
      refine ⟨kvs.map fun kv => match kv.1 with
        | .inr s => s
        | .inl _ => "", ?_⟩
      rw [List.map_map]
      refine List.map_congr_left fun kv hkv => ?_
      have := h2 kv hkv
      cases e : kv.1 with
      | inl i => rw [e] at this; cases this
      | inr s => simp [D.ofKey, e]
    obtain ⟨xs, hx⟩ := hkeys
    obtain ⟨ys, hs⟩ := sortD_strs xs
    have er := eqD_refl (plain_strs 8 ys)
    have hl := ev_lc1 (e := .call (R__law_same (k + 1)) [.sub (.v 0) (.v 2), .sub (.v 1) (.v 2)]) (it := .e (.v 1)) (i := 2) (c := none) (ρ := [.val (.dct kvs), .val (.dct kvs), .none, .none]) (xs := kvs.map fun kv => D.ofKey kv.1) (o := none) (fun _ => true) (fun _ => .bl true)
      (by simp [kI, itemsD, slotOf]) (.inl rfl) rfl rfl (by rw [line_eq, List.length_map]; omega) (fun z hz => evC_none _) (fun z hz _ => by
        obtain ⟨kv, hkv, rfl⟩ := List.mem_map.mp hz
        have hf : ∃ v, (∃ q ∈ kvs, q.2 = v) ∧ findK kvs kv.1 = some v := by
          unfold findK
          cases e : kvs.find? fun q => decide (q.1 = kv.1) with
          | none =>
            have := List.find?_eq_none.mp e kv hkv
            simp at this
          | some q => exact ⟨q.2, ⟨q, List.mem_of_find?_eq_some e, rfl⟩, rfl⟩
        obtain ⟨v, ⟨q, hq, rfl⟩, hf⟩ := hf
        have ih := same_ok k q.2 (h1 q hq)
        have hk : (D.ofKey kv.1).key? = some kv.1 := by cases kv.1 <;> rfl
        have hsub : subR (.dct kvs) (D.ofKey kv.1) = some (.val q.2) := by
          show ((D.ofKey kv.1).key?.bind (findK kvs)).map Res.val = _
          rw [hk]
          show (findK kvs kv.1).map Res.val = _
          rw [hf]; rfl
        simp [lockSlot, hsub, ih, D.flat])
    rw [filter_tt] at hl
    rw [hx] at hl
    simp -implicitDefEqProofs [fnRun, c__law_same, is_dct, bi_listD, hx, bi_sorted, hs, er, hl, Function.comp_def]
  | 0, .lst xs, h => by simp [nice] at h
  | 0, .tup xs, h => by simp [nice] at h
  | 0, .dct xs, h => by simp [nice] at h
  | k, .dctT _, h => by cases k <;> simp [nice] at h
  | k, .fn _, h => by cases k <;> simp [nice] at h
end K54
end
section
set_option linter.all false
set_option maxRecDepth 100000
namespace K54
open M MR
open PySem (Str)
variable {w ds : List Int} {kind : PySem.Str} {n : Int} {b : Bool}
theorem ev_dyn (Fs : List FnE) (f : CE) (es : List CE) (ρ : Env) : ev (.dyn Fs f es) ρ = (ev f ρ).bind fun q => match deref q.2 q.1 with
      | some (.fn x) => match Fs.find? fun F => decide (F.name = x) with
        | some F => (evs es q.2).bind fun p => callF F p.1 p.2
        | none => .stuck
      | _ => .stuck := by first | (simp only [ev]; done) | (simp only [ev]; rfl)
def six : List D := [.fn "working_between", .fn "first_meeting", .fn "last_notice", .fn "good_calls", .fn "why_bad", .fn "next_working"]
def three : List D := [.fn "does_keep", .fn "takes_meeting", .fn "takes_calls"]
def sixF : List FnE := [F_working_between, F_first_meeting, F_last_notice, F_good_calls, F_why_bad, F_next_working]
def threeF : List FnE := [F_does_keep, F_takes_meeting, F_takes_calls]
/-- a def of three, by its number -/
theorem told6 {k : Int} {F : FnE} {x : Str} {f a c d : D} {r : Res} (h1 : 1 ≤ k) (h7 : k < 7) (hs : subR (.lst six) (.int (k - 1)) = some (.val (.fn x))) (hf : (sixF.find? fun F => decide (F.name = x)) = some F) (hn : F.nin = 0) (hst : F.star = none)
    (hr : F.run [f, a, c] = .ok (r, [])) (hv : ∀ i, r ≠ .slot i) : F__law_told.run [.int k, f, a, c, d] = .ok (r, []) := by
  have hb : fnRun 6 5 0 c__law_told [.int k, f, a, c, d] = .ok (r, []) := by
    have e0 : ¬ k = 0 := by omega
    unfold six at hs
    unfold sixF at hf
    cases r with
    | slot i => exact absurd rfl (hv i)
    | val v => cases hfl : v.flat <;> simp [fnRun, c__law_told, e0, h7, ev_dyn, hs, hf, hn, hst, hr, hfl]
    | own v => simp [fnRun, c__law_told, e0, h7, ev_dyn, hs, hf, hn, hst, hr]
  rw [run__law_told]
  unfold toldRun
  rw [hb]
theorem told3 {k : Int} {F : FnE} {x : Str} {f a c d : D} {r : Res} (h1 : 7 ≤ k) (h7 : k < 10) (hs : subR (.lst three) (.int (k - 7)) = some (.val (.fn x))) (hf : (threeF.find? fun F => decide (F.name = x)) = some F) (hn : F.nin = 0) (hst : F.star = none)
    (hr : F.run [f, a, c, d] = .ok (r, [])) (hv : ∀ i, r ≠ .slot i) : F__law_told.run [.int k, f, a, c, d] = .ok (r, []) := by
  have hb : fnRun 6 5 0 c__law_told [.int k, f, a, c, d] = .ok (r, []) := by
    have e0 : ¬ k = 0 := by omega
    have e1 : ¬ k < 7 := by omega
    unfold three at hs
    unfold threeF at hf
    cases r with
    | slot i => exact absurd rfl (hv i)
    | val v => cases hfl : v.flat <;> simp [fnRun, c__law_told, e0, e1, h7, ev_dyn, hs, hf, hn, hst, hr, hfl]
    | own v => simp [fnRun, c__law_told, e0, e1, h7, ev_dyn, hs, hf, hn, hst, hr]
  rw [run__law_told]
  unfold toldRun
  rw [hb]
theorem told_0 {f a c d : D} {r : D} (hr : F_is_working.run [f, a] = .ok (.val r, [])) : F__law_told.run [.int 0, f, a, c, d] = .ok (.val r, []) := by
  have hb : fnRun 6 5 0 c__law_told [.int 0, f, a, c, d] = .ok (.val r, []) := by
    cases hfl : r.flat <;> simp [fnRun, c__law_told, hr, hfl]
  rw [run__law_told]
  unfold toldRun
  rw [hb]
theorem told_10 {f a c x y : D} {r : D} (hr : F_meetings_in.run [f, a, c, x, y] = .ok (.own r, [])) : F__law_told.run [.int 10, f, a, c, .tup [x, y]] = .ok (.own r, []) := by
  have hb : fnRun 6 5 0 c__law_told [.int 10, f, a, c, .tup [x, y]] = .ok (.own r, []) := by
    have s0 : subR (.tup [x, y]) (.int 0) = some (.val x) := rfl
    have s1 : subR (.tup [x, y]) (.int 1) = some (.val y) := rfl
    simp [fnRun, c__law_told, hr, s0, s1]
  rw [run__law_told]
  unfold toldRun
  rw [hb]
theorem told_1 {f a c d : D} {r : Res} (hr : F_working_between.run [f, a, c] = .ok (r, [])) (hv : ∀ i, r ≠ .slot i) : F__law_told.run [.int 1, f, a, c, d] = .ok (r, []) :=
  told6 (F := F_working_between) (x := "working_between") (by decide) (by decide) (by kernel_rfl) (by kernel_rfl) rfl rfl hr hv
theorem told_2 {f a c d : D} {r : Res} (hr : F_first_meeting.run [f, a, c] = .ok (r, [])) (hv : ∀ i, r ≠ .slot i) : F__law_told.run [.int 2, f, a, c, d] = .ok (r, []) :=
  told6 (F := F_first_meeting) (x := "first_meeting") (by decide) (by decide) (by kernel_rfl) (by kernel_rfl) rfl rfl hr hv
theorem told_3 {f a c d : D} {r : Res} (hr : F_last_notice.run [f, a, c] = .ok (r, [])) (hv : ∀ i, r ≠ .slot i) : F__law_told.run [.int 3, f, a, c, d] = .ok (r, []) :=
  told6 (F := F_last_notice) (x := "last_notice") (by decide) (by decide) (by kernel_rfl) (by kernel_rfl) rfl rfl hr hv
theorem told_4 {f a c d : D} {r : Res} (hr : F_good_calls.run [f, a, c] = .ok (r, [])) (hv : ∀ i, r ≠ .slot i) : F__law_told.run [.int 4, f, a, c, d] = .ok (r, []) :=
  told6 (F := F_good_calls) (x := "good_calls") (by decide) (by decide) (by kernel_rfl) (by kernel_rfl) rfl rfl hr hv
theorem told_5 {f a c d : D} {r : Res} (hr : F_why_bad.run [f, a, c] = .ok (r, [])) (hv : ∀ i, r ≠ .slot i) : F__law_told.run [.int 5, f, a, c, d] = .ok (r, []) :=
  told6 (F := F_why_bad) (x := "why_bad") (by decide) (by decide) (by kernel_rfl) (by kernel_rfl) rfl rfl hr hv
theorem told_6 {f a c d : D} {r : Res} (hr : F_next_working.run [f, a, c] = .ok (r, [])) (hv : ∀ i, r ≠ .slot i) : F__law_told.run [.int 6, f, a, c, d] = .ok (r, []) :=
  told6 (F := F_next_working) (x := "next_working") (by decide) (by decide) (by kernel_rfl) (by kernel_rfl) rfl rfl hr hv
theorem told_7 {f a c d : D} {r : Res} (hr : F_does_keep.run [f, a, c, d] = .ok (r, [])) (hv : ∀ i, r ≠ .slot i) : F__law_told.run [.int 7, f, a, c, d] = .ok (r, []) :=
  told3 (F := F_does_keep) (x := "does_keep") (by decide) (by decide) (by kernel_rfl) (by kernel_rfl) rfl rfl hr hv
theorem told_8 {f a c d : D} {r : Res} (hr : F_takes_meeting.run [f, a, c, d] = .ok (r, [])) (hv : ∀ i, r ≠ .slot i) : F__law_told.run [.int 8, f, a, c, d] = .ok (r, []) :=
  told3 (F := F_takes_meeting) (x := "takes_meeting") (by decide) (by decide) (by kernel_rfl) (by kernel_rfl) rfl rfl hr hv
theorem told_9 {f a c d : D} {r : Res} (hr : F_takes_calls.run [f, a, c, d] = .ok (r, [])) (hv : ∀ i, r ≠ .slot i) : F__law_told.run [.int 9, f, a, c, d] = .ok (r, []) :=
  told3 (F := F_takes_calls) (x := "takes_calls") (by decide) (by decide) (by kernel_rfl) (by kernel_rfl) rfl rfl hr hv
end K54
end
section
set_option linter.all false
set_option maxRecDepth 100000
namespace K54
open M MR
open PySem (Str)
def oddL : List D := [.non, .lst [.tup [], .tup []], .tup [.tup []], .tup [.tup [.int 7], .tup []], .tup [.tup [.int 1, .int 0], .tup []], .tup [.tup [.int 0, .int 1, .int 2, .int 3, .int 4, .int 5, .int 6], .tup []], .tup [.tup [], .tup [.int (-1)]], .tup [.tup [], .tup [.int 100001]], .tup [.tup [], .tup [.int 2, .int 1]], .tup [.lst [.int 5], .tup []], .tup [.tup [.bl true], .tup []], .tup [.tup [], .tup (rangeN 0 101)]]
def rulesL : List D := [.non, .tup [.str "days", .int 1], .lst [.str "days", .int 1, .bl true], .tup [.str "weeks", .int 1, .bl true], .tup [.str "days", .int 0, .bl true], .tup [.str "days", .int 61, .bl true], .tup [.str "days", .bl true, .bl true], .tup [.str "days", .int 1, .int 1], .tup [.int 1, .int 1, .bl true]]
def daysL : List D := [.int (-1), .int 100001, .non, .bl true]
def callsL : List D := [.non, .tup [.tup [.str "a", .int 0, .int 9]], .lst [.tup [.str "a", .int 0]], .lst [.tup [.str "A", .int 0, .int 9]], .lst [.tup [.str "a", .int (-1), .int 9]], .lst [.tup [.str "a", .int 0, .int 9], .tup [.str "a", .int 1, .int 20]], .lst [.lst [.str "a", .int 0, .int 9]]]
def offD : D := .tup [.tup [.int 5, .int 6], .tup [.int 2]]
def termD : D := .tup [.str "working", .int 2, .bl true]
def R1 : D := .str "refused 1"
def ref1 : Out (Res × List D) := .ok (.val R1, [])
def fls : Out (Res × List D) := .ok (.val (.bl false), [])
theorem of_map {α : Type} {f : α → Out (Res × List D)} {xs : List α} {r : Out (Res × List D)} (h : xs.map f = xs.map fun _ => r) : ∀ x ∈ xs, f x = r := fun x hx => by
  have := List.map_inj_left.mp h
  exact this x hx
theorem b_0 : ∀ d ∈ oddL, F__law_told.run [.int 0, d, .int 0, .non, .non] = ref1 := of_map (by kernel_rfl)
theorem d_0 : ∀ d ∈ daysL, F__law_told.run [.int 0, offD, d, .non, .non] = ref1 := of_map (by kernel_rfl)
theorem b_1 : ∀ d ∈ oddL, F__law_told.run [.int 1, d, .int 0, .int 1, .non] = ref1 := of_map (by kernel_rfl)
theorem d_1 : ∀ d ∈ daysL, F__law_told.run [.int 1, offD, d, .int 1, .non] = ref1 := of_map (by kernel_rfl)
theorem d_1b : ∀ d ∈ daysL, F__law_told.run [.int 1, offD, .int 1, d, .non] = ref1 := of_map (by kernel_rfl)
theorem b_2 : ∀ d ∈ oddL, F__law_told.run [.int 2, d, termD, .int 0, .non] = ref1 := of_map (by kernel_rfl)
theorem w_2 : ∀ d ∈ rulesL, F__law_told.run [.int 2, offD, d, .int 0, .non] = ref1 := of_map (by kernel_rfl)
theorem d_2 : ∀ d ∈ daysL, F__law_told.run [.int 2, offD, termD, d, .non] = ref1 := of_map (by kernel_rfl)
theorem b_3 : ∀ d ∈ oddL, F__law_told.run [.int 3, d, termD, .int 0, .non] = ref1 := of_map (by kernel_rfl)
theorem w_3 : ∀ d ∈ rulesL, F__law_told.run [.int 3, offD, d, .int 0, .non] = ref1 := of_map (by kernel_rfl)
theorem d_3 : ∀ d ∈ daysL, F__law_told.run [.int 3, offD, termD, d, .non] = ref1 := of_map (by kernel_rfl)
theorem b_6 : ∀ d ∈ oddL, F__law_told.run [.int 6, d, .int 0, .int 1, .non] = ref1 := of_map (by kernel_rfl)
theorem d_6 : ∀ d ∈ daysL, F__law_told.run [.int 6, offD, d, .int 1, .non] = ref1 := of_map (by kernel_rfl)
theorem n_6 : ∀ d ∈ [.int 0, .int 401, .non], F__law_told.run [.int 6, offD, .int 0, d, .non] = ref1 := of_map (by kernel_rfl)
theorem b_7 : ∀ d ∈ oddL, F__law_told.run [.int 7, d, termD, .int 0, .int 9] = ref1 := of_map (by kernel_rfl)
theorem w_7 : ∀ d ∈ rulesL, F__law_told.run [.int 7, offD, d, .int 0, .int 9] = ref1 := of_map (by kernel_rfl)
theorem d_7 : ∀ d ∈ daysL, F__law_told.run [.int 7, offD, termD, d, .int 9] = ref1 := of_map (by kernel_rfl)
theorem d_7b : ∀ d ∈ daysL, F__law_told.run [.int 7, offD, termD, .int 0, d] = ref1 := of_map (by kernel_rfl)
theorem b_10 : ∀ d ∈ oddL, F__law_told.run [.int 10, d, termD, .int 0, .tup [.int 0, .int 9]] = ref1 := of_map (by kernel_rfl)
theorem w_10 : ∀ d ∈ rulesL, F__law_told.run [.int 10, offD, d, .int 0, .tup [.int 0, .int 9]] = ref1 := of_map (by kernel_rfl)
theorem d_10 : ∀ d ∈ daysL, F__law_told.run [.int 10, offD, termD, d, .tup [.int 0, .int 9]] = ref1 := of_map (by kernel_rfl)
theorem d_10b : ∀ d ∈ daysL, F__law_told.run [.int 10, offD, termD, .int 0, .tup [d, .int 9]] = ref1 := of_map (by kernel_rfl)
theorem d_10c : ∀ d ∈ daysL, F__law_told.run [.int 10, offD, termD, .int 0, .tup [.int 0, d]] = ref1 := of_map (by kernel_rfl)
theorem x_10 : F__law_told.run [.int 10, offD, termD, .int 0, .tup [.int 0, .int 401]] = ref1 := by kernel_rfl
theorem b_4 : ∀ d ∈ oddL, F__law_told.run [.int 4, d, termD, .lst [], .non] = ref1 := of_map (by kernel_rfl)
theorem w_4 : ∀ d ∈ rulesL, F__law_told.run [.int 4, offD, d, .lst [], .non] = ref1 := of_map (by kernel_rfl)
theorem c_4 : ∀ d ∈ callsL, F__law_told.run [.int 4, offD, termD, d, .non] = ref1 := of_map (by kernel_rfl)
theorem b_5 : ∀ d ∈ oddL, F__law_told.run [.int 5, d, termD, .lst [], .non] = ref1 := of_map (by kernel_rfl)
theorem w_5 : ∀ d ∈ rulesL, F__law_told.run [.int 5, offD, d, .lst [], .non] = ref1 := of_map (by kernel_rfl)
theorem c_5 : ∀ d ∈ callsL, F__law_told.run [.int 5, offD, termD, d, .non] = ref1 := of_map (by kernel_rfl)
theorem b_8 : ∀ d ∈ oddL, F__law_told.run [.int 8, d, termD, .int 0, .int 4] = ref1 := of_map (by kernel_rfl)
theorem b_9 : ∀ d ∈ oddL, F__law_told.run [.int 9, d, termD, .lst [], .lst []] = ref1 := of_map (by kernel_rfl)
theorem w_8 : ∀ d ∈ rulesL, F__law_told.run [.int 8, offD, d, .int 0, .int 4] = fls := of_map (by kernel_rfl)
theorem d_8 : ∀ d ∈ daysL, F__law_told.run [.int 8, offD, termD, d, .int 4] = fls := of_map (by kernel_rfl)
theorem w_9 : ∀ d ∈ rulesL, F__law_told.run [.int 9, offD, d, .lst [], .lst []] = fls := of_map (by kernel_rfl)
theorem c_9 : ∀ d ∈ callsL, F__law_told.run [.int 9, offD, termD, d, .lst []] = fls := of_map (by kernel_rfl)
theorem e_1 : F__law_told.run [.int 2, .tup [.tup [], .tup []], .tup [.str "days", .int 3, .bl false], .int 99996, .non] = .ok (.val (.int 100000), []) := by kernel_rfl
theorem e_2 : F__law_told.run [.int 2, .tup [.tup [], .tup []], .tup [.str "days", .int 3, .bl false], .int 99997, .non] = .ok (.val (.str "refused 3"), []) := by kernel_rfl
theorem e_3 : F__law_told.run [.int 6, .tup [.tup [], .tup []], .int 99999, .int 2, .non] = .ok (.val (.int 100000), []) := by kernel_rfl
theorem e_4 : F__law_told.run [.int 6, .tup [.tup [], .tup []], .int 99999, .int 3, .non] = .ok (.val (.str "refused 3"), []) := by kernel_rfl
theorem e_5 : F__law_told.run [.int 8, .tup [.tup [], .tup []], .tup [.str "days", .int 3, .bl false], .int 99997, .int 100000] = fls := by kernel_rfl
theorem o_free : ∀ d ∈ oddL, F_are_free_days.run [d] = fls := of_map (by kernel_rfl)
theorem o_rule : ∀ d ∈ rulesL, F_is_notice_rule.run [d] = fls := of_map (by kernel_rfl)
end K54
end
section
set_option linter.all false
set_option maxRecDepth 100000
namespace K54
open M MR
open PySem (Str)
def E0 (s0 : D) (ms : List Int) (s2 s3 s4 : Slot) : Env := [.val s0, .own (.lst (ms.map .int)), s2, s3, s4, .none, .none, .none, .none, .none, .none, .none, .none, .none, .none, .none, .none, .none, .none, .none]
def tA : List CS := (c_law.drop 2).take 5
theorem tA_ok (s0 : D) (ms : List Int) (s2 s3 s4 : Slot) : execs tA (E0 s0 ms s2 s3 s4) = .ok (.next, [.val s0, .own (.lst (ms.map .int)), s2, s3, s4, .own (.lst oddL), .own (.lst rulesL), .none, .none, .none, .none, .none, .none, .none, .none, .none, .none, .none, .none, .none]) := by
  kernel_rfl
theorem lc_told {i : Nat} {ρ : Env} {xs : List D} {e : CE} {it : CI} {r : D} (hI : evI it ρ = .ok ((xs, none), ρ)) (hi : ρ[i]? = some .none) (hl : xs.length ≤ line) (he : ∀ x ∈ xs, ev e (ρ.set i (.val x)) = .ok (.val r, ρ.set i (.val x))) :
    ev (.lc e (.n i) it [i] none) ρ = .ok (.own (.lst (xs.map fun _ => r)), ρ) := by
  have := ev_lc1 (e := e) (it := it) (i := i) (c := none) (ρ := ρ) (xs := xs) (o := none) (fun _ => true) (fun _ => r) hI (.inl hi) rfl rfl hl (fun z _ => evC_none _) (fun z hz _ => by
    rw [show lockSlot ρ none = ρ from rfl, he z hz, MR.bind_ok, freeze_val])
  rw [this, filter_tt]
def E1 (s0 : D) (ms : List Int) (s2 s3 s4 s5 s6 : Slot) (bad wrong day : D) (L s13 : Slot) : Env := [.val s0, .own (.lst (ms.map .int)), s2, s3, s4, s5, s6, .val bad, .val wrong, .val day, .val offD, .val termD, L, s13, .none, .none, .none, .none, .none, .none]
theorem flat_R1 : R1.flat = true := rfl
def tB : List CS := (c_law.drop 7).take 2
theorem flat_draws (ms : List Int) : (ms.map D.int).all D.flat = true := by
  rw [List.all_eq_true]
  intro x hx
  obtain ⟨i, _, rfl⟩ := List.mem_map.mp hx
  rfl
theorem tB_ok (s0 : D) (ms : List Int) (s2 s3 s4 : Slot) : ∃ (ms' : List Int) (s5 s6 : Slot) (bad wrong day : D), bad ∈ oddL ∧ wrong ∈ rulesL ∧ day ∈ daysL ∧ execs tB [.val s0, .own (.lst (ms.map .int)), s2, s3, s4, .own (.lst oddL), .own (.lst rulesL), .none, .none, .none, .none, .none, .none, .none, .none, .none, .none, .none, .none, .none] = .ok (.next, E1 s0 ms' s2 s3 s4 s5 s6 bad wrong day .none .none) := by
  obtain ⟨bad, ms1, m1, e1⟩ := law_pick_ok ms (xs := oddL) (by simp [oddL])
  obtain ⟨wrong, ms2, m2, e2⟩ := law_pick_ok ms1 (xs := rulesL) (by simp [rulesL])
  obtain ⟨day, ms3, m3, e3⟩ := law_pick_ok ms2 (xs := [.int (-1), .int 100001, .non, .bl true]) (by simp)
  have f3 : day.flat = true := by
    simp at m3
    rcases m3 with rfl | rfl | rfl | rfl <;> rfl
  have negd : negD (.int 1) = some (.val (.int (-1))) := rfl
  refine ⟨ms3, if bad.flat then .own (.lst oddL) else .val (.lst oddL), if wrong.flat then .own (.lst rulesL) else .val (.lst rulesL), bad, wrong, day, m1, m2, m3, ?_⟩
  cases f1 : bad.flat <;> cases f2 : wrong.flat <;>
    simp -implicitDefEqProofs [tB, c_law, e1, e2, e3, f1, f2, f3, negd, settle, setSlots, E1, offD, termD, flatL, flat_int]
def reps (k : Nat) : Slot := .own (.lst (List.replicate k R1))
theorem told_def (a b c d e : D) (r : Out (Res × List D)) (h : F__law_told.run [a, b, c, d, e] = r) : F__law_told.run [a, b, c, d, e] = r := h
section
variable {s0 : D} {ms : List Int} {s2 s3 s4 s5 s6 s13 : Slot} {bad wrong day : D} (hb : bad ∈ oddL) (hw : wrong ∈ rulesL) (hd : day ∈ daysL)
include hb hw hd
theorem s_9 : exec (.asg 12 (.lst [.call F__law_told [.k (.int 0), .v 7, .k (.int 0), .k .non, .k .non], .call F__law_told [.k (.int 0), .v 10, .v 9, .k .non, .k .non], .call F__law_told [.k (.int 1), .v 7, .k (.int 0), .k (.int 1), .k .non]])) (E1 s0 ms s2 s3 s4 s5 s6 bad wrong day .none s13) = .ok (.next, E1 s0 ms s2 s3 s4 s5 s6 bad wrong day (reps 3) s13) := by
  have add : ∀ a c, a.length + c.length ≤ 100 → binD .add (.lst a) (.lst c) = some (.own (.lst (a ++ c))) := fun a c h => by
    have : a.length + c.length ≤ line := by rw [line_eq]; omega
    simp [binD, this]
  simp -implicitDefEqProofs [E1, b_0 _ hb, d_0 _ hd, b_1 _ hb, ref1, flat_R1, reps, add]
theorem s_10 : exec (.asg 12 (.bin .add (.v 12) (.lst [.call F__law_told [.k (.int 1), .v 10, .v 9, .k (.int 1), .k .non], .call F__law_told [.k (.int 1), .v 10, .k (.int 1), .v 9, .k .non]]))) (E1 s0 ms s2 s3 s4 s5 s6 bad wrong day (reps 3) s13) = .ok (.next, E1 s0 ms s2 s3 s4 s5 s6 bad wrong day (reps 5) s13) := by
  have add : ∀ a c, a.length + c.length ≤ 100 → binD .add (.lst a) (.lst c) = some (.own (.lst (a ++ c))) := fun a c h => by
    have : a.length + c.length ≤ line := by rw [line_eq]; omega
    simp [binD, this]
  simp -implicitDefEqProofs [E1, d_1 _ hd, d_1b _ hd, ref1, flat_R1, reps, add]
theorem s_11 : exec (.asg 12 (.bin .add (.bin .add (.v 12) (.lc (.call F__law_told [.v 16, .v 7, .v 11, .k (.int 0), .k .non]) (.n 16) (.e (.lst [.k (.int 2), .k (.int 3)])) [16] none)) (.lc (.call F__law_told [.v 16, .v 10, .v 8, .k (.int 0), .k .non]) (.n 16) (.e (.lst [.k (.int 2), .k (.int 3)])) [16] none))) (E1 s0 ms s2 s3 s4 s5 s6 bad wrong day (reps 5) s13) = .ok (.next, E1 s0 ms s2 s3 s4 s5 s6 bad wrong day (reps 9) s13) := by
  have add : ∀ a c, a.length + c.length ≤ 100 → binD .add (.lst a) (.lst c) = some (.own (.lst (a ++ c))) := fun a c h => by
    have : a.length + c.length ≤ line := by rw [line_eq]; omega
    simp [binD, this]
  have l0 := lc_told (i := 16) (e := .call F__law_told [.v 16, .v 7, .v 11, .k (.int 0), .k .non]) (it := .e (.lst [.k (.int 2), .k (.int 3)])) (ρ := E1 s0 ms s2 s3 s4 s5 s6 bad wrong day (reps 5) s13) (xs := [.int 2, .int 3]) (r := R1) (by simp [kI, itemsD, slotOf, E1]) rfl (by simp [line_eq]) (fun x hx => by
    simp only [List.mem_cons, List.not_mem_nil, or_false] at hx
    rcases hx with rfl | rfl
    · simp [E1, b_2 _ hb, ref1, flat_R1]
    · simp [E1, b_3 _ hb, ref1, flat_R1])
  have l1 := lc_told (i := 16) (e := .call F__law_told [.v 16, .v 10, .v 8, .k (.int 0), .k .non]) (it := .e (.lst [.k (.int 2), .k (.int 3)])) (ρ := E1 s0 ms s2 s3 s4 s5 s6 bad wrong day (reps 5) s13) (xs := [.int 2, .int 3]) (r := R1) (by simp [kI, itemsD, slotOf, E1]) rfl (by simp [line_eq]) (fun x hx => by
    simp only [List.mem_cons, List.not_mem_nil, or_false] at hx
    rcases hx with rfl | rfl
    · simp [E1, w_2 _ hw, ref1, flat_R1]
    · simp [E1, w_3 _ hw, ref1, flat_R1])
  simp only [E1, reps, List.replicate] at l0 l1
  simp -implicitDefEqProofs [E1, l0, l1, ref1, flat_R1, reps, add]
theorem s_12 : exec (.asg 12 (.bin .add (.bin .add (.v 12) (.lc (.call F__law_told [.v 16, .v 10, .v 11, .v 9, .k .non]) (.n 16) (.e (.lst [.k (.int 2), .k (.int 3)])) [16] none)) (.lst [.call F__law_told [.k (.int 6), .v 7, .k (.int 0), .k (.int 1), .k .non], .call F__law_told [.k (.int 6), .v 10, .v 9, .k (.int 1), .k .non]]))) (E1 s0 ms s2 s3 s4 s5 s6 bad wrong day (reps 9) s13) = .ok (.next, E1 s0 ms s2 s3 s4 s5 s6 bad wrong day (reps 13) s13) := by
  have add : ∀ a c, a.length + c.length ≤ 100 → binD .add (.lst a) (.lst c) = some (.own (.lst (a ++ c))) := fun a c h => by
    have : a.length + c.length ≤ line := by rw [line_eq]; omega
    simp [binD, this]
  have l0 := lc_told (i := 16) (e := .call F__law_told [.v 16, .v 10, .v 11, .v 9, .k .non]) (it := .e (.lst [.k (.int 2), .k (.int 3)])) (ρ := E1 s0 ms s2 s3 s4 s5 s6 bad wrong day (reps 9) s13) (xs := [.int 2, .int 3]) (r := R1) (by simp [kI, itemsD, slotOf, E1]) rfl (by simp [line_eq]) (fun x hx => by
    simp only [List.mem_cons, List.not_mem_nil, or_false] at hx
    rcases hx with rfl | rfl
    · simp [E1, d_2 _ hd, ref1, flat_R1]
    · simp [E1, d_3 _ hd, ref1, flat_R1])
  simp only [E1, reps, List.replicate] at l0
  simp -implicitDefEqProofs [E1, l0, b_6 _ hb, d_6 _ hd, ref1, flat_R1, reps, add]
theorem s_13 : exec (.asg 12 (.bin .add (.bin .add (.v 12) (.lc (.call F__law_told [.k (.int 6), .v 10, .k (.int 0), .v 17, .k .non]) (.n 17) (.e (.lst [.k (.int 0), .k (.int 401), .k .non])) [17] none)) (.lst [.call F__law_told [.k (.int 7), .v 7, .v 11, .k (.int 0), .k (.int 9)], .call F__law_told [.k (.int 7), .v 10, .v 8, .k (.int 0), .k (.int 9)]]))) (E1 s0 ms s2 s3 s4 s5 s6 bad wrong day (reps 13) s13) = .ok (.next, E1 s0 ms s2 s3 s4 s5 s6 bad wrong day (reps 18) s13) := by
  have add : ∀ a c, a.length + c.length ≤ 100 → binD .add (.lst a) (.lst c) = some (.own (.lst (a ++ c))) := fun a c h => by
    have : a.length + c.length ≤ line := by rw [line_eq]; omega
    simp [binD, this]
  have l0 := lc_told (i := 17) (e := .call F__law_told [.k (.int 6), .v 10, .k (.int 0), .v 17, .k .non]) (it := .e (.lst [.k (.int 0), .k (.int 401), .k .non])) (ρ := E1 s0 ms s2 s3 s4 s5 s6 bad wrong day (reps 13) s13) (xs := [.int 0, .int 401, .non]) (r := R1) (by simp [kI, itemsD, slotOf, E1]) rfl (by simp [line_eq]) (fun x hx => by
    simp only [List.mem_cons, List.not_mem_nil, or_false] at hx
    rcases hx with rfl | rfl | rfl
    · simp [E1, n_6 (.int 0) (by simp), ref1, flat_R1]
    · simp [E1, n_6 (.int 401) (by simp), ref1, flat_R1]
    · simp [E1, n_6 .non (by simp), ref1, flat_R1])
  simp only [E1, reps, List.replicate] at l0
  simp -implicitDefEqProofs [E1, l0, b_7 _ hb, w_7 _ hw, ref1, flat_R1, reps, add]
theorem s_14 : exec (.asg 12 (.bin .add (.v 12) (.lst [.call F__law_told [.k (.int 7), .v 10, .v 11, .v 9, .k (.int 9)], .call F__law_told [.k (.int 7), .v 10, .v 11, .k (.int 0), .v 9], .call F__law_told [.k (.int 10), .v 7, .v 11, .k (.int 0), .tup [.k (.int 0), .k (.int 9)]]]))) (E1 s0 ms s2 s3 s4 s5 s6 bad wrong day (reps 18) s13) = .ok (.next, E1 s0 ms s2 s3 s4 s5 s6 bad wrong day (reps 21) s13) := by
  have add : ∀ a c, a.length + c.length ≤ 100 → binD .add (.lst a) (.lst c) = some (.own (.lst (a ++ c))) := fun a c h => by
    have : a.length + c.length ≤ line := by rw [line_eq]; omega
    simp [binD, this]
  simp -implicitDefEqProofs [E1, d_7 _ hd, d_7b _ hd, b_10 _ hb, ref1, flat_R1, reps, add]
theorem s_15 : exec (.asg 12 (.bin .add (.v 12) (.lst [.call F__law_told [.k (.int 10), .v 10, .v 8, .k (.int 0), .tup [.k (.int 0), .k (.int 9)]], .call F__law_told [.k (.int 10), .v 10, .v 11, .v 9, .tup [.k (.int 0), .k (.int 9)]]]))) (E1 s0 ms s2 s3 s4 s5 s6 bad wrong day (reps 21) s13) = .ok (.next, E1 s0 ms s2 s3 s4 s5 s6 bad wrong day (reps 23) s13) := by
  have add : ∀ a c, a.length + c.length ≤ 100 → binD .add (.lst a) (.lst c) = some (.own (.lst (a ++ c))) := fun a c h => by
    have : a.length + c.length ≤ line := by rw [line_eq]; omega
    simp [binD, this]
  simp -implicitDefEqProofs [E1, w_10 _ hw, d_10 _ hd, ref1, flat_R1, reps, add]
theorem s_16 : exec (.asg 12 (.bin .add (.v 12) (.lc (.call F__law_told [.k (.int 10), .v 10, .v 11, .k (.int 0), .v 18]) (.n 18) (.e (.lst [.tup [.v 9, .k (.int 9)], .tup [.k (.int 0), .v 9], .tup [.k (.int 0), .k (.int 401)]])) [18] none))) (E1 s0 ms s2 s3 s4 s5 s6 bad wrong day (reps 23) s13) = .ok (.next, E1 s0 ms s2 s3 s4 s5 s6 bad wrong day (reps 26) s13) := by
  have add : ∀ a c, a.length + c.length ≤ 100 → binD .add (.lst a) (.lst c) = some (.own (.lst (a ++ c))) := fun a c h => by
    have : a.length + c.length ≤ line := by rw [line_eq]; omega
    simp [binD, this]
  have l0 := lc_told (i := 18) (e := .call F__law_told [.k (.int 10), .v 10, .v 11, .k (.int 0), .v 18]) (it := .e (.lst [.tup [.v 9, .k (.int 9)], .tup [.k (.int 0), .v 9], .tup [.k (.int 0), .k (.int 401)]])) (ρ := E1 s0 ms s2 s3 s4 s5 s6 bad wrong day (reps 23) s13) (xs := [.tup [day, .int 9], .tup [.int 0, day], .tup [.int 0, .int 401]]) (r := R1) (by simp [kI, itemsD, slotOf, E1]) rfl (by simp [line_eq]) (fun x hx => by
    simp only [List.mem_cons, List.not_mem_nil, or_false] at hx
    rcases hx with rfl | rfl | rfl
    · simp [E1, d_10b _ hd, ref1, flat_R1]
    · simp [E1, d_10c _ hd, ref1, flat_R1]
    · simp [E1, x_10, ref1, flat_R1])
  simp only [E1, reps, List.replicate] at l0
  simp -implicitDefEqProofs [E1, l0, ref1, flat_R1, reps, add]

end
section
variable {s0 : D} {ms : List Int} {s2 s3 s4 s5 s6 : Slot} {bad wrong day calls : D} (hb : bad ∈ oddL) (hw : wrong ∈ rulesL) (hd : day ∈ daysL) (hc : calls ∈ callsL)
include hb hw hd hc
theorem s_18 : exec (.asg 12 (.bin .add (.bin .add (.v 12) (.lc (.call F__law_told [.v 16, .v 7, .v 11, .lst [], .k .non]) (.n 16) (.e (.lst [.k (.int 4), .k (.int 5)])) [16] none)) (.lc (.call F__law_told [.v 16, .v 10, .v 8, .lst [], .k .non]) (.n 16) (.e (.lst [.k (.int 4), .k (.int 5)])) [16] none))) (E1 s0 ms s2 s3 s4 s5 s6 bad wrong day (reps 26) (.val calls)) = .ok (.next, E1 s0 ms s2 s3 s4 s5 s6 bad wrong day (reps 30) (.val calls)) := by
  have add : ∀ a c, a.length + c.length ≤ 100 → binD .add (.lst a) (.lst c) = some (.own (.lst (a ++ c))) := fun a c h => by
    have : a.length + c.length ≤ line := by rw [line_eq]; omega
    simp [binD, this]
  have l0 := lc_told (i := 16) (e := .call F__law_told [.v 16, .v 7, .v 11, .lst [], .k .non]) (it := .e (.lst [.k (.int 4), .k (.int 5)])) (ρ := E1 s0 ms s2 s3 s4 s5 s6 bad wrong day (reps 26) (.val calls)) (xs := [.int 4, .int 5]) (r := R1) (by simp [kI, itemsD, slotOf, E1]) rfl (by simp [line_eq]) (fun x hx => by
    simp only [List.mem_cons, List.not_mem_nil, or_false] at hx
    rcases hx with rfl | rfl
    · simp [E1, b_4 _ hb, ref1, flat_R1]
    · simp [E1, b_5 _ hb, ref1, flat_R1])
  have l1 := lc_told (i := 16) (e := .call F__law_told [.v 16, .v 10, .v 8, .lst [], .k .non]) (it := .e (.lst [.k (.int 4), .k (.int 5)])) (ρ := E1 s0 ms s2 s3 s4 s5 s6 bad wrong day (reps 26) (.val calls)) (xs := [.int 4, .int 5]) (r := R1) (by simp [kI, itemsD, slotOf, E1]) rfl (by simp [line_eq]) (fun x hx => by
    simp only [List.mem_cons, List.not_mem_nil, or_false] at hx
    rcases hx with rfl | rfl
    · simp [E1, w_4 _ hw, ref1, flat_R1]
    · simp [E1, w_5 _ hw, ref1, flat_R1])
  simp only [E1, reps, List.replicate] at l0 l1
  simp -implicitDefEqProofs [E1, l0, l1, ref1, flat_R1, reps, add]
theorem s_19 : exec (.asg 12 (.bin .add (.bin .add (.v 12) (.lc (.call F__law_told [.v 16, .v 10, .v 11, .v 13, .k .non]) (.n 16) (.e (.lst [.k (.int 4), .k (.int 5)])) [16] none)) (.lst [.call F__law_told [.k (.int 8), .v 7, .v 11, .k (.int 0), .k (.int 4)], .call F__law_told [.k (.int 9), .v 7, .v 11, .lst [], .lst []]]))) (E1 s0 ms s2 s3 s4 s5 s6 bad wrong day (reps 30) (.val calls)) = .ok (.next, E1 s0 ms s2 s3 s4 s5 s6 bad wrong day (reps 34) (.val calls)) := by
  have add : ∀ a c, a.length + c.length ≤ 100 → binD .add (.lst a) (.lst c) = some (.own (.lst (a ++ c))) := fun a c h => by
    have : a.length + c.length ≤ line := by rw [line_eq]; omega
    simp [binD, this]
  have l0 := lc_told (i := 16) (e := .call F__law_told [.v 16, .v 10, .v 11, .v 13, .k .non]) (it := .e (.lst [.k (.int 4), .k (.int 5)])) (ρ := E1 s0 ms s2 s3 s4 s5 s6 bad wrong day (reps 30) (.val calls)) (xs := [.int 4, .int 5]) (r := R1) (by simp [kI, itemsD, slotOf, E1]) rfl (by simp [line_eq]) (fun x hx => by
    simp only [List.mem_cons, List.not_mem_nil, or_false] at hx
    rcases hx with rfl | rfl
    · simp [E1, c_4 _ hc, ref1, flat_R1]
    · simp [E1, c_5 _ hc, ref1, flat_R1])
  simp only [E1, reps, List.replicate] at l0
  simp -implicitDefEqProofs [E1, l0, b_8 _ hb, b_9 _ hb, ref1, flat_R1, reps, add]

end
theorem s_17 (s0 : D) (ms : List Int) (s2 s3 s4 s5 s6 : Slot) (bad wrong day : D) (L : Slot) : ∃ (ms' : List Int) (calls : D), calls ∈ callsL ∧ exec (.asg 13 (.call F__law_pick [.v 1, .lst [.k .non, .tup [.tup [.k (.str "a"), .k (.int 0), .k (.int 9)]], .lst [.tup [.k (.str "a"), .k (.int 0)]], .lst [.tup [.k (.str "A"), .k (.int 0), .k (.int 9)]], .lst [.tup [.k (.str "a"), .neg (.k (.int 1)), .k (.int 9)]], .lst [.tup [.k (.str "a"), .k (.int 0), .k (.int 9)], .tup [.k (.str "a"), .k (.int 1), .k (.int 20)]], .lst [.lst [.k (.str "a"), .k (.int 0), .k (.int 9)]]]])) (E1 s0 ms s2 s3 s4 s5 s6 bad wrong day L .none) = .ok (.next, E1 s0 ms' s2 s3 s4 s5 s6 bad wrong day L (.val calls)) := by
  obtain ⟨x, ms1, m1, e1⟩ := law_pick_ok ms (xs := callsL) (by simp [callsL])
  refine ⟨ms1, x, m1, ?_⟩
  have negd : negD (.int 1) = some (.val (.int (-1))) := rfl
  simp only [callsL] at e1
  cases f1 : x.flat <;>
    simp -implicitDefEqProofs [e1, f1, negd, E1, flatL, flat_int]
theorem s_20 (s0 : D) (ms : List Int) (s2 s3 s4 s5 s6 : Slot) (bad wrong day : D) (s13 : Slot) : exec (.ite (.cmp .ne (.lc (.v 15) (.n 15) (.e (.v 12)) [15] (some (.cmp .ne (.v 15) (.k (.str "refused 1"))))) (.lst [])) [.ret (.k (.bl false))] []) (E1 s0 ms s2 s3 s4 s5 s6 bad wrong day (reps 34) s13) = .ok (.next, E1 s0 ms s2 s3 s4 s5 s6 bad wrong day (reps 34) s13) := by
  kernel_rfl
theorem s_22 (s0 : D) (ms : List Int) (s2 s3 s4 s5 s6 : Slot) (bad wrong day : D) (s13 : Slot) : exec (.ite (.not (.call F__law_same [.v 12, .bin .mul (.lst [.k (.bl false)]) (.k (.int 4))])) [.ret (.k (.bl false))] []) (E1 s0 ms s2 s3 s4 s5 s6 bad wrong day (.own (.lst [.bl false, .bl false, .bl false, .bl false])) s13) = .ok (.next, E1 s0 ms s2 s3 s4 s5 s6 bad wrong day (.own (.lst [.bl false, .bl false, .bl false, .bl false])) s13) := by
  kernel_rfl
theorem s_21 {s0 : D} {ms : List Int} {s2 s3 s4 s5 s6 : Slot} {bad wrong day calls : D} (hw : wrong ∈ rulesL) (hd : day ∈ daysL) (hc : calls ∈ callsL) : exec (.asg 12 (.lst [.call F__law_told [.k (.int 8), .v 10, .v 8, .k (.int 0), .k (.int 4)], .call F__law_told [.k (.int 8), .v 10, .v 11, .v 9, .k (.int 4)], .call F__law_told [.k (.int 9), .v 10, .v 8, .lst [], .lst []], .call F__law_told [.k (.int 9), .v 10, .v 11, .v 13, .lst []]])) (E1 s0 ms s2 s3 s4 s5 s6 bad wrong day (reps 34) (.val calls)) = .ok (.next, E1 s0 ms s2 s3 s4 s5 s6 bad wrong day (.own (.lst [.bl false, .bl false, .bl false, .bl false])) (.val calls)) := by
  simp -implicitDefEqProofs [E1, w_8 _ hw, d_8 _ hd, w_9 _ hw, c_9 _ hc, fls, reps, D.flat]
theorem s_23 (s0 : D) (ms : List Int) (s2 s3 s4 s5 s6 : Slot) (bad wrong day : D) (L s13 : Slot) : (execs [.asg 14 (.bin .add (.lc (.call F__law_told [.k (.int 2), .tup [.tup [], .tup []], .tup [.k (.str "days"), .k (.int 3), .k (.bl false)], .v 19, .k .non]) (.n 19) (.e (.lst [.k (.int 99996), .k (.int 99997)])) [19] none) (.lc (.call F__law_told [.k (.int 6), .tup [.tup [], .tup []], .k (.int 99999), .v 17, .k .non]) (.n 17) (.e (.lst [.k (.int 2), .k (.int 3)])) [17] none)), .ret (.and [.call F__law_same [.v 14, .lst [.k (.int 100000), .k (.str "refused 3"), .k (.int 100000), .k (.str "refused 3")]], .cmp .is (.call F__law_told [.k (.int 8), .tup [.tup [], .tup []], .tup [.k (.str "days"), .k (.int 3), .k (.bl false)], .k (.int 99997), .k (.int 100000)]) (.k (.bl false))])] (E1 s0 ms s2 s3 s4 s5 s6 bad wrong day L s13)).bind (fun p => .ok p.1) = .ok (.ret (.val (.bl true))) := by
  kernel_rfl
end K54
end
section
set_option linter.all false
set_option maxRecDepth 100000
namespace K54
open M MR
open PySem (Str)
variable {w ds : List Int} {kind : PySem.Str} {n : Int} {b : Bool}
theorem rangeI_add : ∀ (j k : Nat) (lo : Int), rangeI lo (j + k) = rangeI lo j ++ rangeI (lo + j) k
  | 0, k, lo => by simp [rangeI]
  | j + 1, k, lo => by
    have e : j + 1 + k = (j + k) + 1 := by omega
    have e2 : lo + 1 + (j : Int) = lo + ((j + 1 : Nat) : Int) := by omega
    rw [e, rangeI, rangeI, rangeI_add j k (lo + 1), List.cons_append, e2]
theorem cw_add (a : Int) (j k : Nat) : cw w ds a (j + k) = cw w ds a j + cw w ds (a + j) k := by
  unfold cw
  rw [rangeI_add, List.filter_append, List.length_append]
/-- free days as the law draws them -/
structure Small (w ds : List Int) : Prop where
  g : Good w ds
  w3 : w.length ≤ 3
  d40 : ∀ x ∈ ds, 0 ≤ x ∧ x < 40
/-- a day of the week that is worked -/
theorem work_day (s : Small w ds) : ∃ r : Int, 0 ≤ r ∧ r < 7 ∧ w.contains r = false := by
  have c1 := cnt_mem (N := 7) (lo := 0) (nodup_lt s.g.w2) fun x hx => by have := s.g.w1 x hx; omega
  have c2 := filter_not (l := rangeI 0 7) (p := fun k => w.contains k)
  rw [rangeI_len] at c2
  have h3 := s.w3
  have hne : 0 < ((rangeI 0 7).filter fun k => !w.contains k).length := by omega
  obtain ⟨r, hr⟩ := List.exists_mem_of_length_pos hne
  rw [List.mem_filter] at hr
  have := mem_rangeI.mp hr.1
  refine ⟨r, by omega, by omega, ?_⟩
  have h2 := hr.2
  cases h : w.contains r
  · rfl
  · rw [h] at h2; cases h2
theorem wk_late (s : Small w ds) {r y : Int} (hr : w.contains r = false) (hy : 40 ≤ y) (hm : y % 7 = r) : wk w ds y = true := by
  unfold wk
  rw [hm, hr]
  have : ds.contains y = false := by
    cases h : ds.contains y
    · rfl
    · have hm : y ∈ ds := by simpa using h
      have := s.d40 y hm
      omega
  rw [this]; rfl
theorem cw_week (s : Small w ds) {x : Int} (hx : 40 ≤ x) : 1 ≤ cw w ds x 7 := by
  obtain ⟨r, r1, r2, hr⟩ := work_day s
  have hmem : ∃ y, x ≤ y ∧ y < x + 7 ∧ y % 7 = r := ⟨x + ((r - x) % 7), by omega, by omega, by omega⟩
  obtain ⟨y, y1, y2, y3⟩ := hmem
  unfold cw
  have : y ∈ (rangeI x 7).filter (wk w ds) := List.mem_filter.mpr ⟨mem_rangeI.mpr (by omega), wk_late s hr (by omega) y3⟩
  exact List.length_pos_of_mem this
theorem cw_weeks (s : Small w ds) : ∀ (m : Nat) {x : Int}, 40 ≤ x → m ≤ cw w ds x (7 * m)
  | 0, _, _ => Nat.zero_le _
  | m + 1, x, hx => by
    have e : 7 * (m + 1) = 7 + 7 * m := by omega
    rw [e, cw_add]
    have := cw_week s hx
    have := cw_weeks s m (x := x + 7) (by omega)
    have e2 : x + ((7 : Nat) : Int) = x + 7 := rfl
    rw [e2]; omega
/-- nine working days from a on -/
theorem cw_nine (s : Small w ds) {a : Int} (h : -1 ≤ a ∧ a ≤ 40) {j : Nat} (hj : 200 ≤ j) : 9 ≤ cw w ds a j := by
  have e : j = (40 - a).toNat + (63 + (j - 63 - (40 - a).toNat)) := by omega
  rw [e, cw_add, cw_add]
  have : 9 ≤ cw w ds (a + ((40 - a).toNat : Int)) 63 := cw_weeks s 9 (x := a + ((40 - a).toNat : Int)) (by omega)
  omega
theorem ex_least (P : Nat → Bool) : ∀ {K : Nat}, P K = true → ∃ k, k ≤ K ∧ P k = true ∧ ∀ j, j < k → P j = false
  | 0, h => ⟨0, Nat.le_refl _, h, fun j hj => absurd hj (Nat.not_lt_zero _)⟩
  | K + 1, h => by
    cases h0 : P 0 with
    | true => exact ⟨0, Nat.zero_le _, h0, fun j hj => absurd hj (Nat.not_lt_zero _)⟩
    | false =>
      obtain ⟨k, h1, h2, h3⟩ := ex_least (fun j => P (j + 1)) (K := K) h
      refine ⟨k + 1, by omega, h2, fun j hj => ?_⟩
      cases j with
      | zero => exact h0
      | succ j => exact h3 j (by omega)
/-- the first day that keeps -/
theorem ex_day (s : Small w ds) (r : GoodR kind n) (hn : n ≤ 9) {a : Int} (ha : 0 ≤ a ∧ a < 40) : ∃ k : Nat, k ≤ 900 ∧ kw w ds kind n b a (a + 1 + k) = true ∧ ∀ j : Nat, j < k → kw w ds kind n b a (a + 1 + j) = false := by
  obtain ⟨q, q1, q2, hq⟩ := work_day s
  obtain ⟨k, h1, h2, h3⟩ := ex_least (fun j => kw w ds kind n b a (a + 1 + j)) (K := (700 + q - a - 1).toNat) (by
    have e : a + 1 + (((700 + q - a - 1).toNat : Nat) : Int) = 700 + q := by omega
    show kw w ds kind n b a _ = true
    rw [e]
    unfold kw fw
    rw [wk_late s hq (by omega) (by omega)]
    have h9 := cw_nine s (a := a + 1) (by omega) (j := (700 + q - a - 1).toNat) (by omega)
    split
    · have : n ≤ 700 + q - a - 1 := by omega
      simp [this]
    · have : n ≤ bw w ds a (700 + q) := by unfold bw; omega
      simp [this])
  exact ⟨k, by omega, h2, h3⟩
/-- the day on which m days are worked -/
theorem ex_worked (s : Small w ds) {a m : Int} (ha : 0 ≤ a ∧ a < 40) (hm : 1 ≤ m ∧ m ≤ 9) : ∃ k : Nat, k ≤ 300 ∧ (cw w ds a k : Int) + 1 = m ∧ wk w ds (a + k) = true := by
  obtain ⟨k, h1, h2, h3⟩ := ex_least (fun j => decide (m ≤ cw w ds a j)) (K := 200) (by
    have := cw_nine s (a := a) (by omega) (j := 200) (Nat.le_refl _)
    simp only [decide_eq_true_eq]; omega)
  simp only [decide_eq_true_eq] at h2
  cases k with
  | zero => rw [cw_zero] at h2; simp at h2; omega
  | succ k =>
    have h4 := h3 k (by omega)
    simp only [decide_eq_false_iff_not] at h4
    have h5 := cw_succ w ds a k
    cases hw : wk w ds (a + k) with
    | true => rw [hw] at h5; simp at h5; exact ⟨k, by omega, by omega, hw⟩
    | false => rw [hw] at h5; simp at h5; omega
theorem is_oD (o : Option Str) : cmpR .is (oD o) .non = some (.val (.bl o.isNone)) := by cases o <;> rfl
theorem isnot_oD (o : Option Str) : cmpR .isnot (oD o) .non = some (.val (.bl o.isSome)) := by cases o <;> rfl
theorem wdl_kw (x y : Int) : (wdl w ds kind n b x y).isNone = kw w ds kind n b x y := by
  have h := wdl_none (w := w) (ds := ds) (kind := kind) (n := n) (b := b) x y
  cases h1 : wdl w ds kind n b x y with
  | none => rw [h.mp h1]; rfl
  | some v =>
    cases h2 : kw w ds kind n b x y with
    | false => rfl
    | true => rw [h.mpr h2] at h1; cases h1
theorem wdl_kw' (x y : Int) : (wdl w ds kind n b x y).isSome = !kw w ds kind n b x y := by
  rw [← wdl_kw]; cases wdl w ds kind n b x y <;> rfl
theorem subR_last (xs : List D) (x : D) : subR (.lst (xs ++ [x])) (.int (-1)) = some (.val x) := by
  have : ixN (xs ++ [x]).length (-1) = some xs.length := by
    simp [ixN]; omega
  simp only [subR, subD, atI, this, Option.bind, List.getElem?_concat_length, Option.map]
/-- the last notice, and the days that are able -/
theorem able_ok {c : Int} (hc : 0 ≤ c) (g : Good w ds) (r : GoodR kind n) (hc2 : c ≤ 1000) : ∃ (v : D) (xs : List D), v ∈ [v] ∧ (D.non :: ((rangeI 0 c.toNat).filter fun x => kw w ds kind n b x c).map .int) = xs ++ [v] ∧ F_last_notice.run [fr w ds, rl kind n b, .int c] = .ok (.val v, []) ∧ nice 0 v = true := by
  cases ht : (b && !wk w ds c) with
  | true =>
    have hf : ((rangeI 0 c.toNat).filter fun x => kw w ds kind n b x c) = [] := by
      rw [List.filter_eq_nil_iff]
      intro x _
      unfold kw
      rw [ht]; simp
    exact ⟨.non, [], by simp, by rw [hf]; rfl, last_notice_tolled g r (by omega) ht, rfl⟩
  | false =>
    obtain ⟨a, a1, a2, a3, a4⟩ := ex_down (fun x => !fw w ds kind n x c) (k := c.toNat) (x := -1) (m := c) (by omega)
    have hk : ∀ x, kw w ds kind n b x c = fw w ds kind n x c := fun x => by unfold kw; rw [ht]; rfl
    have hl := last_notice_ok (b := b) g r (y := c) (d := a) (by omega) ht a2 a1 (by
      rcases a4 with h | h
      · exact .inl h
      · right; rw [far_fw g]; simpa using h) (fun x h1 h2 => by rw [far_fw g]; simpa using a3 x h1 h2)
    have e : c.toNat = (a + 1).toNat + (c - a - 1).toNat := by omega
    have hrest : (rangeI ((0 : Int) + ((a + 1).toNat : Nat)) (c - a - 1).toNat).filter (fun x => kw w ds kind n b x c) = [] := by
      rw [List.filter_eq_nil_iff]
      intro x hx
      have := mem_rangeI.mp hx
      have := a3 x (by omega) (by omega)
      rw [hk]
      simpa using this
    by_cases ha : 0 ≤ a
    · have hfa : fw w ds kind n a c = true := by simpa using a4.resolve_left (by omega)
      have e2 : (a + 1).toNat = a.toNat + 1 := by omega
      refine ⟨.int a, D.non :: ((rangeI 0 a.toNat).filter fun x => kw w ds kind n b x c).map .int, by simp, ?_, by rw [hl, if_pos ha], rfl⟩
      rw [e, rangeI_add, List.filter_append, hrest, List.append_nil, e2, rangeI_succ, List.filter_append]
      have e3 : (0 : Int) + (a.toNat : Nat) = a := by omega
      rw [e3, List.filter_cons_of_pos (by rw [hk]; exact hfa)]
      simp
    · refine ⟨.non, [], by simp, ?_, by rw [hl, if_neg ha], rfl⟩
      have e2 : (a + 1).toNat = 0 := by omega
      rw [e, rangeI_add, List.filter_append, hrest, List.append_nil, e2]
      rfl
end K54
end
section
set_option linter.all false
set_option maxRecDepth 100000
namespace K54
open M MR
open PySem (Str)
variable {w ds : List Int} {kind : PySem.Str} {n : Int} {b : Bool}
def EN (w ds : List Int) (kind : Str) (n : Int) (b : Bool) (a c : Int) (five : List D) (m : List Int) (l : List Slot) : Env := .own (.lst (m.map .int)) :: .val (fr w ds) :: .val (rl kind n b) :: .val (.int a) :: .val (.int c) :: .own (.lst five) :: l
theorem nice_ints (k : Nat) (xs : List Int) (h : xs.length ≤ 1000) : nice (k + 1) (.lst (xs.map .int)) = true := by
  simp [nice, h]
theorem same5 (xs : List D) (h : nice 11 (.lst xs) = true) : F__law_same.run [.lst xs, .lst xs] = .ok (.val (.bl true), []) := same_ok 11 _ h
theorem days_due_ok (s : Small w ds) (r : GoodR kind n) (hn : n ≤ 9) (ms : List Int) : ∃ ms' : List Int, F__law_are_days_due.run [.lst (ms.map .int), fr w ds, rl kind n b] = .ok (.val (.bl true), [.lst (ms'.map .int)]) := by
  rw [run__law_are_days_due]
  have g := s.g
  obtain ⟨a, ms1, ⟨a1, a2⟩, ta⟩ := law_take_ok ms (k := 40) (by omega)
  obtain ⟨c, ms2, ⟨c1, c2⟩, tc⟩ := law_take_ok ms1 (k := 40) (by omega)
  obtain ⟨k, k1, k2, k3⟩ := ex_day (b := b) s r hn (a := a) ⟨a1, a2⟩
  have hk2 : kw w ds kind n b a (a + 1 + k) = true := k2
  generalize hd : a + 1 + (k : Int) = d at *
  have d1 : a < d ∧ d ≤ 1000 := by omega
  have kmin : ∀ y, a < y → y < d → kw w ds kind n b a y = false := fun y y1 y2 => by
    have := k3 (y - a - 1).toNat (by omega)
    have e : a + 1 + (((y - a - 1).toNat : Nat) : Int) = y := by omega
    rwa [e] at this
  have n1 := r.n1
  obtain ⟨near, ms3, m3, tn⟩ := law_pick_ok ms2 (xs := [.int d, .int (d + 1), .int (d - 1), .int a, .non]) (by simp)
  obtain ⟨m', ms4, ⟨e1, e2⟩, tm⟩ := law_take_ok ms3 (k := 9) (by omega)
  obtain ⟨q, q1, q2, q3⟩ := ex_worked s (a := a) (m := 1 + m') ⟨a1, a2⟩ (by omega)
  obtain ⟨v, xs, _, hab, hlast, hv⟩ := able_ok (b := b) c1 g r (by omega)
  refine ⟨ms4, ?_⟩
  have A0 : (0 ≤ a ∧ a ≤ 100000) := by omega
  have C0 : (0 ≤ c ∧ c ≤ 100000) := by omega
  -- told and due
  have w1 : ∀ x y, (-1000 ≤ x ∧ x ≤ 100000) → (-1000 ≤ y ∧ y ≤ 100000) → F__law_word.run [fr w ds, rl kind n b, .int x, .int y] = .ok (.val (oD (wdl w ds kind n b x y)), []) := fun x y => law_word_ok r
  have s0 : exec (.par [3, 4] [.call F__law_take [.v 0, .k (.int 40)], .call F__law_take [.v 0, .k (.int 40)]]) [.own (.lst (ms.map .int)), .val (fr w ds), .val (rl kind n b), .none, .none, .none, .none, .none, .none, .none, .none, .none, .none, .none] =
      .ok (.next, [.own (.lst (ms2.map .int)), .val (fr w ds), .val (rl kind n b), .val (.int a), .val (.int c), .none, .none, .none, .none, .none, .none, .none, .none, .none]) := by
    simp -implicitDefEqProofs [ta, tc, D.flat, flatL, flat_int, settle, setSlots]
  have t0 := told_0 (c := .non) (d := .non) (is_working_ok g (x := a) A0)
  have t1 := told_1 (d := .non) (working_between_ok g A0 C0) (fun i z => nomatch z)
  have t7 := told_7 (does_keep_ok (b := b) g r A0 C0) (fun i z => nomatch z)
  rw [bt_bw g] at t1
  rw [kp_kw g] at t7
  let five : List D := [.bl true, .bl true, .bl (wk w ds a), .int (bw w ds a c), .bl (kw w ds kind n b a c)]
  have s1 : exec (.asg 5 (.lst [.call F_are_free_days [.v 1], .call F_is_notice_rule [.v 2], .call F__law_told [.k (.int 0), .v 1, .v 3, .k .non, .k .non], .call F__law_told [.k (.int 1), .v 1, .v 3, .v 4, .k .non], .call F__law_told [.k (.int 7), .v 1, .v 2, .v 3, .v 4]])) [.own (.lst (ms2.map .int)), .val (fr w ds), .val (rl kind n b), .val (.int a), .val (.int c), .none, .none, .none, .none, .none, .none, .none, .none, .none] =
      .ok (.next, [.own (.lst (ms2.map .int)), .val (fr w ds), .val (rl kind n b), .val (.int a), .val (.int c), .own (.lst five), .none, .none, .none, .none, .none, .none, .none, .none]) := by
    simp -implicitDefEqProofs [are_free_days_ok g, rule_ok r.k r.n1 r.n2, t0, t1, t7, D.flat, five]
  have sm5 : F__law_same.run [.lst five, .lst five] = .ok (.val (.bl true), []) := same5 five rfl
  have hw1 := w1 a c (by omega) (by omega)
  have hbw := law_between_ok (w := w) (ds := ds) (a := a) (c := c) (by omega) (by omega)
  have s2 : exec (.ite (.not (.call F__law_same [.v 5, .lst [.k (.bl true), .k (.bl true), .call F__law_works [.v 1, .v 3], .call F__law_between [.v 1, .v 3, .v 4], .cmp .is (.call F__law_word [.v 1, .v 2, .v 3, .v 4]) (.k .non)]])) [.ret (.k (.bl false))] []) [.own (.lst (ms2.map .int)), .val (fr w ds), .val (rl kind n b), .val (.int a), .val (.int c), .own (.lst five), .none, .none, .none, .none, .none, .none, .none, .none] =
      .ok (.next, [.own (.lst (ms2.map .int)), .val (fr w ds), .val (rl kind n b), .val (.int a), .val (.int c), .own (.lst five), .none, .none, .none, .none, .none, .none, .none, .none]) := by
    have fo : (oD (wdl w ds kind n b a c)).flat = true := by cases wdl w ds kind n b a c <;> rfl
    have is1 := is_oD (wdl w ds kind n b a c)
    rw [wdl_kw] at is1
    have sm5' := sm5
    simp only [five] at sm5'
    simp -implicitDefEqProofs [law_works_ok, hbw, hw1, is1, D.flat, fo, five, sm5']
  have s3 : exec (.asg 6 (.bin .add (.v 3) (.k (.int 1)))) (EN w ds kind n b a c five ms2 [.none, .none, .none, .none, .none, .none, .none, .none]) = .ok (.next, EN w ds kind n b a c five ms2 [.val (.int (a + 1)), .none, .none, .none, .none, .none, .none, .none]) := by
    simp -implicitDefEqProofs [EN]
  have s4 : exec (.whil (.cmp .isnot (.call F__law_word [.v 1, .v 2, .v 3, .v 6]) (.k .non)) [.asg 6 (.bin .add (.v 6) (.k (.int 1)))]) (EN w ds kind n b a c five ms2 [.val (.int (a + 1)), .none, .none, .none, .none, .none, .none, .none]) = .ok (.next, EN w ds kind n b a c five ms2 [.val (.int d), .none, .none, .none, .none, .none, .none, .none]) := by
    rw [ex_whil]
    have := whileL_k (test := fun ρ => evT (.cmp .isnot (.call F__law_word [.v 1, .v 2, .v 3, .v 6]) (.k .non)) ρ) (body := fun ρ => execs [.asg 6 (.bin .add (.v 6) (.k (.int 1)))] ρ)
      (env := fun j => EN w ds kind n b a c five ms2 [.val (.int (a + 1 + j)), .none, .none, .none, .none, .none, .none, .none]) (k := k) (f := fuel) (j := 0) (fuel_gt (by omega))
      (fun j _ hj => by
        have e1 := w1 a (a + 1 + j) (by omega) (by omega)
        have e2 := isnot_oD (wdl w ds kind n b a (a + 1 + j))
        rw [wdl_kw', kmin _ (by omega) (by omega)] at e2
        have fo : (oD (wdl w ds kind n b a (a + 1 + j))).flat = true := by cases wdl w ds kind n b a (a + 1 + j) <;> rfl
        have e3 : a + 1 + (j : Int) + 1 = a + 1 + ((j + 1 : Nat) : Int) := by omega
        simp -implicitDefEqProofs [EN, e1, e2, fo]
        omega)
      (by
        have e1 := w1 a d (by omega) (by omega)
        have e2 := isnot_oD (wdl w ds kind n b a d)
        rw [wdl_kw', hk2] at e2
        have fo : (oD (wdl w ds kind n b a d)).flat = true := by cases wdl w ds kind n b a d <;> rfl
        have e3 : a + 1 + ((0 + k : Nat) : Int) = d := by omega
        simp only [e3]
        simp -implicitDefEqProofs [EN, e1, e2, fo])
    have e3 : a + 1 + ((0 + k : Nat) : Int) = d := by omega
    have e4 : a + 1 + ((0 : Nat) : Int) = a + 1 := by omega
    simp only [e3, e4] at this
    exact this
  let able : List Int := (rangeI 0 c.toNat).filter fun x => kw w ds kind n b x c
  have able_len : able.length ≤ 40 := Nat.le_trans (List.length_filter_le _ _) (by rw [rangeI_len]; omega)
  have s5 : exec (.asg 7 (.lc (.v 10) (.n 10) (.range1 (.v 4)) [10] (some (.cmp .is (.call F__law_word [.v 1, .v 2, .v 10, .v 4]) (.k .non))))) (EN w ds kind n b a c five ms2 [.val (.int d), .none, .none, .none, .none, .none, .none, .none]) = .ok (.next, EN w ds kind n b a c five ms2 [.val (.int d), .own (.lst (able.map .int)), .none, .none, .none, .none, .none, .none]) := by
    have hl := ev_lc1 (e := .v 10) (it := .range1 (.v 4)) (i := 10) (c := some (.cmp .is (.call F__law_word [.v 1, .v 2, .v 10, .v 4]) (.k .non))) (ρ := EN w ds kind n b a c five ms2 [.val (.int d), .none, .none, .none, .none, .none, .none, .none]) (xs := rangeN 0 c.toNat) (o := none) (pInt fun x => kw w ds kind n b x c) (fun z => z)
      (by
        have := range1D_nat c.toNat (by omega)
        rw [show ((c.toNat : Nat) : Int) = c by omega] at this
        simp -implicitDefEqProofs [EN, kR_val, this]) (.inl rfl) rfl rfl (by rw [line_eq, rangeN_eq, List.length_map, rangeI_len]; omega)
      (fun z hz => by
        rw [rangeN_eq] at hz
        obtain ⟨x, hx, rfl⟩ := List.mem_map.mp hz
        have hx := mem_rangeI.mp hx
        have e1 := w1 x c (by omega) (by omega)
        have e2 := is_oD (wdl w ds kind n b x c)
        rw [wdl_kw] at e2
        have fo : (oD (wdl w ds kind n b x c)).flat = true := by cases wdl w ds kind n b x c <;> rfl
        simp -implicitDefEqProofs [EN, lockSlot, e1, e2, fo, pInt])
      (fun z hz _ => by simp [EN, lockSlot])
    rw [rangeN_eq, filter_ints, List.map_id'] at hl
    simp only [EN] at hl
    simp -implicitDefEqProofs [EN, hl, able]
  have t2 := told_2 (d := .non) (first_meeting_ok (b := b) g r (d := d) A0 d1.1 (by omega) (by rw [kp_kw g]; exact hk2) (fun y y1 y2 => by rw [kp_kw g]; exact kmin y y1 y2)) (fun i z => nomatch z)
  have t3 := told_3 (d := .non) hlast (fun i z => nomatch z)
  have hadd : binD .add (.lst [.non]) (.lst (able.map .int)) = some (.own (.lst (xs ++ [v]))) := by
    have : 1 + (able.map D.int).length ≤ line := by rw [line_eq, List.length_map]; omega
    rw [← hab]
    simp [binD, this, able]
    rw [List.length_map] at this
    omega
  have vflat : v.flat = true := by
    cases v <;> first | rfl | (simp [nice] at hv)
  have s6 : exec (.ite (.not (.call F__law_same [.lst [.call F__law_told [.k (.int 2), .v 1, .v 2, .v 3, .k .non], .call F__law_told [.k (.int 3), .v 1, .v 2, .v 4, .k .non]], .lst [.v 6, .sub (.bin .add (.lst [.k .non]) (.v 7)) (.neg (.k (.int 1)))]])) [.ret (.k (.bl false))] []) (EN w ds kind n b a c five ms2 [.val (.int d), .own (.lst (able.map .int)), .none, .none, .none, .none, .none, .none]) = .ok (.next, EN w ds kind n b a c five ms2 [.val (.int d), .own (.lst (able.map .int)), .none, .none, .none, .none, .none, .none]) := by
    have sm : F__law_same.run [.lst [.int d, v], .lst [.int d, v]] = .ok (.val (.bl true), []) := same5 _ (by
      have : nice 10 v = true := by cases v <;> first | rfl | (simp [nice] at hv)
      simp [nice, this])
    have negd : negD (.int 1) = some (.val (.int (-1))) := rfl
    simp -implicitDefEqProofs [EN, t2, t3, D.flat, vflat, hadd, negd, subR_last, sm]
  have nflat : near.flat = true := by
    simp at m3
    rcases m3 with rfl | rfl | rfl | rfl | rfl <;> rfl
  have s7 : exec (.asg 8 (.call F__law_pick [.v 0, .lst [.v 6, .bin .add (.v 6) (.k (.int 1)), .bin .sub (.v 6) (.k (.int 1)), .v 3, .k .non]])) (EN w ds kind n b a c five ms2 [.val (.int d), .own (.lst (able.map .int)), .none, .none, .none, .none, .none, .none]) = .ok (.next, EN w ds kind n b a c five ms3 [.val (.int d), .own (.lst (able.map .int)), .val near, .none, .none, .none, .none, .none]) := by
    simp -implicitDefEqProofs [EN, tn, nflat, flatL, flat_int]
  have tm8 : ∀ m : Int, 0 ≤ m ∧ m ≤ 100000 → F__law_told.run [.int 8, fr w ds, rl kind n b, .int a, .int m] = .ok (.val (.bl (decide (m = d))), []) := fun m hm => told_8 (takes_meeting_ok g r A0 hm hk2 kmin) (fun i z => nomatch z)
  have hnear : ∃ r, F__law_told.run [.int 8, fr w ds, rl kind n b, .int a, near] = .ok (.val (.bl r), []) ∧ eqD near (.int d) = some r := by
    simp at m3
    rcases m3 with rfl | rfl | rfl | rfl | rfl
    · exact ⟨_, tm8 _ (by omega), eqD_int _ _⟩
    · exact ⟨_, tm8 _ (by omega), eqD_int _ _⟩
    · exact ⟨_, tm8 _ (by omega), eqD_int _ _⟩
    · exact ⟨_, tm8 _ (by omega), eqD_int _ _⟩
    · exact ⟨false, told_8 (takes_none g r A0) (fun i z => nomatch z), rfl⟩
  obtain ⟨rr, hn1, hn2⟩ := hnear
  have s8 : exec (.ite (.not (.call F__law_same [.lst [.call F__law_told [.k (.int 8), .v 1, .v 2, .v 3, .v 6], .call F__law_told [.k (.int 8), .v 1, .v 2, .v 3, .v 8]], .lst [.k (.bl true), .cmp .eq (.v 8) (.v 6)]])) [.ret (.k (.bl false))] []) (EN w ds kind n b a c five ms3 [.val (.int d), .own (.lst (able.map .int)), .val near, .none, .none, .none, .none, .none]) = .ok (.next, EN w ds kind n b a c five ms3 [.val (.int d), .own (.lst (able.map .int)), .val near, .none, .none, .none, .none, .none]) := by
    have sm : F__law_same.run [.lst [.bl true, .bl rr], .lst [.bl true, .bl rr]] = .ok (.val (.bl true), []) := same5 _ rfl
    have td := tm8 d (by omega)
    rw [decide_eq_true rfl] at td
    simp -implicitDefEqProofs [EN, td, hn1, hn2, D.flat, sm]
  have s9 : exec (.par [9, 10] [.bin .add (.k (.int 1)) (.call F__law_take [.v 0, .k (.int 9)]), .bin .sub (.v 3) (.k (.int 1))]) (EN w ds kind n b a c five ms3 [.val (.int d), .own (.lst (able.map .int)), .val near, .none, .none, .none, .none, .none]) = .ok (.next, EN w ds kind n b a c five ms4 [.val (.int d), .own (.lst (able.map .int)), .val near, .val (.int (1 + m')), .val (.int (a - 1)), .none, .none, .none]) := by
    simp -implicitDefEqProofs [EN, tm, D.flat, flatL, flat_int, settle, setSlots]
  have s10 : exec (.asg 11 (.v 9)) (EN w ds kind n b a c five ms4 [.val (.int d), .own (.lst (able.map .int)), .val near, .val (.int (1 + m')), .val (.int (a - 1)), .none, .none, .none]) = .ok (.next, EN w ds kind n b a c five ms4 [.val (.int d), .own (.lst (able.map .int)), .val near, .val (.int (1 + m')), .val (.int (a - 1)), .val (.int (1 + m')), .none, .none]) := by
    simp -implicitDefEqProofs [EN]
  have s11 : exec (.whil (.cmp .gt (.v 11) (.k (.int 0))) [.asg 10 (.bin .add (.v 10) (.k (.int 1))),
      .asg 11 (.bin .sub (.v 11) (.bi .int [.call F__law_works [.v 1, .v 10]]))]) (EN w ds kind n b a c five ms4 [.val (.int d), .own (.lst (able.map .int)), .val near, .val (.int (1 + m')), .val (.int (a - 1)), .val (.int (1 + m')), .none, .none]) = .ok (.next, EN w ds kind n b a c five ms4 [.val (.int d), .own (.lst (able.map .int)), .val near, .val (.int (1 + m')), .val (.int (a + q)), .val (.int 0), .none, .none]) := by
    rw [ex_whil]
    have hq1 := cw_succ w ds a q
    rw [q3, if_pos rfl] at hq1
    have := whileL_k (test := fun ρ => evT (.cmp .gt (.v 11) (.k (.int 0))) ρ) (body := fun ρ => execs [.asg 10 (.bin .add (.v 10) (.k (.int 1))),
      .asg 11 (.bin .sub (.v 11) (.bi .int [.call F__law_works [.v 1, .v 10]]))] ρ)
      (env := fun j => EN w ds kind n b a c five ms4 [.val (.int d), .own (.lst (able.map .int)), .val near, .val (.int (1 + m')), .val (.int (a - 1 + j)), .val (.int (1 + m' - cw w ds a j)), .none, .none]) (k := q + 1) (f := fuel) (j := 0) (fuel_gt (by omega))
      (fun j _ hj => by
        have e1 := cw_mono w ds a (j := j) (k := q) (by omega)
        have e2 : (cw w ds a j : Int) < 1 + m' := by omega
        have e3 := cw_succ w ds a j
        have e4 : a - 1 + (j : Int) + 1 = a + j := by omega
        have e5 : a - 1 + ((j + 1 : Nat) : Int) = a + j := by omega
        have bb : ∀ x, biD .int [.bl x] = some (.val (.int (b2i x))) := fun _ => rfl
        have e6 : 1 + m' - (cw w ds a j : Int) - b2i (wk w ds (a + j)) = 1 + m' - cw w ds a (j + 1) := by
          rw [e3]
          cases wk w ds (a + j) <;> simp [b2i] <;> omega
        simp only [e5, ← e6]
        simp -implicitDefEqProofs [EN, e2, e4, law_works_ok, D.flat, bb])
      (by
        have e2 : 1 + m' ≤ (cw w ds a (q + 1) : Int) := by omega
        simp -implicitDefEqProofs [EN, e2])
    have e3 : a - 1 + ((0 + (q + 1) : Nat) : Int) = a + q := by omega
    have e4 : a - 1 + ((0 : Nat) : Int) = a - 1 := by omega
    have e5 : 1 + m' - (cw w ds a 0 : Int) = 1 + m' := by rw [cw_zero]; omega
    have e6 : 1 + m' - (cw w ds a (0 + (q + 1)) : Int) = 0 := by rw [Nat.zero_add]; omega
    simp only [e3, e4, e5, e6] at this
    exact this
  let rows : List Int := (rangeI a (c + 1 - a).toNat).filter (kw w ds kind n b 5)
  have rows_len : rows.length ≤ 50 := Nat.le_trans (List.length_filter_le _ _) (by rw [rangeI_len]; omega)
  have s12 : exec (.asg 12 (.lc (.v 13) (.n 13) (.range2 (.v 3) (.bin .add (.v 4) (.k (.int 1)))) [13] (some (.cmp .is (.call F__law_word [.v 1, .v 2, .k (.int 5), .v 13]) (.k .non))))) (EN w ds kind n b a c five ms4 [.val (.int d), .own (.lst (able.map .int)), .val near, .val (.int (1 + m')), .val (.int (a + q)), .val (.int 0), .none, .none]) = .ok (.next, EN w ds kind n b a c five ms4 [.val (.int d), .own (.lst (able.map .int)), .val near, .val (.int (1 + m')), .val (.int (a + q)), .val (.int 0), .own (.lst (rows.map .int)), .none]) := by
    have hl := ev_lc1 (e := .v 13) (it := .range2 (.v 3) (.bin .add (.v 4) (.k (.int 1)))) (i := 13) (c := some (.cmp .is (.call F__law_word [.v 1, .v 2, .k (.int 5), .v 13]) (.k .non))) (ρ := EN w ds kind n b a c five ms4 [.val (.int d), .own (.lst (able.map .int)), .val near, .val (.int (1 + m')), .val (.int (a + q)), .val (.int 0), .none, .none]) (xs := rangeN a (c + 1 - a).toNat) (o := none) (pInt (kw w ds kind n b 5)) (fun z => z)
      (by simp -implicitDefEqProofs [EN, kR2_val, range2D_ok (i := a) (j := c + 1) (by omega) (by omega)]) (.inl rfl) rfl rfl (by rw [line_eq, rangeN_eq, List.length_map, rangeI_len]; omega)
      (fun z hz => by
        rw [rangeN_eq] at hz
        obtain ⟨x, hx, rfl⟩ := List.mem_map.mp hz
        have hx := mem_rangeI.mp hx
        have e1 := w1 5 x (by omega) (by omega)
        have e2 := is_oD (wdl w ds kind n b 5 x)
        rw [wdl_kw] at e2
        have fo : (oD (wdl w ds kind n b 5 x)).flat = true := by cases wdl w ds kind n b 5 x <;> rfl
        simp -implicitDefEqProofs [EN, lockSlot, e1, e2, fo, pInt])
      (fun z hz _ => by simp [EN, lockSlot])
    rw [rangeN_eq, filter_ints, List.map_id'] at hl
    simp only [EN] at hl
    simp -implicitDefEqProofs [EN, hl, rows]
  have t6 := told_6 (d := .non) (next_working_ok g (a := a) (m := 1 + m') (k := q) A0 (by omega) (by omega) q2 q3) (fun i z => nomatch z)
  have t10 := told_10 (meetings_in_ok (b := b) g r (x := 5) (a := a) (c := c) (by omega) A0 C0 (by omega))
  have hkp : kp w ds kind n b 5 = kw w ds kind n b 5 := by funext x; exact kp_kw g 5 x
  rw [hkp] at t10
  have s13 : exec (.ret (.call F__law_same [.lst [.call F__law_told [.k (.int 6), .v 1, .v 3, .v 9, .k .non], .call F__law_told [.k (.int 10), .v 1, .v 2, .k (.int 5), .tup [.v 3, .v 4]]], .lst [.v 10, .v 12]])) (EN w ds kind n b a c five ms4 [.val (.int d), .own (.lst (able.map .int)), .val near, .val (.int (1 + m')), .val (.int (a + q)), .val (.int 0), .own (.lst (rows.map .int)), .none]) = .ok (.ret (.val (.bl true)), EN w ds kind n b a c five ms4 [.val (.int d), .own (.lst (able.map .int)), .val near, .val (.int (1 + m')), .val (.int (a + q)), .val (.int 0), .val (.lst (rows.map .int)), .none]) := by
    have sm : F__law_same.run [.lst [.int (a + q), .lst (rows.map .int)], .lst [.int (a + q), .lst (rows.map .int)]] = .ok (.val (.bl true), []) := same5 _ (by
      have := nice_ints 9 rows (by omega)
      simp [nice] at this ⊢
      exact this)
    have t10' : F__law_told.run [.int 10, fr w ds, rl kind n b, .int 5, .tup [.int a, .int c]] = .ok (.own (.lst (rows.map .int)), []) := t10
    simp -implicitDefEqProofs [EN, t6, t10', D.flat, sm]
  have s0' := s0
  rw [fnRun, if_pos (by rfl)]
  simp only [c__law_are_days_due, List.take_succ_cons, List.take_zero, List.map_cons, List.map_nil, List.drop_succ_cons, List.drop_zero, List.nil_append, List.cons_append, List.replicate, Nat.reduceSub]
  rw [execs_cons, s0, MR.bind_ok]
  simp only
  rw [execs_cons, s1, MR.bind_ok]
  simp only
  rw [execs_cons, s2, MR.bind_ok]
  simp only
  show (execs _ (EN w ds kind n b a c five ms2 [.none, .none, .none, .none, .none, .none, .none, .none])).bind _ = _
  rw [execs_cons, s3, MR.bind_ok]
  simp only
  rw [execs_cons, s4, MR.bind_ok]
  simp only
  rw [execs_cons, s5, MR.bind_ok]
  simp only
  rw [execs_cons, s6, MR.bind_ok]
  simp only
  rw [execs_cons, s7, MR.bind_ok]
  simp only
  rw [execs_cons, s8, MR.bind_ok]
  simp only
  rw [execs_cons, s9, MR.bind_ok]
  simp only
  rw [execs_cons, s10, MR.bind_ok]
  simp only
  rw [execs_cons, s11, MR.bind_ok]
  simp only
  rw [execs_cons, s12, MR.bind_ok]
  simp only
  rw [execs_cons, s13, MR.bind_ok]
  simp [EN]
end K54
end
section
set_option linter.all false
set_option maxRecDepth 100000
namespace K54
open M MR
open PySem (Str)
variable {w ds : List Int} {kind : PySem.Str} {n : Int} {b : Bool}
theorem perm_strs {ys : List D} {xs : List Str} (h : ys.Perm (xs.map .str)) : ∃ zs : List Str, ys = zs.map .str ∧ zs.Perm xs := by
  let f : D → Str := fun d => match d with
    | .str i => i
    | _ => ""
  refine ⟨ys.map f, ?_, ?_⟩
  · rw [List.map_map]
    have : ∀ y ∈ ys, (D.str ∘ f) y = y := fun y hy => by
      obtain ⟨a, _, rfl⟩ := List.mem_map.mp (h.mem_iff.mp hy)
      rfl
    rw [List.map_congr_left this]
    simp
  · have := h.map f
    rw [List.map_map] at this
    have e : (f ∘ D.str) = id := rfl
    rwa [e, List.map_id] at this
def EC (w ds : List Int) (kind : Str) (n : Int) (b : Bool) (m : List Int) (l : List Slot) : Env := .own (.lst (m.map .int)) :: .val (fr w ds) :: .val (rl kind n b) :: l
theorem NM_nodup : NM.Nodup := by decide
/-- the calls that the law draws -/
theorem draw_calls (ms : List Int) : ∃ (ms' : List Int) (cs : List Call) (o : Option D), GoodC cs ∧ cs.length ≤ 6 ∧
    exec (.forr (.n 7) (.e (.sl (.call F__law_mixed [.v 0, .lst [.k (.str "a"), .k (.str "b"), .k (.str "c1"), .k (.str "d"), .k (.str "e"), .k (.str "f")]]) none (some (.call F__law_take [.v 0, .k (.int 7)])))) [.ex (.mm .append 3 [.tup [.v 7, .call F__law_take [.v 0, .k (.int 12)], .call F__law_pick [.v 0, .lst [.k (.int 9), .k (.int 13), .k (.int 20), .call F__law_take [.v 0, .k (.int 40)]]]]])]) (EC w ds kind n b ms [.own (.lst []), .own (.lst []), .own (.dct []), .own (.lst []), .none, .none, .none, .none, .none, .none, .none]) = .ok (.next, EC w ds kind n b ms' [.own (.lst (cs.map cD)), .own (.lst []), .own (.dct []), .own (.lst []), sl o, .none, .none, .none, .none, .none, .none]) := by
  obtain ⟨ys, ms1, hp, h1⟩ := law_mixed_ok ms (xs := NM.map .str) (by simp [NM])
  obtain ⟨r, ms2, ⟨r1, r2⟩, h2⟩ := law_take_ok ms1 (k := 7) (by omega)
  obtain ⟨m, hm, h3⟩ := cut_take ys r1
  obtain ⟨zs, rfl, hz⟩ := perm_strs hp
  have nd : (zs.take m).Nodup := List.Nodup.sublist (List.take_sublist _ _) (hz.nodup_iff.mpr NM_nodup)
  have hin : ∀ x ∈ zs.take m, x ∈ NM := fun x hx => hz.mem_iff.mp (List.mem_of_mem_take hx)
  have hlen : (zs.take m).length ≤ 6 := by
    have := hz.length_eq
    have h6 : NM.length = 6 := rfl
    rw [List.length_take]; omega
  rw [← List.map_take] at h3
  simp only [NM, List.map_cons, List.map_nil] at h1
  generalize zs.take m = names at *
  obtain ⟨ρ', e, I⟩ := ex_forr_inv (t := .n 7) (it := .e (.sl (.call F__law_mixed [.v 0, .lst [.k (.str "a"), .k (.str "b"), .k (.str "c1"), .k (.str "d"), .k (.str "e"), .k (.str "f")]]) none (some (.call F__law_take [.v 0, .k (.int 7)])))) (body := [.ex (.mm .append 3 [.tup [.v 7, .call F__law_take [.v 0, .k (.int 12)], .call F__law_pick [.v 0, .lst [.k (.int 9), .k (.int 13), .k (.int 20), .call F__law_take [.v 0, .k (.int 40)]]]]])])
    (ρ := EC w ds kind n b ms [.own (.lst []), .own (.lst []), .own (.dct []), .own (.lst []), .none, .none, .none, .none, .none, .none, .none]) (ρ₁ := EC w ds kind n b ms2 [.own (.lst []), .own (.lst []), .own (.dct []), .own (.lst []), .none, .none, .none, .none, .none, .none, .none]) (xs := names.map .str)
    (by simp -implicitDefEqProofs [EC, h1, h2, h3, D.flat, kI, itemsD, slotOf])
    (fun k ρ => ∃ (ms' : List Int) (cs : List Call) (o : Option D), cs.map (·.1) = names.take k ∧ (∀ c ∈ cs, 0 ≤ c.2.1 ∧ c.2.1 < 40) ∧ (∀ c ∈ cs, 0 ≤ c.2.2 ∧ c.2.2 < 40) ∧ ρ = EC w ds kind n b ms' [.own (.lst (cs.map cD)), .own (.lst []), .own (.dct []), .own (.lst []), sl o, .none, .none, .none, .none, .none, .none])
    ⟨ms2, [], none, by simp, by simp, by simp, rfl⟩
    (fun k ρ x hk ⟨ms', cs, o, i1, i2, i3, e⟩ => by
      subst e
      rw [List.getElem?_map, Option.map_eq_some_iff] at hk
      obtain ⟨s, hs, rfl⟩ := hk
      obtain ⟨a, q1, ⟨a1, a2⟩, ta⟩ := law_take_ok ms' (k := 12) (by omega)
      obtain ⟨c, q2, ⟨c1, c2⟩, tc⟩ := law_take_ok q1 (k := 40) (by omega)
      obtain ⟨y, q3, hy, tp⟩ := law_pick_ok q2 (xs := [.int 9, .int 13, .int 20, .int c]) (by simp)
      have hy : ∃ z : Int, y = .int z ∧ 0 ≤ z ∧ z < 40 := by
        simp at hy
        rcases hy with rfl | rfl | rfl | rfl
        · exact ⟨9, rfl, by omega, by omega⟩
        · exact ⟨13, rfl, by omega, by omega⟩
        · exact ⟨20, rfl, by omega, by omega⟩
        · exact ⟨c, rfl, c1, c2⟩
      obtain ⟨z, rfl, z1, z2⟩ := hy
      have hlc : cs.length < line := by
        have := congrArg List.length i1
        rw [List.length_map, List.length_take] at this
        rw [line_eq]; omega
      refine ⟨EC w ds kind n b q3 [.own (.lst ((cs ++ [(s, a, z)]).map cD)), .own (.lst []), .own (.dct []), .own (.lst []), .val (.str s), .none, .none, .none, .none, .none, .none], .inl ?_, q3, cs ++ [(s, a, z)], some (.str s), ?_, ?_, ?_, rfl⟩
      · cases o <;> simp -implicitDefEqProofs [EC, sl, ta, tc, tp, D.flat, ownL, kMut, mmD, hlc, cD]
      · rw [List.take_add_one, hs, List.map_append, i1]; rfl
      · intro c hc
        rcases List.mem_append.mp hc with hc | hc
        · exact i2 c hc
        · simp at hc; subst hc; exact ⟨a1, by show a < 40; omega⟩
      · intro c hc
        rcases List.mem_append.mp hc with hc | hc
        · exact i3 c hc
        · simp at hc; subst hc; exact ⟨z1, z2⟩)
  obtain ⟨ms', cs, o, i1, i2, i3, e2⟩ := I
  rw [List.length_map, List.take_length] at i1
  have hl6 : cs.length ≤ 6 := by
    have := congrArg List.length i1
    rw [List.length_map] at this
    omega
  subst e2
  refine ⟨ms', cs, o, ⟨fun c hc => hin _ (by rw [← i1]; exact List.mem_map.mpr ⟨c, hc, rfl⟩), by rw [i1]; exact nd, fun c hc => by have := i2 c hc; omega, fun c hc => by have := i3 c hc; omega, by omega⟩, hl6, e⟩
theorem badL_snoc (cs : List Call) (c : Call) : badL w ds kind n b (cs ++ [c]) = badL w ds kind n b cs ++ (match wd w ds kind n b (st w ds kind n b cs).2 c with
    | some x => [(Sum.inr c.1, D.str x)]
    | none => []) := by
  unfold badL zw
  rw [st_snoc]
  show (((cs ++ [c]).zip ((st w ds kind n b cs).1 ++ [wd w ds kind n b (st w ds kind n b cs).2 c])).filter _).map _ = _
  rw [List.zip_append ((st_len cs.length cs rfl).1.symm), List.filter_append, List.map_append]
  congr 1
  cases h : wd w ds kind n b (st w ds kind n b cs).2 c <;> simp [oD]
theorem wd_wdl (g : Good w ds) (t : List Int) (c : Call) : wd w ds kind n b t c = match wdl w ds kind n b c.2.1 c.2.2 with
    | some x => some x
    | none => if t.contains c.2.2 then some "taken" else none := by
  unfold wd wdl
  rw [far_fw g]
  cases h1 : (b && !wk w ds c.2.2) <;> cases h2 : fw w ds kind n c.2.1 c.2.2 <;> simp
theorem put_new {kvs : List (Key × D)} {k : Key} {v : D} (h : ∀ kv ∈ kvs, kv.1 ≠ k) : putK kvs k v = kvs ++ [(k, v)] := by
  have e : (kvs.any fun kv => decide (kv.1 = k)) = false := by
    rw [List.any_eq_false]
    intro kv hkv
    simpa using h kv hkv
  unfold putK
  rw [e]; rfl
theorem bad_keys (cs : List Call) : ∀ kv ∈ badL w ds kind n b cs, ∃ c ∈ cs, kv.1 = Sum.inr c.1 := by
  intro kv hkv
  unfold badL at hkv
  obtain ⟨p, hp, rfl⟩ := List.mem_map.mp hkv
  have := (List.mem_filter.mp hp).1
  have h2 : p.1 ∈ (zw w ds kind n b cs).map (·.1) := List.mem_map.mpr ⟨p, this, rfl⟩
  rw [zw_fst] at h2
  exact ⟨p.1, h2, rfl⟩
theorem calls_loop (g : Good w ds) (r : GoodR kind n) {cs : List Call} (c : GoodC cs) (h6 : cs.length ≤ 6) (ms : List Int) (o : Option D) : ∃ (o7 o8 o9 o10 : Option D) (t : List Int),
    exec (.forr (.tup [(.n 7), (.n 8), (.n 9)]) (.e (.v 3)) [.asg 10 (.call F__law_word [.v 1, .v 2, .v 8, .v 9]),
      .ite (.and [.cmp .is (.v 10) (.k .non), .cmp .inn (.v 9) (.v 4)]) [.asg 10 (.k (.str "taken"))] [],
      .ite (.cmp .is (.v 10) (.k .non)) [.par [6, 4] [.bin .add (.v 6) (.lst [.v 7]), .bin .add (.v 4) (.lst [.v 9])]] [.setIx 5 (.v 7) (.v 10)]]) (EC w ds kind n b ms [.own (.lst (cs.map cD)), .own (.lst []), .own (.dct []), .own (.lst []), sl o, .none, .none, .none, .none, .none, .none]) = .ok (.next, EC w ds kind n b ms [.own (.lst (cs.map cD)), .own (.lst (t.map .int)), .own (.dct (badL w ds kind n b cs)), .own (tD (goodL w ds kind n b cs)), sl o7, sl o8, sl o9, sl o10, .none, .none, .none]) := by
  obtain ⟨ρ', e, I⟩ := ex_forr_own (t := .tup [.n 7, .n 8, .n 9]) (it := .e (.v 3)) (body := [.asg 10 (.call F__law_word [.v 1, .v 2, .v 8, .v 9]),
      .ite (.and [.cmp .is (.v 10) (.k .non), .cmp .inn (.v 9) (.v 4)]) [.asg 10 (.k (.str "taken"))] [],
      .ite (.cmp .is (.v 10) (.k .non)) [.par [6, 4] [.bin .add (.v 6) (.lst [.v 7]), .bin .add (.v 4) (.lst [.v 9])]] [.setIx 5 (.v 7) (.v 10)]]) (i := 3) (d := .lst (cs.map cD))
    (ρ := EC w ds kind n b ms [.own (.lst (cs.map cD)), .own (.lst []), .own (.dct []), .own (.lst []), sl o, .none, .none, .none, .none, .none, .none]) (ρ₁ := EC w ds kind n b ms [.own (.lst (cs.map cD)), .own (.lst []), .own (.dct []), .own (.lst []), sl o, .none, .none, .none, .none, .none, .none]) (xs := cs.map cD)
    (by simp [EC, kI, itemsD, slotOf]) rfl
    (fun k ρ => ∃ (o7 o8 o9 o10 : Option D), ρ = EC w ds kind n b ms [.lck (.lst (cs.map cD)), .own (.lst ((st w ds kind n b (cs.take k)).2.map .int)), .own (.dct (badL w ds kind n b (cs.take k))), .own (tD (goodL w ds kind n b (cs.take k))), sl o7, sl o8, sl o9, sl o10, .none, .none, .none])
    ⟨o, none, none, none, rfl⟩
    (fun k ρ x hk ⟨o7, o8, o9, o10, e⟩ => by
      subst e
      rw [List.getElem?_map, Option.map_eq_some_iff] at hk
      obtain ⟨c1, hc1, rfl⟩ := hk
      have hk : k < cs.length := (List.getElem?_eq_some_iff.mp hc1).1
      have hmem : c1 ∈ cs := List.mem_of_getElem? hc1
      have e1 : cs.take (k + 1) = cs.take k ++ [c1] := by rw [List.take_add_one, hc1]; rfl
      have hnew : ∀ kv ∈ badL w ds kind n b (cs.take k), kv.1 ≠ Sum.inr c1.1 := by
        intro kv hkv h
        obtain ⟨c2, hc2, h2⟩ := bad_keys _ kv hkv
        rw [h] at h2
        have h2 := Sum.inr.inj h2
        have nd := c.nd
        have h3 : (cs.take (k + 1)).map (·.1) = (cs.map (·.1)).take (k + 1) := List.map_take
        have h4 : ((cs.take (k + 1)).map (·.1)).Nodup := by rw [h3]; exact List.Nodup.sublist (List.take_sublist _ _) nd
        rw [e1, List.map_append, List.nodup_append] at h4
        exact h4.2.2 c2.1 (List.mem_map.mpr ⟨c2, hc2, rfl⟩) c1.1 (by simp) h2.symm
      rw [e1, st_snoc, goodL_snoc, badL_snoc]
      have l1 : (goodL w ds kind n b (cs.take k)).length ≤ k := by
        unfold goodL
        rw [List.length_map]
        refine Nat.le_trans (List.length_filter_le _ _) (Nat.le_trans (zw_len _) ?_)
        rw [List.length_take]; omega
      have l5 : (badL w ds kind n b (cs.take k)).length ≤ k := by
        unfold badL
        rw [List.length_map]
        refine Nat.le_trans (List.length_filter_le _ _) (Nat.le_trans (zw_len _) ?_)
        rw [List.length_take]; omega
      obtain ⟨-, l2⟩ := st_len (w := w) (ds := ds) (kind := kind) (n := n) (b := b) k (cs.take k) (by rw [List.length_take]; omega)
      generalize goodL w ds kind n b (cs.take k) = gs at *
      generalize badL w ds kind n b (cs.take k) = bs at *
      generalize st w ds kind n b (cs.take k) = s at *
      obtain ⟨ws, t⟩ := s
      have l3 : gs.length + 1 ≤ line := by rw [line_eq]; omega
      have l4 : t.length + 1 ≤ line := by rw [line_eq]; simp at l2; omega
      have l6 : bs.length < line := by rw [line_eq]; omega
      have hwd := wd_wdl (kind := kind) (n := n) (b := b) g t c1
      have d1 := c.d1 c1 hmem
      have d2 := c.d2 c1 hmem
      have w1 := law_word_ok (w := w) (ds := ds) (b := b) r (x := c1.2.1) (y := c1.2.2) (by omega) (by omega)
      refine ⟨EC w ds kind n b ms [.lck (.lst (cs.map cD)), .own (.lst ((stp w ds kind n b (ws, t) c1).2.map .int)), .own (.dct (bs ++ match wd w ds kind n b t c1 with
    | some x => [(Sum.inr c1.1, D.str x)]
    | none => [])), .own (tD (gs ++ if wd w ds kind n b t c1 = none then [c1.1] else [])), .val (.str c1.1), .val (.int c1.2.1), .val (.int c1.2.2), .val (oD (wd w ds kind n b t c1)), .none, .none, .none], .inl ?_, ⟨some _, some _, some _, some _, rfl⟩⟩
      have hset : setT (.tup [.n 7, .n 8, .n 9]) (cD c1) (EC w ds kind n b ms [.lck (.lst (cs.map cD)), .own (.lst (t.map .int)), .own (.dct bs), .own (tD gs), sl o7, sl o8, sl o9, sl o10, .none, .none, .none]) =
          .ok (EC w ds kind n b ms [.lck (.lst (cs.map cD)), .own (.lst (t.map .int)), .own (.dct bs), .own (tD gs), .val (.str c1.1), .val (.int c1.2.1), .val (.int c1.2.2), sl o10, .none, .none, .none]) := by
        cases o7 <;> cases o8 <;> cases o9 <;> simp [cD, sl, EC]
      show (setT (.tup [.n 7, .n 8, .n 9]) (cD c1) (EC w ds kind n b ms [.lck (.lst (cs.map cD)), .own (.lst (t.map .int)), .own (.dct bs), .own (tD gs), sl o7, sl o8, sl o9, sl o10, .none, .none, .none])).bind _ = _
      rw [hset, MR.bind_ok]
      have ks : ∀ i : Str, (D.str i).key? = some (Sum.inr i) := fun _ => rfl
      have m1 : t.contains c1.2.2 = true → c1.2.2 ∈ t := fun h => by simpa using h
      have m0 : t.contains c1.2.2 = false → ¬ c1.2.2 ∈ t := fun h => by simpa using h
      have hin := inD_intsL c1.2.2 t
      have addL : ∀ x y : List D, x.length + y.length ≤ line → binD .add (.lst x) (.lst y) = some (.own (.lst (x ++ y))) := fun x y h => by simp [binD, h]
      cases hz : wdl w ds kind n b c1.2.1 c1.2.2 with
      | some x =>
        rw [hz] at hwd w1
        have hwd : wd w ds kind n b t c1 = some x := hwd
        have hput := put_new (v := .str x) hnew
        cases o10 <;> simp -implicitDefEqProofs [EC, sl, w1, oD, D.flat, is_sn, hwd, stp, ks, isOwnS, setIxD, l6, hput]
      | none =>
        rw [hz] at hwd w1
        cases h1 : t.contains c1.2.2 with
        | true =>
          have h1' := m1 h1
          rw [h1] at hwd hin
          have hwd : wd w ds kind n b t c1 = some "taken" := hwd
          have hput := put_new (v := .str "taken") hnew
          cases o10 <;> simp -implicitDefEqProofs [EC, sl, w1, oD, D.flat, is_sn, is_nn, hwd, stp, ks, isOwnS, setIxD, l6, hput, hin, h1']
        | false =>
          have h1' := m0 h1
          rw [h1] at hwd hin
          have hwd : wd w ds kind n b t c1 = none := hwd
          cases o10 <;> simp -implicitDefEqProofs [EC, sl, w1, oD, D.flat, is_sn, is_nn, hwd, stp, ks, hin, h1', tD, addL, l3, l4, settle, setSlots])
    (fun k ρ ⟨o7, o8, o9, o10, e⟩ => by subst e; rfl)
  obtain ⟨o7, o8, o9, o10, e2⟩ := I
  rw [List.length_map, List.take_length] at e2
  subst e2
  exact ⟨o7, o8, o9, o10, _, e⟩
theorem nice_strs (k : Nat) (xs : List Str) (h : xs.length ≤ 1000) : nice (k + 1) (.lst (xs.map .str)) = true := by
  simp [nice, h]
theorem nice_bad (k : Nat) (cs : List Call) (h : cs.length ≤ 6) : nice (k + 1) (.dct (badL w ds kind n b cs)) = true := by
  have hl : (badL w ds kind n b cs).length ≤ 1000 := by
    unfold badL
    rw [List.length_map]
    have := zw_len (w := w) (ds := ds) (kind := kind) (n := n) (b := b) cs
    have := List.length_filter_le (fun p : Call × Option Str => p.2.isSome) (zw w ds kind n b cs)
    omega
  simp only [nice, Bool.and_eq_true, List.all_eq_true, decide_eq_true_eq]
  refine ⟨⟨fun kv hkv => ?_, fun kv hkv => ?_⟩, hl⟩
  · unfold badL at hkv
    obtain ⟨p, hp, rfl⟩ := List.mem_map.mp hkv
    show nice k (oD p.2) = true
    cases p.2 <;> cases k <;> rfl
  · unfold badL at hkv
    obtain ⟨p, hp, rfl⟩ := List.mem_map.mp hkv
    rfl
theorem goodL_len (cs : List Call) : (goodL w ds kind n b cs).length ≤ cs.length := by
  unfold goodL
  rw [List.length_map]
  exact Nat.le_trans (List.length_filter_le _ _) (zw_len _)
theorem key_strs (cs : List Call) : ∃ xs : List Str, (badL w ds kind n b cs).map (fun kv => D.ofKey kv.1) = xs.map .str := by
  unfold badL
  refine ⟨((zw w ds kind n b cs).filter fun p => p.2.isSome).map (·.1.1), ?_⟩
  rw [List.map_map, List.map_map]
  rfl
theorem calls_due_ok (g : Good w ds) (r : GoodR kind n) (ms : List Int) : ∃ ms' : List Int, F__law_are_calls_due.run [.lst (ms.map .int), fr w ds, rl kind n b] = .ok (.val (.bl true), [.lst (ms'.map .int)]) := by
  rw [run__law_are_calls_due]
  obtain ⟨ms1, cs, o, c, h6, e1⟩ := draw_calls (w := w) (ds := ds) (kind := kind) (n := n) (b := b) ms
  obtain ⟨o7, o8, o9, o10, t, e2⟩ := calls_loop (b := b) g r c h6 ms1 o
  have e0 : exec (.par [3, 4, 5, 6] [.lst [], .lst [], .dct [], .lst []]) (EC w ds kind n b ms [.none, .none, .none, .none, .none, .none, .none, .none, .none, .none, .none]) = .ok (.next, EC w ds kind n b ms [.own (.lst []), .own (.lst []), .own (.dct []), .own (.lst []), .none, .none, .none, .none, .none, .none, .none]) := by
    simp -implicitDefEqProofs [EC, settle, setSlots]
  have t4 := told_4 (d := .non) (good_calls_ok (b := b) g r c) (fun i z => nomatch z)
  have t5 := told_5 (d := .non) (why_bad_ok (b := b) g r c) (fun i z => nomatch z)
  have hgl := goodL_len (w := w) (ds := ds) (kind := kind) (n := n) (b := b) cs
  have hnb := nice_bad (w := w) (ds := ds) (kind := kind) (n := n) (b := b) 9 cs h6
  obtain ⟨ks, hks⟩ := key_strs (w := w) (ds := ds) (kind := kind) (n := n) (b := b) cs
  have tg : ∀ {near : D} {res : Bool}, eqD near (tD (goodL w ds kind n b cs)) = some res → F__law_told.run [.int 9, fr w ds, rl kind n b, .lst (cs.map cD), near] = .ok (.val (.bl res), []) := fun h => told_9 (takes_calls_ok g r c h) (fun i z => nomatch z)
  generalize hG : goodL w ds kind n b cs = G at *
  generalize hB : badL w ds kind n b cs = B at *
  have e3 : exec (.asg 11 (.call F__law_told [.k (.int 5), .v 1, .v 2, .bi .list [.v 3], .k .non])) (EC w ds kind n b ms1 [.own (.lst (cs.map cD)), .own (.lst (t.map .int)), .own (.dct B), .own (tD G), sl o7, sl o8, sl o9, sl o10, .none, .none, .none]) = .ok (.next, EC w ds kind n b ms1 [.own (.lst (cs.map cD)), .own (.lst (t.map .int)), .own (.dct B), .own (tD G), sl o7, sl o8, sl o9, sl o10, .own (.dct B), .none, .none]) := by
    simp -implicitDefEqProofs [EC, t5, bi_list]
  have e4 : exec (.ite (.or [.not (.call F__law_same [.lst [.call F__law_told [.k (.int 4), .v 1, .v 2, .bi .list [.v 3], .k .non], .v 11], .lst [.v 6, .v 5]]), .cmp .ne (.bi .list [.v 11]) (.bi .list [.v 5])]) [.ret (.k (.bl false))] []) (EC w ds kind n b ms1 [.own (.lst (cs.map cD)), .own (.lst (t.map .int)), .own (.dct B), .own (tD G), sl o7, sl o8, sl o9, sl o10, .own (.dct B), .none, .none]) = .ok (.next, EC w ds kind n b ms1 [.own (.lst (cs.map cD)), .own (.lst (t.map .int)), .val (.dct B), .val (tD G), sl o7, sl o8, sl o9, sl o10, .val (.dct B), .none, .none]) := by
    have sm : F__law_same.run [.lst [tD G, .dct B], .lst [tD G, .dct B]] = .ok (.val (.bl true), []) := same5 _ (by
      have h1 : nice 10 (tD G) = true := nice_strs 9 G (by omega)
      show (List.all [tD G, D.dct B] (nice 10) && decide (2 ≤ 1000)) = true
      simp only [List.all_cons, List.all_nil, h1, hnb]
      rfl)
    have er : eqD (.lst (ks.map .str)) (.lst (ks.map .str)) = some true := eqD_refl (plain_strs 8 ks)
    have t4' : F__law_told.run [.int 4, fr w ds, rl kind n b, .lst (cs.map cD), .non] = .ok (.own (tD G), []) := t4
    simp -implicitDefEqProofs [EC, t4', bi_list, sm, D.flat, bi_listD, hks, er]
  have hl := ev_lc1 (e := .sub (.v 13) (.k (.int 0))) (it := .e (.v 3)) (i := 13) (c := none) (ρ := EC w ds kind n b ms1 [.own (.lst (cs.map cD)), .own (.lst (t.map .int)), .val (.dct B), .val (tD G), sl o7, sl o8, sl o9, sl o10, .val (.dct B), .none, .none]) (xs := cs.map cD) (o := some 3) (fun _ => true) (fun z => match z with
      | .tup (x :: _) => x
      | _ => .non) (by simp [EC, kI, itemsD, slotOf]) (.inl rfl) rfl rfl (by rw [line_eq, List.length_map]; omega) (fun z hz => evC_none _) (fun z hz _ => by
        obtain ⟨x, hx, rfl⟩ := List.mem_map.mp hz
        simp [EC, lockSlot, cD])
  rw [filter_tt, List.map_map] at hl
  have hnames : List.map ((fun z => match z with
      | .tup (x :: _) => x
      | _ => D.non) ∘ cD) cs = (cs.map (·.1)).map .str := by
    rw [List.map_map]; rfl
  rw [hnames] at hl
  have hsl : ∃ G2 : List Str, slD (tD G) (some 1) none = some (.own (tD G2)) := ⟨cut G (some 1) none, by
    simp only [tD, slD, cut, List.map_take, List.map_drop, List.length_map]⟩
  obtain ⟨G2, hsl⟩ := hsl
  obtain ⟨near, ms2, m2, tn⟩ := law_pick_ok ms1 (xs := [tD G, tD G2, .lst ((cs.map (·.1)).map .str), tD G.reverse, .tup (G.map .str)]) (by simp)
  have hnp : near.plain 9 = true := by
    simp at m2
    rcases m2 with rfl | rfl | rfl | rfl | rfl
    · exact plain_strs 8 _
    · exact plain_strs 8 _
    · have := plain_strs 8 (cs.map (·.1)); rwa [List.map_map] at this
    · have := plain_strs 8 G.reverse; unfold tD; exact this
    · exact plain_strsT 8 _
  have nfl : near.flat = false := by
    simp at m2
    rcases m2 with rfl | rfl | rfl | rfl | rfl <;> rfl
  refine ⟨ms2, ?_⟩
  have e5 : exec (.asg 12 (.call F__law_pick [.v 0, .lst [.v 6, .sl (.v 6) (some (.k (.int 1))) none, .lc (.sub (.v 13) (.k (.int 0))) (.n 13) (.e (.v 3)) [13] none, .rev (.v 6), .bi .tuple [.v 6]]])) (EC w ds kind n b ms1 [.own (.lst (cs.map cD)), .own (.lst (t.map .int)), .val (.dct B), .val (tD G), sl o7, sl o8, sl o9, sl o10, .val (.dct B), .none, .none]) = .ok (.next, EC w ds kind n b ms2 [.own (.lst (cs.map cD)), .own (.lst (t.map .int)), .val (.dct B), .val (tD G), sl o7, sl o8, sl o9, sl o10, .val (.dct B), .val near, .none]) := by
    have rv : revD (tD G) = some (.own (tD G.reverse)) := by simp [revD, tD]
    have tu : biD .tuple [tD G] = some (.val (.tup (G.map .str))) := by simp [biD, tD]
    simp only [EC] at hl
    simp -implicitDefEqProofs [EC, hl, hsl, rv, tu]
    simp -implicitDefEqProofs at tn
    simp -implicitDefEqProofs [tn, nfl]
  obtain ⟨rr, hr⟩ := eqD_any hnp (plain_strs 8 G)
  have hr : eqD near (tD G) = some rr := hr
  have e6 : exec (.ret (.call F__law_same [.lst [.call F__law_told [.k (.int 9), .v 1, .v 2, .bi .list [.v 3], .bi .list [.v 6]], .call F__law_told [.k (.int 9), .v 1, .v 2, .bi .list [.v 3], .v 12]], .lst [.k (.bl true), .cmp .eq (.v 12) (.v 6)]])) (EC w ds kind n b ms2 [.own (.lst (cs.map cD)), .own (.lst (t.map .int)), .val (.dct B), .val (tD G), sl o7, sl o8, sl o9, sl o10, .val (.dct B), .val near, .none]) = .ok (.ret (.val (.bl true)), EC w ds kind n b ms2 [.own (.lst (cs.map cD)), .own (.lst (t.map .int)), .val (.dct B), .val (tD G), sl o7, sl o8, sl o9, sl o10, .val (.dct B), .val near, .none]) := by
    have sm : F__law_same.run [.lst [.bl true, .bl rr], .lst [.bl true, .bl rr]] = .ok (.val (.bl true), []) := same5 _ rfl
    have tgg := tg (eqD_refl (plain_strs 8 G))
    have tgn := tg hr
    have blg : biD .list [tD G] = some (.own (tD G)) := bi_list _
    have tgg' : F__law_told.run [.int 9, fr w ds, rl kind n b, .lst (cs.map cD), tD G] = .ok (.val (.bl true), []) := tgg
    simp -implicitDefEqProofs [EC, bi_list, blg, tgg', tgn, D.flat, hr, sm]
  rw [fnRun, if_pos (by rfl)]
  simp only [c__law_are_calls_due, List.take_succ_cons, List.take_zero, List.map_cons, List.map_nil, List.drop_succ_cons, List.drop_zero, List.nil_append, List.cons_append, List.replicate, Nat.reduceSub]
  show (execs _ (EC w ds kind n b ms [.none, .none, .none, .none, .none, .none, .none, .none, .none, .none, .none])).bind _ = _
  rw [execs_cons, e0, MR.bind_ok]
  simp only
  rw [execs_cons, e1, MR.bind_ok]
  simp only
  rw [execs_cons, e2, MR.bind_ok]
  simp only
  rw [execs_cons, e3, MR.bind_ok]
  simp only
  rw [execs_cons, e4, MR.bind_ok]
  simp only
  rw [execs_cons, e5, MR.bind_ok]
  simp only
  rw [execs_cons, e6, MR.bind_ok]
  simp [EC]
end K54
end
section
set_option linter.all false
set_option maxRecDepth 100000
namespace K54
open M MR
open PySem (Str)
theorem turns_ok (s0 : D) (ms : List Int) : ∃ (ms' : List Int) (o2 o3 o4 : Option D), exec (.forr (.n 2) (.range1 (.k (.int 6))) [.par [3, 4] [.call F__law_free [.v 1], .call F__law_rule [.v 1, .k (.int 9)]],
      .ite (.or [.not (.call F__law_are_days_due [.v 1, .v 3, .v 4]), .not (.call F__law_are_calls_due [.v 1, .v 3, .v 4])]) [.ret (.k (.bl false))] []]) (E0 s0 ms .none .none .none) = .ok (.next, E0 s0 ms' (sl o2) (sl o3) (sl o4)) := by
  obtain ⟨ρ', e, I⟩ := ex_forr_inv (t := .n 2) (it := .range1 (.k (.int 6))) (body := [.par [3, 4] [.call F__law_free [.v 1], .call F__law_rule [.v 1, .k (.int 9)]],
      .ite (.or [.not (.call F__law_are_days_due [.v 1, .v 3, .v 4]), .not (.call F__law_are_calls_due [.v 1, .v 3, .v 4])]) [.ret (.k (.bl false))] []])
    (ρ := E0 s0 ms .none .none .none) (ρ₁ := E0 s0 ms .none .none .none) (xs := rangeN 0 6)
    (by have := range1D_nat 6 (by omega); simp -implicitDefEqProofs [kR_val] at this ⊢; rw [this])
    (fun k ρ => ∃ (ms' : List Int) (o2 o3 o4 : Option D), ρ = E0 s0 ms' (sl o2) (sl o3) (sl o4))
    ⟨ms, none, none, none, rfl⟩
    (fun k ρ x hk ⟨ms', o2, o3, o4, e⟩ => by
      subst e
      obtain ⟨w, ds, m1, g, w3, d7, d40, h1⟩ := law_free_ok ms'
      obtain ⟨kind, n, b, m2, r, hn, h2⟩ := law_rule_ok m1
      obtain ⟨m3, h3⟩ := days_due_ok (b := b) ⟨g, w3, d40⟩ r hn m2
      obtain ⟨m4, h4⟩ := calls_due_ok (b := b) g r m3
      have ff : (fr w ds).flat = false := rfl
      have fl : (rl kind n b).flat = false := rfl
      refine ⟨E0 s0 m4 (.val x) (.val (fr w ds)) (.val (rl kind n b)), .inl ?_, m4, some x, some _, some _, rfl⟩
      cases o2 <;> cases o3 <;> cases o4 <;> simp -implicitDefEqProofs [E0, sl, h1, h2, h3, h4, D.flat, settle, setSlots, flatL, flat_int, ff, fl])
  obtain ⟨ms', o2, o3, o4, e2⟩ := I
  subst e2
  exact ⟨ms', o2, o3, o4, e⟩
theorem law_true (ns : List Int) (h : ns.length ≤ 63) : F_law.run [.lst (ns.map .int)] = .ok (.val (.bl true), []) := by
  rw [run_law]
  obtain ⟨ms, hd⟩ := law_draws_ok ns h
  obtain ⟨ms1, o2, o3, o4, e1⟩ := turns_ok (.lst (ns.map .int)) ms
  have eA := tA_ok (.lst (ns.map .int)) ms1 (sl o2) (sl o3) (sl o4)
  obtain ⟨ms2, s5, s6, bad, wrong, day, hb, hw, hdy, eB⟩ := tB_ok (.lst (ns.map .int)) ms1 (sl o2) (sl o3) (sl o4)
  obtain ⟨ms3, calls, hc, e17⟩ := s_17 (.lst (ns.map .int)) ms2 (sl o2) (sl o3) (sl o4) s5 s6 bad wrong day (reps 26)
  have e0 : exec (.asg 1 (.call F__law_draws [.v 0])) (.val (.lst (ns.map .int)) :: List.replicate 19 .none) = .ok (.next, E0 (.lst (ns.map .int)) ms .none .none .none) := by
    simp -implicitDefEqProofs [E0, hd]
  have ex2 : ∀ (xs ys : List CS) (ρ ρ' : Env), execs xs ρ = .ok (.next, ρ') → execs (xs ++ ys) ρ = execs ys ρ' := by
    intro xs
    induction xs with
    | nil => intro ys ρ ρ' h; simp at h; subst h; rfl
    | cons x xs ih =>
      intro ys ρ ρ' h
      rw [execs_cons] at h
      rw [List.cons_append, execs_cons]
      cases hx : exec x ρ with
      | stuck => rw [hx] at h; cases h
      | exc c q => rw [hx] at h; cases h
      | ok p =>
        rw [hx] at h
        rw [MR.bind_ok]
        obtain ⟨f, ρ1⟩ := p
        rw [MR.bind_ok] at h
        cases f with
        | next => exact ih ys ρ1 ρ' h
        | brk => cases h
        | cont => cases h
        | ret r => cases h
  have hsplit : c_law = .asg 1 (.call F__law_draws [.v 0]) :: .forr (.n 2) (.range1 (.k (.int 6))) [.par [3, 4] [.call F__law_free [.v 1], .call F__law_rule [.v 1, .k (.int 9)]],
      .ite (.or [.not (.call F__law_are_days_due [.v 1, .v 3, .v 4]), .not (.call F__law_are_calls_due [.v 1, .v 3, .v 4])]) [.ret (.k (.bl false))] []] :: (tA ++ (tB ++ c_law.drop 9)) := rfl
  have h9 : c_law.drop 9 = [.asg 12 (.lst [.call F__law_told [.k (.int 0), .v 7, .k (.int 0), .k .non, .k .non], .call F__law_told [.k (.int 0), .v 10, .v 9, .k .non, .k .non], .call F__law_told [.k (.int 1), .v 7, .k (.int 0), .k (.int 1), .k .non]]), .asg 12 (.bin .add (.v 12) (.lst [.call F__law_told [.k (.int 1), .v 10, .v 9, .k (.int 1), .k .non], .call F__law_told [.k (.int 1), .v 10, .k (.int 1), .v 9, .k .non]])), .asg 12 (.bin .add (.bin .add (.v 12) (.lc (.call F__law_told [.v 16, .v 7, .v 11, .k (.int 0), .k .non]) (.n 16) (.e (.lst [.k (.int 2), .k (.int 3)])) [16] none)) (.lc (.call F__law_told [.v 16, .v 10, .v 8, .k (.int 0), .k .non]) (.n 16) (.e (.lst [.k (.int 2), .k (.int 3)])) [16] none)), .asg 12 (.bin .add (.bin .add (.v 12) (.lc (.call F__law_told [.v 16, .v 10, .v 11, .v 9, .k .non]) (.n 16) (.e (.lst [.k (.int 2), .k (.int 3)])) [16] none)) (.lst [.call F__law_told [.k (.int 6), .v 7, .k (.int 0), .k (.int 1), .k .non], .call F__law_told [.k (.int 6), .v 10, .v 9, .k (.int 1), .k .non]])), .asg 12 (.bin .add (.bin .add (.v 12) (.lc (.call F__law_told [.k (.int 6), .v 10, .k (.int 0), .v 17, .k .non]) (.n 17) (.e (.lst [.k (.int 0), .k (.int 401), .k .non])) [17] none)) (.lst [.call F__law_told [.k (.int 7), .v 7, .v 11, .k (.int 0), .k (.int 9)], .call F__law_told [.k (.int 7), .v 10, .v 8, .k (.int 0), .k (.int 9)]])), .asg 12 (.bin .add (.v 12) (.lst [.call F__law_told [.k (.int 7), .v 10, .v 11, .v 9, .k (.int 9)], .call F__law_told [.k (.int 7), .v 10, .v 11, .k (.int 0), .v 9], .call F__law_told [.k (.int 10), .v 7, .v 11, .k (.int 0), .tup [.k (.int 0), .k (.int 9)]]])), .asg 12 (.bin .add (.v 12) (.lst [.call F__law_told [.k (.int 10), .v 10, .v 8, .k (.int 0), .tup [.k (.int 0), .k (.int 9)]], .call F__law_told [.k (.int 10), .v 10, .v 11, .v 9, .tup [.k (.int 0), .k (.int 9)]]])), .asg 12 (.bin .add (.v 12) (.lc (.call F__law_told [.k (.int 10), .v 10, .v 11, .k (.int 0), .v 18]) (.n 18) (.e (.lst [.tup [.v 9, .k (.int 9)], .tup [.k (.int 0), .v 9], .tup [.k (.int 0), .k (.int 401)]])) [18] none)), .asg 13 (.call F__law_pick [.v 1, .lst [.k .non, .tup [.tup [.k (.str "a"), .k (.int 0), .k (.int 9)]], .lst [.tup [.k (.str "a"), .k (.int 0)]], .lst [.tup [.k (.str "A"), .k (.int 0), .k (.int 9)]], .lst [.tup [.k (.str "a"), .neg (.k (.int 1)), .k (.int 9)]], .lst [.tup [.k (.str "a"), .k (.int 0), .k (.int 9)], .tup [.k (.str "a"), .k (.int 1), .k (.int 20)]], .lst [.lst [.k (.str "a"), .k (.int 0), .k (.int 9)]]]]), .asg 12 (.bin .add (.bin .add (.v 12) (.lc (.call F__law_told [.v 16, .v 7, .v 11, .lst [], .k .non]) (.n 16) (.e (.lst [.k (.int 4), .k (.int 5)])) [16] none)) (.lc (.call F__law_told [.v 16, .v 10, .v 8, .lst [], .k .non]) (.n 16) (.e (.lst [.k (.int 4), .k (.int 5)])) [16] none)), .asg 12 (.bin .add (.bin .add (.v 12) (.lc (.call F__law_told [.v 16, .v 10, .v 11, .v 13, .k .non]) (.n 16) (.e (.lst [.k (.int 4), .k (.int 5)])) [16] none)) (.lst [.call F__law_told [.k (.int 8), .v 7, .v 11, .k (.int 0), .k (.int 4)], .call F__law_told [.k (.int 9), .v 7, .v 11, .lst [], .lst []]])), .ite (.cmp .ne (.lc (.v 15) (.n 15) (.e (.v 12)) [15] (some (.cmp .ne (.v 15) (.k (.str "refused 1"))))) (.lst [])) [.ret (.k (.bl false))] [], .asg 12 (.lst [.call F__law_told [.k (.int 8), .v 10, .v 8, .k (.int 0), .k (.int 4)], .call F__law_told [.k (.int 8), .v 10, .v 11, .v 9, .k (.int 4)], .call F__law_told [.k (.int 9), .v 10, .v 8, .lst [], .lst []], .call F__law_told [.k (.int 9), .v 10, .v 11, .v 13, .lst []]]), .ite (.not (.call F__law_same [.v 12, .bin .mul (.lst [.k (.bl false)]) (.k (.int 4))])) [.ret (.k (.bl false))] [], .asg 14 (.bin .add (.lc (.call F__law_told [.k (.int 2), .tup [.tup [], .tup []], .tup [.k (.str "days"), .k (.int 3), .k (.bl false)], .v 19, .k .non]) (.n 19) (.e (.lst [.k (.int 99996), .k (.int 99997)])) [19] none) (.lc (.call F__law_told [.k (.int 6), .tup [.tup [], .tup []], .k (.int 99999), .v 17, .k .non]) (.n 17) (.e (.lst [.k (.int 2), .k (.int 3)])) [17] none)), .ret (.and [.call F__law_same [.v 14, .lst [.k (.int 100000), .k (.str "refused 3"), .k (.int 100000), .k (.str "refused 3")]], .cmp .is (.call F__law_told [.k (.int 8), .tup [.tup [], .tup []], .tup [.k (.str "days"), .k (.int 3), .k (.bl false)], .k (.int 99997), .k (.int 100000)]) (.k (.bl false))])] := rfl
  rw [fnRun, if_pos (by rfl)]
  simp only [List.take_zero, List.map_cons, List.map_nil, List.drop_zero, List.nil_append, List.cons_append, Nat.reduceSub]
  rw [hsplit, execs_cons, e0, MR.bind_ok]
  simp only
  rw [execs_cons, e1, MR.bind_ok]
  simp only
  rw [ex2 _ _ _ _ eA, ex2 _ _ _ _ eB, h9]
  rw [execs_cons, s_9 hb hw hdy, MR.bind_ok]
  simp only
  rw [execs_cons, s_10 hb hw hdy, MR.bind_ok]
  simp only
  rw [execs_cons, s_11 hb hw hdy, MR.bind_ok]
  simp only
  rw [execs_cons, s_12 hb hw hdy, MR.bind_ok]
  simp only
  rw [execs_cons, s_13 hb hw hdy, MR.bind_ok]
  simp only
  rw [execs_cons, s_14 hb hw hdy, MR.bind_ok]
  simp only
  rw [execs_cons, s_15 hb hw hdy, MR.bind_ok]
  simp only
  rw [execs_cons, s_16 hb hw hdy, MR.bind_ok]
  simp only
  rw [execs_cons, e17, MR.bind_ok]
  simp only
  rw [execs_cons, s_18 hb hw hdy hc, MR.bind_ok]
  simp only
  rw [execs_cons, s_19 hb hw hdy hc, MR.bind_ok]
  simp only
  rw [execs_cons, s_20, MR.bind_ok]
  simp only
  rw [execs_cons, s_21 hw hdy hc, MR.bind_ok]
  simp only
  rw [execs_cons, s_22, MR.bind_ok]
  simp only
  have e23 := s_23 (.lst (ns.map .int)) ms3 (sl o2) (sl o3) (sl o4) s5 s6 bad wrong day (.own (.lst [.bl false, .bl false, .bl false, .bl false])) (.val calls)
  cases hq : execs [.asg 14 (.bin .add (.lc (.call F__law_told [.k (.int 2), .tup [.tup [], .tup []], .tup [.k (.str "days"), .k (.int 3), .k (.bl false)], .v 19, .k .non]) (.n 19) (.e (.lst [.k (.int 99996), .k (.int 99997)])) [19] none) (.lc (.call F__law_told [.k (.int 6), .tup [.tup [], .tup []], .k (.int 99999), .v 17, .k .non]) (.n 17) (.e (.lst [.k (.int 2), .k (.int 3)])) [17] none)), .ret (.and [.call F__law_same [.v 14, .lst [.k (.int 100000), .k (.str "refused 3"), .k (.int 100000), .k (.str "refused 3")]], .cmp .is (.call F__law_told [.k (.int 8), .tup [.tup [], .tup []], .tup [.k (.str "days"), .k (.int 3), .k (.bl false)], .k (.int 99997), .k (.int 100000)]) (.k (.bl false))])] (E1 (.lst (ns.map .int)) ms3 (sl o2) (sl o3) (sl o4) s5 s6 bad wrong day (.own (.lst [.bl false, .bl false, .bl false, .bl false])) (.val calls)) with
  | stuck => rw [hq] at e23; cases e23
  | exc c q => rw [hq] at e23; cases e23
  | ok p =>
    rw [hq] at e23
    obtain ⟨f, ρ⟩ := p
    simp only [MR.bind_ok] at e23
    cases e23
    simp
end K54
end
set_option linter.all false
set_option maxRecDepth 100000
set_option maxHeartbeats 0
open M PySem PySem.Spec PyProof.Rows L2
namespace K54
abbrev PR : Program := PySem.Challenge.pw_motionward_k54_whole_notices_of_meetings
def top (i : Nat) : Stmt := PR.main.body.getD i (.Pass ⟨0, 0, 0, 0⟩)
def gls : List (Str × D) := [("MOST_SIGNS", (.int 12)), ("LAST_DAY_notices", (.int 100000)), ("WEEK_notices", (.int 7)), ("MOST_DATES", (.int 100)), ("DAYS", (.str "days")), ("WORKING", (.str "working")), ("MOST_DAYS", (.int 60)), ("MOST_CALLS", (.int 40)), ("MOST_WORKED", (.int 400)), ("MOST_LISTED", (.int 400)), ("WEEK_checkmore", (.int 7)), ("LAST_DAY_checkmore", (.int 100000)), ("working_between", (.fn "working_between")), ("first_meeting", (.fn "first_meeting")), ("last_notice", (.fn "last_notice")), ("good_calls", (.fn "good_calls")), ("why_bad", (.fn "why_bad")), ("next_working", (.fn "next_working")), ("does_keep", (.fn "does_keep")), ("takes_meeting", (.fn "takes_meeting")), ("takes_calls", (.fn "takes_calls"))]
def fn : List He.DefD := [⟨("is_integer", none), "is_integer", "is_integer", defArgs (top 7), defBody (top 7), defScope (top 7), [], []⟩,
  ⟨("is_within", none), "is_within", "is_within", defArgs (top 8), defBody (top 8), defScope (top 8), [], []⟩,
  ⟨("are_ascending", none), "are_ascending", "are_ascending", defArgs (top 9), defBody (top 9), defScope (top 9), [], []⟩,
  ⟨("is_name", none), "is_name", "is_name", defArgs (top 10), defBody (top 10), defScope (top 10), [], []⟩,
  ⟨("check", none), "check", "check", defArgs (top 11), defBody (top 11), defScope (top 11), [], []⟩,
  ⟨("is_day", none), "is_day", "is_day", defArgs (top 22), defBody (top 22), defScope (top 22), [], []⟩,
  ⟨("are_days", none), "are_days", "are_days", defArgs (top 23), defBody (top 23), defScope (top 23), [], []⟩,
  ⟨("are_free_days", none), "are_free_days", "are_free_days", defArgs (top 24), defBody (top 24), defScope (top 24), [], []⟩,
  ⟨("is_notice_rule", none), "is_notice_rule", "is_notice_rule", defArgs (top 25), defBody (top 25), defScope (top 25), [], []⟩,
  ⟨("check_free", none), "check_free", "check_free", defArgs (top 26), defBody (top 26), defScope (top 26), [], []⟩,
  ⟨("check_rule", none), "check_rule", "check_rule", defArgs (top 27), defBody (top 27), defScope (top 27), [], []⟩,
  ⟨("works_notices", none), "works", "works", defArgs (top 28), defBody (top 28), defScope (top 28), [], []⟩,
  ⟨("is_working", none), "is_working", "is_working", defArgs (top 30), defBody (top 30), defScope (top 30), [], []⟩,
  ⟨("worked_before", none), "worked_before", "worked_before", defArgs (top 31), defBody (top 31), defScope (top 31), [], []⟩,
  ⟨("between", none), "between", "between", defArgs (top 32), defBody (top 32), defScope (top 32), [], []⟩,
  ⟨("working_between", none), "working_between", "working_between", defArgs (top 33), defBody (top 33), defScope (top 33), [], []⟩,
  ⟨("is_far", none), "is_far", "is_far", defArgs (top 34), defBody (top 34), defScope (top 34), [], []⟩,
  ⟨("is_tolled", none), "is_tolled", "is_tolled", defArgs (top 35), defBody (top 35), defScope (top 35), [], []⟩,
  ⟨("keeps_notices", none), "keeps", "keeps", defArgs (top 36), defBody (top 36), defScope (top 36), [], []⟩,
  ⟨("does_keep", none), "does_keep", "does_keep", defArgs (top 38), defBody (top 38), defScope (top 38), [], []⟩,
  ⟨("first_meeting", none), "first_meeting", "first_meeting", defArgs (top 39), defBody (top 39), defScope (top 39), [], []⟩,
  ⟨("last_notice", none), "last_notice", "last_notice", defArgs (top 40), defBody (top 40), defScope (top 40), [], []⟩,
  ⟨("is_call", none), "is_call", "is_call", defArgs (top 41), defBody (top 41), defScope (top 41), [], []⟩,
  ⟨("check_calls", none), "check_calls", "check_calls", defArgs (top 42), defBody (top 42), defScope (top 42), [], []⟩,
  ⟨("states_of", none), "states_of", "states_of", defArgs (top 43), defBody (top 43), defScope (top 43), [], []⟩,
  ⟨("good_calls", none), "good_calls", "good_calls", defArgs (top 44), defBody (top 44), defScope (top 44), [], []⟩,
  ⟨("why_bad", none), "why_bad", "why_bad", defArgs (top 45), defBody (top 45), defScope (top 45), [], []⟩,
  ⟨("next_working", none), "next_working", "next_working", defArgs (top 46), defBody (top 46), defScope (top 46), [], []⟩,
  ⟨("meetings_in", none), "meetings_in", "meetings_in", defArgs (top 47), defBody (top 47), defScope (top 47), [], []⟩,
  ⟨("need_free", none), "need_free", "need_free", defArgs (top 51), defBody (top 51), defScope (top 51), [], []⟩,
  ⟨("is_rule", none), "is_rule", "is_rule", defArgs (top 52), defBody (top 52), defScope (top 52), [], []⟩,
  ⟨("works", none), "works", "works", defArgs (top 53), defBody (top 53), defScope (top 53), [], []⟩,
  ⟨("works_checkmore", none), "works", "works", defArgs (top 53), defBody (top 53), defScope (top 53), [], []⟩,
  ⟨("keeps", none), "keeps", "keeps", defArgs (top 55), defBody (top 55), defScope (top 55), [], []⟩,
  ⟨("keeps_checkmore", none), "keeps", "keeps", defArgs (top 55), defBody (top 55), defScope (top 55), [], []⟩,
  ⟨("takes_meeting", none), "takes_meeting", "takes_meeting", defArgs (top 57), defBody (top 57), defScope (top 57), [], []⟩,
  ⟨("takes_calls", none), "takes_calls", "takes_calls", defArgs (top 58), defBody (top 58), defScope (top 58), [], []⟩,
  ⟨("_law_draws", none), "_law_draws", "_law_draws", defArgs (top 60), defBody (top 60), defScope (top 60), [], []⟩,
  ⟨("_law_take", none), "_law_take", "_law_take", defArgs (top 61), defBody (top 61), defScope (top 61), [], []⟩,
  ⟨("_law_pick", none), "_law_pick", "_law_pick", defArgs (top 62), defBody (top 62), defScope (top 62), [], []⟩,
  ⟨("_law_mixed", none), "_law_mixed", "_law_mixed", defArgs (top 63), defBody (top 63), defScope (top 63), [], []⟩,
  ⟨("_law_same", none), "_law_same", "_law_same", defArgs (top 64), defBody (top 64), defScope (top 64), [], []⟩,
  ⟨("_law_kind", none), "_law_kind", "_law_kind", defArgs (top 65), defBody (top 65), defScope (top 65), [], []⟩,
  ⟨("_law_free", none), "_law_free", "_law_free", defArgs (top 66), defBody (top 66), defScope (top 66), [], []⟩,
  ⟨("_law_works", none), "_law_works", "_law_works", defArgs (top 67), defBody (top 67), defScope (top 67), [], []⟩,
  ⟨("_law_rule", none), "_law_rule", "_law_rule", defArgs (top 68), defBody (top 68), defScope (top 68), [], []⟩,
  ⟨("_law_between", none), "_law_between", "_law_between", defArgs (top 69), defBody (top 69), defScope (top 69), [], []⟩,
  ⟨("_law_word", none), "_law_word", "_law_word", defArgs (top 70), defBody (top 70), defScope (top 70), [], []⟩,
  ⟨("_law_told", none), "_law_told", "_law_told", defArgs (top 71), defBody (top 71), defScope (top 71), [], []⟩,
  ⟨("_law_are_days_due", none), "_law_are_days_due", "_law_are_days_due", defArgs (top 72), defBody (top 72), defScope (top 72), [], []⟩,
  ⟨("_law_are_calls_due", none), "_law_are_calls_due", "_law_are_calls_due", defArgs (top 73), defBody (top 73), defScope (top 73), [], []⟩,
  ⟨("law", none), "law", "law", defArgs (top 74), defBody (top 74), defScope (top 74), [], []⟩]
def fa : List He.Fa := [.glo "is_integer", .glo "is_within", .glo "are_ascending", .glo "is_name", .glo "check", .glo "is_day", .glo "are_days", .glo "are_free_days", .glo "is_notice_rule", .glo "check_free", .glo "check_rule", .glo "works_notices", .glo "is_working", .glo "worked_before", .glo "between", .glo "working_between", .glo "is_far", .glo "is_tolled", .glo "keeps_notices", .glo "does_keep", .glo "first_meeting", .glo "last_notice", .glo "is_call", .glo "check_calls", .glo "states_of", .glo "good_calls", .glo "why_bad", .glo "next_working", .glo "meetings_in", .glo "need_free", .glo "is_rule", .glo "works", .glo "works_checkmore", .glo "keeps", .glo "keeps_checkmore", .glo "takes_meeting", .glo "takes_calls", .glo "_law_draws", .glo "_law_take", .glo "_law_pick", .glo "_law_mixed", .glo "_law_same", .glo "_law_kind", .glo "_law_free", .glo "_law_works", .glo "_law_rule", .glo "_law_between", .glo "_law_word", .glo "_law_told", .glo "_law_are_days_due", .glo "_law_are_calls_due", .glo "law", .glo "NotRight", .exc "NotRight", .glo "NoAnswer", .exc "NoAnswer", .glo "MotionError", .glo "NotThere", .glo "TooLarge", .free "len", .free "abs", .free "int", .free "str", .free "sum", .free "all", .free "any", .free "min", .free "max", .free "sorted", .free "list", .free "tuple", .free "divmod", .free "isinstance", .free "bool", .free "dict", .free "range", .free "zip", .free "enumerate", .free "reversed", .free "set"]
def xt (K : PySem.W.Frag) : Bool := (gls.all fun g => glB K g.1 g.2) && kindB K && exmB K "MotionError"
section
variable {w : World} {K : PySem.W.Frag} {mg : Str → Option Value} {base : Heap}
theorem kd_keep (c : SaysM fa fn xt K) : PySem.W.keepIn K (.ref (He.ga K "_law_kind")) = true := by
  obtain ⟨fd, F⟩ := c.def_ 42 rfl
  exact F.kp
theorem gl_ok (c : SaysM fa fn xt K) (X : K.In base) (N : base.Ns mainGlobals mg) (i : Nat) {g : Str × D} (h : gls[i]? = some g) : GlOk K mg g.1 g.2 :=
  all_gl X N (show (gls.all fun g => glB K g.1 g.2) = true from (He.ba (He.ba c.extra).1).1) g (List.mem_of_getElem? h)
theorem bn_ok (c : SaysM fa fn xt K) (X : K.In base) (N : base.Ns mainGlobals mg) : ∀ y ∈ bnames, mg y = none := fun y hy => by
  simp only [bnames, List.mem_cons, List.not_mem_nil, or_false] at hy
  rcases hy with rfl | rfl | rfl | rfl | rfl | rfl | rfl | rfl | rfl | rfl | rfl | rfl | rfl | rfl | rfl | rfl | rfl | rfl | rfl | rfl | rfl
  · exact He.free_ok X N (c.fact 59 (f := .free "len") rfl)
  · exact He.free_ok X N (c.fact 60 (f := .free "abs") rfl)
  · exact He.free_ok X N (c.fact 61 (f := .free "int") rfl)
  · exact He.free_ok X N (c.fact 62 (f := .free "str") rfl)
  · exact He.free_ok X N (c.fact 63 (f := .free "sum") rfl)
  · exact He.free_ok X N (c.fact 64 (f := .free "all") rfl)
  · exact He.free_ok X N (c.fact 65 (f := .free "any") rfl)
  · exact He.free_ok X N (c.fact 66 (f := .free "min") rfl)
  · exact He.free_ok X N (c.fact 67 (f := .free "max") rfl)
  · exact He.free_ok X N (c.fact 68 (f := .free "sorted") rfl)
  · exact He.free_ok X N (c.fact 69 (f := .free "list") rfl)
  · exact He.free_ok X N (c.fact 70 (f := .free "tuple") rfl)
  · exact He.free_ok X N (c.fact 71 (f := .free "divmod") rfl)
  · exact He.free_ok X N (c.fact 72 (f := .free "isinstance") rfl)
  · exact He.free_ok X N (c.fact 73 (f := .free "bool") rfl)
  · exact He.free_ok X N (c.fact 74 (f := .free "dict") rfl)
  · exact He.free_ok X N (c.fact 75 (f := .free "range") rfl)
  · exact He.free_ok X N (c.fact 76 (f := .free "zip") rfl)
  · exact He.free_ok X N (c.fact 77 (f := .free "enumerate") rfl)
  · exact He.free_ok X N (c.fact 78 (f := .free "reversed") rfl)
  · exact He.free_ok X N (c.fact 79 (f := .free "set") rfl)
theorem ok_is_integer (c : SaysM fa fn xt K) (X : K.In base) (N : base.Ns mainGlobals mg) : OkF PR w K mg base 1 F_is_integer := by
  obtain ⟨fd, F⟩ := c.def_ 0 rfl
  have F : FunD K "is_integer" "is_integer" (defArgs (top 7)) (defBody (top 7)) (defScope (top 7)) [] [] (He.ga K "is_integer") fd := F
  exact okF_def (N := ["value"]) (ps := ["value"]) F (He.glo_ok X N (c.fact 0 (f := .glo "is_integer") rfl)) ⟨rfl, rfl, rfl, by decide +kernel, rfl, by decide +kernel, by decide +kernel⟩ (FunD.bindsN F fun _ _ _ _ _ _ us hl => match us, hl with | [_], _ => rfl) (bn_ok c X N) (by decide) (all_of (by rw [show fnsSs c_is_integer = ([] : List FnE) from rfl]; exact trivial)) (all_of (by rw [show glsSs c_is_integer = ([] : List (Str × D)) from rfl]; exact trivial)) (all_of (by rw [show rsSs c_is_integer = ([] : List Str) from rfl]; exact trivial)) (by kernel_rfl)
theorem ok_is_within (c : SaysM fa fn xt K) (X : K.In base) (N : base.Ns mainGlobals mg) : OkF PR w K mg base 2 F_is_within := by
  obtain ⟨fd, F⟩ := c.def_ 1 rfl
  have F : FunD K "is_within" "is_within" (defArgs (top 8)) (defBody (top 8)) (defScope (top 8)) [] [] (He.ga K "is_within") fd := F
  exact okF_def (N := ["value", "low", "high"]) (ps := ["value", "low", "high"]) F (He.glo_ok X N (c.fact 1 (f := .glo "is_within") rfl)) ⟨rfl, rfl, rfl, by decide +kernel, rfl, by decide +kernel, by decide +kernel⟩ (FunD.bindsN F fun _ _ _ _ _ _ us hl => match us, hl with | [_, _, _], _ => rfl) (bn_ok c X N) (by decide) (all_of (by rw [show fnsSs c_is_within = ([F_is_integer] : List FnE) from rfl]; exact ⟨(ok_is_integer (w := w) c X N).mono (by omega), trivial⟩)) (all_of (by rw [show glsSs c_is_within = ([] : List (Str × D)) from rfl]; exact trivial)) (all_of (by rw [show rsSs c_is_within = ([] : List Str) from rfl]; exact trivial)) (by kernel_rfl)
theorem ok_are_ascending (c : SaysM fa fn xt K) (X : K.In base) (N : base.Ns mainGlobals mg) : OkF PR w K mg base 1 F_are_ascending := by
  obtain ⟨fd, F⟩ := c.def_ 2 rfl
  have F : FunD K "are_ascending" "are_ascending" (defArgs (top 9)) (defBody (top 9)) (defScope (top 9)) [] [] (He.ga K "are_ascending") fd := F
  exact okF_def (N := ["values", "one", "other"]) (ps := ["values"]) F (He.glo_ok X N (c.fact 2 (f := .glo "are_ascending") rfl)) ⟨rfl, rfl, rfl, by decide +kernel, rfl, by decide +kernel, by decide +kernel⟩ (FunD.bindsN F fun _ _ _ _ _ _ us hl => match us, hl with | [_], _ => rfl) (bn_ok c X N) (by decide) (all_of (by rw [show fnsSs c_are_ascending = ([] : List FnE) from rfl]; exact trivial)) (all_of (by rw [show glsSs c_are_ascending = ([] : List (Str × D)) from rfl]; exact trivial)) (all_of (by rw [show rsSs c_are_ascending = ([] : List Str) from rfl]; exact trivial)) (by kernel_rfl)
theorem ok_is_name (c : SaysM fa fn xt K) (X : K.In base) (N : base.Ns mainGlobals mg) : OkF PR w K mg base 1 F_is_name := by
  obtain ⟨fd, F⟩ := c.def_ 3 rfl
  have F : FunD K "is_name" "is_name" (defArgs (top 10)) (defBody (top 10)) (defScope (top 10)) [] [] (He.ga K "is_name") fd := F
  exact okF_def (N := ["value", "sign"]) (ps := ["value"]) F (He.glo_ok X N (c.fact 3 (f := .glo "is_name") rfl)) ⟨rfl, rfl, rfl, by decide +kernel, rfl, by decide +kernel, by decide +kernel⟩ (FunD.bindsN F fun _ _ _ _ _ _ us hl => match us, hl with | [_], _ => rfl) (bn_ok c X N) (by decide) (all_of (by rw [show fnsSs c_is_name = ([] : List FnE) from rfl]; exact trivial)) (all_of (by rw [show glsSs c_is_name = ([("MOST_SIGNS", (.int 12))] : List (Str × D)) from rfl]; exact ⟨gl_ok c X N 0 rfl, trivial⟩)) (all_of (by rw [show rsSs c_is_name = ([] : List Str) from rfl]; exact trivial)) (by kernel_rfl)
theorem ok_check (c : SaysM fa fn xt K) (X : K.In base) (N : base.Ns mainGlobals mg) : OkF PR w K mg base 1 F_check := by
  obtain ⟨fd, F⟩ := c.def_ 4 rfl
  have F : FunD K "check" "check" (defArgs (top 11)) (defBody (top 11)) (defScope (top 11)) [] [] (He.ga K "check") fd := F
  exact okF_def (N := ["is_right"]) (ps := ["is_right"]) F (He.glo_ok X N (c.fact 4 (f := .glo "check") rfl)) ⟨rfl, rfl, rfl, by decide +kernel, rfl, by decide +kernel, by decide +kernel⟩ (FunD.bindsN F fun _ _ _ _ _ _ us hl => match us, hl with | [_], _ => rfl) (bn_ok c X N) (by decide) (all_of (by rw [show fnsSs c_check = ([] : List FnE) from rfl]; exact trivial)) (all_of (by rw [show glsSs c_check = ([] : List (Str × D)) from rfl]; exact trivial)) (all_of (by rw [show rsSs c_check = (["NotRight"] : List Str) from rfl]; exact ⟨raise_of X N (c.fact 52 rfl) (c.fact 53 rfl), trivial⟩)) (by kernel_rfl)
theorem ok_is_day (c : SaysM fa fn xt K) (X : K.In base) (N : base.Ns mainGlobals mg) : OkF PR w K mg base 3 F_is_day := by
  obtain ⟨fd, F⟩ := c.def_ 5 rfl
  have F : FunD K "is_day" "is_day" (defArgs (top 22)) (defBody (top 22)) (defScope (top 22)) [] [] (He.ga K "is_day") fd := F
  exact okF_def (N := ["value"]) (ps := ["value"]) F (He.glo_ok X N (c.fact 5 (f := .glo "is_day") rfl)) ⟨rfl, rfl, rfl, by decide +kernel, rfl, by decide +kernel, by decide +kernel⟩ (FunD.bindsN F fun _ _ _ _ _ _ us hl => match us, hl with | [_], _ => rfl) (bn_ok c X N) (by decide) (all_of (by rw [show fnsSs c_is_day = ([F_is_within] : List FnE) from rfl]; exact ⟨(ok_is_within (w := w) c X N).mono (by omega), trivial⟩)) (all_of (by rw [show glsSs c_is_day = ([("LAST_DAY_notices", (.int 100000))] : List (Str × D)) from rfl]; exact ⟨gl_ok c X N 1 rfl, trivial⟩)) (all_of (by rw [show rsSs c_is_day = ([] : List Str) from rfl]; exact trivial)) (by kernel_rfl)
theorem ok_are_days (c : SaysM fa fn xt K) (X : K.In base) (N : base.Ns mainGlobals mg) : OkF PR w K mg base 3 F_are_days := by
  obtain ⟨fd, F⟩ := c.def_ 6 rfl
  have F : FunD K "are_days" "are_days" (defArgs (top 23)) (defBody (top 23)) (defScope (top 23)) [] [] (He.ga K "are_days") fd := F
  exact okF_def (N := ["value", "last", "one"]) (ps := ["value", "last"]) F (He.glo_ok X N (c.fact 6 (f := .glo "are_days") rfl)) ⟨rfl, rfl, rfl, by decide +kernel, rfl, by decide +kernel, by decide +kernel⟩ (FunD.bindsN F fun _ _ _ _ _ _ us hl => match us, hl with | [_, _], _ => rfl) (bn_ok c X N) (by decide) (all_of (by rw [show fnsSs c_are_days = ([F_is_within, F_are_ascending] : List FnE) from rfl]; exact ⟨(ok_is_within (w := w) c X N).mono (by omega), (ok_are_ascending (w := w) c X N).mono (by omega), trivial⟩)) (all_of (by rw [show glsSs c_are_days = ([] : List (Str × D)) from rfl]; exact trivial)) (all_of (by rw [show rsSs c_are_days = ([] : List Str) from rfl]; exact trivial)) (by kernel_rfl)
theorem ok_are_free_days (c : SaysM fa fn xt K) (X : K.In base) (N : base.Ns mainGlobals mg) : OkF PR w K mg base 4 F_are_free_days := by
  obtain ⟨fd, F⟩ := c.def_ 7 rfl
  have F : FunD K "are_free_days" "are_free_days" (defArgs (top 24)) (defBody (top 24)) (defScope (top 24)) [] [] (He.ga K "are_free_days") fd := F
  exact okF_def (N := ["value"]) (ps := ["value"]) F (He.glo_ok X N (c.fact 7 (f := .glo "are_free_days") rfl)) ⟨rfl, rfl, rfl, by decide +kernel, rfl, by decide +kernel, by decide +kernel⟩ (FunD.bindsN F fun _ _ _ _ _ _ us hl => match us, hl with | [_], _ => rfl) (bn_ok c X N) (by decide) (all_of (by rw [show fnsSs c_are_free_days = ([F_are_days, F_are_days] : List FnE) from rfl]; exact ⟨(ok_are_days (w := w) c X N).mono (by omega), (ok_are_days (w := w) c X N).mono (by omega), trivial⟩)) (all_of (by rw [show glsSs c_are_free_days = ([("WEEK_notices", (.int 7)), ("LAST_DAY_notices", (.int 100000)), ("WEEK_notices", (.int 7)), ("MOST_DATES", (.int 100))] : List (Str × D)) from rfl]; exact ⟨gl_ok c X N 2 rfl, gl_ok c X N 1 rfl, gl_ok c X N 2 rfl, gl_ok c X N 3 rfl, trivial⟩)) (all_of (by rw [show rsSs c_are_free_days = ([] : List Str) from rfl]; exact trivial)) (by kernel_rfl)
theorem ok_is_notice_rule (c : SaysM fa fn xt K) (X : K.In base) (N : base.Ns mainGlobals mg) : OkF PR w K mg base 3 F_is_notice_rule := by
  obtain ⟨fd, F⟩ := c.def_ 8 rfl
  have F : FunD K "is_notice_rule" "is_notice_rule" (defArgs (top 25)) (defBody (top 25)) (defScope (top 25)) [] [] (He.ga K "is_notice_rule") fd := F
  exact okF_def (N := ["value"]) (ps := ["value"]) F (He.glo_ok X N (c.fact 8 (f := .glo "is_notice_rule") rfl)) ⟨rfl, rfl, rfl, by decide +kernel, rfl, by decide +kernel, by decide +kernel⟩ (FunD.bindsN F fun _ _ _ _ _ _ us hl => match us, hl with | [_], _ => rfl) (bn_ok c X N) (by decide) (all_of (by rw [show fnsSs c_is_notice_rule = ([F_is_within] : List FnE) from rfl]; exact ⟨(ok_is_within (w := w) c X N).mono (by omega), trivial⟩)) (all_of (by rw [show glsSs c_is_notice_rule = ([("DAYS", (.str "days")), ("WORKING", (.str "working")), ("MOST_DAYS", (.int 60))] : List (Str × D)) from rfl]; exact ⟨gl_ok c X N 4 rfl, gl_ok c X N 5 rfl, gl_ok c X N 6 rfl, trivial⟩)) (all_of (by rw [show rsSs c_is_notice_rule = ([] : List Str) from rfl]; exact trivial)) (by kernel_rfl)
theorem ok_check_free (c : SaysM fa fn xt K) (X : K.In base) (N : base.Ns mainGlobals mg) : OkF PR w K mg base 5 F_check_free := by
  obtain ⟨fd, F⟩ := c.def_ 9 rfl
  have F : FunD K "check_free" "check_free" (defArgs (top 26)) (defBody (top 26)) (defScope (top 26)) [] [] (He.ga K "check_free") fd := F
  exact okF_star (N := ["free", "days", "day"]) (pas := ["free"]) (pv := "days") F (He.glo_ok X N (c.fact 9 (f := .glo "check_free") rfl)) ⟨rfl, rfl, rfl, by decide +kernel, rfl, by decide +kernel, by decide +kernel⟩ (fun kV doc pm an cdv ct us rest hl hm => match us, hl, rest, hm with | [_], _, [], _ => rfl | [_], _, [_], _ => rfl | [_], _, [_, _], _ => rfl | [_], _, [_, _, _], _ => rfl | [_], _, [_, _, _, _], _ => rfl | [_], _, [_, _, _, _, _], _ => rfl | [_], _, _ :: _ :: _ :: _ :: _ :: _ :: _, h => absurd h (by simp)) (bn_ok c X N) (by decide) (all_of (by rw [show fnsSs c_check_free = ([F_check, F_are_free_days, F_check, F_is_day] : List FnE) from rfl]; exact ⟨(ok_check (w := w) c X N).mono (by omega), (ok_are_free_days (w := w) c X N).mono (by omega), (ok_check (w := w) c X N).mono (by omega), (ok_is_day (w := w) c X N).mono (by omega), trivial⟩)) (all_of (by rw [show glsSs c_check_free = ([] : List (Str × D)) from rfl]; exact trivial)) (all_of (by rw [show rsSs c_check_free = ([] : List Str) from rfl]; exact trivial)) (by kernel_rfl)
theorem ok_check_rule (c : SaysM fa fn xt K) (X : K.In base) (N : base.Ns mainGlobals mg) : OkF PR w K mg base 5 F_check_rule := by
  obtain ⟨fd, F⟩ := c.def_ 10 rfl
  have F : FunD K "check_rule" "check_rule" (defArgs (top 27)) (defBody (top 27)) (defScope (top 27)) [] [] (He.ga K "check_rule") fd := F
  exact okF_star (N := ["free", "rule", "days", "day"]) (pas := ["free", "rule"]) (pv := "days") F (He.glo_ok X N (c.fact 10 (f := .glo "check_rule") rfl)) ⟨rfl, rfl, rfl, by decide +kernel, rfl, by decide +kernel, by decide +kernel⟩ (fun kV doc pm an cdv ct us rest hl hm => match us, hl, rest, hm with | [_, _], _, [], _ => rfl | [_, _], _, [_], _ => rfl | [_, _], _, [_, _], _ => rfl | [_, _], _, [_, _, _], _ => rfl | [_, _], _, [_, _, _, _], _ => rfl | [_, _], _, [_, _, _, _, _], _ => rfl | [_, _], _, _ :: _ :: _ :: _ :: _ :: _ :: _, h => absurd h (by simp)) (bn_ok c X N) (by decide) (all_of (by rw [show fnsSs c_check_rule = ([F_check, F_are_free_days, F_check, F_is_notice_rule, F_check, F_is_day] : List FnE) from rfl]; exact ⟨(ok_check (w := w) c X N).mono (by omega), (ok_are_free_days (w := w) c X N).mono (by omega), (ok_check (w := w) c X N).mono (by omega), (ok_is_notice_rule (w := w) c X N).mono (by omega), (ok_check (w := w) c X N).mono (by omega), (ok_is_day (w := w) c X N).mono (by omega), trivial⟩)) (all_of (by rw [show glsSs c_check_rule = ([] : List (Str × D)) from rfl]; exact trivial)) (all_of (by rw [show rsSs c_check_rule = ([] : List Str) from rfl]; exact trivial)) (by kernel_rfl)
theorem ok_works_notices (c : SaysM fa fn xt K) (X : K.In base) (N : base.Ns mainGlobals mg) : OkF PR w K mg base 1 F_works_notices := by
  obtain ⟨fd, F⟩ := c.def_ 11 rfl
  have F : FunD K "works" "works" (defArgs (top 28)) (defBody (top 28)) (defScope (top 28)) [] [] (He.ga K "works_notices") fd := F
  exact okF_def (N := ["free", "day"]) (ps := ["free", "day"]) F (He.glo_ok X N (c.fact 11 (f := .glo "works_notices") rfl)) ⟨rfl, rfl, rfl, by decide +kernel, rfl, by decide +kernel, by decide +kernel⟩ (FunD.bindsN F fun _ _ _ _ _ _ us hl => match us, hl with | [_, _], _ => rfl) (bn_ok c X N) (by decide) (all_of (by rw [show fnsSs c_works_notices = ([] : List FnE) from rfl]; exact trivial)) (all_of (by rw [show glsSs c_works_notices = ([("WEEK_notices", (.int 7))] : List (Str × D)) from rfl]; exact ⟨gl_ok c X N 2 rfl, trivial⟩)) (all_of (by rw [show rsSs c_works_notices = ([] : List Str) from rfl]; exact trivial)) (by kernel_rfl)
theorem ok_is_working (c : SaysM fa fn xt K) (X : K.In base) (N : base.Ns mainGlobals mg) : OkF PR w K mg base 6 F_is_working := by
  obtain ⟨fd, F⟩ := c.def_ 12 rfl
  have F : FunD K "is_working" "is_working" (defArgs (top 30)) (defBody (top 30)) (defScope (top 30)) [] [] (He.ga K "is_working") fd := F
  exact okF_def (N := ["free", "day"]) (ps := ["free", "day"]) F (He.glo_ok X N (c.fact 12 (f := .glo "is_working") rfl)) ⟨rfl, rfl, rfl, by decide +kernel, rfl, by decide +kernel, by decide +kernel⟩ (FunD.bindsN F fun _ _ _ _ _ _ us hl => match us, hl with | [_, _], _ => rfl) (bn_ok c X N) (by decide) (all_of (by rw [show fnsSs c_is_working = ([F_check_free, F_works_notices] : List FnE) from rfl]; exact ⟨(ok_check_free (w := w) c X N).mono (by omega), (ok_works_notices (w := w) c X N).mono (by omega), trivial⟩)) (all_of (by rw [show glsSs c_is_working = ([] : List (Str × D)) from rfl]; exact trivial)) (all_of (by rw [show rsSs c_is_working = ([] : List Str) from rfl]; exact trivial)) (by kernel_rfl)
theorem ok_worked_before (c : SaysM fa fn xt K) (X : K.In base) (N : base.Ns mainGlobals mg) : OkF PR w K mg base 1 F_worked_before := by
  obtain ⟨fd, F⟩ := c.def_ 13 rfl
  have F : FunD K "worked_before" "worked_before" (defArgs (top 31)) (defBody (top 31)) (defScope (top 31)) [] [] (He.ga K "worked_before") fd := F
  exact okF_def (N := ["free", "day", "weeks", "rest", "found", "one"]) (ps := ["free", "day"]) F (He.glo_ok X N (c.fact 13 (f := .glo "worked_before") rfl)) ⟨rfl, rfl, rfl, by decide +kernel, rfl, by decide +kernel, by decide +kernel⟩ (FunD.bindsN F fun _ _ _ _ _ _ us hl => match us, hl with | [_, _], _ => rfl) (bn_ok c X N) (by decide) (all_of (by rw [show fnsSs c_worked_before = ([] : List FnE) from rfl]; exact trivial)) (all_of (by rw [show glsSs c_worked_before = ([("WEEK_notices", (.int 7)), ("WEEK_notices", (.int 7)), ("WEEK_notices", (.int 7))] : List (Str × D)) from rfl]; exact ⟨gl_ok c X N 2 rfl, gl_ok c X N 2 rfl, gl_ok c X N 2 rfl, trivial⟩)) (all_of (by rw [show rsSs c_worked_before = ([] : List Str) from rfl]; exact trivial)) (by kernel_rfl)
theorem ok_between (c : SaysM fa fn xt K) (X : K.In base) (N : base.Ns mainGlobals mg) : OkF PR w K mg base 2 F_between := by
  obtain ⟨fd, F⟩ := c.def_ 14 rfl
  have F : FunD K "between" "between" (defArgs (top 32)) (defBody (top 32)) (defScope (top 32)) [] [] (He.ga K "between") fd := F
  exact okF_def (N := ["free", "a", "b"]) (ps := ["free", "a", "b"]) F (He.glo_ok X N (c.fact 14 (f := .glo "between") rfl)) ⟨rfl, rfl, rfl, by decide +kernel, rfl, by decide +kernel, by decide +kernel⟩ (FunD.bindsN F fun _ _ _ _ _ _ us hl => match us, hl with | [_, _, _], _ => rfl) (bn_ok c X N) (by decide) (all_of (by rw [show fnsSs c_between = ([F_worked_before, F_worked_before] : List FnE) from rfl]; exact ⟨(ok_worked_before (w := w) c X N).mono (by omega), (ok_worked_before (w := w) c X N).mono (by omega), trivial⟩)) (all_of (by rw [show glsSs c_between = ([] : List (Str × D)) from rfl]; exact trivial)) (all_of (by rw [show rsSs c_between = ([] : List Str) from rfl]; exact trivial)) (by kernel_rfl)
theorem ok_working_between (c : SaysM fa fn xt K) (X : K.In base) (N : base.Ns mainGlobals mg) : OkF PR w K mg base 6 F_working_between := by
  obtain ⟨fd, F⟩ := c.def_ 15 rfl
  have F : FunD K "working_between" "working_between" (defArgs (top 33)) (defBody (top 33)) (defScope (top 33)) [] [] (He.ga K "working_between") fd := F
  exact okF_def (N := ["free", "a", "b"]) (ps := ["free", "a", "b"]) F (He.glo_ok X N (c.fact 15 (f := .glo "working_between") rfl)) ⟨rfl, rfl, rfl, by decide +kernel, rfl, by decide +kernel, by decide +kernel⟩ (FunD.bindsN F fun _ _ _ _ _ _ us hl => match us, hl with | [_, _, _], _ => rfl) (bn_ok c X N) (by decide) (all_of (by rw [show fnsSs c_working_between = ([F_check_free, F_between] : List FnE) from rfl]; exact ⟨(ok_check_free (w := w) c X N).mono (by omega), (ok_between (w := w) c X N).mono (by omega), trivial⟩)) (all_of (by rw [show glsSs c_working_between = ([] : List (Str × D)) from rfl]; exact trivial)) (all_of (by rw [show rsSs c_working_between = ([] : List Str) from rfl]; exact trivial)) (by kernel_rfl)
theorem ok_is_far (c : SaysM fa fn xt K) (X : K.In base) (N : base.Ns mainGlobals mg) : OkF PR w K mg base 3 F_is_far := by
  obtain ⟨fd, F⟩ := c.def_ 16 rfl
  have F : FunD K "is_far" "is_far" (defArgs (top 34)) (defBody (top 34)) (defScope (top 34)) [] [] (He.ga K "is_far") fd := F
  exact okF_def (N := ["free", "rule", "notice", "meeting", "kind", "n", "_"]) (ps := ["free", "rule", "notice", "meeting"]) F (He.glo_ok X N (c.fact 16 (f := .glo "is_far") rfl)) ⟨rfl, rfl, rfl, by decide +kernel, rfl, by decide +kernel, by decide +kernel⟩ (FunD.bindsN F fun _ _ _ _ _ _ us hl => match us, hl with | [_, _, _, _], _ => rfl) (bn_ok c X N) (by decide) (all_of (by rw [show fnsSs c_is_far = ([F_between] : List FnE) from rfl]; exact ⟨(ok_between (w := w) c X N).mono (by omega), trivial⟩)) (all_of (by rw [show glsSs c_is_far = ([("DAYS", (.str "days"))] : List (Str × D)) from rfl]; exact ⟨gl_ok c X N 4 rfl, trivial⟩)) (all_of (by rw [show rsSs c_is_far = ([] : List Str) from rfl]; exact trivial)) (by kernel_rfl)
theorem ok_is_tolled (c : SaysM fa fn xt K) (X : K.In base) (N : base.Ns mainGlobals mg) : OkF PR w K mg base 2 F_is_tolled := by
  obtain ⟨fd, F⟩ := c.def_ 17 rfl
  have F : FunD K "is_tolled" "is_tolled" (defArgs (top 35)) (defBody (top 35)) (defScope (top 35)) [] [] (He.ga K "is_tolled") fd := F
  exact okF_def (N := ["free", "rule", "meeting"]) (ps := ["free", "rule", "meeting"]) F (He.glo_ok X N (c.fact 17 (f := .glo "is_tolled") rfl)) ⟨rfl, rfl, rfl, by decide +kernel, rfl, by decide +kernel, by decide +kernel⟩ (FunD.bindsN F fun _ _ _ _ _ _ us hl => match us, hl with | [_, _, _], _ => rfl) (bn_ok c X N) (by decide) (all_of (by rw [show fnsSs c_is_tolled = ([F_works_notices] : List FnE) from rfl]; exact ⟨(ok_works_notices (w := w) c X N).mono (by omega), trivial⟩)) (all_of (by rw [show glsSs c_is_tolled = ([] : List (Str × D)) from rfl]; exact trivial)) (all_of (by rw [show rsSs c_is_tolled = ([] : List Str) from rfl]; exact trivial)) (by kernel_rfl)
theorem ok_keeps_notices (c : SaysM fa fn xt K) (X : K.In base) (N : base.Ns mainGlobals mg) : OkF PR w K mg base 4 F_keeps_notices := by
  obtain ⟨fd, F⟩ := c.def_ 18 rfl
  have F : FunD K "keeps" "keeps" (defArgs (top 36)) (defBody (top 36)) (defScope (top 36)) [] [] (He.ga K "keeps_notices") fd := F
  exact okF_def (N := ["free", "rule", "notice", "meeting"]) (ps := ["free", "rule", "notice", "meeting"]) F (He.glo_ok X N (c.fact 18 (f := .glo "keeps_notices") rfl)) ⟨rfl, rfl, rfl, by decide +kernel, rfl, by decide +kernel, by decide +kernel⟩ (FunD.bindsN F fun _ _ _ _ _ _ us hl => match us, hl with | [_, _, _, _], _ => rfl) (bn_ok c X N) (by decide) (all_of (by rw [show fnsSs c_keeps_notices = ([F_is_tolled, F_is_far] : List FnE) from rfl]; exact ⟨(ok_is_tolled (w := w) c X N).mono (by omega), (ok_is_far (w := w) c X N).mono (by omega), trivial⟩)) (all_of (by rw [show glsSs c_keeps_notices = ([] : List (Str × D)) from rfl]; exact trivial)) (all_of (by rw [show rsSs c_keeps_notices = ([] : List Str) from rfl]; exact trivial)) (by kernel_rfl)
theorem ok_does_keep (c : SaysM fa fn xt K) (X : K.In base) (N : base.Ns mainGlobals mg) : OkF PR w K mg base 6 F_does_keep := by
  obtain ⟨fd, F⟩ := c.def_ 19 rfl
  have F : FunD K "does_keep" "does_keep" (defArgs (top 38)) (defBody (top 38)) (defScope (top 38)) [] [] (He.ga K "does_keep") fd := F
  exact okF_def (N := ["free", "rule", "notice", "meeting"]) (ps := ["free", "rule", "notice", "meeting"]) F (He.glo_ok X N (c.fact 19 (f := .glo "does_keep") rfl)) ⟨rfl, rfl, rfl, by decide +kernel, rfl, by decide +kernel, by decide +kernel⟩ (FunD.bindsN F fun _ _ _ _ _ _ us hl => match us, hl with | [_, _, _, _], _ => rfl) (bn_ok c X N) (by decide) (all_of (by rw [show fnsSs c_does_keep = ([F_check_rule, F_keeps_notices] : List FnE) from rfl]; exact ⟨(ok_check_rule (w := w) c X N).mono (by omega), (ok_keeps_notices (w := w) c X N).mono (by omega), trivial⟩)) (all_of (by rw [show glsSs c_does_keep = ([] : List (Str × D)) from rfl]; exact trivial)) (all_of (by rw [show rsSs c_does_keep = ([] : List Str) from rfl]; exact trivial)) (by kernel_rfl)
theorem ok_first_meeting (c : SaysM fa fn xt K) (X : K.In base) (N : base.Ns mainGlobals mg) : OkF PR w K mg base 6 F_first_meeting := by
  obtain ⟨fd, F⟩ := c.def_ 20 rfl
  have F : FunD K "first_meeting" "first_meeting" (defArgs (top 39)) (defBody (top 39)) (defScope (top 39)) [] [] (He.ga K "first_meeting") fd := F
  exact okF_def (N := ["free", "rule", "notice", "day"]) (ps := ["free", "rule", "notice"]) F (He.glo_ok X N (c.fact 20 (f := .glo "first_meeting") rfl)) ⟨rfl, rfl, rfl, by decide +kernel, rfl, by decide +kernel, by decide +kernel⟩ (FunD.bindsN F fun _ _ _ _ _ _ us hl => match us, hl with | [_, _, _], _ => rfl) (bn_ok c X N) (by decide) (all_of (by rw [show fnsSs c_first_meeting = ([F_check_rule, F_keeps_notices] : List FnE) from rfl]; exact ⟨(ok_check_rule (w := w) c X N).mono (by omega), (ok_keeps_notices (w := w) c X N).mono (by omega), trivial⟩)) (all_of (by rw [show glsSs c_first_meeting = ([("LAST_DAY_notices", (.int 100000)), ("LAST_DAY_notices", (.int 100000))] : List (Str × D)) from rfl]; exact ⟨gl_ok c X N 1 rfl, gl_ok c X N 1 rfl, trivial⟩)) (all_of (by rw [show rsSs c_first_meeting = (["NoAnswer"] : List Str) from rfl]; exact ⟨raise_of X N (c.fact 54 rfl) (c.fact 55 rfl), trivial⟩)) (by kernel_rfl)
theorem ok_last_notice (c : SaysM fa fn xt K) (X : K.In base) (N : base.Ns mainGlobals mg) : OkF PR w K mg base 6 F_last_notice := by
  obtain ⟨fd, F⟩ := c.def_ 21 rfl
  have F : FunD K "last_notice" "last_notice" (defArgs (top 40)) (defBody (top 40)) (defScope (top 40)) [] [] (He.ga K "last_notice") fd := F
  exact okF_def (N := ["free", "rule", "meeting", "day"]) (ps := ["free", "rule", "meeting"]) F (He.glo_ok X N (c.fact 21 (f := .glo "last_notice") rfl)) ⟨rfl, rfl, rfl, by decide +kernel, rfl, by decide +kernel, by decide +kernel⟩ (FunD.bindsN F fun _ _ _ _ _ _ us hl => match us, hl with | [_, _, _], _ => rfl) (bn_ok c X N) (by decide) (all_of (by rw [show fnsSs c_last_notice = ([F_check_rule, F_is_tolled, F_is_far] : List FnE) from rfl]; exact ⟨(ok_check_rule (w := w) c X N).mono (by omega), (ok_is_tolled (w := w) c X N).mono (by omega), (ok_is_far (w := w) c X N).mono (by omega), trivial⟩)) (all_of (by rw [show glsSs c_last_notice = ([] : List (Str × D)) from rfl]; exact trivial)) (all_of (by rw [show rsSs c_last_notice = ([] : List Str) from rfl]; exact trivial)) (by kernel_rfl)
theorem ok_is_call (c : SaysM fa fn xt K) (X : K.In base) (N : base.Ns mainGlobals mg) : OkF PR w K mg base 4 F_is_call := by
  obtain ⟨fd, F⟩ := c.def_ 22 rfl
  have F : FunD K "is_call" "is_call" (defArgs (top 41)) (defBody (top 41)) (defScope (top 41)) [] [] (He.ga K "is_call") fd := F
  exact okF_def (N := ["value"]) (ps := ["value"]) F (He.glo_ok X N (c.fact 22 (f := .glo "is_call") rfl)) ⟨rfl, rfl, rfl, by decide +kernel, rfl, by decide +kernel, by decide +kernel⟩ (FunD.bindsN F fun _ _ _ _ _ _ us hl => match us, hl with | [_], _ => rfl) (bn_ok c X N) (by decide) (all_of (by rw [show fnsSs c_is_call = ([F_is_name, F_is_day, F_is_day] : List FnE) from rfl]; exact ⟨(ok_is_name (w := w) c X N).mono (by omega), (ok_is_day (w := w) c X N).mono (by omega), (ok_is_day (w := w) c X N).mono (by omega), trivial⟩)) (all_of (by rw [show glsSs c_is_call = ([] : List (Str × D)) from rfl]; exact trivial)) (all_of (by rw [show rsSs c_is_call = ([] : List Str) from rfl]; exact trivial)) (by kernel_rfl)
theorem ok_check_calls (c : SaysM fa fn xt K) (X : K.In base) (N : base.Ns mainGlobals mg) : OkF PR w K mg base 6 F_check_calls := by
  obtain ⟨fd, F⟩ := c.def_ 23 rfl
  have F : FunD K "check_calls" "check_calls" (defArgs (top 42)) (defBody (top 42)) (defScope (top 42)) [] [] (He.ga K "check_calls") fd := F
  exact okF_def (N := ["free", "rule", "calls", "call"]) (ps := ["free", "rule", "calls"]) F (He.glo_ok X N (c.fact 23 (f := .glo "check_calls") rfl)) ⟨rfl, rfl, rfl, by decide +kernel, rfl, by decide +kernel, by decide +kernel⟩ (FunD.bindsN F fun _ _ _ _ _ _ us hl => match us, hl with | [_, _, _], _ => rfl) (bn_ok c X N) (by decide) (all_of (by rw [show fnsSs c_check_calls = ([F_check_rule, F_check, F_is_call, F_check] : List FnE) from rfl]; exact ⟨(ok_check_rule (w := w) c X N).mono (by omega), (ok_check (w := w) c X N).mono (by omega), (ok_is_call (w := w) c X N).mono (by omega), (ok_check (w := w) c X N).mono (by omega), trivial⟩)) (all_of (by rw [show glsSs c_check_calls = ([("MOST_CALLS", (.int 40))] : List (Str × D)) from rfl]; exact ⟨gl_ok c X N 7 rfl, trivial⟩)) (all_of (by rw [show rsSs c_check_calls = ([] : List Str) from rfl]; exact trivial)) (by kernel_rfl)
theorem ok_states_of (c : SaysM fa fn xt K) (X : K.In base) (N : base.Ns mainGlobals mg) : OkF PR w K mg base 4 F_states_of := by
  obtain ⟨fd, F⟩ := c.def_ 24 rfl
  have F : FunD K "states_of" "states_of" (defArgs (top 43)) (defBody (top 43)) (defScope (top 43)) [] [] (He.ga K "states_of") fd := F
  exact okF_def (N := ["free", "rule", "calls", "found", "taken", "_", "notice", "meeting", "word"]) (ps := ["free", "rule", "calls"]) F (He.glo_ok X N (c.fact 24 (f := .glo "states_of") rfl)) ⟨rfl, rfl, rfl, by decide +kernel, rfl, by decide +kernel, by decide +kernel⟩ (FunD.bindsN F fun _ _ _ _ _ _ us hl => match us, hl with | [_, _, _], _ => rfl) (bn_ok c X N) (by decide) (all_of (by rw [show fnsSs c_states_of = ([F_is_far, F_is_tolled] : List FnE) from rfl]; exact ⟨(ok_is_far (w := w) c X N).mono (by omega), (ok_is_tolled (w := w) c X N).mono (by omega), trivial⟩)) (all_of (by rw [show glsSs c_states_of = ([] : List (Str × D)) from rfl]; exact trivial)) (all_of (by rw [show rsSs c_states_of = ([] : List Str) from rfl]; exact trivial)) (by kernel_rfl)
theorem ok_good_calls (c : SaysM fa fn xt K) (X : K.In base) (N : base.Ns mainGlobals mg) : OkF PR w K mg base 7 F_good_calls := by
  obtain ⟨fd, F⟩ := c.def_ 25 rfl
  have F : FunD K "good_calls" "good_calls" (defArgs (top 44)) (defBody (top 44)) (defScope (top 44)) [] [] (He.ga K "good_calls") fd := F
  exact okF_def (N := ["free", "rule", "calls", "call", "word"]) (ps := ["free", "rule", "calls"]) F (He.glo_ok X N (c.fact 25 (f := .glo "good_calls") rfl)) ⟨rfl, rfl, rfl, by decide +kernel, rfl, by decide +kernel, by decide +kernel⟩ (FunD.bindsN F fun _ _ _ _ _ _ us hl => match us, hl with | [_, _, _], _ => rfl) (bn_ok c X N) (by decide) (all_of (by rw [show fnsSs c_good_calls = ([F_check_calls, F_states_of] : List FnE) from rfl]; exact ⟨(ok_check_calls (w := w) c X N).mono (by omega), (ok_states_of (w := w) c X N).mono (by omega), trivial⟩)) (all_of (by rw [show glsSs c_good_calls = ([] : List (Str × D)) from rfl]; exact trivial)) (all_of (by rw [show rsSs c_good_calls = ([] : List Str) from rfl]; exact trivial)) (by kernel_rfl)
theorem ok_why_bad (c : SaysM fa fn xt K) (X : K.In base) (N : base.Ns mainGlobals mg) : OkF PR w K mg base 7 F_why_bad := by
  obtain ⟨fd, F⟩ := c.def_ 26 rfl
  have F : FunD K "why_bad" "why_bad" (defArgs (top 45)) (defBody (top 45)) (defScope (top 45)) [] [] (He.ga K "why_bad") fd := F
  exact okF_def (N := ["free", "rule", "calls", "call", "word"]) (ps := ["free", "rule", "calls"]) F (He.glo_ok X N (c.fact 26 (f := .glo "why_bad") rfl)) ⟨rfl, rfl, rfl, by decide +kernel, rfl, by decide +kernel, by decide +kernel⟩ (FunD.bindsN F fun _ _ _ _ _ _ us hl => match us, hl with | [_, _, _], _ => rfl) (bn_ok c X N) (by decide) (all_of (by rw [show fnsSs c_why_bad = ([F_check_calls, F_states_of] : List FnE) from rfl]; exact ⟨(ok_check_calls (w := w) c X N).mono (by omega), (ok_states_of (w := w) c X N).mono (by omega), trivial⟩)) (all_of (by rw [show glsSs c_why_bad = ([] : List (Str × D)) from rfl]; exact trivial)) (all_of (by rw [show rsSs c_why_bad = ([] : List Str) from rfl]; exact trivial)) (by kernel_rfl)
theorem ok_next_working (c : SaysM fa fn xt K) (X : K.In base) (N : base.Ns mainGlobals mg) : OkF PR w K mg base 6 F_next_working := by
  obtain ⟨fd, F⟩ := c.def_ 27 rfl
  have F : FunD K "next_working" "next_working" (defArgs (top 46)) (defBody (top 46)) (defScope (top 46)) [] [] (He.ga K "next_working") fd := F
  exact okF_def (N := ["free", "day", "n", "left"]) (ps := ["free", "day", "n"]) F (He.glo_ok X N (c.fact 27 (f := .glo "next_working") rfl)) ⟨rfl, rfl, rfl, by decide +kernel, rfl, by decide +kernel, by decide +kernel⟩ (FunD.bindsN F fun _ _ _ _ _ _ us hl => match us, hl with | [_, _, _], _ => rfl) (bn_ok c X N) (by decide) (all_of (by rw [show fnsSs c_next_working = ([F_check_free, F_check, F_is_within, F_works_notices] : List FnE) from rfl]; exact ⟨(ok_check_free (w := w) c X N).mono (by omega), (ok_check (w := w) c X N).mono (by omega), (ok_is_within (w := w) c X N).mono (by omega), (ok_works_notices (w := w) c X N).mono (by omega), trivial⟩)) (all_of (by rw [show glsSs c_next_working = ([("MOST_WORKED", (.int 400)), ("LAST_DAY_notices", (.int 100000))] : List (Str × D)) from rfl]; exact ⟨gl_ok c X N 8 rfl, gl_ok c X N 1 rfl, trivial⟩)) (all_of (by rw [show rsSs c_next_working = (["NoAnswer"] : List Str) from rfl]; exact ⟨raise_of X N (c.fact 54 rfl) (c.fact 55 rfl), trivial⟩)) (by kernel_rfl)
theorem ok_meetings_in (c : SaysM fa fn xt K) (X : K.In base) (N : base.Ns mainGlobals mg) : OkF PR w K mg base 6 F_meetings_in := by
  obtain ⟨fd, F⟩ := c.def_ 28 rfl
  have F : FunD K "meetings_in" "meetings_in" (defArgs (top 47)) (defBody (top 47)) (defScope (top 47)) [] [] (He.ga K "meetings_in") fd := F
  exact okF_def (N := ["free", "rule", "notice", "a", "b", "day"]) (ps := ["free", "rule", "notice", "a", "b"]) F (He.glo_ok X N (c.fact 28 (f := .glo "meetings_in") rfl)) ⟨rfl, rfl, rfl, by decide +kernel, rfl, by decide +kernel, by decide +kernel⟩ (FunD.bindsN F fun _ _ _ _ _ _ us hl => match us, hl with | [_, _, _, _, _], _ => rfl) (bn_ok c X N) (by decide) (all_of (by rw [show fnsSs c_meetings_in = ([F_check_rule, F_check, F_keeps_notices] : List FnE) from rfl]; exact ⟨(ok_check_rule (w := w) c X N).mono (by omega), (ok_check (w := w) c X N).mono (by omega), (ok_keeps_notices (w := w) c X N).mono (by omega), trivial⟩)) (all_of (by rw [show glsSs c_meetings_in = ([("MOST_LISTED", (.int 400))] : List (Str × D)) from rfl]; exact ⟨gl_ok c X N 9 rfl, trivial⟩)) (all_of (by rw [show rsSs c_meetings_in = ([] : List Str) from rfl]; exact trivial)) (by kernel_rfl)
theorem ok_need_free (c : SaysM fa fn xt K) (X : K.In base) (N : base.Ns mainGlobals mg) : OkF PR w K mg base 3 F_need_free := by
  obtain ⟨fd, F⟩ := c.def_ 29 rfl
  have F : FunD K "need_free" "need_free" (defArgs (top 51)) (defBody (top 51)) (defScope (top 51)) [] [] (He.ga K "need_free") fd := F
  exact okF_def (N := ["value", "one", "day"]) (ps := ["value"]) F (He.glo_ok X N (c.fact 29 (f := .glo "need_free") rfl)) ⟨rfl, rfl, rfl, by decide +kernel, rfl, by decide +kernel, by decide +kernel⟩ (FunD.bindsN F fun _ _ _ _ _ _ us hl => match us, hl with | [_], _ => rfl) (bn_ok c X N) (by decide) (all_of (by rw [show fnsSs c_need_free = ([F_check, F_check, F_is_within, F_are_ascending, F_check, F_is_within, F_are_ascending] : List FnE) from rfl]; exact ⟨(ok_check (w := w) c X N).mono (by omega), (ok_check (w := w) c X N).mono (by omega), (ok_is_within (w := w) c X N).mono (by omega), (ok_are_ascending (w := w) c X N).mono (by omega), (ok_check (w := w) c X N).mono (by omega), (ok_is_within (w := w) c X N).mono (by omega), (ok_are_ascending (w := w) c X N).mono (by omega), trivial⟩)) (all_of (by rw [show glsSs c_need_free = ([("WEEK_checkmore", (.int 7)), ("WEEK_checkmore", (.int 7)), ("LAST_DAY_checkmore", (.int 100000))] : List (Str × D)) from rfl]; exact ⟨gl_ok c X N 10 rfl, gl_ok c X N 10 rfl, gl_ok c X N 11 rfl, trivial⟩)) (all_of (by rw [show rsSs c_need_free = ([] : List Str) from rfl]; exact trivial)) (by kernel_rfl)
theorem ok_is_rule (c : SaysM fa fn xt K) (X : K.In base) (N : base.Ns mainGlobals mg) : OkF PR w K mg base 3 F_is_rule := by
  obtain ⟨fd, F⟩ := c.def_ 30 rfl
  have F : FunD K "is_rule" "is_rule" (defArgs (top 52)) (defBody (top 52)) (defScope (top 52)) [] [] (He.ga K "is_rule") fd := F
  exact okF_def (N := ["value"]) (ps := ["value"]) F (He.glo_ok X N (c.fact 30 (f := .glo "is_rule") rfl)) ⟨rfl, rfl, rfl, by decide +kernel, rfl, by decide +kernel, by decide +kernel⟩ (FunD.bindsN F fun _ _ _ _ _ _ us hl => match us, hl with | [_], _ => rfl) (bn_ok c X N) (by decide) (all_of (by rw [show fnsSs c_is_rule = ([F_is_within] : List FnE) from rfl]; exact ⟨(ok_is_within (w := w) c X N).mono (by omega), trivial⟩)) (all_of (by rw [show glsSs c_is_rule = ([] : List (Str × D)) from rfl]; exact trivial)) (all_of (by rw [show rsSs c_is_rule = ([] : List Str) from rfl]; exact trivial)) (by kernel_rfl)
theorem ok_works (c : SaysM fa fn xt K) (X : K.In base) (N : base.Ns mainGlobals mg) : OkF PR w K mg base 1 F_works := by
  obtain ⟨fd, F⟩ := c.def_ 31 rfl
  have F : FunD K "works" "works" (defArgs (top 53)) (defBody (top 53)) (defScope (top 53)) [] [] (He.ga K "works") fd := F
  exact okF_def (N := ["free", "day"]) (ps := ["free", "day"]) F (He.glo_ok X N (c.fact 31 (f := .glo "works") rfl)) ⟨rfl, rfl, rfl, by decide +kernel, rfl, by decide +kernel, by decide +kernel⟩ (FunD.bindsN F fun _ _ _ _ _ _ us hl => match us, hl with | [_, _], _ => rfl) (bn_ok c X N) (by decide) (all_of (by rw [show fnsSs c_works = ([] : List FnE) from rfl]; exact trivial)) (all_of (by rw [show glsSs c_works = ([("WEEK_checkmore", (.int 7))] : List (Str × D)) from rfl]; exact ⟨gl_ok c X N 10 rfl, trivial⟩)) (all_of (by rw [show rsSs c_works = ([] : List Str) from rfl]; exact trivial)) (by kernel_rfl)
theorem ok_works_checkmore (c : SaysM fa fn xt K) (X : K.In base) (N : base.Ns mainGlobals mg) : OkF PR w K mg base 1 F_works_checkmore := by
  obtain ⟨fd, F⟩ := c.def_ 32 rfl
  have F : FunD K "works" "works" (defArgs (top 53)) (defBody (top 53)) (defScope (top 53)) [] [] (He.ga K "works_checkmore") fd := F
  exact okF_def (N := ["free", "day"]) (ps := ["free", "day"]) F (He.glo_ok X N (c.fact 32 (f := .glo "works_checkmore") rfl)) ⟨rfl, rfl, rfl, by decide +kernel, rfl, by decide +kernel, by decide +kernel⟩ (FunD.bindsN F fun _ _ _ _ _ _ us hl => match us, hl with | [_, _], _ => rfl) (bn_ok c X N) (by decide) (all_of (by rw [show fnsSs c_works = ([] : List FnE) from rfl]; exact trivial)) (all_of (by rw [show glsSs c_works = ([("WEEK_checkmore", (.int 7))] : List (Str × D)) from rfl]; exact ⟨gl_ok c X N 10 rfl, trivial⟩)) (all_of (by rw [show rsSs c_works = ([] : List Str) from rfl]; exact trivial)) (by kernel_rfl)
theorem ok_keeps (c : SaysM fa fn xt K) (X : K.In base) (N : base.Ns mainGlobals mg) : OkF PR w K mg base 2 F_keeps := by
  obtain ⟨fd, F⟩ := c.def_ 33 rfl
  have F : FunD K "keeps" "keeps" (defArgs (top 55)) (defBody (top 55)) (defScope (top 55)) [] [] (He.ga K "keeps") fd := F
  exact okF_def (N := ["free", "rule", "notice", "meeting", "kind", "n", "is_tolled", "many", "day"]) (ps := ["free", "rule", "notice", "meeting"]) F (He.glo_ok X N (c.fact 33 (f := .glo "keeps") rfl)) ⟨rfl, rfl, rfl, by decide +kernel, rfl, by decide +kernel, by decide +kernel⟩ (FunD.bindsN F fun _ _ _ _ _ _ us hl => match us, hl with | [_, _, _, _], _ => rfl) (bn_ok c X N) (by decide) (all_of (by rw [show fnsSs c_keeps = ([F_works_checkmore, F_works_checkmore] : List FnE) from rfl]; exact ⟨(ok_works_checkmore (w := w) c X N).mono (by omega), (ok_works_checkmore (w := w) c X N).mono (by omega), trivial⟩)) (all_of (by rw [show glsSs c_keeps = ([] : List (Str × D)) from rfl]; exact trivial)) (all_of (by rw [show rsSs c_keeps = ([] : List Str) from rfl]; exact trivial)) (by kernel_rfl)
theorem ok_keeps_checkmore (c : SaysM fa fn xt K) (X : K.In base) (N : base.Ns mainGlobals mg) : OkF PR w K mg base 2 F_keeps_checkmore := by
  obtain ⟨fd, F⟩ := c.def_ 34 rfl
  have F : FunD K "keeps" "keeps" (defArgs (top 55)) (defBody (top 55)) (defScope (top 55)) [] [] (He.ga K "keeps_checkmore") fd := F
  exact okF_def (N := ["free", "rule", "notice", "meeting", "kind", "n", "is_tolled", "many", "day"]) (ps := ["free", "rule", "notice", "meeting"]) F (He.glo_ok X N (c.fact 34 (f := .glo "keeps_checkmore") rfl)) ⟨rfl, rfl, rfl, by decide +kernel, rfl, by decide +kernel, by decide +kernel⟩ (FunD.bindsN F fun _ _ _ _ _ _ us hl => match us, hl with | [_, _, _, _], _ => rfl) (bn_ok c X N) (by decide) (all_of (by rw [show fnsSs c_keeps = ([F_works_checkmore, F_works_checkmore] : List FnE) from rfl]; exact ⟨(ok_works_checkmore (w := w) c X N).mono (by omega), (ok_works_checkmore (w := w) c X N).mono (by omega), trivial⟩)) (all_of (by rw [show glsSs c_keeps = ([] : List (Str × D)) from rfl]; exact trivial)) (all_of (by rw [show rsSs c_keeps = ([] : List Str) from rfl]; exact trivial)) (by kernel_rfl)
theorem ok_takes_meeting (c : SaysM fa fn xt K) (X : K.In base) (N : base.Ns mainGlobals mg) : OkF PR w K mg base 4 F_takes_meeting := by
  obtain ⟨fd, F⟩ := c.def_ 35 rfl
  have F : FunD K "takes_meeting" "takes_meeting" (defArgs (top 57)) (defBody (top 57)) (defScope (top 57)) [] [] (He.ga K "takes_meeting") fd := F
  exact okF_def (N := ["free", "rule", "notice", "meeting", "ahead"]) (ps := ["free", "rule", "notice", "meeting"]) F (He.glo_ok X N (c.fact 35 (f := .glo "takes_meeting") rfl)) ⟨rfl, rfl, rfl, by decide +kernel, rfl, by decide +kernel, by decide +kernel⟩ (FunD.bindsN F fun _ _ _ _ _ _ us hl => match us, hl with | [_, _, _, _], _ => rfl) (bn_ok c X N) (by decide) (all_of (by rw [show fnsSs c_takes_meeting = ([F_need_free, F_is_rule, F_is_within, F_is_within, F_keeps_checkmore, F_works_checkmore, F_keeps_checkmore] : List FnE) from rfl]; exact ⟨(ok_need_free (w := w) c X N).mono (by omega), (ok_is_rule (w := w) c X N).mono (by omega), (ok_is_within (w := w) c X N).mono (by omega), (ok_is_within (w := w) c X N).mono (by omega), (ok_keeps_checkmore (w := w) c X N).mono (by omega), (ok_works_checkmore (w := w) c X N).mono (by omega), (ok_keeps_checkmore (w := w) c X N).mono (by omega), trivial⟩)) (all_of (by rw [show glsSs c_takes_meeting = ([("LAST_DAY_checkmore", (.int 100000)), ("LAST_DAY_checkmore", (.int 100000))] : List (Str × D)) from rfl]; exact ⟨gl_ok c X N 11 rfl, gl_ok c X N 11 rfl, trivial⟩)) (all_of (by rw [show rsSs c_takes_meeting = ([] : List Str) from rfl]; exact trivial)) (by kernel_rfl)
theorem ok_takes_calls (c : SaysM fa fn xt K) (X : K.In base) (N : base.Ns mainGlobals mg) : OkF PR w K mg base 4 F_takes_calls := by
  obtain ⟨fd, F⟩ := c.def_ 36 rfl
  have F : FunD K "takes_calls" "takes_calls" (defArgs (top 58)) (defBody (top 58)) (defScope (top 58)) [] [] (He.ga K "takes_calls") fd := F
  exact okF_def (N := ["free", "rule", "calls", "told", "call", "taken", "found", "name", "notice", "meeting", "_"]) (ps := ["free", "rule", "calls", "told"]) F (He.glo_ok X N (c.fact 36 (f := .glo "takes_calls") rfl)) ⟨rfl, rfl, rfl, by decide +kernel, rfl, by decide +kernel, by decide +kernel⟩ (FunD.bindsN F fun _ _ _ _ _ _ us hl => match us, hl with | [_, _, _, _], _ => rfl) (bn_ok c X N) (by decide) (all_of (by rw [show fnsSs c_takes_calls = ([F_need_free, F_is_rule, F_is_name, F_is_within, F_is_within, F_keeps_checkmore] : List FnE) from rfl]; exact ⟨(ok_need_free (w := w) c X N).mono (by omega), (ok_is_rule (w := w) c X N).mono (by omega), (ok_is_name (w := w) c X N).mono (by omega), (ok_is_within (w := w) c X N).mono (by omega), (ok_is_within (w := w) c X N).mono (by omega), (ok_keeps_checkmore (w := w) c X N).mono (by omega), trivial⟩)) (all_of (by rw [show glsSs c_takes_calls = ([("LAST_DAY_checkmore", (.int 100000)), ("LAST_DAY_checkmore", (.int 100000))] : List (Str × D)) from rfl]; exact ⟨gl_ok c X N 11 rfl, gl_ok c X N 11 rfl, trivial⟩)) (all_of (by rw [show rsSs c_takes_calls = ([] : List Str) from rfl]; exact trivial)) (by kernel_rfl)
theorem ok__law_draws (c : SaysM fa fn xt K) (X : K.In base) (N : base.Ns mainGlobals mg) : OkF PR w K mg base 1 F__law_draws := by
  obtain ⟨fd, F⟩ := c.def_ 37 rfl
  have F : FunD K "_law_draws" "_law_draws" (defArgs (top 60)) (defBody (top 60)) (defScope (top 60)) [] [] (He.ga K "_law_draws") fd := F
  exact okF_def (N := ["script", "draws", "cell", "number", "first", "k", "seed"]) (ps := ["script"]) F (He.glo_ok X N (c.fact 37 (f := .glo "_law_draws") rfl)) ⟨rfl, rfl, rfl, by decide +kernel, rfl, by decide +kernel, by decide +kernel⟩ (FunD.bindsN F fun _ _ _ _ _ _ us hl => match us, hl with | [_], _ => rfl) (bn_ok c X N) (by decide) (all_of (by rw [show fnsSs c__law_draws = ([] : List FnE) from rfl]; exact trivial)) (all_of (by rw [show glsSs c__law_draws = ([] : List (Str × D)) from rfl]; exact trivial)) (all_of (by rw [show rsSs c__law_draws = ([] : List Str) from rfl]; exact trivial)) (by kernel_rfl)
theorem ok__law_take (c : SaysM fa fn xt K) (X : K.In base) (N : base.Ns mainGlobals mg) : OkF PR w K mg base 1 F__law_take := by
  obtain ⟨fd, F⟩ := c.def_ 38 rfl
  have F : FunD K "_law_take" "_law_take" (defArgs (top 61)) (defBody (top 61)) (defScope (top 61)) [] [] (He.ga K "_law_take") fd := F
  exact okF_def (N := ["draws", "bound"]) (ps := ["draws", "bound"]) F (He.glo_ok X N (c.fact 38 (f := .glo "_law_take") rfl)) ⟨rfl, rfl, rfl, by decide +kernel, rfl, by decide +kernel, by decide +kernel⟩ (FunD.bindsN F fun _ _ _ _ _ _ us hl => match us, hl with | [_, _], _ => rfl) (bn_ok c X N) (by decide) (all_of (by rw [show fnsSs c__law_take = ([] : List FnE) from rfl]; exact trivial)) (all_of (by rw [show glsSs c__law_take = ([] : List (Str × D)) from rfl]; exact trivial)) (all_of (by rw [show rsSs c__law_take = ([] : List Str) from rfl]; exact trivial)) (by kernel_rfl)
theorem ok__law_pick (c : SaysM fa fn xt K) (X : K.In base) (N : base.Ns mainGlobals mg) : OkF PR w K mg base 2 F__law_pick := by
  obtain ⟨fd, F⟩ := c.def_ 39 rfl
  have F : FunD K "_law_pick" "_law_pick" (defArgs (top 62)) (defBody (top 62)) (defScope (top 62)) [] [] (He.ga K "_law_pick") fd := F
  exact okF_def (N := ["draws", "some"]) (ps := ["draws", "some"]) F (He.glo_ok X N (c.fact 39 (f := .glo "_law_pick") rfl)) ⟨rfl, rfl, rfl, by decide +kernel, rfl, by decide +kernel, by decide +kernel⟩ (FunD.bindsN F fun _ _ _ _ _ _ us hl => match us, hl with | [_, _], _ => rfl) (bn_ok c X N) (by decide) (all_of (by rw [show fnsSs c__law_pick = ([F__law_take] : List FnE) from rfl]; exact ⟨(ok__law_take (w := w) c X N).mono (by omega), trivial⟩)) (all_of (by rw [show glsSs c__law_pick = ([] : List (Str × D)) from rfl]; exact trivial)) (all_of (by rw [show rsSs c__law_pick = ([] : List Str) from rfl]; exact trivial)) (by kernel_rfl)
theorem ok__law_mixed (c : SaysM fa fn xt K) (X : K.In base) (N : base.Ns mainGlobals mg) : OkF PR w K mg base 2 F__law_mixed := by
  obtain ⟨fd, F⟩ := c.def_ 40 rfl
  have F : FunD K "_law_mixed" "_law_mixed" (defArgs (top 63)) (defBody (top 63)) (defScope (top 63)) [] [] (He.ga K "_law_mixed") fd := F
  exact okF_def (N := ["draws", "items", "left", "found", "k"]) (ps := ["draws", "items"]) F (He.glo_ok X N (c.fact 40 (f := .glo "_law_mixed") rfl)) ⟨rfl, rfl, rfl, by decide +kernel, rfl, by decide +kernel, by decide +kernel⟩ (FunD.bindsN F fun _ _ _ _ _ _ us hl => match us, hl with | [_, _], _ => rfl) (bn_ok c X N) (by decide) (all_of (by rw [show fnsSs c__law_mixed = ([F__law_take] : List FnE) from rfl]; exact ⟨(ok__law_take (w := w) c X N).mono (by omega), trivial⟩)) (all_of (by rw [show glsSs c__law_mixed = ([] : List (Str × D)) from rfl]; exact trivial)) (all_of (by rw [show rsSs c__law_mixed = ([] : List Str) from rfl]; exact trivial)) (by kernel_rfl)
theorem chk__law_same (a : Nat) (b : Option Nat) (r : List D → Out (Res × List D)) : chkSs ["told", "due", "key", "k"] 0 (c__law_same ⟨"_law_same", a, b, r⟩) (defScope (top 64)) (defBody (top 64)) = true := by kernel_rfl
theorem okR__law_same (c : SaysM fa fn xt K) (X : K.In base) (N : base.Ns mainGlobals mg) : ∀ n, OkF PR w K mg base (1 + n) (R__law_same n)
  | 0 => by
    obtain ⟨fd, F⟩ := c.def_ 41 rfl
    have F : FunD K "_law_same" "_law_same" (defArgs (top 64)) (defBody (top 64)) (defScope (top 64)) [] [] (He.ga K "_law_same") fd := F
    exact okF_stuck (He.glo_ok X N (c.fact 41 (f := .glo "_law_same") rfl)) F.kp
  | n + 1 => by
    obtain ⟨fd, F⟩ := c.def_ 41 rfl
    have F : FunD K "_law_same" "_law_same" (defArgs (top 64)) (defBody (top 64)) (defScope (top 64)) [] [] (He.ga K "_law_same") fd := F
    have ih := okR__law_same c X N n
    have ck : chkSs ["told", "due", "key", "k"] 0 (c__law_same (R__law_same n)) (defScope (top 64)) (defBody (top 64)) = true := by cases n <;> exact chk__law_same _ _ _
    exact okF_def (N := ["told", "due", "key", "k"]) (ps := ["told", "due"]) F (He.glo_ok X N (c.fact 41 (f := .glo "_law_same") rfl)) ⟨rfl, rfl, rfl, by decide +kernel, rfl, by decide +kernel, by decide +kernel⟩ (FunD.bindsN F fun _ _ _ _ _ _ us hl => match us, hl with | [_, _], _ => rfl) (bn_ok c X N) (by decide) (all_of (by rw [show fnsSs (c__law_same (R__law_same n)) = ([(R__law_same n), (R__law_same n)] : List FnE) from rfl]; exact ⟨ih, ih, trivial⟩)) (all_of (by rw [show glsSs (c__law_same (R__law_same n)) = ([] : List (Str × D)) from rfl]; exact trivial)) (all_of (by rw [show rsSs (c__law_same (R__law_same n)) = ([] : List Str) from rfl]; exact trivial)) ck
theorem ok__law_same (c : SaysM fa fn xt K) (X : K.In base) (N : base.Ns mainGlobals mg) : OkF PR w K mg base 13 F__law_same := okR__law_same c X N 12
def kpos : List Pos := [⟨242, 13, 242, 23⟩, ⟨242, 24, 242, 29⟩, ⟨242, 31, 242, 39⟩, ⟨242, 13, 242, 40⟩, ⟨242, 42, 242, 52⟩, ⟨242, 53, 242, 58⟩, ⟨242, 60, 242, 68⟩, ⟨242, 42, 242, 69⟩, ⟨242, 71, 242, 81⟩, ⟨242, 82, 242, 87⟩, ⟨242, 89, 242, 97⟩, ⟨242, 71, 242, 98⟩, ⟨242, 100, 242, 110⟩, ⟨242, 111, 242, 116⟩, ⟨242, 118, 242, 126⟩, ⟨242, 100, 242, 127⟩, ⟨242, 4, 242, 9⟩, ⟨242, 12, 242, 128⟩, ⟨242, 4, 242, 128⟩, ⟨0, 0, 0, 0⟩, ⟨243, 34, 243, 35⟩, ⟨243, 38, 243, 39⟩, ⟨243, 34, 243, 39⟩, ⟨243, 43, 243, 46⟩, ⟨243, 47, 243, 52⟩, ⟨243, 53, 243, 54⟩, ⟨243, 47, 243, 55⟩, ⟨243, 43, 243, 56⟩, ⟨243, 33, 243, 56⟩, ⟨243, 61, 243, 62⟩, ⟨243, 66, 243, 71⟩, ⟨243, 72, 243, 73⟩, ⟨243, 66, 243, 74⟩, ⟨243, 32, 243, 75⟩, ⟨243, 11, 243, 21⟩, ⟨243, 24, 243, 27⟩, ⟨243, 28, 243, 31⟩, ⟨243, 28, 243, 76⟩, ⟨243, 24, 243, 77⟩, ⟨243, 11, 243, 77⟩, ⟨243, 4, 243, 77⟩]
def kq (i : Nat) : Pos := kpos.getD i ⟨0, 0, 0, 0⟩
def ksc : Scope := match defBody (top 65) with
  | [_, .Return (some (.BinOp _ _ (.Call _ [.Call _ [.ListComp _ _ sc _] _ _] _ _) _)) _] => sc
  | _ => defScope (top 65)
theorem kbody : defBody (top 65) = kindBody kq ksc := by kernel_rfl
theorem ok__law_kind (c : SaysM fa fn xt K) (X : K.In base) (N : base.Ns mainGlobals mg) : KindFn PR w K mg base (He.ga K "_law_kind") := by
  obtain ⟨fd, F⟩ := c.def_ 42 rfl
  have F : FunD K "_law_kind" "_law_kind" (defArgs (top 65)) (defBody (top 65)) (defScope (top 65)) [] [] (He.ga K "_law_kind") fd := F
  rw [kbody] at F
  exact kind_fn F ⟨rfl, rfl, rfl, by decide +kernel, rfl, by decide +kernel, by decide +kernel⟩ (FunD.bindsN F fun _ _ _ _ _ _ us hl => match us, hl with | [_], _ => rfl) (bn_ok c X N) (kindB_ok X N (He.ba (He.ba c.extra).1).2) (by kernel_rfl)
theorem ok__law_free (c : SaysM fa fn xt K) (X : K.In base) (N : base.Ns mainGlobals mg) : OkF PR w K mg base 3 F__law_free := by
  obtain ⟨fd, F⟩ := c.def_ 43 rfl
  have F : FunD K "_law_free" "_law_free" (defArgs (top 66)) (defBody (top 66)) (defScope (top 66)) [] [] (He.ga K "_law_free") fd := F
  exact okF_def (N := ["draws", "week"]) (ps := ["draws"]) F (He.glo_ok X N (c.fact 43 (f := .glo "_law_free") rfl)) ⟨rfl, rfl, rfl, by decide +kernel, rfl, by decide +kernel, by decide +kernel⟩ (FunD.bindsN F fun _ _ _ _ _ _ us hl => match us, hl with | [_], _ => rfl) (bn_ok c X N) (by decide) (all_of (by rw [show fnsSs c__law_free = ([F__law_mixed, F__law_take, F__law_mixed, F__law_take] : List FnE) from rfl]; exact ⟨(ok__law_mixed (w := w) c X N).mono (by omega), (ok__law_take (w := w) c X N).mono (by omega), (ok__law_mixed (w := w) c X N).mono (by omega), (ok__law_take (w := w) c X N).mono (by omega), trivial⟩)) (all_of (by rw [show glsSs c__law_free = ([] : List (Str × D)) from rfl]; exact trivial)) (all_of (by rw [show rsSs c__law_free = ([] : List Str) from rfl]; exact trivial)) (by kernel_rfl)
theorem ok__law_works (c : SaysM fa fn xt K) (X : K.In base) (N : base.Ns mainGlobals mg) : OkF PR w K mg base 1 F__law_works := by
  obtain ⟨fd, F⟩ := c.def_ 44 rfl
  have F : FunD K "_law_works" "_law_works" (defArgs (top 67)) (defBody (top 67)) (defScope (top 67)) [] [] (He.ga K "_law_works") fd := F
  exact okF_def (N := ["free", "day"]) (ps := ["free", "day"]) F (He.glo_ok X N (c.fact 44 (f := .glo "_law_works") rfl)) ⟨rfl, rfl, rfl, by decide +kernel, rfl, by decide +kernel, by decide +kernel⟩ (FunD.bindsN F fun _ _ _ _ _ _ us hl => match us, hl with | [_, _], _ => rfl) (bn_ok c X N) (by decide) (all_of (by rw [show fnsSs c__law_works = ([] : List FnE) from rfl]; exact trivial)) (all_of (by rw [show glsSs c__law_works = ([] : List (Str × D)) from rfl]; exact trivial)) (all_of (by rw [show rsSs c__law_works = ([] : List Str) from rfl]; exact trivial)) (by kernel_rfl)
theorem ok__law_rule (c : SaysM fa fn xt K) (X : K.In base) (N : base.Ns mainGlobals mg) : OkF PR w K mg base 3 F__law_rule := by
  obtain ⟨fd, F⟩ := c.def_ 45 rfl
  have F : FunD K "_law_rule" "_law_rule" (defArgs (top 68)) (defBody (top 68)) (defScope (top 68)) [] [] (He.ga K "_law_rule") fd := F
  exact okF_def (N := ["draws", "most"]) (ps := ["draws", "most"]) F (He.glo_ok X N (c.fact 45 (f := .glo "_law_rule") rfl)) ⟨rfl, rfl, rfl, by decide +kernel, rfl, by decide +kernel, by decide +kernel⟩ (FunD.bindsN F fun _ _ _ _ _ _ us hl => match us, hl with | [_, _], _ => rfl) (bn_ok c X N) (by decide) (all_of (by rw [show fnsSs c__law_rule = ([F__law_pick, F__law_take, F__law_take] : List FnE) from rfl]; exact ⟨(ok__law_pick (w := w) c X N).mono (by omega), (ok__law_take (w := w) c X N).mono (by omega), (ok__law_take (w := w) c X N).mono (by omega), trivial⟩)) (all_of (by rw [show glsSs c__law_rule = ([] : List (Str × D)) from rfl]; exact trivial)) (all_of (by rw [show rsSs c__law_rule = ([] : List Str) from rfl]; exact trivial)) (by kernel_rfl)
theorem ok__law_between (c : SaysM fa fn xt K) (X : K.In base) (N : base.Ns mainGlobals mg) : OkF PR w K mg base 2 F__law_between := by
  obtain ⟨fd, F⟩ := c.def_ 46 rfl
  have F : FunD K "_law_between" "_law_between" (defArgs (top 69)) (defBody (top 69)) (defScope (top 69)) [] [] (He.ga K "_law_between") fd := F
  exact okF_def (N := ["free", "a", "b", "day"]) (ps := ["free", "a", "b"]) F (He.glo_ok X N (c.fact 46 (f := .glo "_law_between") rfl)) ⟨rfl, rfl, rfl, by decide +kernel, rfl, by decide +kernel, by decide +kernel⟩ (FunD.bindsN F fun _ _ _ _ _ _ us hl => match us, hl with | [_, _, _], _ => rfl) (bn_ok c X N) (by decide) (all_of (by rw [show fnsSs c__law_between = ([F__law_works] : List FnE) from rfl]; exact ⟨(ok__law_works (w := w) c X N).mono (by omega), trivial⟩)) (all_of (by rw [show glsSs c__law_between = ([] : List (Str × D)) from rfl]; exact trivial)) (all_of (by rw [show rsSs c__law_between = ([] : List Str) from rfl]; exact trivial)) (by kernel_rfl)
theorem ok__law_word (c : SaysM fa fn xt K) (X : K.In base) (N : base.Ns mainGlobals mg) : OkF PR w K mg base 3 F__law_word := by
  obtain ⟨fd, F⟩ := c.def_ 47 rfl
  have F : FunD K "_law_word" "_law_word" (defArgs (top 70)) (defBody (top 70)) (defScope (top 70)) [] [] (He.ga K "_law_word") fd := F
  exact okF_def (N := ["free", "rule", "notice", "meeting", "many"]) (ps := ["free", "rule", "notice", "meeting"]) F (He.glo_ok X N (c.fact 47 (f := .glo "_law_word") rfl)) ⟨rfl, rfl, rfl, by decide +kernel, rfl, by decide +kernel, by decide +kernel⟩ (FunD.bindsN F fun _ _ _ _ _ _ us hl => match us, hl with | [_, _, _, _], _ => rfl) (bn_ok c X N) (by decide) (all_of (by rw [show fnsSs c__law_word = ([F__law_works, F__law_between] : List FnE) from rfl]; exact ⟨(ok__law_works (w := w) c X N).mono (by omega), (ok__law_between (w := w) c X N).mono (by omega), trivial⟩)) (all_of (by rw [show glsSs c__law_word = ([] : List (Str × D)) from rfl]; exact trivial)) (all_of (by rw [show rsSs c__law_word = ([] : List Str) from rfl]; exact trivial)) (by kernel_rfl)
theorem ok__law_told (c : SaysM fa fn xt K) (X : K.In base) (N : base.Ns mainGlobals mg) : OkF PR w K mg base 8 F__law_told := by
  obtain ⟨fd, F⟩ := c.def_ 48 rfl
  have F : FunD K "_law_told" "_law_told" (defArgs (top 71)) (defBody (top 71)) (defScope (top 71)) [] [] (He.ga K "_law_told") fd := F
  exact okF_kind (N := ["which", "free", "one", "two", "three", "error"]) (ps := ["which", "free", "one", "two", "three"]) (cm := "MotionError") (n := "error") (y := "_law_kind") (i := 5) F (He.glo_ok X N (c.fact 48 (f := .glo "_law_told") rfl)) ⟨rfl, rfl, rfl, by decide +kernel, rfl, by decide +kernel, by decide +kernel⟩ (FunD.bindsN F fun _ _ _ _ _ _ us hl => match us, hl with | [_, _, _, _, _], _ => rfl) (bn_ok c X N) (all_of (by rw [show fnsSs c__law_told = ([F_is_working, F_working_between, F_first_meeting, F_last_notice, F_good_calls, F_why_bad, F_next_working, F_does_keep, F_takes_meeting, F_takes_calls, F_meetings_in] : List FnE) from rfl]; exact ⟨(ok_is_working (w := w) c X N).mono (by omega), (ok_working_between (w := w) c X N).mono (by omega), (ok_first_meeting (w := w) c X N).mono (by omega), (ok_last_notice (w := w) c X N).mono (by omega), (ok_good_calls (w := w) c X N).mono (by omega), (ok_why_bad (w := w) c X N).mono (by omega), (ok_next_working (w := w) c X N).mono (by omega), (ok_does_keep (w := w) c X N).mono (by omega), (ok_takes_meeting (w := w) c X N).mono (by omega), (ok_takes_calls (w := w) c X N).mono (by omega), (ok_meetings_in (w := w) c X N).mono (by omega), trivial⟩)) (all_of (by rw [show glsSs c__law_told = ([("working_between", (.fn "working_between")), ("first_meeting", (.fn "first_meeting")), ("last_notice", (.fn "last_notice")), ("good_calls", (.fn "good_calls")), ("why_bad", (.fn "why_bad")), ("next_working", (.fn "next_working")), ("does_keep", (.fn "does_keep")), ("takes_meeting", (.fn "takes_meeting")), ("takes_calls", (.fn "takes_calls"))] : List (Str × D)) from rfl]; exact ⟨gl_ok c X N 12 rfl, gl_ok c X N 13 rfl, gl_ok c X N 14 rfl, gl_ok c X N 15 rfl, gl_ok c X N 16 rfl, gl_ok c X N 17 rfl, gl_ok c X N 18 rfl, gl_ok c X N 19 rfl, gl_ok c X N 20 rfl, trivial⟩)) (all_of (by rw [show rsSs c__law_told = ([] : List Str) from rfl]; exact trivial)) (by kernel_rfl) rfl (by decide +kernel) (by decide +kernel) (He.glo_ok X N (c.fact 56 (f := .glo "MotionError") rfl)) (by decide +kernel) (by decide +kernel) (He.glo_ok X N (c.fact 42 (f := .glo "_law_kind") rfl)) (by decide +kernel) (by decide +kernel) (kd_keep c) (by decide) (ok__law_kind c X N) (exmB_ok X N (He.ba c.extra).2)
theorem ok__law_are_days_due (c : SaysM fa fn xt K) (X : K.In base) (N : base.Ns mainGlobals mg) : OkF PR w K mg base 14 F__law_are_days_due := by
  obtain ⟨fd, F⟩ := c.def_ 49 rfl
  have F : FunD K "_law_are_days_due" "_law_are_days_due" (defArgs (top 72)) (defBody (top 72)) (defScope (top 72)) [] [] (He.ga K "_law_are_days_due") fd := F
  exact okF_def (N := ["draws", "free", "rule", "a", "b", "told", "first", "able", "near", "n", "day", "left", "rows", "one"]) (ps := ["draws", "free", "rule"]) F (He.glo_ok X N (c.fact 49 (f := .glo "_law_are_days_due") rfl)) ⟨rfl, rfl, rfl, by decide +kernel, rfl, by decide +kernel, by decide +kernel⟩ (FunD.bindsN F fun _ _ _ _ _ _ us hl => match us, hl with | [_, _, _], _ => rfl) (bn_ok c X N) (by decide) (all_of (by rw [show fnsSs c__law_are_days_due = ([F__law_take, F__law_take, F_are_free_days, F_is_notice_rule, F__law_told, F__law_told, F__law_told, F__law_same, F__law_works, F__law_between, F__law_word, F__law_word, F__law_word, F__law_same, F__law_told, F__law_told, F__law_pick, F__law_same, F__law_told, F__law_told, F__law_take, F__law_works, F__law_word, F__law_same, F__law_told, F__law_told] : List FnE) from rfl]; exact ⟨(ok__law_take (w := w) c X N).mono (by omega), (ok__law_take (w := w) c X N).mono (by omega), (ok_are_free_days (w := w) c X N).mono (by omega), (ok_is_notice_rule (w := w) c X N).mono (by omega), (ok__law_told (w := w) c X N).mono (by omega), (ok__law_told (w := w) c X N).mono (by omega), (ok__law_told (w := w) c X N).mono (by omega), (ok__law_same (w := w) c X N).mono (by omega), (ok__law_works (w := w) c X N).mono (by omega), (ok__law_between (w := w) c X N).mono (by omega), (ok__law_word (w := w) c X N).mono (by omega), (ok__law_word (w := w) c X N).mono (by omega), (ok__law_word (w := w) c X N).mono (by omega), (ok__law_same (w := w) c X N).mono (by omega), (ok__law_told (w := w) c X N).mono (by omega), (ok__law_told (w := w) c X N).mono (by omega), (ok__law_pick (w := w) c X N).mono (by omega), (ok__law_same (w := w) c X N).mono (by omega), (ok__law_told (w := w) c X N).mono (by omega), (ok__law_told (w := w) c X N).mono (by omega), (ok__law_take (w := w) c X N).mono (by omega), (ok__law_works (w := w) c X N).mono (by omega), (ok__law_word (w := w) c X N).mono (by omega), (ok__law_same (w := w) c X N).mono (by omega), (ok__law_told (w := w) c X N).mono (by omega), (ok__law_told (w := w) c X N).mono (by omega), trivial⟩)) (all_of (by rw [show glsSs c__law_are_days_due = ([] : List (Str × D)) from rfl]; exact trivial)) (all_of (by rw [show rsSs c__law_are_days_due = ([] : List Str) from rfl]; exact trivial)) (by kernel_rfl)
theorem ok__law_are_calls_due (c : SaysM fa fn xt K) (X : K.In base) (N : base.Ns mainGlobals mg) : OkF PR w K mg base 14 F__law_are_calls_due := by
  obtain ⟨fd, F⟩ := c.def_ 50 rfl
  have F : FunD K "_law_are_calls_due" "_law_are_calls_due" (defArgs (top 73)) (defBody (top 73)) (defScope (top 73)) [] [] (He.ga K "_law_are_calls_due") fd := F
  exact okF_def (N := ["draws", "free", "rule", "calls", "taken", "bad", "good", "name", "notice", "meeting", "word", "told", "near", "call"]) (ps := ["draws", "free", "rule"]) F (He.glo_ok X N (c.fact 50 (f := .glo "_law_are_calls_due") rfl)) ⟨rfl, rfl, rfl, by decide +kernel, rfl, by decide +kernel, by decide +kernel⟩ (FunD.bindsN F fun _ _ _ _ _ _ us hl => match us, hl with | [_, _, _], _ => rfl) (bn_ok c X N) (by decide) (all_of (by rw [show fnsSs c__law_are_calls_due = ([F__law_mixed, F__law_take, F__law_take, F__law_pick, F__law_take, F__law_word, F__law_told, F__law_same, F__law_told, F__law_pick, F__law_same, F__law_told, F__law_told] : List FnE) from rfl]; exact ⟨(ok__law_mixed (w := w) c X N).mono (by omega), (ok__law_take (w := w) c X N).mono (by omega), (ok__law_take (w := w) c X N).mono (by omega), (ok__law_pick (w := w) c X N).mono (by omega), (ok__law_take (w := w) c X N).mono (by omega), (ok__law_word (w := w) c X N).mono (by omega), (ok__law_told (w := w) c X N).mono (by omega), (ok__law_same (w := w) c X N).mono (by omega), (ok__law_told (w := w) c X N).mono (by omega), (ok__law_pick (w := w) c X N).mono (by omega), (ok__law_same (w := w) c X N).mono (by omega), (ok__law_told (w := w) c X N).mono (by omega), (ok__law_told (w := w) c X N).mono (by omega), trivial⟩)) (all_of (by rw [show glsSs c__law_are_calls_due = ([] : List (Str × D)) from rfl]; exact trivial)) (all_of (by rw [show rsSs c__law_are_calls_due = ([] : List Str) from rfl]; exact trivial)) (by kernel_rfl)
theorem lawF (c : SaysM fa fn xt K) : ∃ fd, FunD K "law" "law" (defArgs (top 74)) (defBody (top 74)) (defScope (top 74)) [] [] (He.ga K "law") fd := c.def_ 51 rfl
theorem law_binds {fd : FuncData} (F : FunD K "law" "law" (defArgs (top 74)) (defBody (top 74)) (defScope (top 74)) [] [] (He.ga K "law") fd) (s : Shared) (u : Value) : BindsTo s fd ⟨[u], []⟩ [("script", u)] :=
  FunD.bindsA (ps := ["script"]) F (fun _ _ _ _ _ _ us hl => match us, hl with | [_], _ => rfl) s [u] rfl
theorem fnOk_law (c : SaysM fa fn xt K) (X : K.In base) (N : base.Ns mainGlobals mg) {fd : FuncData} (F : FunD K "law" "law" (defArgs (top 74)) (defBody (top 74)) (defScope (top 74)) [] [] (He.ga K "law") fd) : FnOk PR w K mg base (L2N.CX PR w) 15 (He.ga K "law") fd ["script"] (spF K mg F_law) :=
  fnOk_def (N := ["script", "draws", "turn", "free", "rule", "odd", "rules", "bad", "wrong", "day", "off", "term", "told", "calls", "last", "one", "which", "n", "rows", "notice"]) (ps := ["script"]) F ⟨rfl, rfl, rfl, by decide +kernel, rfl, by decide +kernel, by decide +kernel⟩ (bn_ok c X N) (all_of (by rw [show fnsSs c_law = ([F__law_draws, F__law_free, F__law_rule, F__law_are_days_due, F__law_are_calls_due, F__law_same, F_are_free_days, F_is_notice_rule, F__law_pick, F__law_pick, F__law_pick, F__law_told, F__law_told, F__law_told, F__law_told, F__law_told, F__law_told, F__law_told, F__law_told, F__law_told, F__law_told, F__law_told, F__law_told, F__law_told, F__law_told, F__law_told, F__law_told, F__law_told, F__law_told, F__law_told, F__law_pick, F__law_told, F__law_told, F__law_told, F__law_told, F__law_told, F__law_told, F__law_told, F__law_told, F__law_told, F__law_same, F__law_told, F__law_told, F__law_same, F__law_told] : List FnE) from rfl]; exact ⟨(ok__law_draws (w := w) c X N).mono (by omega), (ok__law_free (w := w) c X N).mono (by omega), (ok__law_rule (w := w) c X N).mono (by omega), (ok__law_are_days_due (w := w) c X N).mono (by omega), (ok__law_are_calls_due (w := w) c X N).mono (by omega), (ok__law_same (w := w) c X N).mono (by omega), (ok_are_free_days (w := w) c X N).mono (by omega), (ok_is_notice_rule (w := w) c X N).mono (by omega), (ok__law_pick (w := w) c X N).mono (by omega), (ok__law_pick (w := w) c X N).mono (by omega), (ok__law_pick (w := w) c X N).mono (by omega), (ok__law_told (w := w) c X N).mono (by omega), (ok__law_told (w := w) c X N).mono (by omega), (ok__law_told (w := w) c X N).mono (by omega), (ok__law_told (w := w) c X N).mono (by omega), (ok__law_told (w := w) c X N).mono (by omega), (ok__law_told (w := w) c X N).mono (by omega), (ok__law_told (w := w) c X N).mono (by omega), (ok__law_told (w := w) c X N).mono (by omega), (ok__law_told (w := w) c X N).mono (by omega), (ok__law_told (w := w) c X N).mono (by omega), (ok__law_told (w := w) c X N).mono (by omega), (ok__law_told (w := w) c X N).mono (by omega), (ok__law_told (w := w) c X N).mono (by omega), (ok__law_told (w := w) c X N).mono (by omega), (ok__law_told (w := w) c X N).mono (by omega), (ok__law_told (w := w) c X N).mono (by omega), (ok__law_told (w := w) c X N).mono (by omega), (ok__law_told (w := w) c X N).mono (by omega), (ok__law_told (w := w) c X N).mono (by omega), (ok__law_pick (w := w) c X N).mono (by omega), (ok__law_told (w := w) c X N).mono (by omega), (ok__law_told (w := w) c X N).mono (by omega), (ok__law_told (w := w) c X N).mono (by omega), (ok__law_told (w := w) c X N).mono (by omega), (ok__law_told (w := w) c X N).mono (by omega), (ok__law_told (w := w) c X N).mono (by omega), (ok__law_told (w := w) c X N).mono (by omega), (ok__law_told (w := w) c X N).mono (by omega), (ok__law_told (w := w) c X N).mono (by omega), (ok__law_same (w := w) c X N).mono (by omega), (ok__law_told (w := w) c X N).mono (by omega), (ok__law_told (w := w) c X N).mono (by omega), (ok__law_same (w := w) c X N).mono (by omega), (ok__law_told (w := w) c X N).mono (by omega), trivial⟩)) (all_of (by rw [show glsSs c_law = ([] : List (Str × D)) from rfl]; exact trivial)) (all_of (by rw [show rsSs c_law = ([] : List Str) from rfl]; exact trivial)) (by kernel_rfl)
end
def names0 : List PySem.Str := ["MOST_SIGNS", "MotionError", "NotRight", "NotThere", "NoAnswer", "TooLarge", "is_integer", "is_within", "are_ascending", "is_name", "check", "LAST_DAY_notices", "WEEK_notices", "MOST_DATES", "MOST_DAYS", "MOST_CALLS", "MOST_WORKED", "MOST_LISTED", "DAYS", "WORKING", "is_day", "are_days", "are_free_days", "is_notice_rule", "check_free"]
def names1 : List PySem.Str := ["check_rule", "works", "works_notices", "is_working", "worked_before", "between", "working_between", "is_far", "is_tolled", "keeps", "keeps_notices", "does_keep", "first_meeting", "last_notice", "is_call", "check_calls", "states_of", "good_calls", "why_bad", "next_working", "meetings_in", "LAST_DAY_checkmore", "WEEK_checkmore", "need_free", "is_rule"]
def names2 : List PySem.Str := ["works_checkmore", "keeps_checkmore", "takes_meeting", "takes_calls", "_law_draws", "_law_take", "_law_pick", "_law_mixed", "_law_same", "_law_kind", "_law_free", "_law_works", "_law_rule", "_law_between", "_law_word", "_law_told", "_law_are_days_due", "_law_are_calls_due"]
def names : List PySem.Str := names0 ++ names1 ++ names2
abbrev R : PySem.W.OpenRow := PySem.W.OpenLaw.row PySem.Challenge.rw_motionward_k54_whole_notices_of_meetings
abbrev hk : PySem.W.Hook := hookM 4 fa fn xt
def ob (s : PySem.W.SharedT) : He.AlD := obsMG 4 fa fn xt (HandSHeadRun.getT s)
theorem ob_eq (s : PySem.W.SharedT) : ob s = hk.obs s.abs := obsMG_eq (HandSHeadRun.getT_eq s)
theorem run (w : World) : HandSHeadRun.RunEq R (PySem.W.view R.prog [74]) hk ob 4000 names w := by
  intro os
  kernel_rfl
end K54
open PySem PySem.W PySem.Calls PyProof.Rows
theorem PySem.Challenge.cw_motionward_k54_whole_notices_of_meetings_holds : PySem.Challenge.rw_motionward_k54_whole_notices_of_meetings.Holds := by
  w_on; o_law
  refine HandSHeadRun.head_any (r := OpenLaw.row PySem.Challenge.rw_motionward_k54_whole_notices_of_meetings) (q := view (OpenLaw.row PySem.Challenge.rw_motionward_k54_whole_notices_of_meetings).prog [74]) (H := K54.hk) (ob := K54.ob) (M := 4000) (loose := K54.names) (d := HandSHeadRun.topDef (OpenLaw.row PySem.Challenge.rw_motionward_k54_whole_notices_of_meetings).prog 74) (kwd := []) K54.ob_eq
    (by kernel_rfl) (fun s => by kernel_rfl) K54.run (by kernel_rfl) (by kernel_rfl) (by kernel_rfl) (by rfl) (by first | assumption | decide +kernel) (by decide +kernel) ⟨rfl, rfl, rfl, rfl, rfl, by decide +kernel⟩ ?hw ?hc
  case hw => w_witness2
  case hc =>
    refine M.walk_ofM (l := PySem.Challenge.rw_motionward_k54_whole_notices_of_meetings) (n := 63) (k := 15) (x := "script") rfl (by decide +kernel) (by kernel_rfl) ⟨by decide +kernel, by decide +kernel, by decide +kernel⟩ ?F
    intro w mg f h Y G hmg0
    obtain ⟨K, KX, c⟩ := Y
    have e : (HandSHeadRun.topDef (OpenLaw.row PySem.Challenge.rw_motionward_k54_whole_notices_of_meetings).prog 74).name = ("law" : PySem.Str) := by kernel_rfl
    rw [e] at hmg0
    have e2 := hmg0.symm.trans (He.glo_ok KX G (c.fact 51 (f := .glo "law") rfl))
    cases e2
    obtain ⟨fd, F⟩ := K54.lawF c
    exact ⟨K, fd, M.spF K mg K54.F_law, KX, K54.law_binds F, fun H a ns hl _ hS => M.law_sp c.nol rfl rfl hS (K54.law_true ns hl), fun base X N => K54.fnOk_law c X N F⟩
