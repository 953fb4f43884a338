import PyProof.Rows.All
import Wide.All
import OpenK.AllK
import Wide.FinOn
import HandS.ForMost
import HandS.Conv
import HandS.WordsDict
import HandS.DictComp
import HandS.Deep
import KE.SortData
import KE.DataMinMax
import KE.KeyNested
import HandS.IsInst
import HandS.SortInts
import HandS.Style
import HandS.Walk
import HandS.Zip
import HandS.TupAny
import HandS.TupMul
import HandS.Strs
import HandS.RaiseMore
import HandS.SetFor
import KE.GoesEnum
import HandS.NoneIn
import HandS.Call
import HandS.Defaults
import HandS.Codes
import HandS.Ends
import HandS.Exc
import HandS.EndBits
import HandS.Words
import HandS.Iter
import HandS.Head0
import HandS.Head1
import HandS.Head2
import HandS.HeadHook1
import HandS.HeadHook2
import HandS.Star
import HandS.TupLe
import KE.KDictWalk
import KE.KDictSum
import KE.KDictDisplayH
import PyProof.StrLawsRepr
import PyProof.Rows.StrDigits
import HandS.Text
import PySem.Challenge.RW_firstbrought_k27_orders_counted
set_option Elab.async false
set_option linter.all false
set_option autoImplicit false
set_option maxRecDepth 100000
set_option maxHeartbeats 0
/-! Fb: values, an intermediate language, its evaluator -/
namespace Fb
open PySem

/-- what an expression yields: data; a new list or dict that nobody else holds; an object of the store -/
inductive Val where
  | dat (d : PyData)
  | uni (d : PyData)
  | sto (n : Nat)
  | tab (w : World) (es : List (PyData × PyData))
/-- what a name holds -/
inductive Slot where
  | unset
  | val (d : PyData)
  | own (d : PyData)
  | sto (n : Nat)
  | tab (w : World) (es : List (PyData × PyData))
abbrev Mu := List (List (Str × PyData))
structure S where
  e : List Slot
  m : Mu
inductive Res (α : Type) where
  | ok (a : α)
  | exc (c : Str) (fs : List PyData)
  | stuck
def M (α : Type) := S → Res (α × S)
def M.pure {α : Type} (a : α) : M α := fun s => .ok (a, s)
def M.bind {α β : Type} (x : M α) (f : α → M β) : M β := fun s => match x s with
  | .ok (a, s') => f a s'
  | .exc c fs => .exc c fs
  | .stuck => .stuck
def M.stuck {α : Type} : M α := fun _ => .stuck
instance : Monad M where
  pure := M.pure
  bind := M.bind
abbrev Fn := List Val → Mu → Res (Val × Mu)

inductive Opd where
  | val (d : PyData)
  | slot (i : Nat)

/-- reading a name as a value: an owned list is shared from then on -/
def rdVar (i : Nat) : M Val := fun s => match s.e[i]? with
  | some (.val d) => .ok (.dat d, s)
  | some (.own d) => .ok (.dat d, { s with e := s.e.set i (.val d) })
  | some (.sto n) => .ok (.sto n, s)
  | _ => .stuck
/-- moving an owned list out (return x) -/
def mvVar (i : Nat) : M Val := fun s => match s.e[i]? with
  | some (.val d) => .ok (.dat d, s)
  | some (.own d) => .ok (.uni d, { s with e := s.e.set i .unset })
  | some (.sto n) => .ok (.sto n, s)
  | _ => .stuck
def slotOf : Val → Slot
  | .dat d => .val d
  | .uni d => .own d
  | .sto n => .sto n
  | .tab w es => .tab w es
def setS (i : Nat) (x : Slot) : M Unit := fun s => .ok ((), { s with e := s.e.set i x })
def Val.data : Val → M PyData
  | .dat d => M.pure d
  | .uni d => M.pure d
  | .sto _ => M.stuck
  | .tab _ _ => M.stuck
/-- an argument: what is new is shared from then on -/
def Val.arg : Val → Val
  | .uni d => .dat d
  | v => v
/-- an operand's content, now -/
def Opd.now : Opd → M PyData
  | .val d => M.pure d
  | .slot i => fun s => match s.e[i]? with
    | some (.val d) => .ok (d, s)
    | some (.own d) => .ok (d, s)
    | _ => .stuck
def lift {α : Type} (r : Option α) : M α := match r with
  | some a => M.pure a
  | none => M.stuck
def slotOpd (i : Nat) : M Opd := fun s => match s.e[i]? with
  | some (.val _) => .ok (.slot i, s)
  | some (.own _) => .ok (.slot i, s)
  | _ => .stuck

inductive Flow where
  | nx | brk | cnt | ret (v : Val)

/-! ### operations upon data -/
inductive O2 where
  | add | sub | mul | mod | fdiv | pow
  | eq | ne | lt | le | gt | ge | inn | nin | isN | notN
  | idx | min | max
  | get | index | count | isB | notB
inductive O1 where
  | len | tuple | list | sorted | srtset | int | str | repr | all | any | sum | neg
  | dict | maxl | minl | lenset | lvals | tvals | litems
def ints? : List PyData → Option (List Int)
  | [] => some []
  | .int i :: r => (ints? r).map (i :: ·)
  | _ => none
def bools? : List PyData → Option (List Bool)
  | [] => some []
  | .bool i :: r => (bools? r).map (i :: ·)
  | _ => none
def flat : PyData → Bool
  | .none => true
  | .bool _ => true
  | .int _ => true
  | .str _ => true
  | _ => false
/-- the ascending list of these ints -/
def ins (x : Int) : List Int → List Int
  | [] => [x]
  | y :: r => if x ≤ y then x :: y :: r else y :: ins x r
def isort : List Int → List Int
  | [] => []
  | x :: r => ins x (isort r)
/-- .. each once -/
def insU (x : Int) : List Int → List Int
  | [] => [x]
  | y :: r => if x < y then x :: y :: r else if x = y then y :: r else y :: insU x r
def usort : List Int → List Int
  | [] => []
  | x :: r => insU x (usort r)
/-- the stable sort by an order -/
def insB {α : Type} (le : α → α → Bool) (x : α) : List α → List α
  | [] => [x]
  | y :: r => if le x y = true then x :: y :: r else y :: insB le x r
def sortB {α : Type} (le : α → α → Bool) : List α → List α
  | [] => []
  | x :: r => insB le x (sortB le r)
def leD (a b : PyData) : Bool := !PySem.W.dataLt b a
def isTupC : PyData → Bool
  | .tuple (_ :: _) => true
  | _ => false
def isPlain1 : PyData → Bool
  | .none => false
  | .tuple _ => false
  | _ => true
def sort? (ds : List PyData) : Option (List PyData) :=
  if (ds.all fun d => ds.all fun e => PySem.W.alike d e) && (ds.all isTupC || ds.all isPlain1) && SeqAt.shaped (.list ds) && decide (ds.length ≤ 16777216) then some (sortB leD ds) else none
def SZ : Nat := 16777216
def ofInts (l : List Int) : List PyData := l.map .int
def seq? : PyData → Option (List PyData)
  | .list ds => some ds
  | .tuple ds => some ds
  | _ => none
/-! dicts: keys ints and texts -/
def isKey : PyData → Bool
  | .int _ => true
  | .str _ => true
  | _ => false
def keyEq : PyData → PyData → Bool
  | .int a, .int b => decide (a = b)
  | .str a, .str b => decide (a = b)
  | _, _ => false
def dGet (es : List (PyData × PyData)) (k : PyData) : Option PyData := (es.find? fun p => keyEq p.1 k).map (·.2)
def dPut (es : List (PyData × PyData)) (k v : PyData) : List (PyData × PyData) :=
  if (es.any fun p => keyEq p.1 k) = true then es.map (fun p => if keyEq p.1 k = true then (p.1, v) else p) else es ++ [(k, v)]
def pairs? : List PyData → Option (List (PyData × PyData))
  | [] => some []
  | .tuple [k, v] :: r => if isKey k = true then (pairs? r).map ((k, v) :: ·) else none
  | _ => none
def pairUp : List PyData → Option (List (PyData × PyData))
  | [] => some []
  | k :: v :: r => if isKey k = true then (pairUp r).map ((k, v) :: ·) else none
  | _ => none
def dMerge (es : List (PyData × PyData)) : List (PyData × PyData) → List (PyData × PyData)
  | [] => es
  | p :: r => dMerge (dPut es p.1 p.2) r
def strD (c : Nat) : PyData := .str ⟨#[c]⟩
/-- the place of the first one that is equal -/
def findD (x : PyData) : List PyData → Option Nat
  | [] => none
  | y :: r => if PyData.eqv y x = true then some 0 else (findD x r).map (· + 1)
/-- x in ys -/
def inD (x : PyData) (ys : List PyData) : Bool := ys.any fun y => PyData.eqv y x
def in? (x : PyData) : PyData → Option Bool
  | .list ds => if SeqAt.shaped x && SeqAt.shaped (.list ds) then some (inD x ds) else none
  | .tuple ds => if SeqAt.shaped x && SeqAt.shaped (.tuple ds) then some (inD x ds) else none
  | .str z => match x with
    | .str c => some (!(Builtin.Str.occurrences z c 0 z.length 1).isEmpty)
    | _ => none
  | .dict es => if isKey x = true then some (dGet es x).isSome else none
  | _ => none
def isNone : PyData → Bool
  | .none => true
  | _ => false
def O2.den : O2 → PyData → PyData → Option Val
  | .add, .int a, .int b => some (.dat (.int (a + b)))
  | .add, .list a, .list b => if a.length + b.length ≤ SZ then some (.uni (.list (a ++ b))) else none
  | .add, .tuple a, .tuple b => if a.length + b.length ≤ SZ then some (.dat (.tuple (a ++ b))) else none
  | .add, .str a, .str b => if a.length + b.length ≤ SZ then some (.dat (.str (a ++ b))) else none
  | .sub, .int a, .int b => some (.dat (.int (a - b)))
  | .mul, .int a, .int b => if (-(2 ^ 64) < a ∧ a < 2 ^ 64) ∨ (-(2 ^ 64) < b ∧ b < 2 ^ 64) then some (.dat (.int (a * b))) else none
  | .mul, .tuple a, .int k => if a ≠ [] ∧ 2 ≤ k ∧ k ≤ 1000 ∧ a.length ≤ 1000 then some (.dat (.tuple (List.replicate k.toNat a).flatten)) else none
  | .mod, .int a, .int b => if 0 < b then some (.dat (.int (a % b))) else none
  | .fdiv, .int a, .int b => if 0 < b ∧ b < 1073741824 then some (.dat (.int (a / b))) else none
  | .pow, .int a, .int b => if 0 ≤ b ∧ b ≤ 1000000 ∧ a.natAbs < 2 ^ 64 then some (.dat (.int (a ^ b.toNat))) else none
  | .eq, .str a, .str b => some (.dat (.bool (decide (a = b))))
  | .ne, .str a, .str b => some (.dat (.bool (!decide (a = b))))
  | .eq, a, b => if SeqAt.shaped a && SeqAt.shaped b then some (.dat (.bool (PyData.eqv a b))) else none
  | .ne, a, b => if SeqAt.shaped a && SeqAt.shaped b then some (.dat (.bool (!PyData.eqv a b))) else none
  | .lt, .str a, .str b => some (.dat (.bool (decide (a.cps.toList < b.cps.toList))))
  | .le, .str a, .str b => some (.dat (.bool (!decide (b.cps.toList < a.cps.toList))))
  | .lt, .int a, .int b => some (.dat (.bool (decide (a < b))))
  | .le, .int a, .int b => some (.dat (.bool (decide (a ≤ b))))
  | .gt, .int a, .int b => some (.dat (.bool (decide (b < a))))
  | .ge, .int a, .int b => some (.dat (.bool (decide (b ≤ a))))
  | .inn, a, b => (in? a b).map fun r => .dat (.bool r)
  | .nin, a, b => (in? a b).map fun r => .dat (.bool (!r))
  | .isN, a, .none => some (.dat (.bool (isNone a)))
  | .notN, a, .none => some (.dat (.bool (!isNone a)))
  | .isB, .bool a, .bool b => some (.dat (.bool (decide (a = b))))
  | .notB, .bool a, .bool b => some (.dat (.bool (!decide (a = b))))
  | .idx, .list a, .int i => (L2.atI a i).map .dat
  | .idx, .tuple a, .int i => (L2.atI a i).map .dat
  | .idx, .str z, .int i => if z.length ≤ SZ then (L2.atI z.cps.toList i).map fun c => .dat (strD c) else none
  | .idx, .dict es, k => if isKey k = true then (dGet es k).map .dat else none
  | .get, .dict es, k => if isKey k = true then some (.dat ((dGet es k).getD .none)) else none
  | .index, .list a, x => if SeqAt.shaped (.list a) && SeqAt.shaped x then (findD x a).map fun i => .dat (.int (i : Nat)) else none
  | .count, .list a, x => if SeqAt.shaped (.list a) && SeqAt.shaped x then some (.dat (.int ((a.filter fun y => PyData.eqv y x).length : Nat))) else none
  | .min, .int a, .int b => some (.dat (.int (if b < a then b else a)))
  | .max, .int a, .int b => some (.dat (.int (if b > a then b else a)))
  | _, _, _ => none
/-- each once -/
def addQ {α : Type} [DecidableEq α] (l : List α) (k : α) : List α := if k ∈ l then l else l ++ [k]
def distQ {α : Type} [DecidableEq α] (l : List α) : List α := l.foldl addQ []
def keysQ : List PyData → Option (List L2.Key)
  | [] => some []
  | .int i :: r => (keysQ r).map (Sum.inl i :: ·)
  | .str x :: r => (keysQ r).map (Sum.inr x :: ·)
  | _ => none
/-! tables: keys are tuples of such, nested -/
mutual
def nk? : PyData → Option NestedKey
  | .none => some .none
  | .int i => some (.num i)
  | .str x => some (.text x)
  | .tuple ds => (nks? ds).map .tup
  | _ => none
def nks? : List PyData → Option (List NestedKey)
  | [] => some []
  | d :: ds => (nk? d).bind fun k => (nks? ds).map (k :: ·)
end
/-- a table's key -/
def isTK : PyData → Bool
  | .tuple ds => match nk? (.tuple ds) with
    | some k => decide (k.depth ≤ 8)
    | none => false
  | _ => false
def tGet (es : List (PyData × PyData)) (k : PyData) : Option PyData := (es.find? fun p => PyData.eqv p.1 k).map (·.2)
def tPut (es : List (PyData × PyData)) (k v : PyData) : List (PyData × PyData) :=
  if (es.any fun p => PyData.eqv p.1 k) = true then es.map (fun p => if PyData.eqv p.1 k = true then (p.1, v) else p) else es ++ [(k, v)]
/-- the least of some alike data -/
def minL? : List PyData → Option Val
  | [] => none
  | x :: xs => if ((x :: xs).all fun d => (x :: xs).all fun e => PySem.W.alike d e) && ((x :: xs).all fun d => !isNone d) && SeqAt.shaped (.list (x :: xs)) then some (.dat (PySem.W.minD x xs)) else none
def O1.den : O1 → PyData → Option Val
  | .len, .list a => some (.dat (.int a.length))
  | .len, .tuple a => some (.dat (.int a.length))
  | .len, .dict a => some (.dat (.int a.length))
  | .list, .dict a => some (.uni (.list (a.map (·.1))))
  | .lvals, .dict a => some (.uni (.list (a.map (·.2))))
  | .tvals, .dict a => some (.dat (.tuple (a.map (·.2))))
  | .litems, .dict a => some (.uni (.list (a.map fun p => .tuple [p.1, p.2])))
  | .dict, .list a => (pairs? a).map fun es => .uni (.dict (dMerge [] es))
  | .dict, .dict es => some (.uni (.dict es))
  | .len, .str a => if a.length ≤ SZ then some (.dat (.int a.length)) else none
  | .tuple, .list a => some (.dat (.tuple a))
  | .tuple, .tuple a => some (.dat (.tuple a))
  | .list, .list a => some (.uni (.list a))
  | .list, .tuple a => some (.uni (.list a))
  | .sorted, .list a => (sort? a).map fun l => .uni (.list l)
  | .sorted, .tuple a => (sort? a).map fun l => .uni (.list l)
  | .srtset, .list a => (ints? a).bind fun l => if l.length < 64 then some (.uni (.list (ofInts (usort l)))) else none
  | .int, .int a => some (.dat (.int a))
  | .int, .bool b => some (.dat (.int (if b then 1 else 0)))
  | .str, .int a => if a.natAbs.log2 < 1920 then some (.dat (.str (toString a : Str))) else none
  | .repr, d => if SeqAt.shaped d && d.showable && decide (d.shown.length ≤ SZ) then some (.dat (.str d.shown)) else none
  | .all, .list a => (bools? a).map fun l => .dat (.bool (l.all id))
  | .any, .list a => (bools? a).map fun l => .dat (.bool (l.any id))
  | .sum, .list a => (ints? a).map fun l => .dat (.int l.sum)
  | .neg, .int a => some (.dat (.int (-a)))
  | .maxl, .list a => (ints? a).bind fun l => match l with
    | [] => none
    | x :: r => some (.dat (.int (r.foldl (fun m y => if y > m then y else m) x)))
  | .minl, .list a => minL? a
  | .lenset, .tuple a => (keysQ a).bind fun l => if l.length < 64 then some (.dat (.int (distQ l).length)) else none
  | _, _ => none
def O2.recv : O2 → PyData → Bool
  | .get, .dict _ => true
  | .index, .list _ => true
  | .count, .list _ => true
  | _, _ => false
def cutD (xs : List PyData) (lo hi : Option Int) : List PyData := (xs.drop (HT.sIx xs.length 0 lo)).take (HT.sIx xs.length xs.length hi - HT.sIx xs.length 0 lo)
def slcD (d : PyData) (lo hi : Option Int) : Option Val := match d with
  | .list xs => some (.uni (.list (cutD xs lo hi)))
  | .tuple xs => some (.dat (.tuple (cutD xs lo hi)))
  | _ => none
def revD : PyData → Option Val
  | .list xs => some (.uni (.list xs.reverse))
  | .tuple xs => some (.dat (.tuple xs.reverse))
  | _ => none
def rgD (a b : Int) : List PyData := (List.range (b - a).toNat).map fun (i : Nat) => .int (a + i)
def rgOk (a b : Int) : Bool := decide (-(2 ^ 62) ≤ a ∧ a < 2 ^ 62 ∧ -(2 ^ 62) ≤ b ∧ b < 2 ^ 62 ∧ (b - a).toNat ≤ 2 ^ 24)
/-- range(a, b, -1) -/
def rgN (a b : Int) : List PyData := (List.range (a - b).toNat).map fun (i : Nat) => .int (a + (i : Nat) * (-1))
/-- a[:i:-1] -/
def sldD : PyData → Int → Option Val
  | .list ds, i => if 0 ≤ i then some (.uni (.list (ds.drop (i.toNat + 1)).reverse)) else none
  | _, _ => none
def tyOf : PyData → String
  | .none => "NoneType"
  | .bool _ => "bool"
  | .int _ => "int"
  | .str _ => "str"
  | .list _ => "list"
  | .tuple _ => "tuple"
  | .dict _ => "dict"
/-! ### the language -/
inductive Tg where
  | name (i : Nat)
  | tup (ts : List Tg)
mutual
inductive Ex where
  | num (i : Int)
  | str (x : Str)
  | bl (b : Bool)
  | non
  | var (i : Nat)
  | tup (es : List Ex)
  | lst (es : List Ex)
  | dic (ks : List Str) (es : List Ex)
  | o1 (o : O1) (a : Ex)
  | o2 (o : O2) (a b : Ex)
  | slc (a : Ex) (lo hi : Option Ex)
  | rev (a : Ex)
  | sld (a hi : Ex)
  | not (a : Ex)
  | and (a b : Ex)
  | or (a b : Ex)
  | ife (c a b : Ex)
  | isi (a : Ex) (t : String)
  | lrng (tup : Bool) (a b : Option Ex)
  | call (f : Str) (g : Fn) (es : List Ex) (ks : List Str) (gs : List Ex)
  | lc (own : List Nat) (elt : Ex) (t : Tg) (it : It) (c : Option Ex)
  | dc (own : List Nat) (key elt : Ex) (t : Tg) (it : It) (c : Option Ex)
  | dnew
  | chn (o o' : O2) (a b c : Ex)
  | mt (o : O2) (a b : Ex)
  | get2 (a b c : Ex)
  | gtup (ds : List PyData)
  | pur (e : Ex)
  | rep (es : List Ex) (e : Ex)
  | tupS (a : Ex) (es : List Ex)
  | pop (i : Nat) (e : Ex)
  | fget (i : Nat) (k : Str)
  | tget (w : World) (i : Nat) (k : Ex)
  | tgetd (w : World) (i : Nat) (k z : Ex)
  | tin (w : World) (neg : Bool) (i : Nat) (k : Ex)
  | tkeys (i : Nat)
  | tvals (i : Nat)
  | tsrt (i : Nat)
  | tmt (w : World)
  | tone (w : World) (k e : Ex)
  | tmv (i : Nat)
  | disp (tup : Bool) (bs : List Bool) (es : List Ex)
  | lc2 (own own2 : List Nat) (elt : Ex) (t : Tg) (it : It) (c : Option Ex) (t2 : Tg) (it2 : It) (c2 : Option Ex)
  | dicv (es : List Ex)
  | pop0 (i : Nat)
inductive It where
  | ofE (e : Ex)
  | rng (a b : Option Ex)
  | rngd (a b : Ex)
  | enu (e : Ex)
  | zip (a b : Ex)
  | titems (i : Nat)
end
inductive Sm where
  | asg (i : Nat) (e : Ex)
  | unp (t : Tg) (e : Ex)
  | par (is : List Nat) (es : List Ex)
  | app (i : Nat) (e : Ex)
  | ext (i : Nat) (e : Ex)
  | fset (i : Nat) (k : Str) (e : Ex)
  | dset (i : Nat) (k e : Ex)
  | aug (i : Nat) (e : Ex)
  | whl (c : Ex) (b : List Sm)
  | brk
  | cnt
  | ife (c : Ex) (a b : List Sm)
  | for_ (t : Tg) (it : It) (b : List Sm)
  | ret (e : Ex)
  | retv (i : Nat)
  | expr (e : Ex)
  | tset (w : World) (i : Nat) (k e : Ex)
  | dead
end Fb

namespace Fb
open PySem
noncomputable section
open Classical in
instance instDecWorld : DecidableEq World := fun a b => propDecidable (a = b)
/-- an operand: a name stands for its slot -/
def opd (e : Ex) (r : M Val) : M Opd := match e with
  | .var i => slotOpd i
  | _ => r.bind fun v => v.data.bind fun d => M.pure (.val d)
def isTrueV : Val → M Bool
  | .dat (.bool b) => M.pure b
  | _ => M.stuck
def intV : Val → M Int
  | .dat (.int b) => M.pure b
  | _ => M.stuck
mutual
def asg : Tg → PyData → M Unit
  | .name i, d => setS i (.val d)
  | .tup ts, .tuple ds => asgs ts ds
  | .tup ts, .list ds => asgs ts ds
  | _, _ => M.stuck
def asgs : List Tg → List PyData → M Unit
  | [], [] => M.pure ()
  | t :: ts, d :: ds => (asg t d).bind fun _ => asgs ts ds
  | _, _ => M.stuck
end
def wipeS (e : List Slot) : List Nat → List Slot
  | [] => e
  | v :: vs => (wipeS e vs).set v .unset
/-- the block's own names as they were outside -/
def merge (e e' : List Slot) : List Nat → List Slot
  | [] => e'
  | v :: vs => (merge e e' vs).set v (e.getD v .unset)
def isOwn : Slot → Bool
  | .own _ => true
  | .tab _ _ => true
  | _ => false
def wipeM (own : List Nat) : M Unit := fun s => .ok ((), { s with e := wipeS s.e own })
/-- a comprehension's turns -/
def lcGo (own : List Nat) (body : PyData → M (Option PyData)) : List PyData → M (List PyData)
  | [] => M.pure []
  | d :: ds => (wipeM own).bind fun _ => (body d).bind fun r => (lcGo own body ds).bind fun rs => M.pure (match r with
    | some x => x :: rs
    | none => rs)
def lcAll (own : List Nat) (body : PyData → M (Option PyData)) (ds : List PyData) : M Val := fun s =>
  if (own.any fun i => isOwn (s.e.getD i .unset)) = true then .stuck else match lcGo own body ds s with
    | .ok (rs, s') => if ds.length ≤ SZ then .ok (.uni (.list rs), ⟨merge s.e s'.e own, s'.m⟩) else .stuck
    | .exc c fs => .exc c fs
    | .stuck => .stuck
/-- a dict comprehension's turns -/
def dcGo (own : List Nat) (body : PyData → M (Option (PyData × PyData))) : List (PyData × PyData) → List PyData → M (List (PyData × PyData))
  | acc, [] => M.pure acc
  | acc, d :: ds => (wipeM own).bind fun _ => (body d).bind fun r => match r with
    | some p => if isKey p.1 = true then dcGo own body (dPut acc p.1 p.2) ds else M.stuck
    | none => dcGo own body acc ds
def dcAll (own : List Nat) (body : PyData → M (Option (PyData × PyData))) (ds : List PyData) : M Val := fun s =>
  if (own.any fun i => isOwn (s.e.getD i .unset)) = true then .stuck else match dcGo own body [] ds s with
    | .ok (rs, s') => if ds.length ≤ SZ then .ok (.uni (.dict rs), ⟨merge s.e s'.e own, s'.m⟩) else .stuck
    | .exc c fs => .exc c fs
    | .stuck => .stuck
def recvM (o : O2) (d : PyData) : M Unit := if o.recv d = true then M.pure () else M.stuck
def get2D (d k z : PyData) : Option Val := match d with
  | .dict es => if isKey k = true then some (.dat ((dGet es k).getD z)) else none
  | _ => none
def enumD : Nat → List PyData → List PyData
  | _, [] => []
  | n, d :: ds => .tuple [.int n, d] :: enumD (n + 1) ds
def zipD : List PyData → List PyData → List PyData
  | a :: as, b :: bs => .tuple [a, b] :: zipD as bs
  | _, _ => []
def list? : PyData → Option (List PyData)
  | .list ds => some ds
  | _ => none
def itemsOf : PyData → Option (List PyData)
  | .list ds => some ds
  | .tuple ds => some ds
  | .str z => some (z.cps.toList.map strD)
  | _ => none
def zip? : PyData → PyData → Option (List PyData)
  | .list a, .list b => some (zipD a b)
  | .tuple a, .tuple b => some (zipD a b)
  | _, _ => none
def callFn (g : Fn) (vs : List Val) : M Val := fun s => match g vs s.m with
  | .ok (v, m) => .ok (v, { s with m := m })
  | .exc c fs => .exc c fs
  | .stuck => .stuck
/-- the name holds a list of its own -/
def ownChk (i : Nat) : M Unit := fun s => match s.e[i]? with
  | some (.own (.list _)) => .ok ((), s)
  | _ => .stuck
def uniL : Val → M (List PyData)
  | .uni (.list ds) => M.pure ds
  | _ => M.stuck
def popAt (i : Nat) (k : Int) : M Val := fun s => match s.e[i]? with
  | some (.own (.list ds)) => match seqIndex? k ds.length with
    | some j => match ds[j]? with
      | some d => if -(2 ^ 63) ≤ k ∧ k < 2 ^ 63 then .ok (.dat d, { s with e := s.e.set i (.own (.list (ds.eraseIdx j))) }) else .stuck
      | none => .stuck
    | none => .stuck
  | _ => .stuck
def fgetM (i : Nat) (k : Str) : M Val := fun s => match s.e[i]? with
  | some (.sto n) => match s.m[n]? with
    | some kvs => match kvs.lookup k with
      | some d => .ok (.dat d, s)
      | none => .stuck
    | none => .stuck
  | _ => .stuck
def putKV (k : Str) (d : PyData) (kvs : List (Str × PyData)) : List (Str × PyData) := kvs.map fun p => if p.1 = k then (p.1, d) else p
def fsetM (i : Nat) (k : Str) (d : PyData) : M Unit := fun s => match s.e[i]? with
  | some (.sto n) => match s.m[n]? with
    | some kvs => match kvs.lookup k with
      | some _ => if kvs.length < 1000 then .ok ((), { s with m := s.m.set n (putKV k d kvs) }) else .stuck
      | none => .stuck
    | none => .stuck
  | _ => .stuck
def appM (i : Nat) (d : PyData) : M Unit := fun s => match s.e[i]? with
  | some (.own (.list ds)) => if ds.length < SZ then .ok ((), { s with e := s.e.set i (.own (.list (ds ++ [d]))) }) else .stuck
  | _ => .stuck
def extM (i : Nat) (es : List PyData) : M Unit := fun s => match s.e[i]? with
  | some (.own (.list ds)) => if ds.length + es.length ≤ SZ then .ok ((), { s with e := s.e.set i (.own (.list (ds ++ es))) }) else .stuck
  | _ => .stuck
def dictChk (i : Nat) : M Unit := fun s => match s.e[i]? with
  | some (.own (.dict _)) => .ok ((), s)
  | _ => .stuck
def dputM (i : Nat) (k d : PyData) : M Unit := fun s => match s.e[i]? with
  | some (.own (.dict es)) => if isKey k = true ∧ es.length < SZ then .ok ((), { s with e := s.e.set i (.own (.dict (dPut es k d))) }) else .stuck
  | _ => .stuck
def repM (ds : List PyData) (k : Int) : M Val := if -(2 ^ 63) ≤ k ∧ k < 2 ^ 63 ∧ ds.length * k.toNat ≤ SZ then M.pure (.uni (.list (List.replicate k.toNat ds).flatten)) else M.stuck
def augM (i : Nat) (a b : Int) : M Unit := setS i (.val (.int (a + b)))
def intS (i : Nat) : M Int := fun s => match s.e[i]? with
  | some (.val (.int a)) => .ok (a, s)
  | _ => .stuck
/-- what is seen of a name while nothing is changed -/
def roS : Slot → Slot
  | .own d => .val d
  | .sto _ => .unset
  | .tab _ _ => .unset
  | x => x
mutual
def pureD : PyData → Bool
  | .none => true
  | .bool _ => true
  | .int _ => true
  | .str _ => true
  | .tuple ds => pureAll ds
  | _ => false
def pureAll : List PyData → Bool
  | [] => true
  | d :: ds => pureD d && pureAll ds
end
def pureKV : List (PyData × PyData) → Bool
  | [] => true
  | p :: r => pureD p.2 && pureKV r
def pureV : Val → Bool
  | .dat d => pureD d
  | .uni (.list ds) => pureAll ds
  | .uni (.dict es) => pureKV es
  | _ => false
def purM (x : M Val) : M Val := fun s => match x ⟨s.e.map roS, []⟩ with
  | .ok (v, _) => if pureV v = true then .ok (v, s) else .stuck
  | .exc c fs => .exc c fs
  | .stuck => .stuck
/-- a table's entries -/
def tabM (i : Nat) : M (List (PyData × PyData)) := fun s => match s.e[i]? with
  | some (.tab _ es) => .ok (es, s)
  | _ => .stuck
/-- .. made in this world -/
def tabW (w : World) (i : Nat) : M (List (PyData × PyData)) := fun s => match s.e[i]? with
  | some (.tab w' es) => if w' = w then .ok (es, s) else .stuck
  | _ => .stuck
def tkM (d : PyData) : M Unit := if isTK d = true then M.pure () else M.stuck
/-- a comprehension of two clauses -/
def lc2Go (own : List Nat) (body : PyData → M (List PyData)) : List PyData → M (List PyData)
  | [] => M.pure []
  | d :: ds => (wipeM own).bind fun _ => (body d).bind fun rs => (lc2Go own body ds).bind fun rest => M.pure (rs ++ rest)
def lc2All (own : List Nat) (body : PyData → M (List PyData)) (ds : List PyData) : M Val := fun s =>
  if (own.any fun i => isOwn (s.e.getD i .unset)) = true then .stuck else match lc2Go own body ds s with
    | .ok (rs, s') => if rs.length ≤ SZ then .ok (.uni (.list rs), ⟨merge s.e s'.e own, s'.m⟩) else .stuck
    | .exc c fs => .exc c fs
    | .stuck => .stuck
def tputM (w : World) (i : Nat) (k v : PyData) : M Unit := fun s => match s.e[i]? with
  | some (.tab w' es) => if w' = w ∧ es.length < SZ then .ok ((), { s with e := s.e.set i (.tab w (tPut es k v)) }) else .stuck
  | _ => .stuck
/-- a table is moved out of its name -/
def tmvM (i : Nat) : M Val := fun s => match s.e[i]? with
  | some (.tab w es) => .ok (.tab w es, { s with e := s.e.set i .unset })
  | _ => .stuck
/-- a table is no argument -/
def argsM (v : Val) (vs : List Val) : M (List Val) := match v with
  | .tab _ _ => M.stuck
  | v => M.pure (v.arg :: vs)
def tabPairs : Val → M (List PyData)
  | .tab _ es => M.pure (es.map fun p => .tuple [p.1, p.2])
  | _ => M.stuck
mutual
def evE : Ex → M Val
  | .num i => M.pure (.dat (.int i))
  | .str x => M.pure (.dat (.str x))
  | .bl b => M.pure (.dat (.bool b))
  | .non => M.pure (.dat .none)
  | .var i => rdVar i
  | .tup es => (evEs es).bind fun ds => M.pure (.dat (.tuple ds))
  | .lst es => (evEs es).bind fun ds => M.pure (.uni (.list ds))
  | .dic ks es => (evEs es).bind fun ds => M.pure (.uni (.dict ((ks.map PyData.str).zip ds)))
  | .o1 o a => (opd a (evE a)).bind fun x => x.now.bind fun d => lift (o.den d)
  | .o2 o a b => (opd a (evE a)).bind fun x => (opd b (evE b)).bind fun y => x.now.bind fun d => y.now.bind fun e => lift (o.den d e)
  | .slc a lo hi => (opd a (evE a)).bind fun x => (evP lo).bind fun l => (evP hi).bind fun h => x.now.bind fun d => lift (slcD d l h)
  | .rev a => (opd a (evE a)).bind fun x => x.now.bind fun d => lift (revD d)
  | .sld a h => (opd a (evE a)).bind fun x => (evE h).bind fun v => (intV v).bind fun i => x.now.bind fun d => lift (sldD d i)
  | .not a => (evE a).bind fun v => (isTrueV v).bind fun b => M.pure (.dat (.bool (!b)))
  | .and a b => (evE a).bind fun v => (isTrueV v).bind fun c => if c then evE b else M.pure (.dat (.bool false))
  | .or a b => (evE a).bind fun v => (isTrueV v).bind fun c => if c then M.pure (.dat (.bool true)) else evE b
  | .ife c a b => (evE c).bind fun v => (isTrueV v).bind fun c => if c then evE a else evE b
  | .isi a t => (opd a (evE a)).bind fun x => x.now.bind fun d => lift ((L2.kitB (tyOf d) t).map fun b => .dat (.bool b))
  | .lrng tp a b => (evP a).bind fun l => (evP b).bind fun h =>
      let lo := if h.isSome then l.getD 0 else 0
      let hi := if h.isSome then h.getD 0 else l.getD 0
      if rgOk lo hi then M.pure (if tp then .dat (.tuple (rgD lo hi)) else .uni (.list (rgD lo hi))) else M.stuck
  | .call _ g es _ gs => (evVs es).bind fun vs => (evVs gs).bind fun ws => callFn g (vs ++ ws)
  | .lc own elt t it c => (evIt it).bind fun ds => lcAll own (fun d => (asg t d).bind fun _ => (evC c).bind fun b => if b then (evE elt).bind fun v => v.data.bind fun r => M.pure (some r) else M.pure none) ds
  | .dc own key elt t it c => (evIt it).bind fun ds => dcAll own (fun d => (asg t d).bind fun _ => (evC c).bind fun b => if b then (evE key).bind fun kv => kv.data.bind fun k => (evE elt).bind fun v => v.data.bind fun r => M.pure (some (k, r)) else M.pure none) ds
  | .dnew => M.pure (.uni (.dict []))
  | .chn o o' a b c => (opd a (evE a)).bind fun x => (opd b (evE b)).bind fun y => x.now.bind fun d => y.now.bind fun e => (lift (o.den d e)).bind fun v => (isTrueV v).bind fun t =>
      if t then (opd c (evE c)).bind fun z => y.now.bind fun e => z.now.bind fun g => lift (o'.den e g) else M.pure (.dat (.bool false))
  | .mt o a b => (opd a (evE a)).bind fun x => x.now.bind fun d0 => (recvM o d0).bind fun _ => (opd b (evE b)).bind fun y => x.now.bind fun d => y.now.bind fun e => lift (o.den d e)
  | .get2 a b c => (opd a (evE a)).bind fun x => x.now.bind fun d0 => (recvM .get d0).bind fun _ => (opd b (evE b)).bind fun y => (evE c).bind fun v => v.data.bind fun z => x.now.bind fun d => y.now.bind fun k => lift (get2D d k z)
  | .gtup ds => M.pure (.dat (.tuple ds))
  | .pur e => purM (evE e)
  | .rep es e => (evEs es).bind fun ds => (evE e).bind fun v => (intV v).bind fun k => repM ds k
  | .tupS a es => (evE a).bind fun v => v.data.bind fun d => (lift (seq? d)).bind fun xs => (evEs es).bind fun ds => if xs.length + ds.length ≤ SZ then M.pure (.dat (.tuple (xs ++ ds))) else M.stuck
  | .pop i e => (ownChk i).bind fun _ => (evE e).bind fun v => (intV v).bind fun k => popAt i k
  | .fget i k => fgetM i k
  | .tget w i k => (tabM i).bind fun _ => (evE k).bind fun v => v.data.bind fun d => (tkM d).bind fun _ => (tabW w i).bind fun es => lift ((tGet es d).map .dat)
  | .tgetd w i k z => (tabM i).bind fun _ => (evE k).bind fun v => v.data.bind fun d => (tkM d).bind fun _ => (evE z).bind fun y => y.data.bind fun c => (tabW w i).bind fun es => M.pure (.dat ((tGet es d).getD c))
  | .tin w neg i k => (evE k).bind fun v => v.data.bind fun d => (tkM d).bind fun _ => (tabW w i).bind fun es => M.pure (.dat (.bool (if neg then !(tGet es d).isSome else (tGet es d).isSome)))
  | .tkeys i => (tabM i).bind fun es => M.pure (.uni (.list (es.map (·.1))))
  | .tvals i => (tabM i).bind fun es => M.pure (.uni (.list (es.map (·.2))))
  | .tsrt i => (tabM i).bind fun es => lift ((sort? (es.map (·.1))).map fun l => .uni (.list l))
  | .tmt w => M.pure (.tab w [])
  | .tone w k e => (evE k).bind fun v => v.data.bind fun d => (tkM d).bind fun _ => (evE e).bind fun y => y.data.bind fun c => M.pure (.tab w [(d, c)])
  | .tmv i => tmvM i
  | .disp tp bs es => (evDs bs es).bind fun ds => if ds.length ≤ SZ then M.pure (if tp then .dat (.tuple ds) else .uni (.list ds)) else M.stuck
  | .lc2 own own2 elt t it c t2 it2 c2 => (evIt it).bind fun ds => lc2All own (fun d => (asg t d).bind fun _ => (evC c).bind fun b => if b then (evIt it2).bind fun ds2 => lcGo own2 (fun d => (asg t2 d).bind fun _ => (evC c2).bind fun b => if b then (evE elt).bind fun v => v.data.bind fun r => M.pure (some r) else M.pure none) ds2 else M.pure []) ds
  | .dicv es => (evEs es).bind fun ds => (lift (pairUp ds)).bind fun kvs => if kvs.length ≤ 15 then M.pure (.uni (.dict (dMerge [] kvs))) else M.stuck
  | .pop0 i => (ownChk i).bind fun _ => popAt i (-1)
/-- data, each -/
def evEs : List Ex → M (List PyData)
  | [] => M.pure []
  | e :: es => (evE e).bind fun v => v.data.bind fun d => (evEs es).bind fun ds => M.pure (d :: ds)
/-- a display's parts, some of them starred -/
def evDs : List Bool → List Ex → M (List PyData)
  | [], [] => M.pure []
  | b :: bs, e :: es => (evE e).bind fun v => v.data.bind fun d => (lift (if b then seq? d else some [d])).bind fun xs => (evDs bs es).bind fun ds => M.pure (xs ++ ds)
  | _, _ => M.stuck
/-- arguments -/
def evVs : List Ex → M (List Val)
  | [] => M.pure []
  | e :: es => (evE e).bind fun v => (evVs es).bind fun vs => argsM v vs
/-- a part of a slice -/
def evP : Option Ex → M (Option Int)
  | none => M.pure none
  | some e => (evE e).bind fun v => (intV v).bind fun i => M.pure (some i)
/-- a clause's test -/
def evC : Option Ex → M Bool
  | none => M.pure true
  | some e => (evE e).bind isTrueV
def evIt : It → M (List PyData)
  | .ofE e => (evE e).bind fun v => v.data.bind fun d => lift (itemsOf d)
  | .rng a b => (evP a).bind fun l => (evP b).bind fun h =>
      let lo := if h.isSome then l.getD 0 else 0
      let hi := if h.isSome then h.getD 0 else l.getD 0
      if rgOk lo hi then M.pure (rgD lo hi) else M.stuck
  | .rngd a b => (evE a).bind fun v => (intV v).bind fun i => (evE b).bind fun w => (intV w).bind fun j => if rgOk j i then M.pure (rgN i j) else M.stuck
  | .enu e => (evE e).bind fun v => v.data.bind fun d => (lift (seq? d)).bind fun ds => M.pure (enumD 0 ds)
  | .zip a b => (evE a).bind fun v => v.data.bind fun d => (evE b).bind fun w => w.data.bind fun e => lift (zip? d e)
  | .titems i => (tmvM i).bind fun v => tabPairs v
end
def parGo : List Nat → List Val → M Unit
  | [], [] => M.pure ()
  | i :: is, v :: vs => (setS i (slotOf v)).bind fun _ => parGo is vs
  | _, _ => M.stuck
/-- values for a parallel assignment: new lists stay new -/
def evUs : List Ex → M (List Val)
  | [] => M.pure []
  | e :: es => (evE e).bind fun v => (evUs es).bind fun vs => M.pure (v :: vs)
/-- a loop's turns -/
def forGo (body : PyData → M Flow) : List PyData → M Flow
  | [] => M.pure .nx
  | d :: ds => (body d).bind fun f => match f with
    | .nx => forGo body ds
    | .cnt => forGo body ds
    | .brk => M.pure .nx
    | .ret v => M.pure (.ret v)
def FUEL : Nat := 100000
/-- a while loop's turns -/
def whlGo (c : M Bool) (body : M Flow) : Nat → M Flow
  | 0 => M.stuck
  | n + 1 => c.bind fun t => if t then body.bind fun f => match f with
    | .nx => whlGo c body n
    | .cnt => whlGo c body n
    | .brk => M.pure .nx
    | .ret v => M.pure (.ret v) else M.pure .nx
mutual
def evS : Sm → M Flow
  | .asg i e => (evE e).bind fun v => (setS i (slotOf v)).bind fun _ => M.pure .nx
  | .unp t e => (evE e).bind fun v => v.data.bind fun d => (asg t d).bind fun _ => M.pure .nx
  | .par is es => (evUs es).bind fun vs => (parGo is vs).bind fun _ => M.pure .nx
  | .app i e => (ownChk i).bind fun _ => (evE e).bind fun v => v.data.bind fun d => (appM i d).bind fun _ => M.pure .nx
  | .ext i e => (ownChk i).bind fun _ => (evE e).bind fun v => (uniL v).bind fun ds => (extM i ds).bind fun _ => M.pure .nx
  | .fset i k e => (evE e).bind fun v => v.data.bind fun d => (fsetM i k d).bind fun _ => M.pure .nx
  | .dset i k e => (evE e).bind fun v => v.data.bind fun d => (dictChk i).bind fun _ => (evE k).bind fun kv => kv.data.bind fun k => (dputM i k d).bind fun _ => M.pure .nx
  | .aug i e => (intS i).bind fun a => (evE e).bind fun v => (intV v).bind fun b => (augM i a b).bind fun _ => M.pure .nx
  | .whl c b => whlGo ((evE c).bind isTrueV) (evSs b) FUEL
  | .brk => M.pure .brk
  | .cnt => M.pure .cnt
  | .ife c a b => (evE c).bind fun v => (isTrueV v).bind fun c => if c then evSs a else evSs b
  | .for_ t it b => (evIt it).bind fun ds => forGo (fun d => (asg t d).bind fun _ => evSs b) ds
  | .ret e => (evE e).bind fun v => M.pure (.ret v)
  | .retv i => (mvVar i).bind fun v => M.pure (.ret v)
  | .expr e => (evE e).bind fun _ => M.pure .nx
  | .tset w i k e => (evE e).bind fun y => y.data.bind fun c => (tabM i).bind fun _ => (evE k).bind fun v => v.data.bind fun d => (tkM d).bind fun _ => (tputM w i d c).bind fun _ => M.pure .nx
  | .dead => M.stuck
def evSs : List Sm → M Flow
  | [] => M.pure .nx
  | s :: ss => (evS s).bind fun f => match f with
    | .nx => evSs ss
    | f => M.pure f
end
/-- a def: its number of names, its body -/
def runFn (n : Nat) (b : List Sm) : Fn := fun vs m => match evSs b ⟨vs.map slotOf ++ List.replicate (n - vs.length) .unset, m⟩ with
  | .ok (.ret v, s) => .ok (v, s.m)
  | .ok (.nx, s) => .ok (.dat .none, s.m)
  | .ok (_, _) => .stuck
  | .exc c fs => .exc c fs
  | .stuck => .stuck
end
end Fb

namespace Fb
open PySem PySem.Spec PyProof.Rows L2
abbrev Own := Addr → Prop
abbrev Nil : Hp := fun _ => none
def OL (K : PySem.W.Frag) (O : Own) (H : Hp) (a : Addr) (xs : List V) : Prop := (¬ O a ∧ Rd H a (.lst xs)) ∨ SqL K Nil a xs
def OT (K : PySem.W.Frag) (O : Own) (H : Hp) (a : Addr) (xs : List V) : Prop := (¬ O a ∧ Rd H a (.tup xs)) ∨ SqT K Nil a xs
theorem sqL_nil {K : PySem.W.Frag} {H : Hp} {a : Addr} {xs : List V} (h : SqL K Nil a xs) : SqL K H a xs := by
  rcases h with (h | ⟨o, h⟩) | h
  · cases h
  · cases h
  · exact .inr h
theorem sqT_nil {K : PySem.W.Frag} {H : Hp} {a : Addr} {xs : List V} (h : SqT K Nil a xs) : SqT K H a xs := by
  rcases h with (h | ⟨o, h⟩) | h
  · cases h
  · cases h
  · exact .inr h
section
variable {K : PySem.W.Frag} {O : Own} {H : Hp} {a : Addr} {xs : List V}
theorem OL.sq (h : OL K O H a xs) : SqL K H a xs := h.elim (fun h => .inl h.2) sqL_nil
theorem OT.sq (h : OT K O H a xs) : SqT K H a xs := h.elim (fun h => .inl h.2) sqT_nil
end
def keyD : Key → PyData
  | .inl i => .int i
  | .inr x => .str x
mutual
inductive Rep (K : PySem.W.Frag) (O : Own) (H : Hp) : V → PyData → Prop
  | non : Rep K O H .non .none
  | bl (b : Bool) : Rep K O H (.bl b) (.bool b)
  | int (i : Int) : Rep K O H (.int i) (.int i)
  | str (x : Str) : Rep K O H (.str x) (.str x)
  | lst {a : Addr} {xs : List V} {ds : List PyData} : OL K O H a xs → RepAll K O H xs ds → Rep K O H (.ref a) (.list ds)
  | tup {a : Addr} {xs : List V} {ds : List PyData} : OT K O H a xs → RepAll K O H xs ds → Rep K O H (.ref a) (.tuple ds)
  | dic {a : Addr} {ks : List (Key × V)} {es : List (PyData × PyData)} : ¬ O a → H a = some (.dK ks) → RepKV K O H ks es → Rep K O H (.ref a) (.dict es)
inductive RepAll (K : PySem.W.Frag) (O : Own) (H : Hp) : List V → List PyData → Prop
  | nil : RepAll K O H [] []
  | cons {v : V} {vs : List V} {d : PyData} {ds : List PyData} : Rep K O H v d → RepAll K O H vs ds → RepAll K O H (v :: vs) (d :: ds)
inductive RepKV (K : PySem.W.Frag) (O : Own) (H : Hp) : List (Key × V) → List (PyData × PyData) → Prop
  | nil : RepKV K O H [] []
  | cons {k : Key} {v : V} {vs : List (Key × V)} {c d : PyData} {ds : List (PyData × PyData)} : c = keyD k → Rep K O H v d → RepKV K O H vs ds → RepKV K O H ((k, v) :: vs) ((c, d) :: ds)
end
section
variable {K : PySem.W.Frag} {O O' : Own} {H H' : Hp}
/-- what is tracked and not owned stays so -/
def Stays (O : Own) (H : Hp) (O' : Own) (H' : Hp) : Prop := ∀ a o, H a = some o → ¬ O a → H' a = some o ∧ ¬ O' a
theorem Rd.stays {u : HO} {a : Addr} (st : Stays O H O' H') (n : ¬ O a) (h : Rd H a u) : ¬ O' a ∧ Rd H' a u := by
  rcases h with h | ⟨o, h⟩
  · exact ⟨(st a _ h n).2, .inl (st a _ h n).1⟩
  · exact ⟨(st a _ h n).2, .inr ⟨o, (st a _ h n).1⟩⟩
theorem OL.stays {a : Addr} {xs : List V} (st : Stays O H O' H') (h : OL K O H a xs) : OL K O' H' a xs := h.elim (fun h => .inl (Rd.stays st h.1 h.2)) .inr
theorem OT.stays {a : Addr} {xs : List V} (st : Stays O H O' H') (h : OT K O H a xs) : OT K O' H' a xs := h.elim (fun h => .inl (Rd.stays st h.1 h.2)) .inr
mutual
theorem Rep.stays (st : Stays O H O' H') : ∀ {v : V} {d : PyData}, Rep K O H v d → Rep K O' H' v d
  | _, _, .non => .non
  | _, _, .bl b => .bl b
  | _, _, .int i => .int i
  | _, _, .str x => .str x
  | _, _, .lst h r => .lst (h.stays st) (r.stays st)
  | _, _, .tup h r => .tup (h.stays st) (r.stays st)
  | _, _, .dic n h r => .dic (st _ _ h n).2 (st _ _ h n).1 (r.stays st)
theorem RepAll.stays (st : Stays O H O' H') : ∀ {vs : List V} {ds : List PyData}, RepAll K O H vs ds → RepAll K O' H' vs ds
  | _, _, .nil => .nil
  | _, _, .cons h r => .cons (h.stays st) (r.stays st)
theorem RepKV.stays (st : Stays O H O' H') : ∀ {vs : List (Key × V)} {ds : List (PyData × PyData)}, RepKV K O H vs ds → RepKV K O' H' vs ds
  | _, _, .nil => .nil
  | _, _, .cons q h r => .cons q (h.stays st) (r.stays st)
end
theorem RepAll.length : ∀ {vs : List V} {ds : List PyData}, RepAll K O H vs ds → vs.length = ds.length
  | _, _, .nil => rfl
  | _, _, .cons _ r => congrArg (· + 1) r.length
theorem RepAll.get : ∀ {vs : List V} {ds : List PyData} {i : Nat} {v : V}, RepAll K O H vs ds → vs[i]? = some v → ∃ d, ds[i]? = some d ∧ Rep K O H v d
  | _, _, _, _, .nil, e => by simp at e
  | _, _, 0, _, .cons h _, e => by simp at e; subst e; exact ⟨_, rfl, h⟩
  | _, _, i + 1, _, .cons _ r, e => by
    obtain ⟨d, h1, h2⟩ := r.get (i := i) (by simpa using e)
    exact ⟨d, by simpa using h1, h2⟩
theorem RepAll.get' : ∀ {vs : List V} {ds : List PyData} {i : Nat} {d : PyData}, RepAll K O H vs ds → ds[i]? = some d → ∃ v, vs[i]? = some v ∧ Rep K O H v d
  | _, _, _, _, .nil, e => by simp at e
  | _, _, 0, _, .cons h _, e => by simp at e; subst e; exact ⟨_, rfl, h⟩
  | _, _, i + 1, _, .cons _ r, e => by
    obtain ⟨d, h1, h2⟩ := r.get' (i := i) (by simpa using e)
    exact ⟨d, by simpa using h1, h2⟩
theorem RepAll.append : ∀ {vs ws : List V} {ds es : List PyData}, RepAll K O H vs ds → RepAll K O H ws es → RepAll K O H (vs ++ ws) (ds ++ es)
  | _, _, _, _, .nil, q => q
  | _, _, _, _, .cons h r, q => .cons h (r.append q)
theorem RepAll.drop : ∀ {vs : List V} {ds : List PyData} (n : Nat), RepAll K O H vs ds → RepAll K O H (vs.drop n) (ds.drop n)
  | _, _, 0, r => r
  | _, _, _ + 1, .nil => .nil
  | _, _, n + 1, .cons _ r => RepAll.drop n r
theorem RepAll.take : ∀ {vs : List V} {ds : List PyData} (n : Nat), RepAll K O H vs ds → RepAll K O H (vs.take n) (ds.take n)
  | _, _, 0, _ => .nil
  | _, _, _ + 1, .nil => .nil
  | _, _, n + 1, .cons h r => .cons h (RepAll.take n r)
theorem RepAll.reverse {vs : List V} {ds : List PyData} (r : RepAll K O H vs ds) : RepAll K O H vs.reverse ds.reverse := by
  induction vs generalizing ds with
  | nil => cases r; exact .nil
  | cons v vs ih =>
    cases r with
    | cons h r =>
      rw [List.reverse_cons, List.reverse_cons]
      exact (ih r).append (.cons h .nil)
theorem RepAll.eraseIdx : ∀ {vs : List V} {ds : List PyData} (n : Nat), RepAll K O H vs ds → RepAll K O H (vs.eraseIdx n) (ds.eraseIdx n)
  | _, _, _, .nil => .nil
  | _, _, 0, .cons _ r => r
  | _, _, n + 1, .cons h r => .cons h (RepAll.eraseIdx n r)
/-- to the library's own relation -/
theorem hd_cons {d : PyData} {ds : List PyData} (h : PyData.canLayAll0 (d :: ds) = true) : d.canLay0 = true ∧ PyData.canLayAll0 ds = true := by
  simpa [PyData.canLayAll0] using h
mutual
theorem Rep.dp : ∀ {v : V} {d : PyData}, Rep K O H v d → d.canLay0 = true → Dp K H v d
  | _, _, .non, _ => .non
  | _, _, .bl b, _ => .bl b
  | _, _, .int i, _ => .int i
  | _, _, .str x, _ => .str x
  | _, _, .lst h r, c => .lst h.sq (r.dp (by simpa [PyData.canLay0] using c))
  | _, _, .tup h r, c => .tup h.sq (r.dp (by simpa [PyData.canLay0] using c))
  | _, _, .dic n h r, c => by simp [PyData.canLay0] at c
theorem RepAll.dp : ∀ {vs : List V} {ds : List PyData}, RepAll K O H vs ds → PyData.canLayAll0 ds = true → DpAll K H vs ds
  | _, _, .nil, _ => .nil
  | _, _, .cons h r, c => .cons (h.dp (hd_cons c).1) (r.dp (hd_cons c).2)
end
end

/-! ### tables: dicts with nested keys -/
/-- an entry as it stands in the heap -/
def entN (w : World) (x : NestedKey × Addr × Value) : DictEntry := ⟨x.1.hash w, .ref x.2.1, x.2.2⟩
/-- the dict at a has these entries -/
def DNO (w : World) (a : Addr) (xs : List (NestedKey × Addr × Value)) : HO := .ext fun h => ∃ o es ep, h.get? a = some o ∧ o.ExactDict ∧ o.data = .dict es ep ∧ es.toList = xs.map (entN w) ∧ (xs.map (·.1)).Nodup
inductive RepN (K : PySem.W.Frag) (O : Own) (H : Hp) : List (NestedKey × Addr × Value) → List (PyData × PyData) → Prop
  | nil : RepN K O H [] []
  | cons {k : NestedKey} {b : Addr} {u : Value} {v : V} {xs : List (NestedKey × Addr × Value)} {c d : PyData} {es : List (PyData × PyData)} : c = k.data → k.depth ≤ 8 → Rep K O H (.ref b) c → RelV v u → Rep K O H v d → RepN K O H xs es → RepN K O H ((k, b, u) :: xs) ((c, d) :: es)
theorem RepN.stays {K : PySem.W.Frag} {O O' : Own} {H H' : Hp} (st : Stays O H O' H') : ∀ {xs : List (NestedKey × Addr × Value)} {es : List (PyData × PyData)}, RepN K O H xs es → RepN K O' H' xs es
  | _, _, .nil => .nil
  | _, _, .cons h1 h2 h3 h4 h5 h6 => .cons h1 h2 (h3.stays st) h4 (h5.stays st) (h6.stays st)
def TabAt (K : PySem.W.Frag) (O : Own) (H : Hp) (w : World) (a : Addr) (es : List (PyData × PyData)) : Prop := (a == sysModules) = false ∧ ∃ xs, xs.length ≤ sizeLine ∧ H a = some (DNO w a xs) ∧ RepN K O H xs es
def ownS : Slot → Bool
  | .own _ => true
  | .tab _ _ => true
  | _ => false
theorem ownS_ex {x : Slot} (h : ownS x = true) : (∃ d, x = .own d) ∨ ∃ w es, x = .tab w es := by
  cases x with
  | own d => exact .inl ⟨d, rfl⟩
  | tab w es => exact .inr ⟨w, es, rfl⟩
  | _ => cases h
theorem TabAt.same {K : PySem.W.Frag} {O : Own} {H H' : Hp} {w : World} {a : Addr} {es : List (PyData × PyData)} (k : ∀ a o, H a = some o → H' a = some o) (h : TabAt K O H w a es) : TabAt K O H' w a es :=
  let ⟨z, xs, h0, h1, h2⟩ := h; ⟨z, xs, h0, k _ _ h1, h2.stays fun a o h n => ⟨k a o h, n⟩⟩
theorem TabAt.to {K : PySem.W.Frag} {O O' : Own} {H H' : Hp} {w : World} {a : Addr} {es : List (PyData × PyData)} (st : Stays O H O' H') (k : ∀ o, H a = some o → H' a = some o) (h : TabAt K O H w a es) : TabAt K O' H' w a es :=
  let ⟨z, xs, h0, h1, h2⟩ := h; ⟨z, xs, h0, k _ h1, h2.stays st⟩
theorem TabAt.there {K : PySem.W.Frag} {O : Own} {H : Hp} {w : World} {a : Addr} {es : List (PyData × PyData)} (h : TabAt K O H w a es) : ∃ o, H a = some o := let ⟨_, _, _, h1, _⟩ := h; ⟨_, h1⟩
/-! ### the heap's growth -/
structure Grow (F : List Addr) (G O : Own) (H : Hp) (O' : Own) (H' : Hp) : Prop where
  keep : ∀ a o, H a = some o → a ∉ F → (¬ O a ∨ G a) → H' a = some o
  own : ∀ a, O' a → O a ∨ H a = none
/-- what an owned address holds -/
def OwnAt (K : PySem.W.Frag) (O : Own) (H : Hp) (a : Addr) : PyData → Prop
  | .list ds => ∃ xs, H a = some (.lst xs) ∧ RepAll K O H xs ds
  | .dict es => ∃ ks, H a = some (.dK ks) ∧ RepKV K O H ks es
  | _ => False
def SlotOk (K : PySem.W.Frag) (F : List Addr) (G O : Own) (H : Hp) (v : Option (Option V)) : Slot → Prop
  | .unset => True
  | .val d => ∃ x, v = some (some x) ∧ Rep K O H x d
  | .own d => ∃ a, v = some (some (.ref a)) ∧ O a ∧ ¬ G a ∧ OwnAt K O H a d
  | .sto n => ∃ a, v = some (some (.ref a)) ∧ F[n]? = some a
  | .tab w es => ∃ a, v = some (some (.ref a)) ∧ O a ∧ ¬ G a ∧ TabAt K O H w a es
structure Sim (K : PySem.W.Frag) (F : List Addr) (G O : Own) (σ : L2.St) (H : Hp) (e : List Slot) (m : Mu) : Prop where
  len : e.length = σ.length
  slot : ∀ (i : Nat) (s : Slot), e[i]? = some s → SlotOk K F G O H σ[i]? s
  apart : ∀ (i j : Nat) (x y : Slot) (a : Addr), e[i]? = some x → e[j]? = some y → ownS x = true → ownS y = true → σ[i]? = some (some (.ref a)) → σ[j]? = some (some (.ref a)) → i = j
  fg : ∀ a, a ∈ F → G a
  go : ∀ a, G a → O a
  live : ∀ a, O a → ∃ o, H a = some o
  nd : F.Nodup
  sl : F.length = m.length
  st : ∀ (n : Nat) (a : Addr) (kvs : List (Str × PyData)), F[n]? = some a → m[n]? = some kvs → ∃ ks, H a = some (.dK ks) ∧ RepKV K O H ks (kvs.map fun p => (PyData.str p.1, p.2))
section
variable {K : PySem.W.Frag} {F : List Addr} {G O O' O'' : Own} {σ : L2.St} {H H' H'' : Hp} {e : List Slot} {m : Mu}
theorem Grow.refl : Grow F G O H O H := ⟨fun _ _ h _ _ => h, fun _ h => .inl h⟩
theorem Grow.stays (g : Grow F G O H O' H') (hF : ∀ a, a ∈ F → O a) : Stays O H O' H' := fun a o h n =>
  ⟨g.keep a o h (fun z => n (hF a z)) (.inl n), fun z => by
    rcases g.own a z with z | z
    · exact n z
    · rw [h] at z; cases z⟩
theorem Grow.trans (g : Grow F G O H O' H') (g' : Grow F G O' H' O'' H'') (hF : ∀ a, a ∈ F → O a) : Grow F G O H O'' H'' := by
  refine ⟨fun a o h f c => ?_, fun a h => ?_⟩
  · refine g'.keep a o (g.keep a o h f c) f ?_
    rcases c with c | c
    · refine .inl fun z => ?_
      rcases g.own a z with z | z
      · exact c z
      · rw [h] at z; cases z
    · exact .inr c
  · rcases g'.own a h with h | h
    · exact g.own a h
    · by_cases c : O a
      · exact .inl c
      · refine .inr ?_
        cases q : H a with
        | none => rfl
        | some o =>
          rw [g.keep a o q (fun z => c (hF a z)) (.inl c)] at h
          cases h
theorem Sim.fo (s : Sim K F G O σ H e m) : ∀ a, a ∈ F → O a := fun a h => s.go a (s.fg a h)
theorem Sim.new (s : Sim K F G O σ H e m) {p : Addr} (h : H p = none) : ¬ O p := fun z => by
  obtain ⟨o, q⟩ := s.live p z
  rw [h] at q; cases q
/-- everything tracked stays as it is -/
theorem Grow.of_same (k : ∀ a o, H a = some o → H' a = some o) : Grow F G O H O H' := ⟨fun a o h _ _ => k a o h, fun _ h => .inl h⟩
theorem stays_same (k : ∀ a o, H a = some o → H' a = some o) : Stays O H O H' := fun a o h n => ⟨k a o h, n⟩
theorem OwnAt.same {a : Addr} {d : PyData} (k : ∀ a o, H a = some o → H' a = some o) (h : OwnAt K O H a d) : OwnAt K O H' a d := by
  cases d with
  | list ds => obtain ⟨xs, h, r⟩ := h; exact ⟨xs, k _ _ h, r.stays (stays_same k)⟩
  | dict es => obtain ⟨xs, h, r⟩ := h; exact ⟨xs, k _ _ h, r.stays (stays_same k)⟩
  | _ => exact h.elim
theorem SlotOk.ref {v : Option (Option V)} {x : Slot} (h : SlotOk K F G O H v x) (o : ownS x = true) : ∃ b, v = some (some (.ref b)) ∧ O b ∧ ¬ G b := by
  rcases ownS_ex o with ⟨d, rfl⟩ | ⟨w, es, rfl⟩
  · obtain ⟨a, h1, h2, h3, _⟩ := h; exact ⟨a, h1, h2, h3⟩
  · obtain ⟨a, h1, h2, h3, _⟩ := h; exact ⟨a, h1, h2, h3⟩
theorem SlotOk.same {v : Option (Option V)} {x : Slot} (k : ∀ a o, H a = some o → H' a = some o) (h : SlotOk K F G O H v x) : SlotOk K F G O H' v x := by
  cases x with
  | unset => trivial
  | val d => obtain ⟨y, h1, h2⟩ := h; exact ⟨y, h1, h2.stays (stays_same k)⟩
  | own d => obtain ⟨a, h1, h2, h3, h4⟩ := h; exact ⟨a, h1, h2, h3, h4.same k⟩
  | sto n => exact h
  | tab w es => obtain ⟨a, h1, h2, h3, h4⟩ := h; exact ⟨a, h1, h2, h3, h4.same k⟩
theorem Sim.same (s : Sim K F G O σ H e m) (k : ∀ a o, H a = some o → H' a = some o) : Sim K F G O σ H' e m :=
  ⟨s.len, fun i x h => (s.slot i x h).same k, s.apart, s.fg, s.go, fun a h => let ⟨o, q⟩ := s.live a h; ⟨o, k a o q⟩, s.nd, s.sl, fun n a kvs h1 h2 => let ⟨ks, h3, h4⟩ := s.st n a kvs h1 h2; ⟨ks, k _ _ h3, h4.stays (stays_same k)⟩⟩
theorem upd_keeps {p : Addr} {o : HO} (h : H p = none) : ∀ a u, H a = some u → upd H p o a = some u := fun a u q => by
  rw [upd_ne (ne_of_none q h)]; exact q
/-- a value -/
def VRep (K : PySem.W.Frag) (F : List Addr) (G O : Own) (σ : L2.St) (H : Hp) (e : List Slot) (v : V) : Val → Prop
  | .dat d => Rep K O H v d
  | .uni d => ∃ a, v = .ref a ∧ O a ∧ ¬ G a ∧ OwnAt K O H a d ∧ ∀ (i : Nat) (x : Slot), e[i]? = some x → ownS x = true → σ[i]? ≠ some (some (.ref a))
  | .sto n => ∃ a, v = .ref a ∧ F[n]? = some a
  | .tab w es => ∃ a, v = .ref a ∧ O a ∧ ¬ G a ∧ TabAt K O H w a es ∧ ∀ (i : Nat) (x : Slot), e[i]? = some x → ownS x = true → σ[i]? ≠ some (some (.ref a))
end
end Fb

namespace Fb
open PySem PySem.Spec PyProof.Rows L2
section
variable {K : PySem.W.Frag} {F : List Addr} {G O O' : Own} {σ : L2.St} {H H' : Hp} {e : List Slot} {m : Mu} {α β γ δ : Type}
abbrev Rel (α β : Type) := Own → Own → L2.St → Hp → List Slot → β → α → Prop
/-- an evaluation that stands at a state, and what is wanted behind it -/
def At (K : PySem.W.Frag) (F : List Addr) (R : Rel α β) (G O : Own) (σ : L2.St) (H : Hp) (e : List Slot) (m : Mu) (x : M α) (Q : β → Hp → Prop) : Prop :=
  Sim K F G O σ H e m ∧ ∃ a e' m', x ⟨e, m⟩ = .ok (a, ⟨e', m'⟩) ∧ ∀ w H' O', Grow F G O H O' H' → Sim K F G O' σ H' e' m' → R G O' σ H' e' w a → Q w H'
def tR (K : PySem.W.Frag) (F : List Addr) (R : Rel α β) (x : M α) : L2.St → Hp → (β → Hp → Prop) → Prop := fun σ H Q => ∃ G O e m, At K F R G O σ H e m x Q
theorem At.mono {R : Rel α β} {x : M α} {Q Q' : β → Hp → Prop} (h : At K F R G O σ H e m x Q) (k : ∀ w H, Q w H → Q' w H) : At K F R G O σ H e m x Q' := by
  obtain ⟨s, a, e', m', h1, h2⟩ := h
  exact ⟨s, a, e', m', h1, fun w H' O' g s' r => k w H' (h2 w H' O' g s' r)⟩
theorem bind_ok {x : M α} {f : α → M γ} {s s2 : S} {b : γ} (h : (x.bind f) s = .ok (b, s2)) : ∃ a s1, x s = .ok (a, s1) ∧ f a s1 = .ok (b, s2) := by
  unfold M.bind at h
  cases q : x s with
  | ok r => rw [q] at h; exact ⟨r.1, r.2, rfl, h⟩
  | exc c fs => rw [q] at h; cases h
  | stuck => rw [q] at h; cases h
theorem At.bind {R : Rel α β} {R' : Rel γ δ} {x : M α} {f : α → M γ} {Q : δ → Hp → Prop} (h : At K F R' G O σ H e m (x.bind f) Q) :
    ∃ a, At K F R G O σ H e m x fun w H1 => ∃ O1 e1 m1, Grow F G O H O1 H1 ∧ R G O1 σ H1 e1 w a ∧ At K F R' G O1 σ H1 e1 m1 (f a) Q := by
  obtain ⟨s, b, e', m', h1, h2⟩ := h
  obtain ⟨a, ⟨e1, m1⟩, h3, h4⟩ := bind_ok h1
  exact ⟨a, s, a, e1, m1, h3, fun w H1 O1 g s1 r => ⟨O1, e1, m1, g, r, s1, b, e', m', h4, fun w' H' O' g' s' r' => h2 w' H' O' (g.trans g' s.fo) s' r'⟩⟩
theorem At.bind2 {R : Rel α β} {R' : Rel γ δ} {x : M α} {f : α → M γ} {Q : δ → Hp → Prop} (h : At K F R' G O σ H e m (x.bind f) Q) :
    ∃ a, (∃ s1, x ⟨e, m⟩ = .ok (a, s1)) ∧ At K F R G O σ H e m x fun w H1 => ∃ O1 e1 m1, Grow F G O H O1 H1 ∧ R G O1 σ H1 e1 w a ∧ At K F R' G O1 σ H1 e1 m1 (f a) Q := by
  obtain ⟨s, b, e', m', h1, h2⟩ := h
  obtain ⟨a, ⟨e1, m1⟩, h3, h4⟩ := bind_ok h1
  exact ⟨a, ⟨_, h3⟩, s, a, e1, m1, h3, fun w H1 O1 g s1 r => ⟨O1, e1, m1, g, r, s1, b, e', m', h4, fun w' H' O' g' s' r' => h2 w' H' O' (g.trans g' s.fo) s' r'⟩⟩
theorem At.tr {R : Rel α β} {x : M α} {Q : β → Hp → Prop} (h : At K F R G O σ H e m x Q) : tR K F R x σ H Q := ⟨G, O, e, m, h⟩
theorem At.sim {R : Rel α β} {x : M α} {Q : β → Hp → Prop} (h : At K F R G O σ H e m x Q) : Sim K F G O σ H e m := h.1
/-- a step that changes nothing -/
theorem At.same {R : Rel γ δ} {x : M α} {f : α → M γ} {a : α} {Q : δ → Hp → Prop} (h : At K F R G O σ H e m (x.bind f) Q) (q : ∀ b s', x ⟨e, m⟩ = .ok (b, s') → b = a ∧ s' = ⟨e, m⟩) : At K F R G O σ H e m (f a) Q := by
  obtain ⟨s, b, e', m', h1, h2⟩ := h
  obtain ⟨a', s1, h3, h4⟩ := bind_ok h1
  obtain ⟨r1, r2⟩ := q _ _ h3
  subst r1 r2
  exact ⟨s, b, e', m', h4, h2⟩
theorem At.pure {R : Rel α β} {a : α} {w : β} {Q : β → Hp → Prop} (h : At K F R G O σ H e m (M.pure a) Q) (r : R G O σ H e w a) : Q w H := by
  obtain ⟨s, b, e', m', h1, h2⟩ := h
  injection h1 with h1
  injection h1 with h1 h3
  injection h3 with h3 h4
  subst h1 h3 h4
  exact h2 w H O .refl s r
theorem At.inv {R : Rel α β} {x : M α} {Q : β → Hp → Prop} (h : At K F R G O σ H e m x Q) : ∃ a s', x ⟨e, m⟩ = .ok (a, s') := let ⟨_, a, e', m', h1, _⟩ := h; ⟨a, _, h1⟩
end
/-- an operand -/
def ORep (K : PySem.W.Frag) (G O : Own) (σ : L2.St) (H : Hp) (e : List Slot) (v : V) : Opd → Prop
  | .val d => Rep K O H v d
  | .slot i => σ[i]? = some (some v)
/-- content -/
def Cont (K : PySem.W.Frag) (O : Own) (H : Hp) (v : V) (d : PyData) : Prop := Rep K O H v d ∨ ∃ a, v = .ref a ∧ OwnAt K O H a d
def DRep (K : PySem.W.Frag) (G O : Own) (σ : L2.St) (H : Hp) (e : List Slot) (v : V) (d : PyData) : Prop := Rep K O H v d
abbrev tD (K : PySem.W.Frag) (F : List Addr) (x : M Val) : TE := tR K F (VRep K F) x
abbrev tO (K : PySem.W.Frag) (F : List Addr) (x : M Opd) : TE := tR K F (ORep K) x
section
variable {K : PySem.W.Frag} {F : List Addr} {G O O' : Own} {σ : L2.St} {H H' : Hp} {e : List Slot} {m : Mu}
theorem Cont.lst {v : V} {ds : List PyData} (h : Cont K O H v (.list ds)) : ∃ a xs, v = .ref a ∧ SqL K H a xs ∧ RepAll K O H xs ds := by
  rcases h with h | ⟨a, rfl, xs, h, r⟩
  · cases h with
    | lst h r => exact ⟨_, _, rfl, h.sq, r⟩
  · exact ⟨a, xs, rfl, SqL.of h, r⟩
theorem Cont.tup {v : V} {ds : List PyData} (h : Cont K O H v (.tuple ds)) : ∃ a xs, v = .ref a ∧ SqT K H a xs ∧ RepAll K O H xs ds := by
  rcases h with h | ⟨a, rfl, h⟩
  · cases h with
    | tup h r => exact ⟨_, _, rfl, h.sq, r⟩
  · exact h.elim
theorem Cont.int {v : V} {i : Int} (h : Cont K O H v (.int i)) : v = .int i := by
  rcases h with h | ⟨a, rfl, h⟩
  · cases h; rfl
  · exact h.elim
theorem Cont.str {v : V} {i : Str} (h : Cont K O H v (.str i)) : v = .str i := by
  rcases h with h | ⟨a, rfl, h⟩
  · cases h; rfl
  · exact h.elim
theorem Cont.bl {v : V} {i : Bool} (h : Cont K O H v (.bool i)) : v = .bl i := by
  rcases h with h | ⟨a, rfl, h⟩
  · cases h; rfl
  · exact h.elim
theorem Cont.non {v : V} (h : Cont K O H v .none) : v = .non := by
  rcases h with h | ⟨a, rfl, h⟩
  · cases h; rfl
  · exact h.elim
theorem Cont.dp {v : V} {d : PyData} (h : Cont K O H v d) (c : d.canLay0 = true) : Dp K H v d := by
  rcases h with h | ⟨a, rfl, h⟩
  · exact h.dp c
  · cases d with
    | list ds => obtain ⟨xs, h, r⟩ := h; exact .lst (SqL.of h) (r.dp (by simpa [PyData.canLay0] using c))
    | dict es => simp [PyData.canLay0] at c
    | _ => exact h.elim
/-- an operand's content at the state -/
theorem ORep.now {v : V} {x : Opd} {d : PyData} {s' : S} (s : Sim K F G O σ H e m) (r : ORep K G O σ H e v x) (h : x.now ⟨e, m⟩ = .ok (d, s')) : s' = ⟨e, m⟩ ∧ Cont K O H v d := by
  cases x with
  | val d' =>
    injection h with h
    injection h with h1 h2
    subst h1
    exact ⟨h2.symm, .inl r⟩
  | slot i =>
    have r : σ[i]? = some (some v) := r
    unfold Opd.now at h
    dsimp only at h
    cases q : e[i]? with
    | none => rw [q] at h; cases h
    | some x =>
      rw [q] at h
      have sl := s.slot i x q
      cases x with
      | unset => cases h
      | sto n => cases h
      | tab w es => cases h
      | val d' =>
        injection h with h
        injection h with h1 h2
        subst h1
        obtain ⟨y, h3, h4⟩ := sl
        rw [r] at h3
        cases h3
        exact ⟨h2.symm, .inl h4⟩
      | own d' =>
        injection h with h
        injection h with h1 h2
        subst h1
        obtain ⟨a, h3, _, _, h4⟩ := sl
        rw [r] at h3
        cases h3
        exact ⟨h2.symm, .inr ⟨a, rfl, h4⟩⟩
/-- operands stay -/
theorem ORep.grow {v : V} {x : Opd} {e' : List Slot} (s : Sim K F G O σ H e m) (g : Grow F G O H O' H') (r : ORep K G O σ H e v x) : ORep K G O' σ H' e' v x := by
  cases x with
  | val d => exact Rep.stays (g.stays s.fo) r
  | slot i => exact r

/-! ### results -/
/-- what is wanted behind an operation that yields val at this state -/
def Wants (K : PySem.W.Frag) (F : List Addr) (G O : Own) (σ : L2.St) (H : Hp) (e : List Slot) (m : Mu) (v : Val) (Q : VK) : Prop :=
  Sim K F G O σ H e m ∧ ∀ w H' O', Grow F G O H O' H' → Sim K F G O' σ H' e m → VRep K F G O' σ H' e w v → Q w H'
theorem At.wants {v : Val} {r : Option Val} {Q : VK} (h : At K F (VRep K F) G O σ H e m (lift r) Q) : ∃ v, r = some v ∧ Wants K F G O σ H e m v Q := by
  obtain ⟨s, a, e', m', h1, h2⟩ := h
  cases r with
  | none => cases h1
  | some v =>
    injection h1 with h1
    injection h1 with h1 h3
    injection h3 with h3 h4
    subst h1 h3 h4
    exact ⟨_, rfl, s, h2⟩
theorem Wants.dat {d : PyData} {v : V} {Q : VK} (h : Wants K F G O σ H e m (.dat d) Q) (r : Rep K O H v d) : Q v H := h.2 v H O .refl h.1 r
theorem Wants.tup {ds : List PyData} {xs : List V} {Q : VK} (h : Wants K F G O σ H e m (.dat (.tuple ds)) Q) (r : RepAll K O H xs ds) : ∀ p, H p = none → Q (.ref p) (upd H p (.tup xs)) := fun p np => by
  have k := upd_keeps (o := .tup xs) np
  exact h.2 _ _ O (.of_same k) (h.1.same k) (.tup (.inl ⟨h.1.new np, .inl upd_same⟩) (r.stays (stays_same k)))
def plus (O : Own) (p : Addr) : Own := fun a => O a ∨ a = p
theorem stays_new {p : Addr} {o : HO} (np : H p = none) : Stays O H (plus O p) (upd H p o) := fun a u q n => ⟨upd_keeps np a u q, fun z => z.elim n (ne_of_none q np)⟩
theorem OwnAt.new {p a : Addr} {o : HO} {d : PyData} (np : H p = none) (h : OwnAt K O H a d) : OwnAt K (plus O p) (upd H p o) a d := by
  cases d with
  | list ds => obtain ⟨xs, h, r⟩ := h; exact ⟨xs, upd_keeps np _ _ h, r.stays (stays_new np)⟩
  | dict es => obtain ⟨xs, h, r⟩ := h; exact ⟨xs, upd_keeps np _ _ h, r.stays (stays_new np)⟩
  | _ => exact h.elim
theorem OwnAt.there {a : Addr} {d : PyData} (h : OwnAt K O H a d) : ∃ o, H a = some o := by
  cases d with
  | list ds => obtain ⟨xs, h, r⟩ := h; exact ⟨_, h⟩
  | dict es => obtain ⟨xs, h, r⟩ := h; exact ⟨_, h⟩
  | _ => exact h.elim
theorem Sim.newOwn {p : Addr} {o : HO} (s : Sim K F G O σ H e m) (np : H p = none) : Sim K F G (plus O p) σ (upd H p o) e m := by
  refine ⟨s.len, fun i x h => ?_, s.apart, s.fg, fun a h => .inl (s.go a h), fun a h => ?_, s.nd, s.sl, fun n a kvs h1 h2 => ?_⟩
  · have sl := s.slot i x h
    cases x with
    | unset => trivial
    | val d => obtain ⟨y, h1, h2⟩ := sl; exact ⟨y, h1, h2.stays (stays_new np)⟩
    | own d => obtain ⟨a, h1, h2, h3, h4⟩ := sl; exact ⟨a, h1, .inl h2, h3, h4.new np⟩
    | sto n => exact sl
    | tab w es => obtain ⟨a, h1, h2, h3, h4⟩ := sl; exact ⟨a, h1, .inl h2, h3, h4.to (stays_new np) fun o q => upd_keeps np _ _ q⟩
  · rcases h with h | h
    · obtain ⟨u, q⟩ := s.live a h
      exact ⟨u, upd_keeps np a u q⟩
    · subst h; exact ⟨o, upd_same⟩
  · obtain ⟨ks, h3, h4⟩ := s.st n a kvs h1 h2
    exact ⟨ks, upd_keeps np _ _ h3, h4.stays (stays_new np)⟩
theorem Grow.new {p : Addr} {o : HO} (np : H p = none) : Grow F G O H (plus O p) (upd H p o) :=
  ⟨fun a u q _ _ => upd_keeps np a u q, fun a z => z.elim .inl fun z => .inr (by rw [z]; exact np)⟩
theorem Sim.notOwn {p : Addr} (s : Sim K F G O σ H e m) (np : H p = none) : ∀ (i : Nat) (x : Slot), e[i]? = some x → ownS x = true → σ[i]? ≠ some (some (.ref p)) := fun i x h hx z => by
  rcases ownS_ex hx with ⟨d, rfl⟩ | ⟨w, es, rfl⟩
  · obtain ⟨a, h1, _, _, h4⟩ := s.slot i _ h
    rw [z] at h1
    cases h1
    obtain ⟨o, q⟩ := h4.there
    rw [np] at q; cases q
  · obtain ⟨a, h1, _, _, h4⟩ := s.slot i _ h
    rw [z] at h1
    cases h1
    obtain ⟨o, q⟩ := h4.there
    rw [np] at q; cases q
theorem Wants.lst {ds : List PyData} {xs : List V} {Q : VK} (h : Wants K F G O σ H e m (.uni (.list ds)) Q) (r : RepAll K O H xs ds) : ∀ p, H p = none → Q (.ref p) (upd H p (.lst xs)) := fun p np =>
  h.2 _ _ _ (.new np) (h.1.newOwn np) ⟨p, rfl, .inr rfl, fun z => h.1.new np (h.1.go p z), ⟨xs, upd_same, r.stays (stays_new np)⟩, h.1.notOwn np⟩
theorem Wants.dct {es : List (PyData × PyData)} {xs : List (Key × V)} {Q : VK} (h : Wants K F G O σ H e m (.uni (.dict es)) Q) (r : RepKV K O H xs es) : ∀ p, H p = none → Q (.ref p) (upd H p (.dK xs)) := fun p np =>
  h.2 _ _ _ (.new np) (h.1.newOwn np) ⟨p, rfl, .inr rfl, fun z => h.1.new np (h.1.go p z), ⟨xs, upd_same, r.stays (stays_new np)⟩, h.1.notOwn np⟩
end
end Fb

namespace Fb
open PySem PySem.Spec PyProof.Rows L2
theorem sz_eq : SZ = sizeLine := by rw [sizeLine_eq]; rfl
section
variable {X : Cx} {F : List Addr}
/-- two contents, an operation, what is wanted -/
def R2D (K : PySem.W.Frag) (F : List Addr) (o : O2) : R2 := fun x y H Q => ∃ G O σ e m dx dy v, Cont K O H x dx ∧ Cont K O H y dy ∧ o.den dx dy = some v ∧ Wants K F G O σ H e m v Q
def R1D (K : PySem.W.Frag) (F : List Addr) (o : O1) : V → Hp → VK → Prop := fun x H Q => ∃ G O σ e m dx v, Cont K O H x dx ∧ o.den dx = some v ∧ Wants K F G O σ H e m v Q
theorem OpR.imp {f : Value → Value → Sem Value} {r r' : R2} (h : OpR X f r) (k : ∀ x y H Q, r' x y H Q → r x y H Q) : OpR X f r' := fun pins s σ H x y v u Q I rx ry q => h pins s σ H x y v u Q I rx ry (k x y H Q q)
theorem some_ite {α : Type} {c : Prop} [Decidable c] {a b : α} (h : (if c then some a else none) = some b) : c ∧ a = b := by
  by_cases q : c
  · rw [if_pos q] at h; exact ⟨q, Option.some.inj h⟩
  · rw [if_neg q] at h; cases h
/-- list + list, whatever they are -/
def rCatL (K : PySem.W.Frag) : R2 := fun x y H Q => ∃ a b xs ys, x = .ref a ∧ y = .ref b ∧ SqL K H a xs ∧ SqL K H b ys ∧ xs.length + ys.length ≤ sizeLine ∧ ∀ p, H p = none → Q (.ref p) (upd H p (.lst (xs ++ ys)))
theorem op_catL : OpR X (binaryOp .Add) (rCatL X.K) := by
  intro pins s σ H x y v u Q I rx ry h
  obtain ⟨a, b, xs, ys, rfl, rfl, ha, hb, hz, q⟩ := h
  cases rx
  cases ry
  obtain ⟨is1, r1, ⟨⟨c1, d1, t1, l1⟩, n1, g1, k1, j1, f1⟩, z1⟩ := I.list ha
  obtain ⟨is2, r2, ⟨⟨c2, d2, t2, l2⟩, n2, g2, k2, j2, f2⟩, z2⟩ := I.list hb
  simp only at k1 f1 k2 f2
  subst k1 f1 k2 f2
  have w1 := r1.length
  have w2 := r2.length
  refine concat_meets ⟨_, g1, rfl⟩ ⟨_, g2, rfl⟩ noFill_list_add seq_list_add PySem.F.slot_list_add PySem.F.entry_list_add (PySem.F.args_list_add_2 _ _)
    (list_addW a b is1.toArray is2.toArray n1 n2 d1 d2 l1 l2 (by simp only [List.size_toArray]; omega)) ⟨g1, g2, ?_⟩
  rw [List.append_toArray]
  exact ⟨.ref _, _, I.lnew (t' := s.toks) (r1.append r2) (by simp only [List.length_append]; omega), rfl, q _ I.fresh⟩
theorem some_ifO {α : Type} {c : Prop} [Decidable c] {x : Option α} {y : α} (h : (if c then x else none) = some y) : c ∧ x = some y := by
  by_cases k : c
  · rw [if_pos k] at h; exact ⟨k, h⟩
  · rw [if_neg k] at h; cases h
theorem or_add : OpR X (binaryOp .Add) (R2D X.K F .add) := by
  refine OpR.imp (OpR.or op_add (OpR.or op_catL (OpR.or op_catA op_add_str))) fun x y H Q h => ?_
  obtain ⟨G, O, σ, e, m, dx, dy, v, cx, cy, hd, wt⟩ := h
  cases dx with
  | int a =>
    cases dy with
    | int b =>
      cases hd
      exact .inl ⟨a, b, cx.int, cy.int, wt.dat (.int _)⟩
    | _ => cases hd
  | list a =>
    cases dy with
    | list b =>
      obtain ⟨hz, rfl⟩ := some_ite hd
      obtain ⟨p, xs, rfl, hp, rp⟩ := cx.lst
      obtain ⟨q, ys, rfl, hq, rq⟩ := cy.lst
      refine .inr (.inl ⟨p, q, xs, ys, rfl, rfl, hp, hq, ?_, wt.lst (rp.append rq)⟩)
      rw [rp.length, rq.length, ← sz_eq]; exact hz
    | _ => cases hd
  | tuple a =>
    cases dy with
    | tuple b =>
      obtain ⟨hz, rfl⟩ := some_ite hd
      have wt := wt
      obtain ⟨p, xs, rfl, hp, rp⟩ := cx.tup
      obtain ⟨q, ys, rfl, hq, rq⟩ := cy.tup
      refine .inr (.inr (.inl ⟨p, q, xs, ys, rfl, rfl, hp, hq, ?_, fun z => ?_, fun _ z => ?_, fun _ _ => wt.tup (rp.append rq)⟩))
      · rw [rp.length, rq.length, ← sz_eq]; exact hz
      · subst z
        cases rp
        exact wt.dat (cy.elim id fun ⟨a, _, h⟩ => h.elim)
      · subst z
        cases rq
        rw [List.append_nil] at wt
        exact wt.dat (cx.elim id fun ⟨a, _, h⟩ => h.elim)
    | _ => cases hd
  | str a =>
    cases dy with
    | str b =>
      obtain ⟨hz, rfl⟩ := some_ite hd
      exact .inr (.inr (.inr ⟨a, b, cx.str, cy.str, by rw [← sz_eq]; exact hz, wt.dat (.str _)⟩))
    | _ => cases hd
  | _ => cases hd
theorem or_sub : OpR X (binaryOp .Sub) (R2D X.K F .sub) := by
  refine OpR.imp op_sub fun x y H Q h => ?_
  obtain ⟨G, O, σ, e, m, dx, dy, v, cx, cy, hd, wt⟩ := h
  cases dx with
  | int a =>
    cases dy with
    | int b => cases hd; exact ⟨a, b, cx.int, cy.int, wt.dat (.int _)⟩
    | _ => cases hd
  | _ => cases hd
theorem or_mul : OpR X (binaryOp .Mult) (R2D X.K F .mul) := by
  refine OpR.imp (OpR.or op_mul op_repT) fun x y H Q h => ?_
  obtain ⟨G, O, σ, e, m, dx, dy, v, cx, cy, hd, wt⟩ := h
  cases dx with
  | int a =>
    cases dy with
    | int b =>
      obtain ⟨hc, rfl⟩ := some_ite hd
      exact .inl ⟨a, b, cx.int, cy.int, hc, wt.dat (.int _)⟩
    | _ => cases hd
  | tuple a =>
    cases dy with
    | int k =>
      obtain ⟨⟨h1, h2, h3, h4⟩, rfl⟩ := some_ite hd
      obtain ⟨p, xs, rfl, hp, rp⟩ := cx.tup
      have rr : ∀ n : Nat, RepAll X.K O H (List.replicate n xs).flatten (List.replicate n a).flatten := fun n => by
        induction n with
        | zero => exact .nil
        | succ n ih => rw [List.replicate_succ, List.replicate_succ, List.flatten_cons, List.flatten_cons]; exact rp.append ih
      refine .inr ⟨p, k, xs, rfl, cy.int, hp, fun z => ?_, h2, h3, by rw [rp.length]; exact h4, wt.tup (rr _)⟩
      subst z
      cases rp
      exact h1 rfl
    | _ => cases hd
  | _ => cases hd
theorem or_mod : OpR X (binaryOp .Mod) (R2D X.K F .mod) := by
  refine OpR.imp op_mod fun x y H Q h => ?_
  obtain ⟨G, O, σ, e, m, dx, dy, v, cx, cy, hd, wt⟩ := h
  cases dx with
  | int a =>
    cases dy with
    | int b =>
      obtain ⟨hc, rfl⟩ := some_ite hd
      exact ⟨a, b, cx.int, cy.int, hc, wt.dat (.int _)⟩
    | _ => cases hd
  | _ => cases hd
theorem or_fdiv : OpR X (binaryOp .FloorDiv) (R2D X.K F .fdiv) := by
  refine OpR.imp op_fdiv fun x y H Q h => ?_
  obtain ⟨G, O, σ, e, m, dx, dy, v, cx, cy, hd, wt⟩ := h
  cases dx with
  | int a =>
    cases dy with
    | int b =>
      obtain ⟨hc, rfl⟩ := some_ite hd
      exact ⟨a, b, cx.int, cy.int, hc, wt.dat (.int _)⟩
    | _ => cases hd
  | _ => cases hd
theorem or_pow : OpR X (binaryOp .Pow) (R2D X.K F .pow) := by
  refine OpR.imp op_pow fun x y H Q h => ?_
  obtain ⟨G, O, σ, e, m, dx, dy, v, cx, cy, hd, wt⟩ := h
  cases dx with
  | int a =>
    cases dy with
    | int b =>
      obtain ⟨hc, rfl⟩ := some_ite hd
      exact ⟨a, b, cx.int, cy.int, hc, wt.dat (.int _)⟩
    | _ => cases hd
  | _ => cases hd
theorem or_eq (hu : X.A.units + 64 < cLine) : OpR X (compareOp .Eq) (R2D X.K F .eq) := by
  have g1 : OpR X (compareOp .Eq) (fun x y H Q => ∃ a b, x = .str a ∧ y = .str b ∧ Q (.bl (decide (a = b))) H) := OpR.imp op_eq fun x y H Q h => by
    obtain ⟨a, b, rfl, rfl, q⟩ := h
    refine ⟨rfl, ?_⟩
    have e : decide (V.str a = V.str b) = decide (a = b) := by
      by_cases c : a = b
      · subst c; simp
      · rw [decide_eq_false c, decide_eq_false (fun z => c (by cases z; rfl))]
    rw [e]
    exact q
  intro pins s σ' H x y v0 u0 Q I rx ry h
  obtain ⟨G, O, σ, e, m, dx, dy, v, cx, cy, hd, wt⟩ := h
  by_cases c : ∃ a b, dx = .str a ∧ dy = .str b
  · obtain ⟨a, b, rfl, rfl⟩ := c
    have hd : some (Val.dat (.bool (decide (a = b)))) = some v := hd
    cases hd
    exact g1 pins s σ' H x y v0 u0 Q I rx ry ⟨a, b, cx.str, cy.str, wt.dat (.bl _)⟩
  · have hd : (if (SeqAt.shaped dx && SeqAt.shaped dy) = true then some (Val.dat (.bool (PyData.eqv dx dy))) else none) = some v := by
      cases dx with
      | str a => cases dy with
        | str b => exact absurd ⟨a, b, rfl, rfl⟩ c
        | _ => exact hd
      | _ => exact hd
    obtain ⟨hc, rfl⟩ := some_ite hd
    obtain ⟨h1, h2⟩ := Bool.and_eq_true_iff.mp hc
    exact op_eqD hu pins s σ' H x y v0 u0 Q I rx ry ⟨dx, dy, cx.dp (SeqAt.canLay_of_shaped h1), cy.dp (SeqAt.canLay_of_shaped h2), h1, h2, wt.dat (.bl _)⟩
theorem or_ne (hu : X.A.units + 64 < cLine) : OpR X (compareOp .NotEq) (R2D X.K F .ne) := by
  have g1 : OpR X (compareOp .NotEq) (fun x y H Q => ∃ a b, x = .str a ∧ y = .str b ∧ Q (.bl (!decide (a = b))) H) := OpR.imp op_ne fun x y H Q h => by
    obtain ⟨a, b, rfl, rfl, q⟩ := h
    refine ⟨rfl, ?_⟩
    have e : decide (V.str a = V.str b) = decide (a = b) := by
      by_cases c : a = b
      · subst c; simp
      · rw [decide_eq_false c, decide_eq_false (fun z => c (by cases z; rfl))]
    rw [e]
    exact q
  intro pins s σ' H x y v0 u0 Q I rx ry h
  obtain ⟨G, O, σ, e, m, dx, dy, v, cx, cy, hd, wt⟩ := h
  by_cases c : ∃ a b, dx = .str a ∧ dy = .str b
  · obtain ⟨a, b, rfl, rfl⟩ := c
    have hd : some (Val.dat (.bool (!decide (a = b)))) = some v := hd
    cases hd
    exact g1 pins s σ' H x y v0 u0 Q I rx ry ⟨a, b, cx.str, cy.str, wt.dat (.bl _)⟩
  · have hd : (if (SeqAt.shaped dx && SeqAt.shaped dy) = true then some (Val.dat (.bool (!PyData.eqv dx dy))) else none) = some v := by
      cases dx with
      | str a => cases dy with
        | str b => exact absurd ⟨a, b, rfl, rfl⟩ c
        | _ => exact hd
      | _ => exact hd
    obtain ⟨hc, rfl⟩ := some_ite hd
    obtain ⟨h1, h2⟩ := Bool.and_eq_true_iff.mp hc
    exact op_neD hu pins s σ' H x y v0 u0 Q I rx ry ⟨dx, dy, cx.dp (SeqAt.canLay_of_shaped h1), cy.dp (SeqAt.canLay_of_shaped h2), h1, h2, wt.dat (.bl _)⟩
theorem or_lt : OpR X (compareOp .Lt) (R2D X.K F .lt) := by
  refine OpR.imp (OpR.or op_lt op_lt_str) fun x y H Q h => ?_
  obtain ⟨G, O, σ, e, m, dx, dy, v, cx, cy, hd, wt⟩ := h
  cases dx with
  | int a =>
    cases dy with
    | int b => cases hd; exact .inl ⟨a, b, cx.int, cy.int, wt.dat (.bl _)⟩
    | _ => cases hd
  | str a =>
    cases dy with
    | str b => cases hd; exact .inr ⟨a, b, cx.str, cy.str, wt.dat (.bl _)⟩
    | _ => cases hd
  | _ => cases hd
theorem or_le : OpR X (compareOp .LtE) (R2D X.K F .le) := by
  refine OpR.imp (OpR.or op_le op_le_str) fun x y H Q h => ?_
  obtain ⟨G, O, σ, e, m, dx, dy, v, cx, cy, hd, wt⟩ := h
  cases dx with
  | int a =>
    cases dy with
    | int b => cases hd; exact .inl ⟨a, b, cx.int, cy.int, wt.dat (.bl _)⟩
    | _ => cases hd
  | str a =>
    cases dy with
    | str b => cases hd; exact .inr ⟨a, b, cx.str, cy.str, wt.dat (.bl _)⟩
    | _ => cases hd
  | _ => cases hd
theorem or_gt : OpR X (compareOp .Gt) (R2D X.K F .gt) := by
  refine OpR.imp op_gt fun x y H Q h => ?_
  obtain ⟨G, O, σ, e, m, dx, dy, v, cx, cy, hd, wt⟩ := h
  cases dx with
  | int a =>
    cases dy with
    | int b => cases hd; exact ⟨a, b, cx.int, cy.int, wt.dat (.bl _)⟩
    | _ => cases hd
  | _ => cases hd
theorem or_ge : OpR X (compareOp .GtE) (R2D X.K F .ge) := by
  refine OpR.imp op_ge fun x y H Q h => ?_
  obtain ⟨G, O, σ, e, m, dx, dy, v, cx, cy, hd, wt⟩ := h
  cases dx with
  | int a =>
    cases dy with
    | int b => cases hd; exact ⟨a, b, cx.int, cy.int, wt.dat (.bl _)⟩
    | _ => cases hd
  | _ => cases hd
/-! dicts -/
theorem keyEq_D (a b : Key) : keyEq (keyD a) (keyD b) = decide (a = b) := by
  cases a <;> cases b <;> simp [keyD, keyEq]
theorem key_is {k : PyData} (h : isKey k = true) : ∃ c : Key, k = keyD c := by
  cases k with
  | int i => exact ⟨.inl i, rfl⟩
  | str i => exact ⟨.inr i, rfl⟩
  | _ => cases h
theorem Rep.key {K : PySem.W.Frag} {O : Own} {H : Hp} {v : V} {c : Key} (h : Rep K O H v (keyD c)) : v = kV c := by
  cases c with
  | inl i => cases h; rfl
  | inr i => cases h; rfl
theorem Cont.key {K : PySem.W.Frag} {O : Own} {H : Hp} {v : V} {c : Key} (h : Cont K O H v (keyD c)) : v = kV c := by
  cases c with
  | inl i => exact h.int
  | inr i => exact h.str
theorem rep_key {K : PySem.W.Frag} {O : Own} {H : Hp} (c : Key) : Rep K O H (kV c) (keyD c) := by
  cases c with
  | inl i => exact .int i
  | inr i => exact .str i
theorem Cont.dct {K : PySem.W.Frag} {O : Own} {H : Hp} {v : V} {es : List (PyData × PyData)} (h : Cont K O H v (.dict es)) : ∃ a ks, v = .ref a ∧ H a = some (.dK ks) ∧ RepKV K O H ks es := by
  rcases h with h | ⟨a, rfl, ks, h, r⟩
  · cases h with
    | dic n h r => exact ⟨_, _, rfl, h, r⟩
  · exact ⟨a, ks, rfl, h, r⟩
def RepO (K : PySem.W.Frag) (O : Own) (H : Hp) : Option V → Option PyData → Prop
  | none, none => True
  | some v, some d => Rep K O H v d
  | _, _ => False
theorem RepKV.look {K : PySem.W.Frag} {O : Own} {H : Hp} (c : Key) : ∀ {ks : List (Key × V)} {es : List (PyData × PyData)}, RepKV K O H ks es → RepO K O H (valV ks c) (dGet es (keyD c))
  | _, _, .nil => trivial
  | (k, v) :: ks, _ :: es, .cons q h r => by
    subst q
    unfold valV dGet
    rw [List.find?_cons, List.find?_cons, keyEq_D]
    by_cases z : k = c
    · simp only [z, decide_true]
      exact h
    · simp only [z, decide_false]
      exact RepKV.look c r
theorem RepO.none {K : PySem.W.Frag} {O : Own} {H : Hp} {o : Option V} (h : RepO K O H o none) : o = none := by
  cases o with
  | none => rfl
  | some v => exact h.elim
theorem RepO.some {K : PySem.W.Frag} {O : Own} {H : Hp} {o : Option V} {d : PyData} (h : RepO K O H o (some d)) : ∃ v, o = some v ∧ Rep K O H v d := by
  cases o with
  | none => exact h.elim
  | some v => exact ⟨v, rfl, h⟩
theorem RepO.is {K : PySem.W.Frag} {O : Own} {H : Hp} {o : Option V} {d : Option PyData} (h : RepO K O H o d) : o.isSome = d.isSome := by
  cases o <;> cases d <;> first | rfl | exact h.elim
theorem op_inK (hu : X.A.units + 65 < cLine) : OpR X (compareOp .In) (fun x y H Q => ∃ a o, y = .ref a ∧ DGet H a x o ∧ Q (.bl o.isSome) H) := by
  intro pins s σ H x y v u Q I rx ry h
  obtain ⟨a, o, rfl, g, q⟩ := h
  cases ry
  exact d_in (by omega) I g rx fun s' I' => ⟨.bl _, H, I', rfl, q⟩
theorem op_notInK (hu : X.A.units + 65 < cLine) : OpR X (compareOp .NotIn) (fun x y H Q => ∃ a o, y = .ref a ∧ DGet H a x o ∧ Q (.bl (!o.isSome)) H) := by
  intro pins s σ H x y v u Q I rx ry h
  obtain ⟨a, o, rfl, g, q⟩ := h
  cases ry
  exact d_notIn (by omega) I g rx fun s' I' => ⟨.bl _, H, I', rfl, q⟩
/-! in, not in -/
def rInT (K : PySem.W.Frag) (neg : Bool) : R2 := fun x y H Q => ∃ d ds, Dp K H x d ∧ Dp K H y (.tuple ds) ∧ SeqAt.shaped d = true ∧ SeqAt.shaped (.tuple ds) = true ∧ Q (.bl (if neg then !inD d ds else inD d ds)) H
theorem op_inT (hu : X.A.units + 65 < cLine) : OpR X (compareOp .In) (rInT X.K false) := by
  intro pins s σ H x y v u Q I rx ry h
  obtain ⟨d, ds, h1, h2, s1, s2, q⟩ := h
  obtain ⟨as, r1⟩ := Dp.reads I d x v h1 rx
  obtain ⟨bs, r2⟩ := Dp.reads I (.tuple ds) y u h2 ry
  exact SeqAt.in_tuple_reads r2 r1 (SeqAt.canLay_of_shaped s2) (SeqAt.canLay_of_shaped s1) (room_in_shaped s1 hu) ⟨.bl _, H, I, rfl, q⟩
theorem op_notInT (hu : X.A.units + 65 < cLine) : OpR X (compareOp .NotIn) (rInT X.K true) := by
  intro pins s σ H x y v u Q I rx ry h
  obtain ⟨d, ds, h1, h2, s1, s2, q⟩ := h
  obtain ⟨as, r1⟩ := Dp.reads I d x v h1 rx
  obtain ⟨bs, r2⟩ := Dp.reads I (.tuple ds) y u h2 ry
  exact SeqAt.notIn_tuple_reads r2 r1 (SeqAt.canLay_of_shaped s2) (SeqAt.canLay_of_shaped s1) (room_in_shaped s1 hu) ⟨.bl _, H, I, rfl, q⟩
theorem or_in (hu : X.A.units + 65 < cLine) : OpR X (compareOp .In) (R2D X.K F .inn) := by
  refine OpR.imp (OpR.or (op_inD hu) (OpR.or (op_inT hu) (OpR.or op_in_str (op_inK hu)))) fun x y H Q h => ?_
  obtain ⟨G, O, σ, e, m, dx, dy, v, cx, cy, hd, wt⟩ := h
  have hd : (in? dx dy).map (fun r => Val.dat (.bool r)) = some v := by cases dx <;> exact hd
  obtain ⟨r, hr, rfl⟩ := Option.map_eq_some_iff.mp hd
  cases dy with
  | list ds =>
    obtain ⟨hc, rfl⟩ := some_ite hr
    obtain ⟨h1, h2⟩ := Bool.and_eq_true_iff.mp hc
    exact .inl ⟨dx, ds, cx.dp (SeqAt.canLay_of_shaped h1), cy.dp (SeqAt.canLay_of_shaped h2), h1, h2, wt.dat (.bl _)⟩
  | tuple ds =>
    obtain ⟨hc, rfl⟩ := some_ite hr
    obtain ⟨h1, h2⟩ := Bool.and_eq_true_iff.mp hc
    exact .inr (.inl ⟨dx, ds, cx.dp (SeqAt.canLay_of_shaped h1), cy.dp (SeqAt.canLay_of_shaped h2), h1, h2, wt.dat (.bl _)⟩)
  | str z =>
    cases dx with
    | str c => cases hr; exact .inr (.inr (.inl ⟨c, z, cx.str, cy.str, wt.dat (.bl _)⟩))
    | _ => cases hr
  | dict es =>
    obtain ⟨hk, rfl⟩ := some_ite hr
    obtain ⟨c, rfl⟩ := key_is hk
    obtain ⟨a, ks, rfl, ha, r⟩ := cy.dct
    have rl := r.look c
    refine .inr (.inr (.inr ⟨a, valV ks c, rfl, by rw [cx.key]; exact DGet.k ha, ?_⟩))
    rw [rl.is]
    exact wt.dat (.bl _)
  | _ => cases hr
theorem or_notin (hu : X.A.units + 65 < cLine) : OpR X (compareOp .NotIn) (R2D X.K F .nin) := by
  refine OpR.imp (OpR.or (op_notInD hu) (OpR.or (op_notInT hu) (OpR.or op_notin_str (op_notInK hu)))) fun x y H Q h => ?_
  obtain ⟨G, O, σ, e, m, dx, dy, v, cx, cy, hd, wt⟩ := h
  have hd : (in? dx dy).map (fun r => Val.dat (.bool (!r))) = some v := by cases dx <;> exact hd
  obtain ⟨r, hr, rfl⟩ := Option.map_eq_some_iff.mp hd
  cases dy with
  | list ds =>
    obtain ⟨hc, rfl⟩ := some_ite hr
    obtain ⟨h1, h2⟩ := Bool.and_eq_true_iff.mp hc
    exact .inl ⟨dx, ds, cx.dp (SeqAt.canLay_of_shaped h1), cy.dp (SeqAt.canLay_of_shaped h2), h1, h2, wt.dat (.bl _)⟩
  | tuple ds =>
    obtain ⟨hc, rfl⟩ := some_ite hr
    obtain ⟨h1, h2⟩ := Bool.and_eq_true_iff.mp hc
    exact .inr (.inl ⟨dx, ds, cx.dp (SeqAt.canLay_of_shaped h1), cy.dp (SeqAt.canLay_of_shaped h2), h1, h2, wt.dat (.bl _)⟩)
  | str z =>
    cases dx with
    | str c => cases hr; exact .inr (.inr (.inl ⟨c, z, cx.str, cy.str, wt.dat (.bl _)⟩))
    | _ => cases hr
  | dict es =>
    obtain ⟨hk, rfl⟩ := some_ite hr
    obtain ⟨c, rfl⟩ := key_is hk
    obtain ⟨a, ks, rfl, ha, r⟩ := cy.dct
    have rl := r.look c
    refine .inr (.inr (.inr ⟨a, valV ks c, rfl, by rw [cx.key]; exact DGet.k ha, ?_⟩))
    rw [rl.is]
    exact wt.dat (.bl _)
  | _ => cases hr
theorem Cont.isN {K : PySem.W.Frag} {O : Own} {H : Hp} {v : V} {d : PyData} (h : Cont K O H v d) : decide (v = .non) = isNone d := by
  rcases h with h | ⟨a, rfl, h⟩
  · cases h <;> first | rfl | exact decide_eq_false fun z => nomatch z
  · cases d <;> first | exact h.elim | exact decide_eq_false fun z => nomatch z
theorem or_isN : OpR X (compareOp .Is) (R2D X.K F .isN) := by
  refine OpR.imp op_isN fun x y H Q h => ?_
  obtain ⟨G, O, σ, e, m, dx, dy, v, cx, cy, hd, wt⟩ := h
  cases dy with
  | none =>
    have hd : some (Val.dat (.bool (isNone dx))) = some v := by cases dx <;> exact hd
    cases hd
    refine ⟨cy.non, ?_⟩
    rw [cx.isN]
    exact wt.dat (.bl _)
  | _ => cases dx <;> cases hd
theorem or_notN : OpR X (compareOp .IsNot) (R2D X.K F .notN) := by
  refine OpR.imp op_notN fun x y H Q h => ?_
  obtain ⟨G, O, σ, e, m, dx, dy, v, cx, cy, hd, wt⟩ := h
  cases dy with
  | none =>
    have hd : some (Val.dat (.bool (!isNone dx))) = some v := by cases dx <;> exact hd
    cases hd
    refine ⟨cy.non, ?_⟩
    rw [cx.isN]
    exact wt.dat (.bl _)
  | _ => cases dx <;> cases hd
theorem at_rep {K : PySem.W.Frag} {O : Own} {H : Hp} {xs : List V} {ds : List PyData} {i : Int} {d : PyData} (r : RepAll K O H xs ds) (h : atI ds i = some d) : ∃ v, atI xs i = some v ∧ Rep K O H v d := by
  unfold atI at h ⊢
  rw [r.length]
  obtain ⟨j, h1, h2⟩ := Option.bind_eq_some_iff.mp h
  obtain ⟨v, h3, h4⟩ := r.get' h2
  exact ⟨v, by rw [h1]; exact h3, h4⟩
theorem ix_dK (hu : X.A.units + 65 < cLine) : IxR X (fun x y H Q => ∃ a v, x = .ref a ∧ DGet H a y (some v) ∧ Q v H) := by
  intro ea eb pins s σ H x y v u Q I rx ry h hs
  obtain ⟨a, z, rfl, g, q⟩ := h
  cases rx
  exact tail_any (dict_typeIs I g) PySem.F.slot_dict_getitem.lookup (d_getItem (by omega) I g ry fun w' s3 I3 rw' => ⟨z, H, I3, rw', q⟩) hs
theorem or_idx (hu : X.A.units + 65 < cLine) : IxR X (R2D X.K F .idx) := by
  intro ea eb pins s σ H x y v u Q I rx ry h hs
  refine IxR.or ix_seq (ix_dK hu) ea eb pins s σ H x y v u Q I rx ry ?_ hs
  obtain ⟨G, O, σ, e, m, dx, dy, v, cx, cy, hd, wt⟩ := h
  cases dx with
  | list a =>
    cases dy with
    | int i =>
      obtain ⟨d, hd2, rfl⟩ := Option.map_eq_some_iff.mp (show (atI a i).map Val.dat = some v from hd)
      obtain ⟨p, xs, rfl, hp, rp⟩ := cx.lst
      obtain ⟨z, h1, h2⟩ := at_rep rp hd2
      exact .inl (.inl ⟨p, xs, i, z, rfl, cy.int, hp, h1, wt.dat h2⟩)
    | _ => cases hd
  | tuple a =>
    cases dy with
    | int i =>
      obtain ⟨d, hd2, rfl⟩ := Option.map_eq_some_iff.mp (show (atI a i).map Val.dat = some v from hd)
      obtain ⟨p, xs, rfl, hp, rp⟩ := cx.tup
      obtain ⟨z, h1, h2⟩ := at_rep rp hd2
      exact .inl (.inr (.inl ⟨p, xs, i, z, rfl, cy.int, hp, h1, wt.dat h2⟩))
    | _ => cases hd
  | str z =>
    cases dy with
    | int i =>
      obtain ⟨hz, hd1⟩ := some_ifO (show (if z.length ≤ SZ then (L2.atI z.cps.toList i).map (fun c => Val.dat (strD c)) else none) = some v from hd)
      obtain ⟨c, hd2, rfl⟩ := Option.map_eq_some_iff.mp hd1
      exact .inl (.inr (.inr ⟨z, i, c, cx.str, cy.int, by rw [← sz_eq]; exact hz, hd2, wt.dat (.str _)⟩))
    | _ => cases hd
  | dict es =>
    have hd : (if isKey dy = true then (dGet es dy).map Val.dat else none) = some v := by cases dy <;> exact hd
    by_cases hk : isKey dy = true
    · rw [if_pos hk] at hd
      obtain ⟨d, hd2, rfl⟩ := Option.map_eq_some_iff.mp hd
      obtain ⟨c, rfl⟩ := key_is hk
      obtain ⟨a, ks, rfl, ha, r⟩ := cx.dct
      have rl := r.look c
      rw [hd2] at rl
      obtain ⟨z, z1, z2⟩ := rl.some
      exact .inr ⟨a, z, rfl, by rw [cy.key, ← z1]; exact DGet.k ha, wt.dat z2⟩
    · rw [if_neg hk] at hd; cases hd
  | _ => cases hd
end
end Fb

namespace Fb
open PySem PySem.Spec PyProof.Rows L2
section
variable {X : Cx} {F : List Addr}
def C1D (K : PySem.W.Frag) (F : List Addr) (o : O1) : List V → Hp → VK → Prop := fun xs H Q => ∃ x, xs = [x] ∧ R1D K F o x H Q
def C2D (K : PySem.W.Frag) (F : List Addr) (o : O2) : List V → Hp → VK → Prop := fun xs H Q => ∃ x y, xs = [x, y] ∧ R2D K F o x y H Q
theorem CallR.imp {f : Value} {r r' : List V → Hp → VK → Prop} (h : CallR X f r) (k : ∀ x H Q, r' x H Q → r x H Q) : CallR X f r' := fun pins s σ H xs us Q I rv q => h pins s σ H xs us Q I rv (k xs H Q q)
theorem ints_rep {K : PySem.W.Frag} {O : Own} {H : Hp} : ∀ {xs : List V} {ds : List PyData} {l : List Int}, RepAll K O H xs ds → ints? ds = some l → xs = l.map V.int
  | _, _, _, .nil, h => by cases h; rfl
  | _, _, l, .cons (d := d) (ds := ds) h r, e => by
    cases d with
    | int i =>
      obtain ⟨l', h1, rfl⟩ := Option.map_eq_some_iff.mp (show (ints? ds).map (i :: ·) = some l from e)
      cases h
      rw [ints_rep r h1]
      rfl
    | _ => cases e
theorem bools_rep {K : PySem.W.Frag} {O : Own} {H : Hp} : ∀ {xs : List V} {ds : List PyData} {l : List Bool}, RepAll K O H xs ds → bools? ds = some l → xs = l.map V.bl
  | _, _, _, .nil, h => by cases h; rfl
  | _, _, l, .cons (d := d) (ds := ds) h r, e => by
    cases d with
    | bool i =>
      obtain ⟨l', h1, rfl⟩ := Option.map_eq_some_iff.mp (show (bools? ds).map (i :: ·) = some l from e)
      cases h
      rw [bools_rep r h1]
      rfl
    | _ => cases e
theorem rep_ints {K : PySem.W.Frag} {O : Own} {H : Hp} : ∀ (l : List Int), RepAll K O H (l.map V.int) (ofInts l)
  | [] => .nil
  | i :: l => .cons (.int i) (rep_ints l)
/-! sorting -/
theorem ins_perm (x : Int) : ∀ l : List Int, (ins x l).Perm (x :: l)
  | [] => .refl _
  | y :: r => by
    unfold ins
    split
    · exact .refl _
    · exact ((ins_perm x r).cons y).trans (.swap x y r)
theorem isort_perm : ∀ l : List Int, (isort l).Perm l
  | [] => .refl _
  | x :: r => (ins_perm x (isort r)).trans ((isort_perm r).cons x)
theorem ins_sorted (x : Int) : ∀ l : List Int, l.Pairwise (· ≤ ·) → (ins x l).Pairwise (· ≤ ·)
  | [], _ => List.pairwise_singleton _ _
  | y :: r, h => by
    obtain ⟨h1, h2⟩ := List.pairwise_cons.mp h
    unfold ins
    split
    · rename_i hxy
      exact List.pairwise_cons.mpr ⟨fun z hz => by
        rcases List.mem_cons.mp hz with rfl | hz
        · exact hxy
        · exact Int.le_trans hxy (h1 z hz), h⟩
    · rename_i hxy
      refine List.pairwise_cons.mpr ⟨fun z hz => ?_, ins_sorted x r h2⟩
      rcases List.mem_cons.mp ((ins_perm x r).mem_iff.mp hz) with rfl | hz
      · omega
      · exact h1 z hz
theorem isort_sorted : ∀ l : List Int, (isort l).Pairwise (· ≤ ·)
  | [] => .nil
  | x :: r => ins_sorted x _ (isort_sorted r)
theorem sorted_eq : ∀ {a b : List Int}, a.Perm b → a.Pairwise (· ≤ ·) → b.Pairwise (· ≤ ·) → a = b
  | [], b, p, _, _ => (List.Perm.nil_eq p)
  | x :: r, [], p, _, _ => (List.nil_perm.mp p.symm)
  | x :: r, y :: t, p, h1, h2 => by
    obtain ⟨a1, a2⟩ := List.pairwise_cons.mp h1
    obtain ⟨b1, b2⟩ := List.pairwise_cons.mp h2
    have e : x = y := by
      have m1 : x ∈ y :: t := p.mem_iff.mp List.mem_cons_self
      have m2 : y ∈ x :: r := p.mem_iff.mpr List.mem_cons_self
      rcases List.mem_cons.mp m1 with e | m1
      · exact e
      · rcases List.mem_cons.mp m2 with e | m2
        · exact e.symm
        · exact Int.le_antisymm (a1 y m2) (b1 x m1)
    subst e
    rw [sorted_eq (List.perm_cons x |>.mp p) a2 b2]
/-! builtins -/
theorem RepKV.length {K : PySem.W.Frag} {O : Own} {H : Hp} : ∀ {ks : List (Key × V)} {es : List (PyData × PyData)}, RepKV K O H ks es → ks.length = es.length
  | _, _, .nil => rfl
  | _, _, .cons _ _ r => congrArg (· + 1) r.length
theorem RepKV.keys {K : PySem.W.Frag} {O : Own} {H : Hp} : ∀ {ks : List (Key × V)} {es : List (PyData × PyData)}, RepKV K O H ks es → RepAll K O H (ks.map fun kv => kV kv.1) (es.map (·.1))
  | _, _, .nil => .nil
  | _, _, .cons q _ r => by subst q; exact .cons (rep_key _) r.keys
theorem cr_len : CallR X (.builtin "len") (C1D X.K F .len) := by
  refine CallR.imp (CallR.or call_len_seq (CallR.or call_len_str call_lenD)) fun xs H Q h => ?_
  obtain ⟨x, rfl, G, O, σ, e, m, d, v, cx, hd, wt⟩ := h
  cases d with
  | list a =>
    obtain ⟨p, ys, rfl, hp, rp⟩ := cx.lst
    cases hd
    refine .inl ⟨p, ys, rfl, .inl hp, ?_⟩
    rw [rp.length]
    exact wt.dat (.int _)
  | tuple a =>
    obtain ⟨p, ys, rfl, hp, rp⟩ := cx.tup
    cases hd
    refine .inl ⟨p, ys, rfl, .inr hp, ?_⟩
    rw [rp.length]
    exact wt.dat (.int _)
  | str z =>
    obtain ⟨hz, rfl⟩ := some_ite hd
    exact .inr (.inl ⟨z, by rw [cx.str], by rw [← sz_eq]; exact hz, wt.dat (.int _)⟩)
  | dict es =>
    cases hd
    obtain ⟨a, ks, rfl, ha, r⟩ := cx.dct
    refine .inr (.inr ⟨a, ks, rfl, ha, ?_⟩)
    rw [r.length]
    exact wt.dat (.int _)
  | _ => cases hd
theorem cr_tuple : CallR X (.type "tuple") (C1D X.K F .tuple) := by
  refine CallR.imp call_tuple_of fun xs H Q h => ?_
  obtain ⟨x, rfl, G, O, σ, e, m, d, v, cx, hd, wt⟩ := h
  cases d with
  | list a =>
    obtain ⟨p, ys, rfl, hp, rp⟩ := cx.lst
    cases hd
    exact ⟨p, ys, rfl, .inl ⟨hp, wt.tup rp⟩⟩
  | tuple a =>
    have r : Rep X.K O H x (.tuple a) := cx.elim id fun ⟨a, _, h⟩ => h.elim
    obtain ⟨p, ys, rfl, hp, rp⟩ := cx.tup
    cases hd
    exact ⟨p, ys, rfl, .inr ⟨hp, wt.dat r⟩⟩
  | _ => cases hd
theorem cr_list (hc : X.calm = true) : CallR X (.type "list") (C1D X.K F .list) := by
  refine CallR.imp (CallR.or call_list_of (call_list_dK hc)) fun xs H Q h => ?_
  obtain ⟨x, rfl, G, O, σ, e, m, d, v, cx, hd, wt⟩ := h
  cases d with
  | list a =>
    obtain ⟨p, ys, rfl, hp, rp⟩ := cx.lst
    cases hd
    exact .inl ⟨p, ys, rfl, .inl hp, wt.lst rp⟩
  | tuple a =>
    obtain ⟨p, ys, rfl, hp, rp⟩ := cx.tup
    cases hd
    exact .inl ⟨p, ys, rfl, .inr hp, wt.lst rp⟩
  | dict es =>
    cases hd
    obtain ⟨a, ks, rfl, ha, r⟩ := cx.dct
    exact .inr ⟨a, ks, rfl, ha, wt.lst r.keys⟩
  | _ => cases hd
theorem pairs_rep {K : PySem.W.Frag} {O : Own} {H : Hp} : ∀ {xs : List V} {ds : List PyData} {es : List (PyData × PyData)}, RepAll K O H xs ds → pairs? ds = some es →
    ∃ (ps : List Addr) (kvs : List (Key × V)), xs = ps.map V.ref ∧ Paired (fun p kv => SqT K H p [kV kv.1, kv.2]) ps kvs ∧ RepKV K O H kvs es
  | _, _, _, .nil, h => by cases h; exact ⟨[], [], rfl, .nil, .nil⟩
  | _, _, _, .cons (d := d) hv r, h => by
    unfold pairs? at h
    split at h
    · rename_i z; cases z
    · rename_i k v rr z
      cases z
      by_cases hk : isKey k = true
      · rw [if_pos hk] at h
        obtain ⟨es', he, rfl⟩ := Option.map_eq_some_iff.mp h
        obtain ⟨c, rfl⟩ := key_is hk
        obtain ⟨ps, kvs, h1, h2, h3⟩ := pairs_rep r he
        cases hv with
        | tup ot ra =>
          rename_i a ys
          cases ra with
          | cons r1 ra =>
            cases ra with
            | cons r2 ra =>
              cases ra
              rw [r1.key] at ot
              exact ⟨a :: ps, (c, _) :: kvs, by rw [h1]; rfl, .cons ot.sq h2, .cons rfl r2 h3⟩
      · rw [if_neg hk] at h; cases h
    · cases h
theorem keyEq_any {K : PySem.W.Frag} {O : Own} {H : Hp} (c : Key) : ∀ {ks : List (Key × V)} {es : List (PyData × PyData)}, RepKV K O H ks es → (ks.any fun kv => decide (kv.1 = c)) = es.any fun p => keyEq p.1 (keyD c)
  | _, _, .nil => rfl
  | _, _, .cons q h r => by
    subst q
    rw [List.any_cons, List.any_cons, keyEq_any c r, keyEq_D]
theorem RepKV.map {K : PySem.W.Frag} {O : Own} {H : Hp} (c : Key) {v : V} {d : PyData} (hv : Rep K O H v d) : ∀ {ks : List (Key × V)} {es : List (PyData × PyData)}, RepKV K O H ks es → RepKV K O H (ks.map fun kv => if kv.1 = c then (kv.1, v) else kv) (es.map fun p => if keyEq p.1 (keyD c) = true then (p.1, d) else p)
  | _, _, .nil => .nil
  | _, _, .cons (k := k) q h r => by
    subst q
    rw [List.map_cons, List.map_cons]
    by_cases z : k = c
    · rw [if_pos z, if_pos (by rw [keyEq_D]; exact decide_eq_true z)]
      exact .cons rfl hv (RepKV.map c hv r)
    · rw [if_neg z, if_neg (by rw [keyEq_D, decide_eq_false z]; exact Bool.false_ne_true)]
      exact .cons rfl h (RepKV.map c hv r)
theorem RepKV.append {K : PySem.W.Frag} {O : Own} {H : Hp} : ∀ {ks ks' : List (Key × V)} {es es' : List (PyData × PyData)}, RepKV K O H ks es → RepKV K O H ks' es' → RepKV K O H (ks ++ ks') (es ++ es')
  | _, _, _, _, .nil, q => q
  | _, _, _, _, .cons q h r, z => .cons q h (r.append z)
theorem RepKV.put {K : PySem.W.Frag} {O : Own} {H : Hp} {c : Key} {v : V} {d : PyData} {ks : List (Key × V)} {es : List (PyData × PyData)} (r : RepKV K O H ks es) (hv : Rep K O H v d) : RepKV K O H (putK ks c v) (dPut es (keyD c) d) := by
  unfold putK dPut
  rw [keyEq_any c r]
  split
  · exact RepKV.map c hv r
  · exact r.append (.cons rfl hv .nil)
theorem RepKV.merge {K : PySem.W.Frag} {O : Own} {H : Hp} : ∀ {more : List (Key × V)} {me : List (PyData × PyData)} {ks : List (Key × V)} {es : List (PyData × PyData)}, RepKV K O H more me → RepKV K O H ks es → RepKV K O H (mergeK ks more) (dMerge es me)
  | _, _, _, _, .nil, r => r
  | _, _, _, _, .cons (k := k) q h m, r => by
    subst q
    have z := RepKV.merge m (r.put (c := k) h)
    exact z
theorem cr_dict (hc : X.calm = true) : CallR X (.type "dict") (C1D X.K F .dict) := by
  refine CallR.imp (CallR.or (call_dictP hc) call_dictD) fun xs H Q h => ?_
  obtain ⟨x, rfl, G, O, σ, e, m, d, v, cx, hd, wt⟩ := h
  cases d with
  | list a =>
    obtain ⟨es, he, rfl⟩ := Option.map_eq_some_iff.mp (show (pairs? a).map (fun es => Val.uni (.dict (dMerge [] es))) = some v from hd)
    obtain ⟨p, ys, rfl, hp, rp⟩ := cx.lst
    obtain ⟨ps, kvs, rfl, h2, h3⟩ := pairs_rep rp he
    exact .inl ⟨p, ps, kvs, rfl, hp, h2, wt.dct (RepKV.merge h3 .nil)⟩
  | dict es =>
    cases hd
    obtain ⟨a, ks, rfl, ha, r⟩ := cx.dct
    exact .inr ⟨a, ks, rfl, .inl ha, wt.dct r⟩
  | _ => cases hd
theorem cr_int : CallR X (.type "int") (C1D X.K F .int) := by
  refine CallR.imp call_int1 fun xs H Q h => ?_
  obtain ⟨x, rfl, G, O, σ, e, m, d, v, cx, hd, wt⟩ := h
  cases d with
  | int a => cases hd; exact .inl ⟨a, by rw [cx.int], wt.dat (.int _)⟩
  | bool a => cases hd; exact .inr ⟨a, by rw [cx.bl], wt.dat (.int _)⟩
  | _ => cases hd
theorem cr_str : CallR X (.type "str") (C1D X.K F .str) := by
  refine CallR.imp call_str_int fun xs H Q h => ?_
  obtain ⟨x, rfl, G, O, σ, e, m, d, v, cx, hd, wt⟩ := h
  cases d with
  | int a =>
    obtain ⟨hz, rfl⟩ := some_ite hd
    exact ⟨a, by rw [cx.int], hz, wt.dat (.str _)⟩
  | _ => cases hd
theorem cr_allD (hc : X.calm = true) : CallR X (.builtin "all") (C1D X.K F .all) := by
  refine CallR.imp (cr_all hc) fun xs H Q h => ?_
  obtain ⟨x, rfl, G, O, σ, e, m, d, v, cx, hd, wt⟩ := h
  cases d with
  | list a =>
    obtain ⟨l, h1, rfl⟩ := Option.map_eq_some_iff.mp (show (bools? a).map (fun l => Val.dat (.bool (l.all id))) = some v from hd)
    obtain ⟨p, ys, rfl, hp, rp⟩ := cx.lst
    rw [bools_rep rp h1] at hp
    exact ⟨p, l, rfl, hp, wt.dat (.bl _)⟩
  | _ => cases hd
theorem cr_anyD (hc : X.calm = true) : CallR X (.builtin "any") (C1D X.K F .any) := by
  refine CallR.imp (cr_any hc) fun xs H Q h => ?_
  obtain ⟨x, rfl, G, O, σ, e, m, d, v, cx, hd, wt⟩ := h
  cases d with
  | list a =>
    obtain ⟨l, h1, rfl⟩ := Option.map_eq_some_iff.mp (show (bools? a).map (fun l => Val.dat (.bool (l.any id))) = some v from hd)
    obtain ⟨p, ys, rfl, hp, rp⟩ := cx.lst
    rw [bools_rep rp h1] at hp
    exact ⟨p, l, rfl, hp, wt.dat (.bl _)⟩
  | _ => cases hd
theorem cr_sumD (hc : X.calm = true) : CallR X (.builtin "sum") (C1D X.K F .sum) := by
  refine CallR.imp (cr_sum hc) fun xs H Q h => ?_
  obtain ⟨x, rfl, G, O, σ, e, m, d, v, cx, hd, wt⟩ := h
  cases d with
  | list a =>
    obtain ⟨l, h1, rfl⟩ := Option.map_eq_some_iff.mp (show (ints? a).map (fun l => Val.dat (.int l.sum)) = some v from hd)
    obtain ⟨p, ys, rfl, hp, rp⟩ := cx.lst
    rw [ints_rep rp h1] at hp
    exact ⟨p, l, rfl, hp, wt.dat (.int _)⟩
  | _ => cases hd
theorem cr_min2 (hc : X.calm = true) : CallR X (.builtin "min") (C2D X.K F .min) := by
  refine CallR.imp (call_min2 hc) fun xs H Q h => ?_
  obtain ⟨x, y, rfl, G, O, σ, e, m, dx, dy, v, cx, cy, hd, wt⟩ := h
  cases dx with
  | int a =>
    cases dy with
    | int b => cases hd; exact ⟨a, b, by rw [cx.int, cy.int], wt.dat (.int _)⟩
    | _ => cases hd
  | _ => cases hd
theorem cr_max2 (hc : X.calm = true) : CallR X (.builtin "max") (C2D X.K F .max) := by
  refine CallR.imp (call_max2 hc) fun xs H Q h => ?_
  obtain ⟨x, y, rfl, G, O, σ, e, m, dx, dy, v, cx, cy, hd, wt⟩ := h
  cases dx with
  | int a =>
    cases dy with
    | int b => cases hd; exact ⟨a, b, by rw [cx.int, cy.int], wt.dat (.int _)⟩
    | _ => cases hd
  | _ => cases hd
theorem ur_neg : UnR X (unaryOp .USub) (R1D X.K F .neg) := by
  intro pins s σ H x v Q I rx h
  refine un_neg pins s σ H x v Q I rx ?_
  obtain ⟨G, O, σ, e, m, d, v, cx, hd, wt⟩ := h
  cases d with
  | int a => cases hd; exact ⟨a, cx.int, wt.dat (.int _)⟩
  | _ => cases hd
end
end Fb

namespace Fb
open PySem PySem.Spec PyProof.Rows L2
section
variable {α : Type} {le : α → α → Bool}
theorem insB_perm (x : α) : ∀ l : List α, (insB le x l).Perm (x :: l)
  | [] => .refl _
  | y :: r => by
    unfold insB
    split
    · exact .refl _
    · exact ((insB_perm x r).cons y).trans (.swap x y r)
theorem sortB_perm : ∀ l : List α, (sortB le l).Perm l
  | [] => .refl _
  | x :: r => (insB_perm x _).trans ((sortB_perm r).cons x)
theorem insB_sorted (h : PySem.W.TotalLe le) (x : α) : ∀ l : List α, l.Pairwise (fun a b => le a b = true) → (insB le x l).Pairwise (fun a b => le a b = true)
  | [], _ => List.pairwise_singleton _ _
  | y :: r, hp => by
    obtain ⟨h1, h2⟩ := List.pairwise_cons.mp hp
    unfold insB
    split
    · rename_i hxy
      exact List.pairwise_cons.mpr ⟨fun z hz => by
        rcases List.mem_cons.mp hz with rfl | hz
        · exact hxy
        · exact h.trans _ _ _ hxy (h1 z hz), hp⟩
    · rename_i hxy
      refine List.pairwise_cons.mpr ⟨fun z hz => ?_, insB_sorted h x r h2⟩
      rcases List.mem_cons.mp ((insB_perm x r).mem_iff.mp hz) with rfl | hz
      · rcases h.total z y with t | t
        · exact absurd t hxy
        · exact t
      · exact h1 z hz
theorem sortB_sorted (h : PySem.W.TotalLe le) : ∀ l : List α, (sortB le l).Pairwise (fun a b => le a b = true)
  | [] => .nil
  | x :: r => insB_sorted h x _ (sortB_sorted h r)
theorem insB_filter (h : PySem.W.TotalLe le) (c x : α) : ∀ l : List α, (insB le x l).filter (PySem.W.sameRank le c) = (x :: l).filter (PySem.W.sameRank le c)
  | [] => rfl
  | y :: r => by
    unfold insB
    split
    · rfl
    · rename_i hxy
      simp only [List.filter_cons, insB_filter h c x r]
      cases hx : PySem.W.sameRank le c x with
      | false => simp
      | true =>
        cases hy : PySem.W.sameRank le c y with
        | false => simp
        | true =>
          refine absurd ?_ hxy
          have a1 := Bool.and_eq_true_iff.mp hx
          have a2 := Bool.and_eq_true_iff.mp hy
          first
            | exact h.trans _ _ _ a1.2 a2.1
            | exact h.trans _ _ _ a1.1 a2.2
theorem sortB_filter (h : PySem.W.TotalLe le) (c : α) : ∀ l : List α, (sortB le l).filter (PySem.W.sameRank le c) = l.filter (PySem.W.sameRank le c)
  | [] => rfl
  | x :: r => by
    show (insB le x (sortB le r)).filter _ = _
    rw [insB_filter h c x, List.filter_cons, List.filter_cons, sortB_filter h c r]
theorem sortB_eq (h : PySem.W.TotalLe le) (l : List α) : sortB le l = l.mergeSort le := PySem.W.sort_unique h (sortB_sorted h l) fun c => sortB_filter h c l
end
theorem leD_total : PySem.W.TotalLe leD := PySem.W.sortLe_total (PyProof.Rows.listOrd PyProof.Rows.itemOrd) false fun d => PySem.W.keyToks d
/-! sorted(xs), xs a list or a tuple of alike data -/
section
variable {X : Cx} {F : List Addr}
theorem vals_each {K : PySem.W.Frag} {O : Own} {H : Hp} : ∀ {xs : List V} {us : List Value} {ds : List PyData}, Vals xs us → RepAll K O H xs ds → PySem.W.EachIs (fun v d => ∃ x, RelV x v ∧ Rep K O H x d) us ds
  | _, _, _, .nil, .nil => .nil
  | _, _, _, .cons r t, .cons h q => .cons ⟨_, r, h⟩ (vals_each t q)
theorem each_vals {K : PySem.W.Frag} {O : Own} {H : Hp} : ∀ {us : List Value} {ds : List PyData}, PySem.W.EachIs (fun v d => ∃ x, RelV x v ∧ Rep K O H x d) us ds → ∃ xs, Vals xs us ∧ RepAll K O H xs ds
  | _, _, .nil => ⟨[], .nil, .nil⟩
  | _, _, .cons ⟨x, r, h⟩ t => let ⟨xs, h1, h2⟩ := each_vals t; ⟨x :: xs, .cons r h1, .cons h h2⟩
mutual
theorem Reads.low {h : Heap} : ∀ {v : Value} {d : PyData} {as : List Addr}, Reads h v d as → ∀ a ∈ as, ∃ o, h.get? a = some o
  | _, _, _, .none, _, z => nomatch z
  | _, _, _, .bool _, _, z => nomatch z
  | _, _, _, .int _ _, _, z => nomatch z
  | _, _, _, .str _ _, _, z => nomatch z
  | _, _, _, .list h1 _ _ h4, a, z => by
    rcases List.mem_cons.mp z with rfl | z
    · exact ⟨_, h1⟩
    · exact ReadsAll.low h4 a z
  | _, _, _, .tuple _ _ _ h4, a, z => ReadsAll.low h4 a z
  | _, _, _, .dict h1 _ _ h4 h5, a, z => by
    rcases List.mem_append.mp z with z | z
    · rcases List.mem_cons.mp z with rfl | z
      · exact ⟨_, h1⟩
      · exact ReadsAll.low h4 a z
    · exact ReadsAll.low h5 a z
theorem ReadsAll.low {h : Heap} : ∀ {v : List Value} {d : List PyData} {as : List Addr}, ReadsAll h v d as → ∀ a ∈ as, ∃ o, h.get? a = some o
  | _, _, _, .nil, _, z => nomatch z
  | _, _, _, .cons h1 h2, a, z => by
    rcases List.mem_append.mp z with z | z
    · exact Reads.low h1 a z
    · exact ReadsAll.low h2 a z
end
end
end Fb

namespace Fb
open PySem PySem.Spec PyProof.Rows L2
section
variable {X : Cx} {F : List Addr}
theorem sort_facts {ds l : List PyData} (h : sort? ds = some l) : PySem.W.AllAlike ds ∧ PySem.W.Sortable ds ∧ SeqAt.shaped (.list ds) = true ∧ ds.length ≤ sizeLine ∧ l = ds.mergeSort leD := by
  obtain ⟨hc, rfl⟩ := some_ite h
  simp only [Bool.and_eq_true, Bool.or_eq_true, List.all_eq_true, decide_eq_true_eq] at hc
  obtain ⟨⟨⟨h1, h2⟩, h3⟩, h4⟩ := hc
  refine ⟨fun d hd e he => h1 d hd e he, ?_, h3, by rw [sizeLine_eq]; exact h4, sortB_eq leD_total ds⟩
  rcases h2 with h2 | h2
  · refine .inl fun d hd => ?_
    have q := h2 d hd
    cases d with
    | tuple xs =>
      cases xs with
      | nil => cases q
      | cons x r => exact ⟨x, r, rfl⟩
    | _ => cases q
  · refine .inr fun d hd => ?_
    have q := h2 d hd
    cases d with
    | none => cases q
    | tuple xs => cases q
    | _ => exact ⟨(fun z => nomatch z), fun _ z => nomatch z⟩
theorem depth_all {ds : List PyData} {d : PyData} (h : d ∈ ds) : d.depth ≤ PyData.depthAll ds := by
  induction ds with
  | nil => cases h
  | cons e r ih =>
    rw [PyData.depthAll]
    rcases List.mem_cons.mp h with rfl | h
    · exact Nat.le_max_left _ _
    · exact Nat.le_trans (ih h) (Nat.le_max_right _ _)
theorem each_reads {pins : List (Addr × Obj)} {s : Shared} {σ : L2.St} {H : Hp} {O : Own} {h2 : Heap} {a : Addr} (I : Inv X pins σ H s) (kp : ∀ b ob, s.heap.get? b = some ob → h2.get? b = some ob) (na : ∀ ob, s.heap.get? a ≠ some ob) :
    ∀ {ys : List V} {its : List Value} {ds : List PyData}, Vals ys its → RepAll X.K O H ys ds → PyData.canLayAll0 ds = true → PySem.W.EachIs (fun v b => ∃ as, Reads h2 v b as ∧ a ∉ as) its ds
  | _, _, _, .nil, .nil, _ => .nil
  | _, _, _, .cons r t, .cons hr q, cl => by
    obtain ⟨c1, c2⟩ := hd_cons cl
    obtain ⟨as, ra⟩ := Dp.reads I _ _ _ (hr.dp c1) r
    refine .cons ⟨as, PyProof.Rows.Reads.keeps kp ra, fun z => ?_⟩ (each_reads I kp na t q c2)
    obtain ⟨ob, q⟩ := Reads.low ra _ z
    exact na ob q
theorem sort_core {pins : List (Addr × Obj)} {s : Shared} {σ : L2.St} {H : Hp} {p : Addr} {ys : List V} {its : List Value} {ds l : List PyData} {O : Own} {T : String} {o : Obj} {n : Nat} {Q : VK} {E : Value → Shared → Prop}
    (hu : X.A.units + 100 < cLine) (I : Inv X pins σ H s) (hT : T = "list" ∨ T = "tuple") (ho : s.heap.get? p = some o) (hc : o.cls = .type T) (hd : o.data = .seq its.toArray n) (rv : Vals ys its) (rp : RepAll X.K O H ys ds) (hs : sort? ds = some l)
    (h : ∀ zs a, RepAll X.K O H zs l → H a = none → Q (.ref a) (upd H a (.lst zs))) :
    wpAny (model X.prog X.w) X.A (call (.builtin "sorted") [.ref p]) (EP X pins σ Q) E s := by
  obtain ⟨al, so, sh, hz, rfl⟩ := sort_facts hs
  have hlen : its.length = ds.length := by rw [← rv.length, rp.length]
  have hz1 : its.length ≤ sizeLine := by rw [hlen]; exact hz
  have cl : PyData.canLayAll0 ds = true := by simpa [PyData.canLay0] using SeqAt.canLay_of_shaped sh
  refine Calls.call_function_entry kind_sorted plain_sorted entry_sorted (args_sorted1 _) ?_
  unfold Builtin.«sorted»
  refine wpAny_bind (m := checkCount "sorted" 1 1 _) (wpAny_pure ?_)
  refine wpAny_bind (wpAny_collect_seq p hT ho hc hd (fun h1 keep => ?_) (by rw [List.size_toArray]; exact hz1))
  refine wpAny_bind (wpAny_newList ?_ (by simpa using hz1))
  have I1 : Inv X pins σ H { s with heap := h1 } := I.kept (t' := s.toks) keep
  have hoL : (h1.push (seqObj "list" its.toArray.toList.toArray 0)).get? h1.objs.size = some (seqObj "list" its.toArray 0) := Heap.get?_push_size _ rfl
  have kp : ∀ b ob, h1.get? b = some ob → (h1.push (seqObj "list" its.toArray.toList.toArray 0)).get? b = some ob := fun b ob q => Heap.get?_push_of_some _ q
  have er := each_reads (a := h1.objs.size) I1 kp (fun ob q => absurd (Heap.lt_size q) (Nat.lt_irrefl _)) rv rp cl
  have dp : ∀ b, b ∈ ds → X.A.in1.units + 1 + b.depth < cLine := fun b hb => by
    have q := depth_all hb
    have q2 := SeqAt.depth_of_shaped sh
    simp only [PyData.depth] at q2
    show X.A.units + 1 + 1 + b.depth < cLine
    omega
  have e1 : ds.map (fun d => d) = ds := List.map_id' ds
  refine wpAny_bind (wpAny_holding (PySem.W.list_sort_data (enc := fun d => d) (bs := ds) (s := { s with heap := h1.push (seqObj "list" its.toArray.toList.toArray 0) }) hoL (vals_each rv rp) er (by rw [e1]; exact al) (by rw [e1]; exact so) hz dp fun out hl eo => ?_))
  obtain ⟨zs, hv, hr⟩ := each_vals eo
  obtain ⟨k, ha⟩ := sortedHeap_at (out := out.toArray) hoL
  refine wpAny_pure ⟨_, rfl, ?_⟩
  have nf : H h1.objs.size = none := I1.hok.fresh (Nat.le_refl _)
  refine ⟨.ref h1.objs.size, upd H h1.objs.size (.lst zs), I1.laid (t' := s.toks) (fun b ob q => ?_) (Nat.le_refl _) ⟨?_, out, k, hv, ha⟩, rfl, h zs _ hr nf⟩
  · have hlt := Heap.lt_size q
    refine (sortedHeap_old (Nat.ne_of_lt hlt) ?_).trans (kp b ob q)
    exact Nat.lt_of_lt_of_le hlt (by rw [show (h1.push (seqObj "list" its.toArray.toList.toArray 0)).objs.size = h1.objs.size + 1 from Heap.size_push ..]; exact Nat.le_succ _)
  · rw [hv.length, hl]; exact hz
theorem cr_sortedD (hu : X.A.units + 100 < cLine) : CallR X (.builtin "sorted") (C1D X.K F .sorted) := by
  intro pins s σ H xs us Q I r h
  obtain ⟨x, rfl, G, O, σ', e, m, d, v, cx, hd, wt⟩ := h
  cases d with
  | list a =>
    obtain ⟨l, h1, rfl⟩ := Option.map_eq_some_iff.mp (show (sort? a).map (fun l => Val.uni (.list l)) = some v from hd)
    obtain ⟨p, ys, rfl, hp, rp⟩ := cx.lst
    rw [Vals.ref1 r]
    obtain ⟨its, rv, ⟨o, n, ho, hc, _, hdt⟩, _⟩ := I.list hp
    exact sort_core hu I (.inl rfl) ho hc hdt rv rp h1 fun zs a hr na => wt.lst hr a na
  | tuple a =>
    obtain ⟨l, h1, rfl⟩ := Option.map_eq_some_iff.mp (show (sort? a).map (fun l => Val.uni (.list l)) = some v from hd)
    obtain ⟨p, ys, rfl, hp, rp⟩ := cx.tup
    rw [Vals.ref1 r]
    obtain ⟨its, rv, ⟨o, ho, hc, n, hdt⟩, _⟩ := I.tuple hp
    exact sort_core hu I (.inr rfl) ho hc hdt rv rp h1 fun zs a hr na => wt.lst hr a na
  | _ => cases hd
end
end Fb

namespace Fb
open PySem PySem.Spec PyProof.Rows L2
section
variable {P : Program} {w : World} {A : Around} {E : Value → Shared → Prop} {s : Shared}
/-- an empty set, as set() lays it -/
abbrev set0 (w : World) : Obj := { cls := .type "set", dict := none, data := .set #[] 0 (.fresh 0 0 (!w.params.followText "set-order")) }
set_option maxHeartbeats 3200000 in
/-- set(l) of a list of ints: its members; it can be walked -/
theorem set_of_list {l : Addr} {its : Array Value} (ns : List Int) {Q : Value → Shared → Prop} (nh : A.handled = none) (lo : s.heap.IsList l its) (li : IntsAre its.toList ns) (few : ns.length + 1 < scanBound)
    (k : ∀ (h' : Heap) (tk c : Nat), SetR w h' s.heap.objs.size (fun j => decide (j ∈ ns)) c → c ≤ ns.length → (∀ b o, s.heap.get? b = some o → h'.get? b = some o) → Q (.ref s.heap.objs.size) { s with heap := h', toks := tk }) :
    wpAny (model P w) A (call (.type "set") [.ref l]) Q E s := by
  have size_ns : its.size = ns.length := by
    have q := li.length
    rwa [Array.length_toList] at q
  obtain ⟨_, _, mro⟩ := F.called_set.mro
  have made := F.called_set.made
  have sub := F.called_set.sub
  refine wpAny_call (codeAny_of_tree ?_)
  show wpAny _ _ (callAny (.type "set") _) _ _ _
  refine wpAny_pure ⟨Code.quiet_builtin _ (by decide +kernel), codeAny_builtin F.entry_type_call ?_⟩
  rw [Around.under_plain (weight_type_call_type "set" [.ref l] []) rfl]
  have nt := F.called_set.notType
  have cc := F.called_set.canCreate
  have tc := F.typeCall_set_1 (.ref l)
  repeat (any_goals (first | assumption | wp_step))
  refine codeAny_mono (code_set_led1 (.ref l) (E := E) (Q₁ := fun obj s1 => obj = .ref s.heap.objs.size ∧ s1 = { s with heap := s.heap.push (set0 w) }) ⟨rfl, rfl⟩) fun r s1 hr => ?_
  cases r with
  | error e => exact hr
  | ok fl =>
    cases fl with
    | ret obj =>
      obtain ⟨rfl, rfl⟩ := hr
      have at0 : (s.heap.push (set0 w)).get? s.heap.objs.size = some (set0 w) := Heap.get?_push_size _ rfl
      have ty0 : Shared.TypeIs { s with heap := s.heap.push (set0 w) } (.ref s.heap.objs.size) "set" := ⟨_, at0, rfl⟩
      have lk := F.called_set.init.lookup
      have bd := F.called_set.init.bind (.ref s.heap.objs.size)
      repeat (any_goals (first | assumption | wp_step))
      refine codeAny_mono (codeAny_call_builtin (R := wants (fun r s2 => r = .none ∧ ∃ h' tk c, s2 = { s with heap := h', toks := tk } ∧ SetR w h' s.heap.objs.size (fun j => decide (j ∈ ns)) c ∧ c ≤ ns.length ∧
          (∀ b o, s.heap.get? b = some o → h'.get? b = some o)) E) F.called_set.init.plain F.entry_set_init (check_set_init_1 ty0 ?_)) fun r2 s2 hr2 => ?_
      · obtain ⟨⟨oc, od, dt, sl⟩, ol, hc, n, hd⟩ := lo
        simp only at hc hd
        subst hc hd
        have ol1 : (s.heap.push (set0 w)).get? l = some ⟨.type "list", od, .seq its n, sl⟩ := Heap.get?_push_of_some _ ol
        have nls := F.sub_list_set
        have nlf := F.sub_list_frozenset
        have ndt : (Value.type "list" == Value.type "dict") = false := by decide
        have lo1 : (s.heap.push (set0 w)).IsList l its := ⟨_, ol1, rfl, n, rfl⟩
        unfold Builtin.«set.__init__» noKeywords Builtin.Frozenset.updateFrom
        generalize gPI : pyIter = PI
        wp_walk
        subst gPI
        refine wpAny_pyIter_list lo1 ?_
        refine wpAny_bind (wpAny_runValue ?_)
        have llt : l < s.heap.objs.size := Heap.lt_size ol
        have nh3 : A.in1.in1.in1.handled = none := by simp [nh]
        have sz1 : (s.heap.push (set0 w)).objs.size = s.heap.objs.size + 1 := Heap.size_push ..
        have nel : l ≠ (s.heap.push (set0 w)).objs.size := by rw [sz1]; exact Nat.ne_of_lt (Nat.lt_succ_of_lt llt)
        have nin : s.heap.objs.size ∉ [(s.heap.push (set0 w)).objs.size, l] := by
          rw [sz1]
          simp only [List.mem_cons, List.not_mem_nil, or_false, not_or]
          exact ⟨Nat.ne_of_lt (Nat.lt_succ_self _), Nat.ne_of_gt llt⟩
        have vals : ∀ (i : Nat) (v : Value), its[i]? = some v → ∃ k t, ns[i]? = some k ∧ v = .int k t := fun i v hv => by
          have hi : i < ns.length := by rw [← size_ns]; exact (Array.getElem?_eq_some_iff.mp hv).1
          obtain ⟨t, e⟩ := PyProof.Rows.IntsAre.int_at li i v (by rw [Array.getElem?_toList]; exact hv)
          exact ⟨ns[i], t, List.getElem?_eq_getElem hi, by rw [e, List.getD_eq_getElem?_getD, List.getElem?_eq_getElem hi] <;> rfl⟩
        refine set_update_ints ((Walks.list nh3 _ l nel its).toS) s.heap.objs.size nin ns size_ns few vals (its.size - 0) 0 _ (by omega) (Nat.zero_le _) ⟨⟨_, Heap.get?_push_size _ rfl, rfl, rfl⟩, lo1.push _⟩ ⟨0, Nat.le_refl 0, setR_new_at (Heap.get?_push_of_some _ at0)⟩ ?_
        intro s' c' mv lc sr
        obtain ⟨h', g2, d2, tk2, os2⟩ := s'
        obtain rfl : g2 = s.gens := mv.gens
        obtain rfl : d2 = s.drawn := mv.drawn
        obtain rfl : os2 = s.os := mv.os
        refine wpAny_pure ?_
        show wpAny _ _ (ret Value.none) _ _ _
        rw [size_ns] at lc
        refine wpAny_pure ⟨rfl, h', tk2, c', rfl, sr, lc, fun b o e => ?_⟩
        have lb := Heap.lt_size e
        refine mv.heap b o ?_ (Heap.get?_push_of_some _ (Heap.get?_push_of_some _ e))
        rw [sz1]
        simp only [List.mem_cons, List.not_mem_nil, or_false, not_or]
        exact ⟨Nat.ne_of_lt lb, Nat.ne_of_lt (Nat.lt_succ_of_lt lb)⟩
      · cases r2 with
        | error e => exact hr2
        | ok fl2 =>
          cases fl2 with
          | ret r =>
            obtain ⟨rfl, h', tk, c', rfl, sr, lc, kp⟩ := hr2
            repeat (any_goals (first | assumption | wp_step))
            exact k _ _ _ sr lc kp
          | _ => exact hr2.elim
    | _ => exact hr.elim
end
end Fb

namespace Fb
open PySem PySem.Spec PyProof.Rows L2
/-! ### sorted(set(xs)), xs a list of ints -/
theorem insU_mem (x : Int) : ∀ (l : List Int) (k : Int), k ∈ insU x l ↔ k = x ∨ k ∈ l
  | [], k => by simp [insU]
  | y :: r, k => by
    unfold insU
    split
    · simp
    · split
      · rename_i h; subst h; simp
      · rw [List.mem_cons, insU_mem x r k, List.mem_cons]
        constructor
        · rintro (h | h | h)
          · exact .inr (.inl h)
          · exact .inl h
          · exact .inr (.inr h)
        · rintro (h | h | h)
          · exact .inr (.inl h)
          · exact .inl h
          · exact .inr (.inr h)
theorem usort_mem : ∀ (l : List Int) (k : Int), k ∈ usort l ↔ k ∈ l
  | [], k => by simp [usort]
  | x :: r, k => by
    unfold usort
    rw [insU_mem, usort_mem r k, List.mem_cons]
theorem insU_up (x : Int) : ∀ l : List Int, l.Pairwise (· < ·) → (insU x l).Pairwise (· < ·)
  | [], _ => List.pairwise_singleton _ _
  | y :: r, h => by
    obtain ⟨h1, h2⟩ := List.pairwise_cons.mp h
    unfold insU
    split
    · rename_i q
      exact List.pairwise_cons.mpr ⟨fun z hz => by
        rcases List.mem_cons.mp hz with rfl | hz
        · exact q
        · exact Int.lt_trans q (h1 z hz), h⟩
    · split
      · exact h
      · refine List.pairwise_cons.mpr ⟨fun z hz => ?_, insU_up x r h2⟩
        rcases (insU_mem x r z).mp hz with rfl | hz
        · omega
        · exact h1 z hz
theorem usort_up : ∀ l : List Int, (usort l).Pairwise (· < ·)
  | [] => .nil
  | x :: r => insU_up x _ (usort_up r)
theorem up_eq : ∀ {a b : List Int}, a.Pairwise (· < ·) → b.Pairwise (· < ·) → (∀ k, k ∈ a ↔ k ∈ b) → a = b
  | [], [], _, _, _ => rfl
  | [], y :: t, _, _, h => by have := (h y).mpr List.mem_cons_self; cases this
  | x :: r, [], _, _, h => by have := (h x).mp List.mem_cons_self; cases this
  | x :: r, y :: t, ha, hb, h => by
    obtain ⟨a1, a2⟩ := List.pairwise_cons.mp ha
    obtain ⟨b1, b2⟩ := List.pairwise_cons.mp hb
    have e : x = y := by
      rcases List.mem_cons.mp ((h x).mp List.mem_cons_self) with e | m1
      · exact e
      · rcases List.mem_cons.mp ((h y).mpr List.mem_cons_self) with e | m2
        · exact e.symm
        · have := a1 y m2
          have := b1 x m1
          omega
    subst e
    refine congrArg (x :: ·) (up_eq a2 b2 fun k => ⟨fun hk => ?_, fun hk => ?_⟩)
    · rcases List.mem_cons.mp ((h k).mp (List.mem_cons_of_mem _ hk)) with e | m
      · have := a1 k hk; omega
      · exact m
    · rcases List.mem_cons.mp ((h k).mpr (List.mem_cons_of_mem _ hk)) with e | m
      · have := b1 k hk; omega
      · exact m
section
variable {X : Cx} {F : List Addr}
def rSetL (K : PySem.W.Frag) (w : World) : List V → Hp → VK → Prop := fun xs H Q => ∃ (a : Addr) (ns : List Int), xs = [.ref a] ∧ SqL K H a (ns.map V.int) ∧ ns.length < 64 ∧ ∀ p c, H p = none → c ≤ ns.length → Q (.ref p) (upd H p (SetO w p (fun j => decide (j ∈ ns)) c))
theorem cr_setL (hc : X.calm = true) : CallR X (.type "set") (rSetL X.K X.w) := by
  intro pins s σ H xs us Q I r h
  obtain ⟨a, ns, rfl, hs, hl, q⟩ := h
  rw [Vals.ref1 r]
  obtain ⟨its, rv, pl, hz⟩ := I.list hs
  refine set_of_list ns (I.ok.hd hc) pl.isList (by simpa using rv.ints) (by unfold scanBound; omega) fun h' tk c sr lc kp => ?_
  have nf : H s.heap.objs.size = none := I.hok.fresh (Nat.le_refl _)
  exact ⟨.ref _, _, I.laid (o := SetO X.w s.heap.objs.size (fun j => decide (j ∈ ns)) c) kp (Nat.le_refl _) (setO_new sr), rfl, q _ c nf lc⟩
end
end Fb

namespace Fb
open PySem PySem.Spec PyProof.Rows L2
theorem PE.mono {X : Cx} {e : Expr} {t t' : TE} (h : PE X e t) (k : ∀ σ H Q, t' σ H Q → t σ H Q) : PE X e t' := ⟨fun pins s σ H Q I q => h.run pins s σ H Q I (k σ H Q q)⟩
theorem PT.mono {X : Cx} {e : Expr} {t t' : TT} (h : PT X e t) (k : ∀ σ H Q, t' σ H Q → t σ H Q) : PT X e t' := ⟨fun pins s σ H Q I q => h.run pins s σ H Q I (k σ H Q q)⟩
theorem PA.mono {X : Cx} {e : List Expr} {t t' : TA} (h : PA X e t) (k : ∀ σ H Q, t' σ H Q → t σ H Q) : PA X e t' := ⟨fun pos pins s σ H Q I q => h.run pos pins s σ H Q I (k σ H Q q)⟩
theorem PS.mono {X : Cx} {e : Stmt} {t t' : TS} (h : PS X e t) (k : ∀ D σ H, t' D σ H → t D σ H) : PS X e t' := ⟨fun pins s σ H D I q => h.run pins s σ H D I (k D σ H q)⟩
theorem PSs.mono {X : Cx} {e : List Stmt} {t t' : TS} (h : PSs X e t) (k : ∀ D σ H, t' D σ H → t D σ H) : PSs X e t' := ⟨fun pins s σ H D I q => h.run pins s σ H D I (k D σ H q)⟩
/-- tests -/
def BRep (G O : Own) (σ : L2.St) (H : Hp) (e : List Slot) (w a : Bool) : Prop := w = a
abbrev tT (K : PySem.W.Frag) (F : List Addr) (x : M Val) : TT := tR K F (BRep) (x.bind isTrueV)
/-- argument lists -/
def DsRep (K : PySem.W.Frag) (G O : Own) (σ : L2.St) (H : Hp) (e : List Slot) (w : List V) (a : List PyData) : Prop := RepAll K O H w a
abbrev tDs (K : PySem.W.Frag) (F : List Addr) (x : M (List PyData)) : TA := tR K F (DsRep K) x
section
variable {X : Cx} {F : List Addr} {K : PySem.W.Frag} {G O O' : Own} {σ : L2.St} {H H' : Hp} {e : List Slot} {m : Mu}
/-- what is new may be shared -/
def minus (O : Own) (p : Addr) : Own := fun a => O a ∧ a ≠ p
theorem stays_minus {p : Addr} : Stays O H (minus O p) H := fun a o h n => ⟨h, fun z => n z.1⟩
theorem OwnAt.minus {p a : Addr} {d : PyData} (h : OwnAt K O H a d) : OwnAt K (minus O p) H a d := by
  cases d with
  | list ds => obtain ⟨xs, h, r⟩ := h; exact ⟨xs, h, r.stays stays_minus⟩
  | dict es => obtain ⟨xs, h, r⟩ := h; exact ⟨xs, h, r.stays stays_minus⟩
  | _ => exact h.elim
theorem Sim.minus {p : Addr} (s : Sim K F G O σ H e m) (ng : ¬ G p) (no : ∀ (i : Nat) (x : Slot), e[i]? = some x → ownS x = true → σ[i]? ≠ some (some (.ref p))) : Sim K F G (minus O p) σ H e m := by
  refine ⟨s.len, fun i x h => ?_, s.apart, s.fg, fun a h => ⟨s.go a h, fun z => ng (z ▸ h)⟩, fun a h => s.live a h.1, s.nd, s.sl, fun n a kvs h1 h2 => ?_⟩
  · have sl := s.slot i x h
    cases x with
    | unset => trivial
    | val d => obtain ⟨y, h1, h2⟩ := sl; exact ⟨y, h1, h2.stays stays_minus⟩
    | own d =>
      obtain ⟨a, h1, h2, h3, h4⟩ := sl
      refine ⟨a, h1, ⟨h2, fun z => ?_⟩, h3, h4.minus⟩
      subst z
      exact no i (.own d) h rfl h1
    | sto n => exact sl
    | tab w es =>
      obtain ⟨a, h1, h2, h3, h4⟩ := sl
      refine ⟨a, h1, ⟨h2, fun z => ?_⟩, h3, h4.to stays_minus fun _ q => q⟩
      subst z
      exact no i (.tab w es) h rfl h1
  · obtain ⟨ks, h3, h4⟩ := s.st n a kvs h1 h2
    exact ⟨ks, h3, h4.stays stays_minus⟩
theorem Grow.minus {p : Addr} : Grow F G O H (minus O p) H := ⟨fun _ _ h _ _ => h, fun _ h => .inl h.1⟩
theorem OwnAt.rep {p : Addr} {d : PyData} (h : OwnAt K O H p d) : Rep K (Fb.minus O p) H (.ref p) d := by
  cases d with
  | list ds => obtain ⟨xs, h, r⟩ := h; exact .lst (.inl ⟨fun z => z.2 rfl, .inl h⟩) (r.stays stays_minus)
  | dict es => obtain ⟨xs, h, r⟩ := h; exact .dic (fun z => z.2 rfl) h (r.stays stays_minus)
  | _ => exact h.elim
/-- a value as data -/
theorem VRep.data {v : V} {x : Val} {d : PyData} (s : Sim K F G O σ H e m) (r : VRep K F G O σ H e v x) (h : ∃ s', x.data ⟨e, m⟩ = .ok (d, s')) :
    ∃ O', Grow F G O H O' H ∧ Sim K F G O' σ H e m ∧ Rep K O' H v d ∧ x.data ⟨e, m⟩ = .ok (d, ⟨e, m⟩) := by
  obtain ⟨s', h⟩ := h
  cases x with
  | dat d' => cases h; exact ⟨O, .refl, s, r, rfl⟩
  | uni d' =>
    cases h
    obtain ⟨a, rfl, h1, h2, h3, h4⟩ := r
    exact ⟨minus O a, .minus, s.minus h2 h4, h3.rep, rfl⟩
  | sto n => cases h
  | tab w es => cases h
/-- from an evaluation to data: what follows stands at a grown state -/
theorem At.data {γ δ : Type} {R : Rel γ δ} {x : Val} {f : PyData → M γ} {Q : δ → Hp → Prop} {v : V} (h : At K F R G O σ H e m (x.data.bind f) Q) (r : VRep K F G O σ H e v x) :
    ∃ d O', Grow F G O H O' H ∧ Rep K O' H v d ∧ At K F R G O' σ H e m (f d) Q := by
  obtain ⟨s, b, e', m', h1, h2⟩ := h
  obtain ⟨d, s1, h3, h4⟩ := bind_ok h1
  obtain ⟨O', g, s', rr, hx⟩ := VRep.data s r ⟨s1, h3⟩
  rw [hx] at h3
  cases h3
  exact ⟨d, O', g, rr, s', b, e', m', h4, fun w H' O'' g' s'' r' => h2 w H' O'' (g.trans g' s.fo) s'' r'⟩
/-- .. where the data are known -/
theorem At.data' {γ δ : Type} {R : Rel γ δ} {x : Val} {d : PyData} {f : PyData → M γ} {Q : δ → Hp → Prop} {v : V} (hx : x.data = M.pure d) (h : At K F R G O σ H e m (x.data.bind f) Q) (r : VRep K F G O σ H e v x) :
    ∃ O', Grow F G O H O' H ∧ Rep K O' H v d ∧ At K F R G O' σ H e m (f d) Q := by
  obtain ⟨s, b, e', m', h1, h2⟩ := h
  rw [hx] at h1
  obtain ⟨O', g, s', rr, _⟩ := VRep.data (d := d) s r ⟨⟨e, m⟩, by rw [hx]; rfl⟩
  exact ⟨O', g, rr, s', b, e', m', h1, fun w H' O'' g' s'' r' => h2 w H' O'' (g.trans g' s.fo) s'' r'⟩
theorem data_pure {x : Val} {d : PyData} {s s' : S} (h : x.data s = .ok (d, s')) : x.data = M.pure d := by
  cases x with
  | dat z => cases h; rfl
  | uni z => cases h; rfl
  | sto n => cases h
  | tab w es => cases h
/-! names -/
theorem set_get {α : Type} {l : List α} {i j : Nat} {x : α} : (l.set i x)[j]? = if i = j then (if i < l.length then some x else none) else l[j]? := by
  by_cases h : i = j
  · subst h
    rw [if_pos rfl]
    by_cases q : i < l.length
    · rw [if_pos q, List.getElem?_set_self q]
    · rw [if_neg q, List.getElem?_eq_none (by rw [List.length_set]; omega)]
  · rw [if_neg h, List.getElem?_set_ne h]
/-- an owned list is shared -/
theorem Sim.demote {i : Nat} {d : PyData} (s : Sim K F G O σ H e m) (h : e[i]? = some (.own d)) : ∃ a, σ[i]? = some (some (.ref a)) ∧ Sim K F G (Fb.minus O a) σ H (e.set i (.val d)) m ∧ Rep K (Fb.minus O a) H (.ref a) d := by
  obtain ⟨a, h1, h2, h3, h4⟩ := s.slot i _ h
  have hi : i < e.length := (List.getElem?_eq_some_iff.mp h).1
  have s2 : Sim K F G O σ H e m := s
  refine ⟨a, h1, ?_, h4.rep⟩
  refine ⟨by rw [List.length_set]; exact s.len, fun j x q => ?_, fun j j' d1 d2 b q1 q2 => ?_, s.fg, fun b q => ⟨s.go b q, fun z => h3 (z ▸ q)⟩, fun b q => s.live b q.1, s.nd, s.sl, fun n b kvs q1 q2 => ?_⟩
  · rw [set_get] at q
    by_cases ij : i = j
    · subst ij
      rw [if_pos rfl, if_pos hi] at q
      cases q
      exact ⟨_, h1, h4.rep⟩
    · rw [if_neg ij] at q
      have sl := s.slot j x q
      cases x with
      | unset => trivial
      | val d => obtain ⟨y, k1, k2⟩ := sl; exact ⟨y, k1, k2.stays stays_minus⟩
      | own d2 =>
        obtain ⟨b, k1, k2, k3, k4⟩ := sl
        refine ⟨b, k1, ⟨k2, fun z => ?_⟩, k3, k4.minus⟩
        subst z
        exact ij (s.apart i j (.own d) (.own d2) b h q rfl rfl h1 k1)
      | sto n => exact sl
      | tab w es =>
        obtain ⟨b, k1, k2, k3, k4⟩ := sl
        refine ⟨b, k1, ⟨k2, fun z => ?_⟩, k3, k4.to stays_minus fun _ q => q⟩
        subst z
        exact ij (s.apart i j (.own d) (.tab w es) b h q rfl rfl h1 k1)
  · intro o1 o2
    rw [set_get] at q1 q2
    rw [if_pos hi] at q1 q2
    split at q1
    · cases q1; cases o1
    · split at q2
      · cases q2; cases o2
      · exact s.apart j j' d1 d2 b q1 q2 o1 o2
  · obtain ⟨ks, k1, k2⟩ := s.st n b kvs q1 q2
    exact ⟨ks, k1, k2.stays stays_minus⟩
theorem tVar_D {i : Nat} {Q : VK} (h : tD K F (rdVar i) σ H Q) : tVar i σ H Q := by
  obtain ⟨G, O, e, m, s, a, e', m', h1, h2⟩ := h
  unfold rdVar at h1
  dsimp only at h1
  cases q : e[i]? with
  | none => rw [q] at h1; cases h1
  | some x =>
    rw [q] at h1
    have sl := s.slot i x q
    cases x with
    | unset => cases h1
    | val d =>
      cases h1
      obtain ⟨y, k1, k2⟩ := sl
      exact ⟨y, k1, h2 y H O .refl s k2⟩
    | own d =>
      cases h1
      obtain ⟨a, k1, k2, k3⟩ := s.demote q
      exact ⟨_, k1, h2 _ H _ .minus k2 k3⟩
    | sto n =>
      cases h1
      obtain ⟨a, k1, k2⟩ := sl
      exact ⟨_, k1, h2 _ H O .refl s ⟨a, rfl, k2⟩⟩
    | tab w es => cases h1
theorem tVar_O {i : Nat} {Q : VK} (h : tO K F (slotOpd i) σ H Q) : tVar i σ H Q := by
  obtain ⟨G, O, e, m, s, a, e', m', h1, h2⟩ := h
  unfold slotOpd at h1
  dsimp only at h1
  cases q : e[i]? with
  | none => rw [q] at h1; cases h1
  | some x =>
    rw [q] at h1
    have sl := s.slot i x q
    cases x with
    | unset => cases h1
    | val d =>
      cases h1
      obtain ⟨y, k1, k2⟩ := sl
      exact ⟨y, k1, h2 y H O .refl s k1⟩
    | own d =>
      cases h1
      obtain ⟨a, k1, _⟩ := sl
      exact ⟨_, k1, h2 _ H O .refl s k1⟩
    | sto n => cases h1
    | tab w es => cases h1
/-- an operand from a value -/
theorem tO_of {x : M Val} {Q : VK} (h : tO K F (x.bind fun v => v.data.bind fun d => M.pure (.val d)) σ H Q) : tD K F x σ H Q := by
  obtain ⟨G, O, e, m, h⟩ := h
  obtain ⟨v, h⟩ := At.bind (R := VRep K F) h
  refine (h.mono fun w H1 q => ?_).tr
  obtain ⟨O1, e1, m1, g, r, h⟩ := q
  obtain ⟨d, O2, g2, rr, h⟩ := At.data h r
  exact At.pure h rr
/-! two operands -/
theorem tOp_D {x y : M Opd} {o : O2} {Q : VK} (h : tD K F (x.bind fun x => y.bind fun y => x.now.bind fun d => y.now.bind fun e => lift (o.den d e)) σ H Q) : tOp (R2D K F o) (tO K F x) (tO K F y) σ H Q := by
  obtain ⟨G, O, e, m, h⟩ := h
  obtain ⟨a, h⟩ := At.bind (R := ORep K) h
  refine (h.mono fun w H1 q => ?_).tr
  obtain ⟨O1, e1, m1, g, r, h⟩ := q
  obtain ⟨b, h⟩ := At.bind (R := ORep K) h
  have s1 := h.sim
  refine (h.mono fun w2 H2 q => ?_).tr
  obtain ⟨O2, e2, m2, g2, r2, h⟩ := q
  have s2 := h.sim
  have r1' := ORep.grow (e' := e2) s1 g2 r
  obtain ⟨b1, s1', hb⟩ := h.inv
  obtain ⟨d, sd, hd, hb⟩ := bind_ok hb
  obtain ⟨rfl, cd⟩ := ORep.now s2 r1' hd
  have h := At.same (a := d) h fun b s' z => by rw [hd] at z; cases z; exact ⟨rfl, rfl⟩
  obtain ⟨de, se, he, hb⟩ := bind_ok hb
  obtain ⟨rfl, ce⟩ := ORep.now s2 r2 he
  have h := At.same (a := de) h fun b s' z => by rw [he] at z; cases z; exact ⟨rfl, rfl⟩
  obtain ⟨v, hv, wt⟩ := At.wants (v := .dat .none) h
  exact ⟨G, O2, σ, e2, m2, d, de, v, cd, ce, hv, wt⟩
theorem tUn_D {x : M Opd} {o : O1} {Q : VK} (h : tD K F (x.bind fun x => x.now.bind fun d => lift (o.den d)) σ H Q) : tO K F x σ H fun w H1 => R1D K F o w H1 Q := by
  obtain ⟨G, O, e, m, h⟩ := h
  obtain ⟨a, h⟩ := At.bind (R := ORep K) h
  refine (h.mono fun w H1 q => ?_).tr
  obtain ⟨O1, e1, m1, g, r, h⟩ := q
  have s1 := h.sim
  obtain ⟨b1, s1', hb⟩ := h.inv
  obtain ⟨d, sd, hd, hb⟩ := bind_ok hb
  obtain ⟨rfl, cd⟩ := ORep.now s1 r hd
  have h := At.same (a := d) h fun b s' z => by rw [hd] at z; cases z; exact ⟨rfl, rfl⟩
  obtain ⟨v, hv, wt⟩ := At.wants (v := .dat .none) h
  exact ⟨G, O1, σ, e1, m1, d, v, cd, hv, wt⟩
end
end Fb

namespace Fb
open PySem PySem.Spec PyProof.Rows L2
section
variable {X : Cx} {F : List Addr} {K : PySem.W.Frag} {G O O' : Own} {σ : L2.St} {H H' : Hp} {e : List Slot} {m : Mu}
theorem At.pureW {v : Val} {Q : VK} (h : At K F (VRep K F) G O σ H e m (M.pure v) Q) : Wants K F G O σ H e m v Q := by
  obtain ⟨s, b, e', m', h1, h2⟩ := h
  injection h1 with h1
  injection h1 with h1 h3
  injection h3 with h3 h4
  subst h1 h3 h4
  exact ⟨s, h2⟩
/-! ### lists of expressions -/
theorem tCons_Ds {x : M Val} {y : M (List PyData)} {Q : List V → Hp → Prop} (h : tDs K F (x.bind fun v => v.data.bind fun d => y.bind fun ds => M.pure (d :: ds)) σ H Q) : tCons (tD K F x) (tDs K F y) σ H Q := by
  obtain ⟨G, O, e, m, h⟩ := h
  obtain ⟨v, h⟩ := At.bind (R := VRep K F) h
  refine (h.mono fun w H1 q => ?_).tr
  obtain ⟨O1, e1, m1, g, r, h⟩ := q
  obtain ⟨d, O2, g2, rr, h⟩ := At.data h r
  have s2 := h.sim
  obtain ⟨ds, h⟩ := At.bind (R := DsRep K) h
  refine (h.mono fun ws H3 q => ?_).tr
  obtain ⟨O3, e3, m3, g3, r3, h⟩ := q
  exact At.pure h (show RepAll K O3 H3 (w :: ws) (d :: ds) from .cons (rr.stays (g3.stays s2.fo)) r3)
theorem tNil_Ds {Q : List V → Hp → Prop} (h : tDs K F (M.pure []) σ H Q) : tNil σ H Q := by
  obtain ⟨G, O, e, m, h⟩ := h
  exact At.pure h (show RepAll K O H [] [] from .nil)
theorem evEs_length : ∀ {es : List Ex} {ds : List PyData} {s s' : S}, evEs es s = .ok (ds, s') → ds.length = es.length
  | [], ds, s, s', h => by
    unfold evEs at h
    cases h
    rfl
  | e :: es, ds, s, s', h => by
    unfold evEs at h
    obtain ⟨v, s1, h1, h⟩ := bind_ok h
    obtain ⟨d, s2, h2, h⟩ := bind_ok h
    obtain ⟨dr, s3, h3, h⟩ := bind_ok h
    cases h
    rw [List.length_cons, List.length_cons, evEs_length h3]
theorem tTup_D {es : List Ex} {Q : VK} (hz : es.length ≤ 1000) (h : tD K F ((evEs es).bind fun ds => M.pure (.dat (.tuple ds))) σ H Q) : tTup (tDs K F (evEs es)) σ H Q := by
  obtain ⟨G, O, e, m, h⟩ := h
  obtain ⟨ds, ⟨s1, hd⟩, h⟩ := At.bind2 (R := DsRep K) h
  refine (h.mono fun ws H1 q => ?_).tr
  obtain ⟨O1, e1, m1, g, r, h⟩ := q
  have r : RepAll K O1 H1 ws ds := r
  refine ⟨?_, h.pureW.tup r⟩
  rw [r.length, evEs_length hd, sizeLine_eq]
  omega
theorem tLst_D {es : List Ex} {Q : VK} (hz : es.length ≤ 1000) (h : tD K F ((evEs es).bind fun ds => M.pure (.uni (.list ds))) σ H Q) : tLst (tDs K F (evEs es)) σ H Q := by
  obtain ⟨G, O, e, m, h⟩ := h
  obtain ⟨ds, ⟨s1, hd⟩, h⟩ := At.bind2 (R := DsRep K) h
  refine (h.mono fun ws H1 q => ?_).tr
  obtain ⟨O1, e1, m1, g, r, h⟩ := q
  have r : RepAll K O1 H1 ws ds := r
  refine ⟨?_, h.pureW.lst r⟩
  rw [r.length, evEs_length hd, sizeLine_eq]
  omega
/-! ### truth -/
theorem VRep.bool {v : V} {x : Val} {b : Bool} {s s' : S} (r : VRep K F G O σ H e v x) (h : isTrueV x s = .ok (b, s')) : v = .bl b ∧ s' = s := by
  cases x with
  | dat d =>
    cases d with
    | bool c =>
      cases h
      have r : Rep K O H v (.bool b) := r
      cases r
      exact ⟨rfl, rfl⟩
    | _ => cases h
  | _ => cases h
/-- a value that is a truth, and what follows -/
theorem At.truth {γ δ : Type} {R : Rel γ δ} {x : M Val} {f : Bool → M γ} {Q : δ → Hp → Prop} (h : At K F R G O σ H e m (x.bind fun v => (isTrueV v).bind f) Q) :
    ∃ b : Bool, At K F (VRep K F) G O σ H e m x fun w H1 => w = .bl b ∧ ∃ O1 e1 m1, Grow F G O H O1 H1 ∧ At K F R G O1 σ H1 e1 m1 (f b) Q := by
  obtain ⟨s, c, e', m', h1, h2⟩ := h
  obtain ⟨v, ⟨e1, m1⟩, h3, h4⟩ := bind_ok h1
  obtain ⟨b, s2, h5, h6⟩ := bind_ok h4
  refine ⟨b, s, v, e1, m1, h3, fun w H1 O1 g s1 r => ?_⟩
  obtain ⟨ew, es⟩ := r.bool h5
  subst es
  exact ⟨ew, O1, e1, m1, g, s1, c, e', m', h6, fun w' H' O' g' s' r' => h2 w' H' O' (g.trans g' s.fo) s' r'⟩
theorem tT_D {x : M Val} {Q : Bool → Hp → Prop} (h : tT K F x σ H Q) : tD K F x σ H fun w H1 => ∃ c, w = .bl c ∧ Q c H1 := by
  obtain ⟨G, O, e, m, h⟩ := h
  have h : At K F BRep G O σ H e m (x.bind fun v => (isTrueV v).bind M.pure) Q := by
    obtain ⟨s, c, e', m', h1, h2⟩ := h
    refine ⟨s, c, e', m', ?_, h2⟩
    obtain ⟨v, s1, h3, h4⟩ := bind_ok h1
    show M.bind x _ _ = _
    unfold M.bind
    rw [h3]
    show M.bind (isTrueV v) M.pure s1 = _
    unfold M.bind
    rw [h4]
    rfl
  obtain ⟨b, h⟩ := At.truth h
  refine (h.mono fun w H1 q => ?_).tr
  obtain ⟨rfl, O1, e1, m1, g, h⟩ := q
  exact ⟨b, rfl, At.pure h rfl⟩
theorem tNotV_D {x : M Val} {Q : VK} (h : tD K F (x.bind fun v => (isTrueV v).bind fun b => M.pure (.dat (.bool (!b)))) σ H Q) : tNotV (tD K F x) σ H Q := by
  obtain ⟨G, O, e, m, h⟩ := h
  obtain ⟨b, h⟩ := At.truth h
  refine (h.mono fun w H1 q => ?_).tr
  obtain ⟨rfl, O1, e1, m1, g, h⟩ := q
  exact ⟨b, rfl, h.pureW.dat (.bl _)⟩
theorem tAndV_D {x y : M Val} {Q : VK} (h : tD K F (x.bind fun v => (isTrueV v).bind fun c => if c then y else M.pure (.dat (.bool false))) σ H Q) : tAndV (tD K F x) (tD K F y) σ H Q := by
  obtain ⟨G, O, e, m, h⟩ := h
  obtain ⟨b, h⟩ := At.truth h
  refine (h.mono fun w H1 q => ?_).tr
  obtain ⟨rfl, O1, e1, m1, g, h⟩ := q
  refine ⟨b, rfl, ?_⟩
  cases b with
  | true => exact iteT h.tr
  | false => exact iteF (At.pureW h |>.dat (.bl _))
theorem tOrV_D {x y : M Val} {Q : VK} (h : tD K F (x.bind fun v => (isTrueV v).bind fun c => if c then M.pure (.dat (.bool true)) else y) σ H Q) : tOrV (tD K F x) (tD K F y) σ H Q := by
  obtain ⟨G, O, e, m, h⟩ := h
  obtain ⟨b, h⟩ := At.truth h
  refine (h.mono fun w H1 q => ?_).tr
  obtain ⟨rfl, O1, e1, m1, g, h⟩ := q
  refine ⟨b, rfl, ?_⟩
  cases b with
  | true => exact iteT (At.pureW h |>.dat (.bl _))
  | false => exact iteF h.tr
/-- .. as tests -/
theorem tB_T {x : M Val} {Q : Bool → Hp → Prop} (h : tT K F x σ H Q) : tB (tD K F x) σ H Q := tT_D h
theorem At.truthT {γ δ : Type} {R : Rel γ δ} {x : M Val} {f : Bool → M γ} {Q : δ → Hp → Prop} (h : At K F R G O σ H e m (x.bind fun v => (isTrueV v).bind f) Q) :
    ∃ b, tT K F x σ H fun w H1 => w = b ∧ ∃ O1 e1 m1, Grow F G O H O1 H1 ∧ At K F R G O1 σ H1 e1 m1 (f b) Q := by
  obtain ⟨s, c, e', m', h1, h2⟩ := h
  obtain ⟨v, ⟨e1, m1⟩, h3, h4⟩ := bind_ok h1
  obtain ⟨b, s2, h5, h6⟩ := bind_ok h4
  have hs : s2 = ⟨e1, m1⟩ := by
    cases v with
    | dat d =>
      cases d with
      | bool c => cases h5; rfl
      | _ => cases h5
    | _ => cases h5
  subst hs
  refine ⟨b, G, O, e, m, s, b, e1, m1, ?_, fun w H1 O1 g s1 r => ?_⟩
  · show M.bind x _ _ = _
    unfold M.bind
    rw [h3]
    exact h5
  · exact ⟨r, O1, e1, m1, g, s1, c, e', m', h6, fun w' H' O' g' s' r' => h2 w' H' O' (g.trans g' s.fo) s' r'⟩
theorem tIf_D {c x y : M Val} {Q : VK} (h : tD K F (c.bind fun v => (isTrueV v).bind fun c => if c then x else y) σ H Q) : tIf (tT K F c) (tD K F x) (tD K F y) σ H Q := by
  obtain ⟨G, O, e, m, h⟩ := h
  obtain ⟨b, G', O', e', m', h⟩ := At.truthT h
  refine (h.mono fun w H1 q => ?_).tr
  obtain ⟨rfl, O1, e1, m1, g, h⟩ := q
  cases w with
  | true => exact iteT h.tr
  | false => exact iteF h.tr
theorem bind_assoc {α β γ : Type} (x : M α) (f : α → M β) (g : β → M γ) : (x.bind f).bind g = x.bind fun a => (f a).bind g := by
  funext s
  unfold M.bind
  cases x s with
  | ok r => rfl
  | exc c fs => rfl
  | stuck => rfl
theorem bind_pure_l {α β : Type} (a : α) (f : α → M β) : (M.pure a).bind f = f a := rfl
theorem isTrue_bl (b : Bool) : isTrueV (.dat (.bool b)) = M.pure b := rfl
theorem tNot_T {x : M Val} {Q : Bool → Hp → Prop} (h : tT K F (x.bind fun v => (isTrueV v).bind fun b => M.pure (.dat (.bool (!b)))) σ H Q) : tNot (tT K F x) σ H Q := by
  have e : ((x.bind fun v => (isTrueV v).bind fun b => M.pure (.dat (.bool (!b)))).bind isTrueV) = x.bind fun v => (isTrueV v).bind fun b => M.pure (!b) := by
    simp only [bind_assoc, bind_pure_l, isTrue_bl]
  unfold tT at h
  rw [e] at h
  obtain ⟨G, O, e, m, h⟩ := h
  obtain ⟨b, G', O', e', m', h⟩ := At.truthT h
  refine (h.mono fun w H1 q => ?_).tr
  obtain ⟨rfl, O1, e1, m1, g, h⟩ := q
  exact At.pure h rfl
theorem tAnd_T {x y : M Val} {Q : Bool → Hp → Prop} (h : tT K F (x.bind fun v => (isTrueV v).bind fun c => if c then y else M.pure (.dat (.bool false))) σ H Q) : tAnd (tT K F x) (tT K F y) σ H Q := by
  have e : ((x.bind fun v => (isTrueV v).bind fun c => if c then y else M.pure (.dat (.bool false))).bind isTrueV) = x.bind fun v => (isTrueV v).bind fun c => if c then y.bind isTrueV else M.pure false := by
    simp only [bind_assoc]
    congr 1; funext v; congr 1; funext c
    cases c <;> rfl
  unfold tT at h
  rw [e] at h
  obtain ⟨G, O, e, m, h⟩ := h
  obtain ⟨b, G', O', e', m', h⟩ := At.truthT h
  refine (h.mono fun w H1 q => ?_).tr
  obtain ⟨rfl, O1, e1, m1, g, h⟩ := q
  cases w with
  | true => exact iteT h.tr
  | false => exact iteF (At.pure h rfl)
theorem tOr_T {x y : M Val} {Q : Bool → Hp → Prop} (h : tT K F (x.bind fun v => (isTrueV v).bind fun c => if c then M.pure (.dat (.bool true)) else y) σ H Q) : tOr (tT K F x) (tT K F y) σ H Q := by
  have e : ((x.bind fun v => (isTrueV v).bind fun c => if c then M.pure (.dat (.bool true)) else y).bind isTrueV) = x.bind fun v => (isTrueV v).bind fun c => if c then M.pure true else y.bind isTrueV := by
    simp only [bind_assoc]
    congr 1; funext v; congr 1; funext c
    cases c <;> rfl
  unfold tT at h
  rw [e] at h
  obtain ⟨G, O, e, m, h⟩ := h
  obtain ⟨b, G', O', e', m', h⟩ := At.truthT h
  refine (h.mono fun w H1 q => ?_).tr
  obtain ⟨rfl, O1, e1, m1, g, h⟩ := q
  cases w with
  | true => exact iteT (At.pure h rfl)
  | false => exact iteF h.tr
end
end Fb

namespace Fb
open PySem PySem.Spec PyProof.Rows L2
section
variable {X : Cx} {F : List Addr} {K : PySem.W.Frag} {G O O' : Own} {σ : L2.St} {H H' : Hp} {e : List Slot} {m : Mu}
/-! ### repr -/
theorem noDict_shaped {d : PyData} (h : SeqAt.shaped d = true) : d.hasDict = false := PyData.hasDict_of_canLay d (SeqAt.canLay_of_shaped h)
theorem cr_repr (hg : X.A.guards = some []) (hu : X.A.units + 100 < cLine) : CallR X (.builtin "repr") (C1D X.K F .repr) := by
  intro pins s σ H xs us Q I r h
  obtain ⟨x, rfl, G, O, σ', e, m, d, v, cx, hd, wt⟩ := h
  have hd : (if (SeqAt.shaped d && d.showable && decide (d.shown.length ≤ SZ)) = true then some (Val.dat (.str d.shown)) else none) = some v := by cases d <;> exact hd
  obtain ⟨hc, rfl⟩ := some_ite hd
  simp only [Bool.and_eq_true, decide_eq_true_eq] at hc
  obtain ⟨⟨h1, h2⟩, h3⟩ := hc
  rw [sz_eq] at h3
  have hp := SeqAt.depth_of_shaped h1
  have dp := cx.dp (SeqAt.canLay_of_shaped h1)
  obtain ⟨u, rfl, ru⟩ := vals1 r
  have fin : ∀ (h' : Heap) (t : Tok) (tk : Nat), (∀ b o, s.heap.get? b = some o → h'.get? b = some o) → EP X pins σ Q (.str d.shown t) { s with heap := h', toks := tk } := fun h' t tk k =>
    ⟨.str d.shown, H, I.kept (t' := tk) k, ⟨t, rfl⟩, wt.dat (.str _)⟩
  have tups : ∀ a, x = .ref a → wpAny (model X.prog X.w) X.A (call (.builtin "repr") [u]) (EP X pins σ Q) X.xe s := fun a ea => by
    subst ea
    obtain rfl : u = Value.ref a := ru
    obtain ⟨as, rd⟩ := Dp.reads I d _ _ dp rfl
    exact repr_of_reads' rd h2 (PyData.noDict_hsm (noDict_shaped h1)) hg (by omega) (fun _ _ q => q) (fun h' t tk k => fin h' t tk k) h3
  cases d with
  | none =>
    cases cx.non
    obtain rfl : u = Value.none := ru
    simp only [PyData.shown] at fin
    exact PySem.P.repr_of_none (fin s.heap _ _ fun _ _ q => q)
  | bool b =>
    cases cx.bl
    obtain rfl : u = Value.bool b := ru
    simp only [PyData.shown] at fin
    exact PySem.P.repr_of_bool (fin s.heap _ _ fun _ _ q => q)
  | int i =>
    cases cx.int
    obtain ⟨t, rfl⟩ := ru
    simp only [PyData.shown] at fin
    exact PySem.P.repr_of_int (by simpa [PyData.showable] using h2) (fin s.heap _ _ fun _ _ q => q)
  | str z =>
    cases cx.str
    obtain ⟨t, rfl⟩ := ru
    simp only [PyData.shown] at fin h3
    exact PySem.P.repr_of_str (fin s.heap _ _ fun _ _ q => q) h3
  | list ds =>
    obtain ⟨a, ys, ea, _⟩ := cx.lst
    exact tups a ea
  | tuple ds =>
    obtain ⟨a, ys, ea, _⟩ := cx.tup
    exact tups a ea
  | dict es => simp [SeqAt.shaped, PyData.canLay0] at h1
/-! ### slices -/
theorem cut_rep {xs : List V} {ds : List PyData} {lo hi : Option Int} (r : RepAll K O H xs ds) : RepAll K O H (cutV xs lo hi) (cutD ds lo hi) := by
  unfold cutV cutD
  rw [r.length]
  exact (r.drop _).take _
theorem cut_whole {ds : List PyData} {lo hi : Option Int} (h1 : HT.sIx ds.length 0 lo = 0) (h2 : HT.sIx ds.length ds.length hi = ds.length) : cutD ds lo hi = ds := by
  unfold cutD
  rw [h1, h2, Nat.sub_zero, List.drop_zero, List.take_length]
def RSl (K : PySem.W.Frag) (F : List Addr) : V → Option Int → Option Int → Hp → VK → Prop := fun x lo hi H Q => ∃ G O σ e m d v, Cont K O H x d ∧ slcD d lo hi = some v ∧ Wants K F G O σ H e m v Q
theorem sl_D : SlR X (RSl X.K F) := by
  intro pins s σ H x v vl vu lo hi sl Q I rx hs pl pu h
  obtain ⟨G, O, σ', e, m, d, v', cx, hd, wt⟩ := h
  refine SlR.or sl_list sl_tupA pins s σ H x v vl vu lo hi sl Q I rx hs pl pu ?_
  cases d with
  | list a =>
    obtain ⟨p, ys, rfl, hp, rp⟩ := cx.lst
    cases hd
    exact .inl ⟨p, ys, rfl, hp, wt.lst (cut_rep rp)⟩
  | tuple a =>
    have r : Rep X.K O H x (.tuple a) := cx.elim id fun ⟨a, _, h⟩ => h.elim
    obtain ⟨p, ys, rfl, hp, rp⟩ := cx.tup
    cases hd
    refine .inr ⟨p, ys, rfl, hp, fun z => ?_, fun _ => wt.tup (cut_rep rp)⟩
    rw [rp.length] at z
    rw [cut_whole z.1 z.2] at wt
    exact wt.dat r
  | _ => cases hd
def PRep (G O : Own) (σ : L2.St) (H : Hp) (e : List Slot) (w a : Option Int) : Prop := w = a
abbrev tP (K : PySem.W.Frag) (F : List Addr) (x : M (Option Int)) : TO := tR K F PRep x
theorem VRep.int {v : V} {x : Val} {b : Int} {s s' : S} (r : VRep K F G O σ H e v x) (h : intV x s = .ok (b, s')) : v = .int b ∧ s' = s := by
  cases x with
  | dat d =>
    cases d with
    | int c =>
      cases h
      have r : Rep K O H v (.int b) := r
      cases r
      exact ⟨rfl, rfl⟩
    | _ => cases h
  | _ => cases h
/-- a value that is an int, and what follows -/
theorem At.int {γ δ : Type} {R : Rel γ δ} {x : M Val} {f : Int → M γ} {Q : δ → Hp → Prop} (h : At K F R G O σ H e m (x.bind fun v => (intV v).bind f) Q) :
    ∃ b : Int, At K F (VRep K F) G O σ H e m x fun w H1 => w = .int b ∧ ∃ O1 e1 m1, Grow F G O H O1 H1 ∧ At K F R G O1 σ H1 e1 m1 (f b) Q := by
  obtain ⟨s, c, e', m', h1, h2⟩ := h
  obtain ⟨v, ⟨e1, m1⟩, h3, h4⟩ := bind_ok h1
  obtain ⟨b, s2, h5, h6⟩ := bind_ok h4
  refine ⟨b, s, v, e1, m1, h3, fun w H1 O1 g s1 r => ?_⟩
  obtain ⟨ew, es⟩ := r.int h5
  subst es
  exact ⟨ew, O1, e1, m1, g, s1, c, e', m', h6, fun w' H' O' g' s' r' => h2 w' H' O' (g.trans g' s.fo) s' r'⟩
theorem PO.mono {X : Cx} {e : Option Expr} {t t' : TO} (h : PO X e t) (k : ∀ σ H Q, t' σ H Q → t σ H Q) : PO X e t' := ⟨fun pins s σ H Q I q => h.run pins s σ H Q I (k σ H Q q)⟩
theorem tPart_P {x : M Val} {Q : Option Int → Hp → Prop} (h : tP K F (x.bind fun v => (intV v).bind fun i => M.pure (some i)) σ H Q) : tPart (tD K F x) σ H Q := by
  obtain ⟨G, O, e, m, h⟩ := h
  obtain ⟨b, h⟩ := At.int h
  refine (h.mono fun w H1 q => ?_).tr
  obtain ⟨rfl, O1, e1, m1, g, h⟩ := q
  exact ⟨b, rfl, At.pure h rfl⟩
theorem tNoPart_P {Q : Option Int → Hp → Prop} (h : tP K F (M.pure none) σ H Q) : tNoPart σ H Q := by
  obtain ⟨G, O, e, m, h⟩ := h
  exact At.pure h rfl
theorem tSl_D {x : M Opd} {l h : M (Option Int)} {Q : VK} (hh : tD K F (x.bind fun x => l.bind fun l => h.bind fun h => x.now.bind fun d => lift (slcD d l h)) σ H Q) : tSl (RSl K F) (tO K F x) (tP K F l) (tP K F h) σ H Q := by
  obtain ⟨G, O, e, m, hh⟩ := hh
  obtain ⟨a, hh⟩ := At.bind (R := ORep K) hh
  refine (hh.mono fun w H1 q => ?_).tr
  obtain ⟨O1, e1, m1, g, r, hh⟩ := q
  have s1 := hh.sim
  obtain ⟨b, hh⟩ := At.bind (R := PRep) hh
  refine (hh.mono fun w2 H2 q => ?_).tr
  obtain ⟨O2, e2, m2, g2, r2, hh⟩ := q
  obtain rfl : w2 = b := r2
  have s2 := hh.sim
  obtain ⟨c, hh⟩ := At.bind (R := PRep) hh
  refine (hh.mono fun w3 H3 q => ?_).tr
  obtain ⟨O3, e3, m3, g3, r3, hh⟩ := q
  obtain rfl : w3 = c := r3
  have s3 := hh.sim
  have r1' := ORep.grow (e' := e3) s2 g3 (ORep.grow (e' := e2) s1 g2 r)
  obtain ⟨b1, s1', hb⟩ := hh.inv
  obtain ⟨d, sd, hd, hb⟩ := bind_ok hb
  obtain ⟨rfl, cd⟩ := ORep.now s3 r1' hd
  have hh := At.same (a := d) hh fun b s' z => by rw [hd] at z; cases z; exact ⟨rfl, rfl⟩
  obtain ⟨v, hv, wt⟩ := At.wants (v := .dat .none) hh
  exact ⟨G, O3, σ, e3, m3, d, v, cd, hv, wt⟩
/-! ### isinstance -/
theorem Cont.ty {x : V} {d : PyData} (h : Cont K O H x d) : TyX K H x (.type (tyOf d)) := by
  rcases h with h | ⟨a, rfl, h⟩
  · cases h with
    | non => exact .base .non
    | bl b => exact .base (.bl b)
    | int i => exact .base (.int i)
    | str z => exact .base (.str z)
    | lst h r =>
      rcases h with ⟨_, h | ⟨o, h⟩⟩ | h
      · exact .base (.lst h)
      · exact .base (.frz h)
      · rcases h with (h | ⟨o, h⟩) | ⟨o, its, n, h1, h2, _⟩
        · cases h
        · cases h
        · exact .kList h1 h2
    | tup h r =>
      rcases h with ⟨_, h | ⟨o, h⟩⟩ | h
      · exact .base (.tup h)
      · exact .fTuple h
      · rcases h with (h | ⟨o, h⟩) | ⟨o, its, n, h1, h2, _⟩
        · cases h
        · cases h
        · exact .kTuple h1 h2
    | dic n h r => exact .base (.dK h)
  · cases d with
    | list ds => obtain ⟨xs, h, r⟩ := h; exact .base (.lst h)
    | dict es => obtain ⟨xs, h, r⟩ := h; exact .base (.dK h)
    | _ => exact h.elim
theorem tIsi_D {x : M Opd} {t : String} {Q : VK} (h : tD K F (x.bind fun x => x.now.bind fun d => lift ((L2.kitB (tyOf d) t).map fun b => .dat (.bool b))) σ H Q) : tCB (rIsi K) (tCons (tO K F x) (tCons (tC (.ty t)) tNil)) σ H Q := by
  obtain ⟨G, O, e, m, h⟩ := h
  obtain ⟨a, h⟩ := At.bind (R := ORep K) h
  refine (h.mono fun w H1 q => ?_).tr
  obtain ⟨O1, e1, m1, g, r, h⟩ := q
  have s1 := h.sim
  obtain ⟨b1, s1', hb⟩ := h.inv
  obtain ⟨d, sd, hd, hb⟩ := bind_ok hb
  obtain ⟨rfl, cd⟩ := ORep.now s1 r hd
  have h := At.same (a := d) h fun b s' z => by rw [hd] at z; cases z; exact ⟨rfl, rfl⟩
  obtain ⟨v, hv, wt⟩ := At.wants (v := .dat .none) h
  obtain ⟨b, hk, rfl⟩ := Option.map_eq_some_iff.mp hv
  exact ⟨w, .ty t, .type (tyOf d), .type t, b, rfl, .ty t, cd.ty, kit_ty hk, wt.dat (.bl _)⟩
/-! ### list(range(..)), tuple(range(..)) -/
theorem rep_rg (a b : Int) : RepAll K O H (rgV a b) (rgD a b) := by
  unfold rgV rgD
  generalize List.range (b - a).toNat = l
  induction l with
  | nil => exact .nil
  | cons i r ih => exact .cons (.int _) ih
theorem rgOk_of {a b : Int} (h : rgOk a b = true) : RgOk a b := by
  unfold rgOk at h
  exact (of_decide_eq_true h : _ ∧ _)
def rgVal (tp : Bool) (a b : Int) : Val := if tp then .dat (.tuple (rgD a b)) else .uni (.list (rgD a b))
theorem ev_lrng1 (tp : Bool) (x : Ex) : evE (.lrng tp (some x) none) = (evE x).bind fun v => (intV v).bind fun i => if rgOk 0 i then M.pure (rgVal tp 0 i) else M.stuck := by
  simp only [evE, evP, bind_assoc, bind_pure_l]
  rfl
theorem ev_lrng2 (tp : Bool) (x y : Ex) : evE (.lrng tp (some x) (some y)) = (evE x).bind fun v => (intV v).bind fun i => (evE y).bind fun w => (intV w).bind fun j => if rgOk i j then M.pure (rgVal tp i j) else M.stuck := by
  simp only [evE, evP, bind_assoc, bind_pure_l]
  rfl
theorem ev_rng1 (x : Ex) : evIt (.rng (some x) none) = (evE x).bind fun v => (intV v).bind fun i => if rgOk 0 i then M.pure (rgD 0 i) else M.stuck := by
  simp only [evIt, evP, bind_assoc, bind_pure_l]
  rfl
theorem ev_rng2 (x y : Ex) : evIt (.rng (some x) (some y)) = (evE x).bind fun v => (intV v).bind fun i => (evE y).bind fun w => (intV w).bind fun j => if rgOk i j then M.pure (rgD i j) else M.stuck := by
  simp only [evIt, evP, bind_assoc, bind_pure_l]
  rfl
theorem At.guard {α β : Type} {R : Rel α β} {c : Bool} {x : M α} {Q : β → Hp → Prop} (h : At K F R G O σ H e m (if c then x else M.stuck) Q) : c = true ∧ At K F R G O σ H e m x Q := by
  cases c with
  | true => exact ⟨rfl, h⟩
  | false =>
    obtain ⟨s, b, e', m', h1, h2⟩ := h
    cases h1
theorem tRgV {tp : Bool} {a b : Int} {Q : VK} (h : At K F (VRep K F) G O σ H e m (if rgOk a b then M.pure (rgVal tp a b) else M.stuck) Q) :
    RgOk a b ∧ (tp = true → ∀ q, H q = none → Q (.ref q) (upd H q (.tup (rgV a b)))) ∧ (tp = false → ∀ q, H q = none → Q (.ref q) (upd H q (.lst (rgV a b)))) := by
  obtain ⟨h1, h⟩ := h.guard
  refine ⟨rgOk_of h1, fun z => ?_, fun z => ?_⟩
  · subst z; exact h.pureW.tup (rep_rg a b)
  · subst z; exact h.pureW.lst (rep_rg a b)
theorem tTupRg1_D {x : Ex} {Q : VK} (h : tD K F (evE (.lrng true (some x) none)) σ H Q) : tTupRg (tRg1 (tD K F (evE x))) σ H Q := by
  rw [ev_lrng1] at h
  obtain ⟨G, O, e, m, h⟩ := h
  obtain ⟨b, h⟩ := At.int h
  refine (h.mono fun w H1 q => ?_).tr
  obtain ⟨rfl, O1, e1, m1, g, h⟩ := q
  obtain ⟨h1, h2, _⟩ := tRgV h
  exact ⟨b, rfl, h1, h2 rfl⟩
theorem tLstRg1_D {x : Ex} {Q : VK} (h : tD K F (evE (.lrng false (some x) none)) σ H Q) : tLstRg (tRg1 (tD K F (evE x))) σ H Q := by
  rw [ev_lrng1] at h
  obtain ⟨G, O, e, m, h⟩ := h
  obtain ⟨b, h⟩ := At.int h
  refine (h.mono fun w H1 q => ?_).tr
  obtain ⟨rfl, O1, e1, m1, g, h⟩ := q
  obtain ⟨h1, _, h2⟩ := tRgV h
  exact ⟨b, rfl, h1, h2 rfl⟩
theorem tTupRg2_D {x y : Ex} {Q : VK} (h : tD K F (evE (.lrng true (some x) (some y))) σ H Q) : tTupRg (tRg2 (tD K F (evE x)) (tD K F (evE y))) σ H Q := by
  rw [ev_lrng2] at h
  obtain ⟨G, O, e, m, h⟩ := h
  obtain ⟨b, h⟩ := At.int h
  refine (h.mono fun w H1 q => ?_).tr
  obtain ⟨rfl, O1, e1, m1, g, h⟩ := q
  obtain ⟨c, h⟩ := At.int h
  refine (h.mono fun w H2 q => ?_).tr
  obtain ⟨rfl, O2, e2, m2, g2, h⟩ := q
  obtain ⟨h1, h2, _⟩ := tRgV h
  exact ⟨b, c, rfl, rfl, h1, h2 rfl⟩
theorem tLstRg2_D {x y : Ex} {Q : VK} (h : tD K F (evE (.lrng false (some x) (some y))) σ H Q) : tLstRg (tRg2 (tD K F (evE x)) (tD K F (evE y))) σ H Q := by
  rw [ev_lrng2] at h
  obtain ⟨G, O, e, m, h⟩ := h
  obtain ⟨b, h⟩ := At.int h
  refine (h.mono fun w H1 q => ?_).tr
  obtain ⟨rfl, O1, e1, m1, g, h⟩ := q
  obtain ⟨c, h⟩ := At.int h
  refine (h.mono fun w H2 q => ?_).tr
  obtain ⟨rfl, O2, e2, m2, g2, h⟩ := q
  obtain ⟨h1, _, h2⟩ := tRgV h
  exact ⟨b, c, rfl, rfl, h1, h2 rfl⟩
/-! ### store objects -/
theorem key_str {x : Str} {k : Key} (h : PyData.str x = keyD k) : k = Sum.inr x := by
  cases k with
  | inl i => cases h
  | inr y => cases h; rfl
theorem kv_look {k : Str} {d : PyData} : ∀ {kvs : List (Str × PyData)} {ks : List (Key × V)}, RepKV K O H ks (kvs.map fun p => (PyData.str p.1, p.2)) → kvs.lookup k = some d → ∃ v, valV ks (Sum.inr k) = some v ∧ Rep K O H v d
  | [], ks, r, h => by cases h
  | (x, y) :: kvs, ks, r, h => by
    have r : RepKV K O H ks ((PyData.str x, y) :: kvs.map fun p => (PyData.str p.1, p.2)) := r
    cases r with
    | cons c hr q =>
      cases key_str c
      rw [List.lookup_cons] at h
      by_cases z : k = x
      · subst z
        rw [beq_self_eq_true] at h
        cases h
        exact ⟨_, valV_pos rfl, hr⟩
      · rw [beq_eq_false_iff_ne.mpr z] at h
        obtain ⟨v, h1, h2⟩ := kv_look q h
        exact ⟨v, by rw [valV_neg (fun w => z (Sum.inr.inj w).symm)]; exact h1, h2⟩
theorem kv_any {k : Str} : ∀ {kvs : List (Str × PyData)} {ks : List (Key × V)} {d : PyData}, RepKV K O H ks (kvs.map fun p => (PyData.str p.1, p.2)) → kvs.lookup k = some d → (ks.any fun kv => decide (kv.1 = Sum.inr k)) = true := fun {kvs ks d} r h => by
  obtain ⟨v, h1, _⟩ := kv_look r h
  obtain ⟨p, h2, _⟩ := Option.map_eq_some_iff.mp h1
  exact List.any_eq_true.mpr ⟨p, List.mem_of_find?_eq_some h2, by have z := List.find?_some h2; exact z⟩
theorem kv_put {k : Str} {d : PyData} {v : V} (hv : Rep K O H v d) : ∀ {kvs : List (Str × PyData)} {ks : List (Key × V)}, RepKV K O H ks (kvs.map fun p => (PyData.str p.1, p.2)) →
    RepKV K O H (ks.map fun kv => if kv.1 = Sum.inr k then (kv.1, v) else kv) ((putKV k d kvs).map fun p => (PyData.str p.1, p.2))
  | [], ks, r => by
    have r : RepKV K O H ks [] := r
    cases r
    exact .nil
  | (x, y) :: kvs, ks, r => by
    have r : RepKV K O H ks ((PyData.str x, y) :: kvs.map fun p => (PyData.str p.1, p.2)) := r
    cases r with
    | @cons k0 w ws _ _ _ c hr q =>
      cases key_str c
      have ih := kv_put (k := k) hv q
      unfold putKV at ih ⊢
      rw [List.map_cons, List.map_cons, List.map_cons]
      by_cases z : x = k
      · subst z
        rw [if_pos rfl, if_pos rfl]
        exact .cons rfl hv ih
      · rw [if_neg (fun e => z (Sum.inr.inj e)), if_neg z]
        exact .cons rfl hr ih
theorem tGet_D {i : Nat} {k : Str} {Q : VK} (h : tD K F (fgetM i k) σ H Q) : tDGet (tVar i) (tC (.str k)) σ H Q := by
  obtain ⟨G, O, e, m, s, a, e', m', h1, h2⟩ := h
  unfold fgetM at h1
  dsimp only at h1
  cases q : e[i]? with
  | none => rw [q] at h1; cases h1
  | some x =>
    rw [q] at h1
    cases x with
    | sto n =>
      dsimp only at h1
      cases q2 : m[n]? with
      | none => rw [q2] at h1; cases h1
      | some kvs =>
        rw [q2] at h1
        dsimp only at h1
        cases q3 : kvs.lookup k with
        | none => rw [q3] at h1; cases h1
        | some d =>
          rw [q3] at h1
          cases h1
          obtain ⟨a, k1, k2⟩ := s.slot i _ q
          obtain ⟨ks, k3, k4⟩ := s.st n a kvs k2 q2
          obtain ⟨v, k5, k6⟩ := kv_look k4 q3
          refine ⟨_, k1, a, v, rfl, ?_, h2 v H O .refl s k6⟩
          rw [← k5]
          exact DGet.k (k := Sum.inr k) k3
    | _ => cases h1
end
end Fb

namespace Fb
open PySem PySem.Spec PyProof.Rows L2
section
variable {prog : Program} {w : World} {A : Around} {E : Value → Shared → Prop} {s : Shared}
theorem adj_back (n : Nat) : Builtin.Slice.sliceAdjust none none (-1) (n : Int) = ((n : Int) - 1, -1) := by
  unfold Builtin.Slice.sliceAdjust
  simp
theorem places_back (n : Nat) : Builtin.Slice.slicePlaces ((n : Int) - 1) (-1) (-1) = n := by
  unfold Builtin.Slice.slicePlaces
  simp only [show ¬ ((-1 : Int) > 0) by decide, if_false]
  split
  · simp
  · omega
theorem pick_back (xs : Array Value) : ((List.range xs.size).filterMap fun (k : Nat) => xs[((xs.size : Int) - 1 + (k : Int) * (-1)).toNat]?).toArray = xs.toList.reverse.toArray := by
  have h1 : ((List.range xs.size).filterMap fun (k : Nat) => xs[((xs.size : Int) - 1 + (k : Int) * (-1)).toNat]?) = ((List.range xs.size).map fun k => xs.size - 1 - k).filterMap (xs[·]?) := by
    rw [List.filterMap_map]
    congr 1
    funext k
    have : ((xs.size : Int) - 1 + (k : Int) * (-1)).toNat = xs.size - 1 - k := by omega
    simp only [Function.comp, this]
  rw [h1, PySem.W.krv_range, List.filterMap_reverse, PySem.W.krv_all]
theorem getItem_tuple_back {t sl : Addr} {its : Array Value} {vs : Value} {Q : Value → Shared → Prop} (ht : IsTup s.heap t its) (hs : s.heap.IsSliceOf sl .none .none vs) (ps : IsPart vs (some (-1)))
    (h : Q (.ref s.heap.objs.size) { s with heap := s.heap.push { cls := .type "tuple", data := .seq its.toList.reverse.toArray } }) (hz : its.size ≤ sizeLine) : wpAny (model prog w) A (getItem (.ref t) (.ref sl)) Q E s := by
  have room : sizeOk (.seq its.toList.reverse.toArray) := by
    show its.toList.reverse.toArray.size ≤ sizeLine
    rw [List.size_toArray, List.length_reverse, Array.length_toList]
    exact hz
  obtain ⟨os, hos, hcs, hds⟩ := id hs
  have tys : s.TypeIs (.ref sl) "slice" := ⟨os, hos, hcs⟩
  unfold getItem
  try with_reducible refine wpAny_holding ?_
  first | refine wpAny_bind (wpAny_pure ?_) | skip
  refine wpAny_bind (wpAny_sequenceKey ht.typeIs (by decide) ?_)
  refine wpAny_bind (wpAny_callSpecial?_slot (name := Str.ofString "__getitem__") ht.typeIs PyProof.Rows.slot_tuple_getitem
    (wpAny_call_entry PyProof.Rows.slot_tuple_getitem ht.typeIs entry_tuple_getitem ?_ (args_tuple_getitem _ _)))
  show wpAny _ _ (Builtin.Tuple.tupleItemsOf (.ref t) >>= _) _ _ s
  refine wpAny_bind (tupleItemsOf_ ht ?_)
  refine wpAny_bind (wpAny_typeOf tys ?_)
  rw [if_pos (by decide)]
  have app : ∀ {Q : Int × Int × Nat → Shared → Prop} {E : Value → Shared → Prop} {A : Around}, Q ((its.size : Int) - 1, -1, its.size) s → wpAny (model prog w) A (Builtin.Slice.sliceApplied (.ref sl) (pure (its.size : Int))) Q E s := fun {Q E A} q => by
    unfold Builtin.Slice.sliceApplied Builtin.Slice.sliceFields
    refine wpAny_bind (wpAny_bind (wpAny_field hos hds (x := .none) rfl (wpAny_bind (wpAny_field hos hds (x := .none) rfl (wpAny_bind (wpAny_field hos hds (x := vs) rfl (wpAny_pure ?_)))))))
    refine wpAny_bind (HT.slicePart_ ps ?_)
    show wpAny _ _ (if ((-1 : Int) == 0) = true then _ else _) _ _ s
    rw [if_neg (by decide)]
    refine wpAny_bind (slicePart_none (wpAny_bind (slicePart_none (wpAny_bind (wpAny_pure ?_)))))
    show wpAny _ _ (match Builtin.Slice.sliceAdjust none none (-1) (its.size : Int) with | (lo, hi) => pure (lo, (-1 : Int), Builtin.Slice.slicePlaces lo hi (-1))) _ _ s
    rw [adj_back]
    show wpAny _ _ (pure ((its.size : Int) - 1, (-1 : Int), Builtin.Slice.slicePlaces ((its.size : Int) - 1) (-1) (-1))) _ _ s
    rw [places_back]
    exact wpAny_pure q
  refine wpAny_bind (app ?_)
  have no : ¬ ((((its.size : Int) - 1 == 0) && ((-1 : Int) == 1) && (its.size == its.size)) = true) := by
    rw [show ((-1 : Int) == 1) = false from rfl, Bool.and_false, Bool.false_and]
    exact Bool.false_ne_true
  show wpAny _ _ (if (((its.size : Int) - 1 == 0) && ((-1 : Int) == 1) && (its.size == its.size)) = true then _ else _) _ _ s
  rw [if_neg no, pick_back]
  first
    | exact wpAny_bind (m := Builtin.Tuple.tupleExact _) (wpAny_newObj_type (wpAny_pure ⟨_, rfl, wpAny_pure h⟩) room)
    | exact wpAny_bind (m := Builtin.Tuple.tupleExact _) (wpAny_newObj_type (wpAny_bind (wpAny_pure (wpAny_pure ⟨_, rfl, wpAny_pure h⟩))) room)
    | exact wpAny_bind (wpAny_bind (m := Builtin.Tuple.tupleExact _) (wpAny_newObj_type (wpAny_pure (wpAny_pure ⟨_, rfl, wpAny_pure h⟩)) room))
    | exact wpAny_bind (wpAny_bind (m := Builtin.Tuple.tupleExact _) (wpAny_newObj_type (wpAny_pure ⟨_, rfl, wpAny_pure h⟩) room))
end
section
variable {X : Cx} {F : List Addr} {K : PySem.W.Frag} {G O O' : Own} {σ : L2.St} {H H' : Hp} {e : List Slot} {m : Mu}
def RRv (K : PySem.W.Frag) (F : List Addr) : V → Hp → VK → Prop := fun x H Q => ∃ G O σ e m d v, Cont K O H x d ∧ revD d = some v ∧ Wants K F G O σ H e m v Q
theorem pe_rev {a : Expr} {te : TE} {k : Nat} {p1 p2 p3 pos : Pos} (he : PE X a te) : PE X (.Subscript a (.Slice none none (some (.UnaryOp .USub (.Constant (.int 1) k p1) p2)) p3) pos) (fun σ H Q => te σ H fun x H1 => RRv X.K F x H1 Q) := by
  refine ⟨fun pins s σ H Q I h => ?_⟩
  refine Subscript_ (thn (he.run pins s σ H _ I h) fun v s1 ⟨x, H1, I1, r1, q1⟩ => ?_)
  obtain ⟨G, O, σ', e, m, d, v', cx, hd, wt⟩ := q1
  have st : PO X (some (.UnaryOp .USub (.Constant (.int 1) k p1) p2)) (tPart (tUn (rU fun i => .int (-i)) (tC (.int 1)))) := po_some (pe_un un_neg pe_int)
  refine wpAny_Slice (thn (po_none.run pins s1 σ H1 (fun o H2 => o = none ∧ H2 = H1) I1 ⟨rfl, rfl⟩) fun vl s2 ⟨l, H2, I2, pl, el, e2⟩ => ?_)
  subst el e2
  refine thn (po_none.run pins s2 σ H2 (fun o H3 => o = none ∧ H3 = H2) I2 ⟨rfl, rfl⟩) fun vu s3 ⟨u, H3, I3, pu, eu, e3⟩ => ?_
  subst eu e3
  refine thn (st.run pins s3 σ H3 (fun o H4 => o = some (-1) ∧ H4 = H3) I3 ⟨1, rfl, -1, rfl, rfl, rfl⟩) fun vs s4 ⟨o, H4, I4, ps, eo, e4⟩ => ?_
  subst eo e4
  have I5 : Inv X pins σ H4 { s4 with heap := s4.heap.push { cls := .type "slice", data := .fields #[vl, vu, vs] } } := I4.kept (t' := s4.toks) fun b ob q => Heap.get?_push_of_some _ q
  have nl : vl = .none := by cases pl; rfl
  have nu : vu = .none := by cases pu; rfl
  subst nl nu
  cases d with
  | list ds =>
    obtain ⟨b, xs, rfl, hx, rx⟩ := cx.lst
    cases hd
    cases r1
    obtain ⟨its, r, ht, hz⟩ := I5.list hx
    have hl := r.length
    show wpAny (model X.prog X.w) X.A (subscriptTail a (.Slice none none (some (.UnaryOp .USub (.Constant (.int 1) k p1) p2)) p3) (.ref b) (.ref s4.heap.objs.size)) (EP X pins σ Q) X.xe _
    refine tail_any (ops := [.ref b, .ref s4.heap.objs.size]) ht.isList.typeIs (PySem.slot_list_getitem.lookup) ?_ (by with_unfolding_all rfl)
    refine wpAny_getItem_list_slice ht.isList (Heap.IsSliceOf.new _ .none .none vs) .none .none ps (by decide) ?_ (by rw [List.size_toArray]; omega)
    rw [PySem.W.krv_pick]
    refine ⟨.ref _, _, I5.laid (t' := s4.toks) (o := .lst xs.reverse) (fun b ob q => Heap.get?_push_of_some _ q) (Nat.le_refl _) ?_, rfl, wt.lst rx.reverse _ (I5.hok.fresh (Nat.le_refl _))⟩
    exact ⟨by rw [List.length_reverse]; exact hz, _, 0, r.reverse, Heap.get?_push_size _ rfl⟩
  | tuple ds =>
    obtain ⟨b, xs, rfl, hx, rx⟩ := cx.tup
    cases hd
    cases r1
    obtain ⟨its, r, ht, hz⟩ := I5.tuple hx
    have hl := r.length
    show wpAny (model X.prog X.w) X.A (subscriptTail a (.Slice none none (some (.UnaryOp .USub (.Constant (.int 1) k p1) p2)) p3) (.ref b) (.ref s4.heap.objs.size)) (EP X pins σ Q) X.xe _
    refine tail_any (ops := [.ref b, .ref s4.heap.objs.size]) ht.typeIs (PyProof.Rows.slot_tuple_getitem.lookup) ?_ (by with_unfolding_all rfl)
    refine getItem_tuple_back ht (Heap.IsSliceOf.new _ .none .none vs) ps ?_ (by rw [List.size_toArray]; omega)
    refine ⟨.ref _, _, I5.laid (t' := s4.toks) (o := .tup xs.reverse) (fun b ob q => Heap.get?_push_of_some _ q) (Nat.le_refl _) ?_, rfl, wt.tup rx.reverse _ (I5.hok.fresh (Nat.le_refl _))⟩
    exact ⟨by rw [List.length_reverse]; exact hz, _, r.reverse, IsTup.new _ _⟩
  | _ => cases hd
theorem tRev_D {x : M Opd} {Q : VK} (h : tD K F (x.bind fun x => x.now.bind fun d => lift (revD d)) σ H Q) : tO K F x σ H fun w H1 => RRv K F w H1 Q := by
  obtain ⟨G, O, e, m, h⟩ := h
  obtain ⟨a, h⟩ := At.bind (R := ORep K) h
  refine (h.mono fun w H1 q => ?_).tr
  obtain ⟨O1, e1, m1, g, r, h⟩ := q
  have s1 := h.sim
  obtain ⟨b1, s1', hb⟩ := h.inv
  obtain ⟨d, sd, hd, hb⟩ := bind_ok hb
  obtain ⟨rfl, cd⟩ := ORep.now s1 r hd
  have h := At.same (a := d) h fun b s' z => by rw [hd] at z; cases z; exact ⟨rfl, rfl⟩
  obtain ⟨v, hv, wt⟩ := At.wants (v := .dat .none) h
  exact ⟨G, O1, σ, e1, m1, d, v, cd, hv, wt⟩
end
end Fb

namespace Fb
open PySem PySem.Spec PyProof.Rows L2
section
variable {X : Cx} {F : List Addr} {K : PySem.W.Frag} {G O O' : Own} {σ : L2.St} {H H' : Hp} {e : List Slot} {m : Mu}
/-! ### a list of one's own is changed -/
theorem stays_mut {a : Addr} {o : HO} (h : O a) : Stays O H O (upd H a o) := fun b u q n => ⟨by rw [upd_ne (show b ≠ a from fun z => n (by rw [z]; exact h))]; exact q, n⟩
theorem grow_mut {a : Addr} {o : HO} (h : O a) (ng : ¬ G a) : Grow F G O H O (upd H a o) := ⟨fun b u q _ c => by
  rw [upd_ne]
  · exact q
  · rintro rfl
    exact c.elim (fun z => z h) ng, fun _ z => .inl z⟩
theorem Sim.mutate {i : Nat} {d : PyData} {a : Addr} {xs : List V} {ds : List PyData} (s : Sim K F G O σ H e m) (h : e[i]? = some (.own d)) (ha : σ[i]? = some (some (.ref a))) (r : RepAll K O H xs ds) :
    Sim K F G O σ (upd H a (.lst xs)) (e.set i (.own (.list ds))) m ∧ Grow F G O H O (upd H a (.lst xs)) := by
  obtain ⟨a', h1, h2, h3, h4⟩ := s.slot i _ h
  rw [ha] at h1
  cases h1
  have hi : i < e.length := (List.getElem?_eq_some_iff.mp h).1
  have st : Stays O H O (upd H a (.lst xs)) := stays_mut h2
  refine ⟨⟨by rw [List.length_set]; exact s.len, fun j x q => ?_, fun j j' d1 d2 b q1 q2 => ?_, s.fg, s.go, fun b q => ?_, s.nd, s.sl, fun n b kvs q1 q2 => ?_⟩, grow_mut h2 h3⟩
  · rw [set_get] at q
    by_cases ij : i = j
    · subst ij
      rw [if_pos rfl, if_pos hi] at q
      cases q
      exact ⟨a, ha, h2, h3, xs, upd_same, r.stays st⟩
    · rw [if_neg ij] at q
      have sl := s.slot j x q
      cases x with
      | unset => trivial
      | val d => obtain ⟨y, k1, k2⟩ := sl; exact ⟨y, k1, k2.stays st⟩
      | own d2 =>
        obtain ⟨b, k1, k2, k3, k4⟩ := sl
        have ne : b ≠ a := fun z => by
          subst z
          exact ij (s.apart i j (.own d) (.own d2) b h q rfl rfl ha k1)
        refine ⟨b, k1, k2, k3, ?_⟩
        cases d2 with
        | list ds => obtain ⟨ys, k4, k5⟩ := k4; exact ⟨ys, by rw [upd_ne ne]; exact k4, k5.stays st⟩
        | dict ds => obtain ⟨ys, k4, k5⟩ := k4; exact ⟨ys, by rw [upd_ne ne]; exact k4, k5.stays st⟩
        | _ => exact k4.elim
      | sto n => exact sl
      | tab w es =>
        obtain ⟨b, k1, k2, k3, k4⟩ := sl
        have ne : b ≠ a := fun z => by
          subst z
          exact ij (s.apart i j (.own d) (.tab w es) b h q rfl rfl ha k1)
        exact ⟨b, k1, k2, k3, k4.to st fun o q => by rw [upd_ne ne]; exact q⟩
  · intro o1 o2
    have z : ∀ (j : Nat) (x : Slot), (e.set i (.own (.list ds)))[j]? = some x → ownS x = true → ∃ y, e[j]? = some y ∧ ownS y = true := fun j x q o => by
      rw [set_get] at q
      split at q
      · rename_i ij; exact ⟨.own d, by rw [← ij]; exact h, rfl⟩
      · exact ⟨x, q, o⟩
    obtain ⟨d1', q1', o1'⟩ := z j d1 q1 o1
    obtain ⟨d2', q2', o2'⟩ := z j' d2 q2 o2
    exact s.apart j j' d1' d2' b q1' q2' o1' o2'
  · by_cases z : b = a
    · subst z; exact ⟨_, upd_same⟩
    · obtain ⟨u, q⟩ := s.live b q
      exact ⟨u, by rw [upd_ne z]; exact q⟩
  · obtain ⟨ks, k1, k2⟩ := s.st n b kvs q1 q2
    have ne : b ≠ a := fun z => h3 (z ▸ s.fg b (List.mem_of_getElem? q1))
    exact ⟨ks, by rw [upd_ne ne]; exact k1, k2.stays st⟩
/-- the name's list, now -/
theorem At.own {γ δ : Type} {R : Rel γ δ} {i : Nat} {f : Unit → M γ} {Q : δ → Hp → Prop} (h : At K F R G O σ H e m ((ownChk i).bind f) Q) :
    ∃ a xs, σ[i]? = some (some (.ref a)) ∧ H a = some (.lst xs) ∧ At K F R G O σ H e m (f ()) Q := by
  obtain ⟨s, b, e', m', h1, h2⟩ := h
  obtain ⟨u, s1, h3, h4⟩ := bind_ok h1
  unfold ownChk at h3
  dsimp only at h3
  cases q : e[i]? with
  | none => rw [q] at h3; cases h3
  | some x =>
    rw [q] at h3
    cases x with
    | own d =>
      cases d with
      | list ds =>
        cases h3
        obtain ⟨a, k1, _, _, xs, k4, _⟩ := s.slot i _ q
        exact ⟨a, xs, k1, k4, s, b, e', m', h4, h2⟩
      | _ => cases h3
    | _ => cases h3
theorem seq_len {n k : Nat} {i : Int} (h : n = k) : seqIndex? i n = seqIndex? i k := by rw [h]
theorem tPop_D {x : M Val} {i : Nat} {Q : VK} (h : tD K F ((ownChk i).bind fun _ => x.bind fun v => (intV v).bind fun k => popAt i k) σ H Q) : tBM K "list" rPopAt (tVar i) (tCons (tD K F x) tNil) σ H Q := by
  obtain ⟨G, O, e, m, h⟩ := h
  obtain ⟨a, xs, k1, k2, h⟩ := At.own h
  refine ⟨.ref a, k1, .inl ⟨rfl, xs, SqL.of k2⟩, ?_⟩
  obtain ⟨b, h⟩ := At.int h
  refine (h.mono fun w H1 q => ?_).tr
  obtain ⟨rfl, O1, e1, m1, g, s, v, e', m', h1, h2⟩ := q
  unfold popAt at h1
  dsimp only at h1
  cases q : e1[i]? with
  | none => rw [q] at h1; cases h1
  | some x =>
    rw [q] at h1
    cases x with
    | own d =>
      cases d with
      | list ds =>
        dsimp only at h1
        cases q2 : seqIndex? b ds.length with
        | none => rw [q2] at h1; cases h1
        | some j =>
          rw [q2] at h1
          dsimp only at h1
          cases q3 : ds[j]? with
          | none => rw [q3] at h1; cases h1
          | some d =>
            rw [q3] at h1
            dsimp only at h1
            by_cases hb : -(2 ^ 63) ≤ b ∧ b < 2 ^ 63
            · rw [if_pos hb] at h1
              cases h1
              obtain ⟨a', j1, j2, j3, ys, j4, j5⟩ := s.slot i _ q
              rw [k1] at j1
              cases j1
              obtain ⟨y, j6, j7⟩ := j5.get' q3
              obtain ⟨s2, g2⟩ := s.mutate q k1 (j5.eraseIdx j)
              refine ⟨a, ys, b, j, y, rfl, rfl, j4, hb.1, hb.2, ?_, j6, h2 y _ O1 g2 s2 (j7.stays (stays_mut j2))⟩
              rw [j5.length]; exact q2
            · rw [if_neg hb] at h1; cases h1
      | _ => cases h1
    | _ => cases h1
/-! ### {'a': e, ..} -/
theorem put_new {ks : List (Key × V)} {k : Key} {v : V} (h : ∀ p ∈ ks, p.1 ≠ k) : putK ks k v = ks ++ [(k, v)] := by
  unfold putK
  rw [if_neg]
  intro z
  obtain ⟨p, h1, h2⟩ := List.any_eq_true.mp z
  exact h p h1 (of_decide_eq_true h2)
theorem merge_new : ∀ (more acc : List (Key × V)), ((acc ++ more).map (·.1)).Nodup → mergeK acc more = acc ++ more
  | [], acc, _ => by simp [mergeK]
  | (k, v) :: r, acc, h => by
    have e : mergeK acc ((k, v) :: r) = mergeK (putK acc k v) r := rfl
    have h1 : ∀ p ∈ acc, p.1 ≠ k := fun p hp z => by
      rw [List.map_append, List.map_cons] at h
      have := (List.nodup_append.mp h).2.2 p.1 (List.mem_map_of_mem hp) k List.mem_cons_self
      exact this z
    rw [e, put_new h1, merge_new r (acc ++ [(k, v)]) (by rw [List.append_assoc]; exact h), List.append_assoc]
    rfl
/-- the readings of a display's pairs -/
def dTrs (K : PySem.W.Frag) (F : List Addr) : List Str → List Ex → List (TE × TE)
  | k :: ks, e :: es => (tC (.str k), tD K F (evE e)) :: dTrs K F ks es
  | _, _ => []
theorem tPairs_Ds : ∀ {ks : List Str} {es : List Ex} {Q : List (V × V) → Hp → Prop}, ks.length = es.length → ∀ {σ H}, tDs K F (evEs es) σ H (fun ws H1 => Q (ks.map V.str |>.zip ws) H1) → tPairs (dTrs K F ks es) σ H Q
  | [], [], Q, _, σ, H, h => tNil_Ds h
  | k :: ks, e :: es, Q, hl, σ, H, h => by
    have h : tDs K F ((evE e).bind fun v => v.data.bind fun d => (evEs es).bind fun ds => M.pure (d :: ds)) σ H (fun ws H1 => Q ((k :: ks).map V.str |>.zip ws) H1) := by
      unfold evEs at h
      exact h
    have h := tCons_Ds h
    obtain ⟨G, O, e0, m, s, a, e', m', h1, h2⟩ := h
    refine ⟨G, O, e0, m, s, a, e', m', h1, fun w H1 O1 g s1 r => ?_⟩
    exact tPairs_Ds (Nat.succ.inj hl) (h2 w H1 O1 g s1 r)
  | [], _ :: _, _, hl, _, _, _ => by cases hl
  | _ :: _, [], _, hl, _, _, _ => by cases hl
/-! ### a new object is watched over while others are evaluated -/
theorem Sim.watch {p : Addr} {o : HO} (s : Sim K F G O σ H e m) (np : H p = none) : Sim K F (plus G p) (plus O p) σ (upd H p o) e m := by
  have s2 := s.newOwn (o := o) np
  refine ⟨s2.len, fun i x h => ?_, s2.apart, fun a h => .inl (s2.fg a h), fun a h => ?_, s2.live, s2.nd, s2.sl, s2.st⟩
  · have sl := s2.slot i x h
    cases x with
    | own d =>
      obtain ⟨a, h1, h2, h3, h4⟩ := sl
      refine ⟨a, h1, h2, fun z => ?_, h4⟩
      rcases z with z | z
      · exact h3 z
      · subst z
        exact s.notOwn np i (.own d) h rfl h1
    | tab w es =>
      obtain ⟨a, h1, h2, h3, h4⟩ := sl
      refine ⟨a, h1, h2, fun z => ?_, h4⟩
      rcases z with z | z
      · exact h3 z
      · subst z
        exact s.notOwn np i (.tab w es) h rfl h1
    | _ => exact sl
  · rcases h with h | h
    · exact .inl (s.go a h)
    · exact .inr h
/-- .. and is known again -/
theorem Sim.seen {p : Addr} {o : HO} (s : Sim K F (plus G p) O σ H e m) (hf : ∀ a, a ∈ F → G a) (ng : ¬ G p) : Sim K F G O σ (upd H p o) e m := by
  have op : O p := s.go p (.inr rfl)
  have st : Stays O H O (upd H p o) := stays_mut op
  refine ⟨s.len, fun i x h => ?_, s.apart, hf, fun a h => s.go a (.inl h), fun a h => ?_, s.nd, s.sl, fun n b kvs q1 q2 => ?_⟩
  · have sl := s.slot i x h
    cases x with
    | unset => trivial
    | val d => obtain ⟨y, k1, k2⟩ := sl; exact ⟨y, k1, k2.stays st⟩
    | own d =>
      obtain ⟨a, h1, h2, h3, h4⟩ := sl
      have ne : a ≠ p := fun z => h3 (.inr z)
      refine ⟨a, h1, h2, fun z => h3 (.inl z), ?_⟩
      cases d with
      | list ds => obtain ⟨ys, k4, k5⟩ := h4; exact ⟨ys, by rw [upd_ne ne]; exact k4, k5.stays st⟩
      | dict ds => obtain ⟨ys, k4, k5⟩ := h4; exact ⟨ys, by rw [upd_ne ne]; exact k4, k5.stays st⟩
      | _ => exact h4.elim
    | sto n => exact sl
    | tab w es =>
      obtain ⟨a, h1, h2, h3, h4⟩ := sl
      have ne : a ≠ p := fun z => h3 (.inr z)
      exact ⟨a, h1, h2, fun z => h3 (.inl z), h4.to st fun o q => by rw [upd_ne ne]; exact q⟩
  · by_cases z : a = p
    · subst z; exact ⟨_, upd_same⟩
    · obtain ⟨u, q⟩ := s.live a h
      exact ⟨u, by rw [upd_ne z]; exact q⟩
  · obtain ⟨ks, k1, k2⟩ := s.st n b kvs q1 q2
    have ne : b ≠ p := fun z => ng (z ▸ hf b (List.mem_of_getElem? q1))
    exact ⟨ks, by rw [upd_ne ne]; exact k1, k2.stays st⟩
theorem Grow.seen {p : Addr} {o o' : HO} (g : Grow F (plus G p) (plus O p) (upd H p o) O' H') (np : H p = none) : Grow F G O H O' (upd H' p o') := by
  refine ⟨fun a u q hf c => ?_, fun a z => ?_⟩
  · have ne : a ≠ p := ne_of_none q np
    rw [upd_ne ne]
    refine g.keep a u (by rw [upd_ne ne]; exact q) hf ?_
    rcases c with c | c
    · exact .inl fun z => z.elim c ne
    · exact .inr (.inl c)
  · rcases g.own a z with z | z
    · rcases z with z | z
      · exact .inl z
      · exact .inr (by rw [z]; exact np)
    · by_cases c : a = p
      · exact .inr (by rw [c]; exact np)
      · rw [upd_ne c] at z; exact .inr z
theorem kv_zip {ws : List V} {ds : List PyData} (r : RepAll K O H ws ds) : ∀ (ks : List Str), RepKV K O H ((ks.map fun k => (Sum.inr k : Key)).zip ws) ((ks.map PyData.str).zip ds) := by
  intro ks
  induction ks generalizing ws ds with
  | nil => exact .nil
  | cons k ks ih =>
    cases r with
    | nil => exact .nil
    | cons h r => exact .cons rfl h (ih r)
theorem zip_kV : ∀ (ks : List Str) (ws : List V), (ks.map V.str).zip ws = ((ks.map fun k => (Sum.inr k : Key)).zip ws).map fun kv => (kV kv.1, kv.2)
  | [], _ => rfl
  | _ :: _, [] => rfl
  | k :: ks, w :: ws => by
    simp only [List.map_cons, List.zip_cons_cons]
    rw [zip_kV ks ws]
    rfl
theorem nodup_inr : ∀ {ks : List Str}, ks.Nodup → (ks.map fun k => (Sum.inr k : Key)).Nodup
  | [], _ => .nil
  | k :: ks, h => by
    obtain ⟨h1, h2⟩ := List.nodup_cons.mp h
    rw [List.map_cons]
    refine List.nodup_cons.mpr ⟨fun z => ?_, nodup_inr h2⟩
    obtain ⟨x, hx, ex⟩ := List.mem_map.mp z
    cases ex
    exact h1 hx
theorem tDisp_D {ks : List Str} {es : List Ex} {Q : VK} (hl : ks.length = es.length) (h15 : ks.length ≤ 15) (hn : ks.Nodup) (h : tD K F ((evEs es).bind fun ds => M.pure (.uni (.dict ((ks.map PyData.str).zip ds)))) σ H Q) : tDisp (dTrs K F ks es) σ H Q := by
  intro p np
  obtain ⟨G, O, e, m, s, a, e', m', h1, h2⟩ := h
  obtain ⟨ds, ⟨e1, m1⟩, h3, h4⟩ := bind_ok h1
  have s1 := s.watch (o := .dK []) np
  refine tPairs_Ds hl ⟨_, _, e, m, s1, ds, e1, m1, h3, fun ws H2 O2 g s2 r => ?_⟩
  have r : RepAll K O2 H2 ws ds := r
  cases h4
  have lw : ws.length = ks.length := by rw [r.length, evEs_length h3, hl]
  have op : O2 p := s2.go p (.inr rfl)
  have ng : ¬ G p := fun z => s.new np (s.go p z)
  have nf : p ∉ F := fun z => ng (s.fg p z)
  refine ⟨g.keep p _ upd_same nf (.inr (.inr rfl)), (ks.map fun k => (Sum.inr k : Key)).zip ws, ?_, ?_, ?_⟩
  · exact zip_kV ks ws
  · rw [List.length_zip, List.length_map]; omega
  · have mk : mergeK [] ((ks.map fun k => (Sum.inr k : Key)).zip ws) = (ks.map fun k => (Sum.inr k : Key)).zip ws := by
      refine merge_new _ [] ?_
      rw [List.nil_append, List.map_fst_zip (by rw [List.length_map]; omega)]
      exact nodup_inr hn
    rw [mk]
    refine h2 _ _ O2 (g.seen np) (s2.seen s.fg ng) ⟨p, rfl, op, ng, ⟨_, upd_same, (kv_zip r ks).stays (stays_mut op)⟩, fun i d' q o z => ?_⟩
    obtain ⟨b, k1, _, k3⟩ := (s2.slot i _ q).ref o
    rw [z] at k1
    cases k1
    exact k3 (.inr rfl)
end
end Fb

namespace Fb
open PySem PySem.Spec PyProof.Rows L2
/-! enumerate(tuple) -/
set_option maxHeartbeats 1000000 in
theorem meets_enumB1 {v : Value} {o : Obj} {H : Heap → Prop} (B : Begins v o H) :
    Meets (Builtin.«enumerate.__new__» ⟨[.type "enumerate", v], []⟩) (fun _ R s => H s.heap ∧
      R (.ok (.ret (.ref (s.heap.push o).objs.size))) { s with heap := (s.heap.push o).push { cls := .type "enumerate", data := .fields #[.none, .bool false, .ref s.heap.objs.size, rawInt 0, .none, .none] } }) :=
  .of_wp fun prog w A R s h => by
    obtain ⟨hp, g, d, tk, os⟩ := s; obtain ⟨h1, h⟩ := h
    have hsub := sub_enumerate
    have q1 : ∀ {A' : Around} {E : Value → Shared → Prop} {Q : Value → Shared → Prop}, Q (.ref hp.objs.size) ⟨hp.push o, g, d, tk, os⟩ → wpAny (model prog w) A' (pyIter v) Q E ⟨hp, g, d, tk, os⟩ :=
      fun q => B.iter prog w _ _ ⟨hp, g, d, tk, os⟩ _ h1 q
    wp_walk using q1
    refine wpAny_stack_any fun st => wpAny_pure ?_
    split
    · rename_i c _ _ _ _ _
      cases (c == Value.type "enumerate")
      · wp_walk using q1
        exact ⟨_, rfl, h⟩
      · wp_walk using q1
        exact ⟨_, rfl, h⟩
    · wp_walk using q1
      exact ⟨_, rfl, h⟩
theorem call_enumB1 {prog : Program} {w : World} {A : Around} {E : Value → Shared → Prop} {s : Shared} {v : Value} {o : Obj} {H : Heap → Prop} {Q : Value → Shared → Prop} (B : Begins v o H) (h1 : H s.heap)
    (h : ∀ h', IsEnum h' (s.heap.objs.size + 1) s.heap.objs.size 0 .none → h'.get? s.heap.objs.size = some o → h'.objs.size = s.heap.objs.size + 2 →
      (∀ b o, s.heap.get? b = some o → h'.get? b = some o) → Q (.ref (s.heap.objs.size + 1)) { s with heap := h' }) :
    wpAny (model prog w) A (call (.type "enumerate") [v]) Q E s := by
  refine callType_new F.called_enumerate (by decide) (F.typeCall_enumerate_1 _) (F.newCall_enumerate_1 _) (fun obj => F.args_object_init_2 obj _) F.entry_enumerate_new
    (meets_enumB1 B) ⟨h1, ?_⟩
  have hz : (s.heap.push o).objs.size = s.heap.objs.size + 1 := Heap.size_push ..
  show _ ∧ _
  rw [hz]
  have he : IsEnum ((s.heap.push o).push { cls := .type "enumerate", data := .fields #[.none, .bool false, .ref s.heap.objs.size, rawInt 0, .none, .none] }) (s.heap.objs.size + 1) s.heap.objs.size 0 .none := by
    have := Heap.get?_push_size (s.heap.push o) (o := { cls := .type "enumerate", data := .fields #[.none, .bool false, .ref s.heap.objs.size, rawInt 0, .none, .none] }) rfl
    rw [hz] at this; exact this
  refine ⟨⟨_, he, rfl⟩, h _ he (Heap.get?_push_of_some _ (Heap.get?_push_size _ B.free)) (by rw [Heap.size_push, hz]) fun b o x => Heap.get?_push_of_some _ (Heap.get?_push_of_some _ x)⟩
/-- the tuple at a, each item in a new pair -/
def Itet (K : PySem.W.Frag) (a : Addr) : L2.It :=
  ⟨fun i H => ∃ (xs : List V) (x : V), SqT K H a xs ∧ xs[i]? = some x, fun i H v H' => ∃ T x, v = .ref T ∧ H T = none ∧ H' = upd H T (.tup [.int (i : Nat), x]) ∧ ∀ xs, SqT K H a xs → xs[i]? = some x, fun i H => ∃ xs : List V, SqT K H a xs ∧ xs.length = i⟩
theorem turn_enumT {P : Program} {w : World} {K : PySem.W.Frag} {elts : List Expr} {kk : Nat} {tpos : Pos} (a e it : Addr) :
    Turn P w K (.Tuple elts kk tpos) (Itet K a) [e, it] e (fun i h => (∃ old, IsEnum h e it (0 + (i : Int)) old) ∧ h.IsTupleIter it a i ∧ e ≠ it) where
  mem := by simp
  obj := fun i h st b hb => by
    obtain ⟨⟨old, he⟩, ⟨o, ho, hc, hd⟩, _⟩ := st
    have e' : b = e ∨ b = it := by simpa using hb
    rcases e' with z | z
    · rw [z]; exact ⟨_, he, fun v q => nomatch q⟩
    · rw [z]; exact ⟨o, ho, fun v q => by rw [hd] at q; cases q⟩
  keep := fun i h h' st k => let ⟨⟨old, he⟩, hi, hne⟩ := st; ⟨⟨old, k e (by simp) _ he⟩, hi.at fun o q => k it (by simp) o q, hne⟩
  item := by
    intro X hP hw hK hc i pins s σ H E I hf st hg
    subst hP hw hK
    obtain ⟨⟨old, he⟩, hit, hne⟩ := st
    obtain ⟨xs, x, hq, hx⟩ := hg
    obtain ⟨its, rv, p, hz⟩ := I.tuple hq
    obtain ⟨u, hu, ru⟩ := rv.get hx
    have hel : e < s.heap.objs.size := Heap.lt_size he
    have hil : it < s.heap.objs.size := by obtain ⟨_, q, _⟩ := hit; exact Heap.lt_size q
    have hT : s.heap.IsTuple a its.toArray := by first | exact p | exact p.isTuple | exact p.isTup | exact p.tuple
    have hae : a ≠ e := fun z => by
      obtain ⟨o, ho, hc, _⟩ := hT
      rw [z, he] at ho
      cases ho
      exact absurd (show (Value.type "enumerate") = Value.type "tuple" from hc) (by decide)
    have hai : a ≠ it := fun z => by
      obtain ⟨o, ho, hc, _⟩ := hT
      obtain ⟨o', ho', hc', _⟩ := hit
      rw [z, ho'] at ho
      cases ho
      rw [hc'] at hc
      exact absurd hc (by decide)
    have hlt : i < its.toArray.size := by
      have := (List.getElem?_eq_some_iff.mp hu).1
      simpa using this
    refine wpAny_pyNext_enum_itemC (Draws.tuple (A := X.A.in1) (I.ok.hd hc) it a hai its.toArray) he ⟨hit, hT⟩ hlt hne (by simp; exact ⟨hne, Ne.symm hae⟩) fun y h' tk hy ho hst' hT' hsz hk => ?_
    have hyu : y = u := by
      have : its.toArray[i]? = some y := hy
      rw [List.getElem?_toArray, hu] at this
      exact (Option.some.inj this).symm
    subst hyu
    refine ⟨_, rfl, wpAny_letOwnedTupleGo_enum (s := { s with heap := h', toks := tk + 1 }) ho fun h'' he' sb => ?_⟩
    have hT2 : h''.get? s.heap.objs.size = some { cls := .type "tuple", data := .seq #[.int (0 + (i : Int)) tk, y] } := (sb.2 _ (Nat.ne_of_gt hel)).trans hT'
    rw [Int.zero_add] at hT2
    have new : ObjOk X.prog X.w (upd H s.heap.objs.size (.tup [.int (i : Nat), x])) h'' s.heap.objs.size (.tup [.int (i : Nat), x]) :=
      ⟨by show 2 ≤ sizeLine; decide, [.int i tk, y], .cons ⟨_, rfl⟩ (.cons ru .nil), ⟨_, hT2, rfl, _, rfl⟩⟩
    have I1 : Inv X pins σ (upd H s.heap.objs.size (.tup [.int (i : Nat), x])) { s with heap := h'', toks := tk + 1 } :=
      I.turnedNew (ch := [e, it]) (fun b ob hb q => (sb.2 b (fun z => hb (by simp [z]))).trans (hk b ob (fun z => hb (by simp [z])) (fun z => hb (by simp [z])) q)) hf (Nat.le_refl _) new
    refine ⟨.ref s.heap.objs.size, _, I1, rfl, ⟨_, x, rfl, I.hok.fresh (Nat.le_refl _), rfl, fun ys hy => by rw [I.tuple_inj hy hq]; exact hx⟩, ⟨⟨y, ?_⟩, hst'.1.at fun o q => (sb.2 it (Ne.symm hne)).trans q, hne⟩, fun b hb => ?_⟩
    · have e1 : (0 : Int) + ((i + 1 : Nat) : Int) = 0 + (i : Int) + 1 := by omega
      rw [e1]; exact he'
    · have hb' : b < s.heap.objs.size := by
        have e' : b = e ∨ b = it := by simpa using hb
        rcases e' with z | z
        · rw [z]; exact hel
        · rw [z]; exact hil
      rw [upd_ne (Nat.ne_of_lt hb')]
      exact (hf b hb).1
  done := by
    intro X hP hw hK hc i pins s σ H E I hf st hg
    subst hP hw hK
    obtain ⟨⟨old, he⟩, hit, hne⟩ := st
    obtain ⟨xs, hq, hx⟩ := hg
    obtain ⟨its, rv, p, hz⟩ := I.tuple hq
    obtain ⟨f0, f1, f2, f3, f4, f5⟩ := hf it (by simp)
    have hl := rv.length
    have hT : s.heap.IsTuple a its.toArray := by first | exact p | exact p.isTuple | exact p.isTup | exact p.tuple
    have hai : a ≠ it := fun z => by
      obtain ⟨o, ho, hc, _⟩ := hT
      obtain ⟨o', ho', hc', _⟩ := hit
      rw [z, ho'] at ho
      cases ho
      rw [hc'] at hc
      exact absurd hc (by decide)
    have hn : i = its.toArray.size := by simp; omega
    exact wpAny_pyNext_enum_endD (Draws.tuple (A := X.A.in1) (I.ok.hd hc) it a hai its.toArray) he (show _ ∧ _ from ⟨hn ▸ hit, hT⟩) fun h' eb => ⟨rfl, I.turned (t' := s.toks) (fun b o hb q => eb b o hb q) f0 f1 f3 f4 f5⟩
  self := fun A i s Q E st h => let ⟨⟨_, he⟩, _⟩ := st; wpAny_pyIter_enum he h
def iEnumT (K : PySem.W.Frag) (ta : TA) : TI := fun σ H R => ta σ H fun vs H1 => ∃ a xs, vs = [.ref a] ∧ SqT K H1 a xs ∧ R (Itet K a) H1
theorem pi_enumT {X : Cx} {e : Expr} {ta : TA} {p pos tpos : Pos} {elts : List Expr} {kk : Nat} (hg : Gl X "enumerate") (hm : X.mg "enumerate" = none) (ha : PA X [e] ta) (hs : starEach [e] X.env = [(false, eval e X.env)] := by rfl) :
    PI X (.Tuple elts kk tpos) (.Call (.Name "enumerate" p) [e] [] pos) (iEnumT X.K ta) := by
  refine ⟨fun pins s σ H R I h => ?_⟩
  refine Call_ (ld_blt I hg hm boot_enumerate (PyProof.Rows.callWith_type1 (thn (ha.run pos pins s σ H _ I h) fun us s1 ⟨vs, H1, I1, r1, q1⟩ => ?_) hs rfl))
  obtain ⟨a, xs, ex, hq, q⟩ := q1
  subst ex
  cases r1 with
  | cons r rr =>
    cases rr
    cases r
    obtain ⟨its, rv, p', hz⟩ := I1.tuple hq
    have hT : s1.heap.IsTuple a its.toArray := by first | exact p' | exact p'.isTuple | exact p'.isTup | exact p'.tuple
    refine call_enumB1 (begins_tuple a its.toArray) hT fun h' he hit hsz hk => wpAny_pyIter_enum he ?_
    have I2 : Inv X pins σ H1 { s1 with heap := h' } := I1.kept (t' := s1.toks) hk
    refine ⟨s1.heap.objs.size + 1, [s1.heap.objs.size + 1, s1.heap.objs.size], _, _, H1, rfl, I2, turn_enumT a (s1.heap.objs.size + 1) s1.heap.objs.size, ⟨⟨.none, he⟩, ⟨_, hit, rfl, rfl⟩, Nat.succ_ne_self _⟩, fun b hb => ?_, q⟩
    have e' : b = s1.heap.objs.size + 1 ∨ b = s1.heap.objs.size := by simpa using hb
    have hle : s1.heap.objs.size ≤ b := by
      rcases e' with z | z
      · rw [z]; exact Nat.le_add_right _ _
      · rw [z]; exact Nat.le_refl _
    exact I1.fpOk hle (I1.hok.fresh hle)
theorem walk_enumT {K : PySem.W.Frag} {a : Addr} {xs : List V} : Walk (Itet K a) xs.length (fun H => SqT K H a xs) (YPair (fun i => some (.int (i : Nat))) (fun i => xs[i]?)) := by
  refine ⟨fun i _ hi q => ⟨xs, xs[i], q, by simp [hi]⟩, fun _ q => ⟨xs, q, rfl⟩, fun i H v H' hi q y => ?_⟩
  obtain ⟨T, x, h1, h2, h3, h4⟩ := y
  exact ⟨T, .int (i : Nat), x, h1, h2, h3, rfl, h4 xs q⟩
end Fb

namespace Fb
open PySem PySem.Spec PyProof.Rows L2
/-- what is walked gives these, one by one, whatever grows -/
structure WalkOk (K : PySem.W.Frag) (F : List Addr) (G O : Own) (H : Hp) (J : L2.It) (ds : List PyData) (Gd : Hp → Prop) (Y : Nat → Hp → V → Hp → Prop) : Prop where
  walk : Walk J ds.length Gd Y
  stands : ∀ O1 H1, Grow F G O H O1 H1 → Gd H1
  gives : ∀ i O1 H1 x H2, i < ds.length → Grow F G O H O1 H1 → (∀ a, O1 a → ∃ o, H1 a = some o) → Y i H1 x H2 → ∃ d, ds[i]? = some d ∧ (∀ a o, H1 a = some o → H2 a = some o) ∧ Rep K O1 H2 x d
def JRep (K : PySem.W.Frag) (F : List Addr) (G O : Own) (σ : L2.St) (H : Hp) (e : List Slot) (J : L2.It) (ds : List PyData) : Prop := ∃ Gd Y, WalkOk K F G O H J ds Gd Y
abbrev tI (K : PySem.W.Frag) (F : List Addr) (x : M (List PyData)) : TI := tR K F (JRep K F) x
theorem PI.mono {X : Cx} {tg iter : Expr} {t t' : TI} (h : PI X tg iter t) (k : ∀ σ H Q, t' σ H Q → t σ H Q) : PI X tg iter t' := ⟨fun pins s σ H Q I q => h.run pins s σ H Q I (k σ H Q q)⟩
theorem PI.or {X : Cx} {tg iter : Expr} {t t' : TI} (h : PI X tg iter t) (h' : PI X tg iter t') : PI X tg iter fun σ H R => t σ H R ∨ t' σ H R := ⟨fun pins s σ H Q I q => q.elim (h.run pins s σ H Q I) (h'.run pins s σ H Q I)⟩
section
variable {X : Cx} {F : List Addr} {K : PySem.W.Frag} {G O O' : Own} {σ : L2.St} {H H' : Hp} {e : List Slot} {m : Mu}
theorem walk_lst {a : Addr} {xs : List V} {ds : List PyData} (hf : ∀ a, a ∈ F → O a) (h : OL K O H a xs) (r : RepAll K O H xs ds) : WalkOk K F G O H (Itl K a) ds (fun H => SqL K H a xs) (YAt xs) := by
  refine ⟨by rw [← r.length]; exact walk_list, fun O1 H1 g => (h.stays (g.stays hf)).sq, fun i O1 H1 x H2 hi g lv y => ?_⟩
  obtain ⟨rfl, hx⟩ := y
  obtain ⟨d, h1, h2⟩ := r.get hx
  exact ⟨d, h1, fun _ _ q => q, h2.stays (g.stays hf)⟩
theorem walk_tpl {a : Addr} {xs : List V} {ds : List PyData} (hf : ∀ a, a ∈ F → O a) (h : OT K O H a xs) (r : RepAll K O H xs ds) : WalkOk K F G O H (Itt K a) ds (fun H => SqT K H a xs) (YAt xs) := by
  refine ⟨by rw [← r.length]; exact walk_tup, fun O1 H1 g => (h.stays (g.stays hf)).sq, fun i O1 H1 x H2 hi g lv y => ?_⟩
  obtain ⟨rfl, hx⟩ := y
  obtain ⟨d, h1, h2⟩ := r.get hx
  exact ⟨d, h1, fun _ _ q => q, h2.stays (g.stays hf)⟩
theorem rgD_get {a b : Int} {i : Nat} (h : i < (b - a).toNat) : (rgD a b)[i]? = some (.int (a + (i : Nat))) := by
  unfold rgD
  rw [List.getElem?_map, List.getElem?_range h]
  rfl
theorem rgD_length (a b : Int) : (rgD a b).length = (b - a).toNat := by
  unfold rgD
  rw [List.length_map, List.length_range]
theorem walk_rng (a b : Int) : WalkOk K F G O H (Itr a (b - a).toNat) (rgD a b) (fun _ => True) (YFn fun i => .int (a + i)) := by
  refine ⟨by rw [rgD_length]; exact walk_range, fun _ _ _ => trivial, fun i O1 H1 x H2 hi g lv y => ?_⟩
  obtain ⟨rfl, rfl⟩ := y
  rw [rgD_length] at hi
  exact ⟨_, rgD_get hi, fun _ _ q => q, .int _⟩
theorem pair_rep {O1 : Own} {H1 : Hp} {T : Addr} {x y : V} {c d : PyData} (lv : ∀ a, O1 a → ∃ o, H1 a = some o) (nT : H1 T = none) (hx : Rep K O1 H1 x c) (hy : Rep K O1 H1 y d) : Rep K O1 (upd H1 T (.tup [x, y])) (.ref T) (.tuple [c, d]) := by
  have st : Stays O1 H1 O1 (upd H1 T (.tup [x, y])) := stays_same (upd_keeps nT)
  refine .tup (.inl ⟨fun z => ?_, .inl upd_same⟩) (.cons (hx.stays st) (.cons (hy.stays st) .nil))
  obtain ⟨o, q⟩ := lv T z
  rw [nT] at q; cases q
theorem enumD_get : ∀ (ds : List PyData) (n i : Nat) (d : PyData), ds[i]? = some d → (enumD n ds)[i]? = some (.tuple [.int ((n + i : Nat) : Int), d])
  | [], _, _, _, h => by simp at h
  | x :: ds, n, 0, d, h => by simp at h; subst h; rfl
  | x :: ds, n, i + 1, d, h => by
    have := enumD_get ds (n + 1) i d (by simpa using h)
    simp only [enumD, List.getElem?_cons_succ]
    rw [this, show n + 1 + i = n + (i + 1) by omega]
theorem enumD_length : ∀ (ds : List PyData) (n : Nat), (enumD n ds).length = ds.length
  | [], _ => rfl
  | _ :: ds, n => congrArg (· + 1) (enumD_length ds (n + 1))
theorem walk_en {a : Addr} {xs : List V} {ds : List PyData} (hf : ∀ a, a ∈ F → O a) (h : OL K O H a xs) (r : RepAll K O H xs ds) : WalkOk K F G O H (Ite K a) (enumD 0 ds) (fun H => SqL K H a xs) (YPair (fun i => some (.int (i : Nat))) (fun i => xs[i]?)) := by
  refine ⟨by rw [enumD_length, ← r.length]; exact walk_enum, fun O1 H1 g => (h.stays (g.stays hf)).sq, fun i O1 H1 x H2 hi g lv y => ?_⟩
  obtain ⟨T, u, v, rfl, nT, rfl, h1, h2⟩ := y
  cases h1
  obtain ⟨d, h3, h4⟩ := r.get h2
  exact ⟨_, enumD_get ds 0 i d h3, upd_keeps nT, by rw [Nat.zero_add]; exact pair_rep lv nT (.int _) (h4.stays (g.stays hf))⟩
theorem walk_enT {a : Addr} {xs : List V} {ds : List PyData} (hf : ∀ a, a ∈ F → O a) (h : OT K O H a xs) (r : RepAll K O H xs ds) : WalkOk K F G O H (Itet K a) (enumD 0 ds) (fun H => SqT K H a xs) (YPair (fun i => some (.int (i : Nat))) (fun i => xs[i]?)) := by
  refine ⟨by rw [enumD_length, ← r.length]; exact walk_enumT, fun O1 H1 g => (h.stays (g.stays hf)).sq, fun i O1 H1 x H2 hi g lv y => ?_⟩
  obtain ⟨T, u, v, rfl, nT, rfl, h1, h2⟩ := y
  cases h1
  obtain ⟨d, h3, h4⟩ := r.get h2
  exact ⟨_, enumD_get ds 0 i d h3, upd_keeps nT, by rw [Nat.zero_add]; exact pair_rep lv nT (.int _) (h4.stays (g.stays hf))⟩
theorem zipD_get : ∀ (as bs : List PyData) (i : Nat) (a b : PyData), as[i]? = some a → bs[i]? = some b → (zipD as bs)[i]? = some (.tuple [a, b])
  | [], _, _, _, _, h, _ => by simp at h
  | _ :: _, [], _, _, _, _, h => by simp at h
  | x :: as, y :: bs, 0, a, b, h, h' => by simp at h h'; subst h h'; rfl
  | x :: as, y :: bs, i + 1, a, b, h, h' => by
    simp only [zipD, List.getElem?_cons_succ]
    exact zipD_get as bs i a b (by simpa using h) (by simpa using h')
theorem zipD_length : ∀ (as bs : List PyData), (zipD as bs).length = min as.length bs.length
  | [], _ => by simp [zipD]
  | _ :: _, [] => by simp [zipD]
  | _ :: as, _ :: bs => by
    simp only [zipD, List.length_cons, zipD_length as bs]
    omega
theorem walk_zp {a b : Addr} {xs ys : List V} {ds es : List PyData} (hf : ∀ a, a ∈ F → O a) (h : OL K O H a xs) (r : RepAll K O H xs ds) (h' : OL K O H b ys) (r' : RepAll K O H ys es) :
    WalkOk K F G O H (Itz K a b) (zipD ds es) (fun H => SqL K H a xs ∧ SqL K H b ys) (YPair (fun i => xs[i]?) (fun i => ys[i]?)) := by
  refine ⟨walk_zip (by rw [zipD_length, r.length, r'.length]), fun O1 H1 g => ⟨(h.stays (g.stays hf)).sq, (h'.stays (g.stays hf)).sq⟩, fun i O1 H1 x H2 hi g lv y => ?_⟩
  obtain ⟨T, u, v, rfl, nT, rfl, h1, h2⟩ := y
  obtain ⟨d, h3, h4⟩ := r.get h1
  obtain ⟨d', h5, h6⟩ := r'.get h2
  exact ⟨_, zipD_get ds es i d d' h3 h5, upd_keeps nT, pair_rep lv nT (h4.stays (g.stays hf)) (h6.stays (g.stays hf))⟩
theorem walk_zipT {a b : Addr} {xs ys : List V} {n : Nat} (hn : n = min xs.length ys.length) : Walk (RZ.ItzT K a b) n (fun H => SqT K H a xs ∧ SqT K H b ys) (YPair (fun i => xs[i]?) (fun i => ys[i]?)) := by
  subst hn
  refine ⟨fun i _ hi q => ?_, fun _ q => ⟨xs, ys, q.1, q.2, by omega⟩, fun i H v H' _ q y => ?_⟩
  · have h1 : i < xs.length := by omega
    have h2 : i < ys.length := by omega
    exact ⟨xs, ys, xs[i], ys[i], q.1, q.2, by simp [h1], by simp [h2]⟩
  · obtain ⟨T, x, z, h1, h2, h3, h4, h5⟩ := y
    exact ⟨T, x, z, h1, h2, h3, h4 xs q.1, h5 ys q.2⟩
theorem walk_zpT {a b : Addr} {xs ys : List V} {ds es : List PyData} (hf : ∀ a, a ∈ F → O a) (h : OT K O H a xs) (r : RepAll K O H xs ds) (h' : OT K O H b ys) (r' : RepAll K O H ys es) :
    WalkOk K F G O H (RZ.ItzT K a b) (zipD ds es) (fun H => SqT K H a xs ∧ SqT K H b ys) (YPair (fun i => xs[i]?) (fun i => ys[i]?)) := by
  refine ⟨walk_zipT (by rw [zipD_length, r.length, r'.length]), fun O1 H1 g => ⟨(h.stays (g.stays hf)).sq, (h'.stays (g.stays hf)).sq⟩, fun i O1 H1 x H2 hi g lv y => ?_⟩
  obtain ⟨T, u, v, rfl, nT, rfl, h1, h2⟩ := y
  obtain ⟨d, h3, h4⟩ := r.get h1
  obtain ⟨d', h5, h6⟩ := r'.get h2
  exact ⟨_, zipD_get ds es i d d' h3 h5, upd_keeps nT, pair_rep lv nT (h4.stays (g.stays hf)) (h6.stays (g.stays hf))⟩
/-! ### the readings -/
theorem At.lift {α β : Type} {R : Rel α β} {r : Option α} {w : β} {Q : β → Hp → Prop} (h : At K F R G O σ H e m (Fb.lift r) Q) : ∃ a, r = some a ∧ Sim K F G O σ H e m ∧ (∀ w, R G O σ H e w a → Q w H) := by
  obtain ⟨s, a, e', m', h1, h2⟩ := h
  cases r with
  | none => cases h1
  | some v =>
    cases h1
    exact ⟨_, rfl, s, fun w r => h2 w H O .refl s r⟩
theorem walk_txt (z : Str) : WalkOk K F G O H (Its z) (z.cps.toList.map strD) (fun _ => True) (fun i H v H' => H' = H ∧ ∃ c, z.cps[i]? = some c ∧ v = .str ⟨#[c]⟩) := by
  refine ⟨by rw [List.length_map, Array.length_toList]; exact walk_str, fun _ _ _ => trivial, fun i O1 H1 x H2 hi g lv y => ?_⟩
  obtain ⟨rfl, c, hc, rfl⟩ := y
  refine ⟨strD c, ?_, fun _ _ q => q, .str _⟩
  rw [List.getElem?_map, Array.getElem?_toList, hc]
  rfl
theorem iOf_D {x : M Val} {R : L2.It → Hp → Prop} (h : tI K F (x.bind fun v => v.data.bind fun d => lift (itemsOf d)) σ H R) : iList K (tD K F x) σ H R ∨ iTup K (tD K F x) σ H R ∨ iStr (tD K F x) σ H R := by
  obtain ⟨G, O, e, m, h⟩ := h
  obtain ⟨v, ⟨s1, hv⟩, h'⟩ := At.bind2 (R := VRep K F) h
  obtain ⟨_, _, hi⟩ := h.inv
  obtain ⟨v2, s2, hv2, hi⟩ := bind_ok hi
  rw [hv] at hv2
  cases hv2
  obtain ⟨d, s3, hd, hi⟩ := bind_ok hi
  have hp := data_pure hd
  cases d with
  | list ds =>
    refine .inl (h'.mono fun w H1 q => ?_).tr
    obtain ⟨O1, e1, m1, g, r, h⟩ := q
    obtain ⟨O2, g2, rr, h3⟩ := At.data' hp h r
    obtain ⟨ds', e2, s4, k⟩ := At.lift (w := (⟨fun _ _ => True, fun _ _ _ _ => True, fun _ _ => True⟩ : L2.It)) h3
    cases e2
    cases rr with
    | lst ol ra => exact ⟨_, rfl, ⟨_, ol.sq⟩, k _ ⟨_, _, walk_lst s4.fo ol ra⟩⟩
  | tuple ds =>
    refine .inr (.inl (h'.mono fun w H1 q => ?_).tr)
    obtain ⟨O1, e1, m1, g, r, h⟩ := q
    obtain ⟨O2, g2, rr, h3⟩ := At.data' hp h r
    obtain ⟨ds', e2, s4, k⟩ := At.lift (w := (⟨fun _ _ => True, fun _ _ _ _ => True, fun _ _ => True⟩ : L2.It)) h3
    cases e2
    cases rr with
    | tup ol ra => exact ⟨_, rfl, ⟨_, ol.sq⟩, k _ ⟨_, _, walk_tpl s4.fo ol ra⟩⟩
  | str z =>
    refine .inr (.inr (h'.mono fun w H1 q => ?_).tr)
    obtain ⟨O1, e1, m1, g, r, h⟩ := q
    obtain ⟨O2, g2, rr, h3⟩ := At.data' hp h r
    obtain ⟨ds', e2, s4, k⟩ := At.lift (w := (⟨fun _ _ => True, fun _ _ _ _ => True, fun _ _ => True⟩ : L2.It)) h3
    cases e2
    cases rr
    exact ⟨z, rfl, k _ ⟨_, _, walk_txt z⟩⟩
  | _ => cases hi
theorem iRng1_D {x : Ex} {R : L2.It → Hp → Prop} (h : tI K F (evIt (.rng (some x) none)) σ H R) : iRng1 (tCons (tD K F (evE x)) tNil) σ H R := by
  rw [ev_rng1] at h
  obtain ⟨G, O, e, m, h⟩ := h
  obtain ⟨b, h⟩ := At.int h
  refine (h.mono fun w H1 q => ?_).tr
  obtain ⟨rfl, O1, e1, m1, g, h⟩ := q
  obtain ⟨h1, h⟩ := h.guard
  obtain ⟨r1, r2, r3, r4, r5⟩ := rgOk_of h1
  refine ⟨b, rfl, r3, r4, ?_⟩
  have := At.pure (w := Itr 0 (b - 0).toNat) h ⟨_, _, walk_rng 0 b⟩
  rw [Int.sub_zero] at this
  exact this
theorem iRng2_D {x y : Ex} {R : L2.It → Hp → Prop} (h : tI K F (evIt (.rng (some x) (some y))) σ H R) : iRng2 (tCons (tD K F (evE x)) (tCons (tD K F (evE y)) tNil)) σ H R := by
  rw [ev_rng2] at h
  obtain ⟨G, O, e, m, h⟩ := h
  obtain ⟨b, h⟩ := At.int h
  refine (h.mono fun w H1 q => ?_).tr
  obtain ⟨rfl, O1, e1, m1, g, h⟩ := q
  obtain ⟨c, h⟩ := At.int h
  refine (h.mono fun w H2 q => ?_).tr
  obtain ⟨rfl, O2, e2, m2, g2, h⟩ := q
  obtain ⟨h1, h⟩ := h.guard
  obtain ⟨r1, r2, r3, r4, r5⟩ := rgOk_of h1
  exact ⟨b, c, rfl, ⟨r1, r2, r3, r4⟩, At.pure (w := Itr b (c - b).toNat) h ⟨_, _, walk_rng b c⟩⟩
theorem iEnum_D {x : M Val} {R : L2.It → Hp → Prop} (h : tI K F (x.bind fun v => v.data.bind fun d => (lift (seq? d)).bind fun ds => M.pure (enumD 0 ds)) σ H R) : iEnum K (tCons (tD K F x) tNil) σ H R ∨ iEnumT K (tCons (tD K F x) tNil) σ H R := by
  obtain ⟨G, O, e, m, h⟩ := h
  obtain ⟨v, ⟨s1, hv⟩, h'⟩ := At.bind2 (R := VRep K F) h
  obtain ⟨_, _, hi⟩ := h.inv
  obtain ⟨v2, s2, hv2, hi⟩ := bind_ok hi
  rw [hv] at hv2
  cases hv2
  obtain ⟨d, s3, hd, hi⟩ := bind_ok hi
  have hp := data_pure hd
  cases d with
  | list ds =>
    refine .inl (h'.mono fun w H1 q => ?_).tr
    obtain ⟨O1, e1, m1, g, r, h⟩ := q
    obtain ⟨O2, g2, rr, h3⟩ := At.data' hp h r
    have h3 := At.same (a := ds) h3 fun b s' z => by cases z; exact ⟨rfl, rfl⟩
    have s4 := h3.sim
    cases rr with
    | lst ol ra => exact ⟨_, _, rfl, ol.sq, At.pure h3 ⟨_, _, walk_en s4.fo ol ra⟩⟩
  | tuple ds =>
    refine .inr (h'.mono fun w H1 q => ?_).tr
    obtain ⟨O1, e1, m1, g, r, h⟩ := q
    obtain ⟨O2, g2, rr, h3⟩ := At.data' hp h r
    have h3 := At.same (a := ds) h3 fun b s' z => by cases z; exact ⟨rfl, rfl⟩
    have s4 := h3.sim
    cases rr with
    | tup ol ra => exact ⟨_, _, rfl, ol.sq, At.pure h3 ⟨_, _, walk_enT s4.fo ol ra⟩⟩
  | _ =>
    obtain ⟨_, _, hl, _⟩ := bind_ok hi
    cases hl
theorem iZip_D {x y : M Val} {R : L2.It → Hp → Prop} (h : tI K F (x.bind fun v => v.data.bind fun d => y.bind fun w => w.data.bind fun e => lift (zip? d e)) σ H R) : RZ.iZipA K (tCons (tD K F x) (tCons (tD K F y) tNil)) σ H R := by
  obtain ⟨G, O, e, m, h⟩ := h
  obtain ⟨v, h⟩ := At.bind (R := VRep K F) h
  refine (h.mono fun w H1 q => ?_).tr
  obtain ⟨O1, e1, m1, g, r, h⟩ := q
  obtain ⟨d, O2, g2, rr, h⟩ := At.data h r
  have s2 := h.sim
  obtain ⟨v3, h⟩ := At.bind (R := VRep K F) h
  refine (h.mono fun w3 H3 q => ?_).tr
  obtain ⟨O3, e3, m3, g3, r3, h⟩ := q
  have s3 := h.sim
  obtain ⟨d4, O4, g4, rr4, h⟩ := At.data h r3
  have rr := Rep.stays ((g3.trans g4 s2.fo).stays s2.fo) rr
  obtain ⟨ds', e2, s4, k⟩ := At.lift (w := (⟨fun _ _ => True, fun _ _ _ _ => True, fun _ _ => True⟩ : L2.It)) h
  cases d with
  | list a =>
    cases d4 with
    | list b =>
      cases e2
      cases rr with
      | lst ol ra =>
        cases rr4 with
        | lst ol4 ra4 => exact ⟨_, _, _, _, rfl, .inl ⟨ol.sq, ol4.sq, k _ ⟨_, _, walk_zp s4.fo ol ra ol4 ra4⟩⟩⟩
    | _ => cases e2
  | tuple a =>
    cases d4 with
    | tuple b =>
      cases e2
      cases rr with
      | tup ol ra =>
        cases rr4 with
        | tup ol4 ra4 => exact ⟨_, _, _, _, rfl, .inr ⟨ol.sq, ol4.sq, k _ ⟨_, _, walk_zpT s4.fo ol ra ol4 ra4⟩⟩⟩
    | _ => cases e2
  | _ => cases d4 <;> cases e2
end
end Fb

namespace Fb
open PySem PySem.Spec PyProof.Rows L2
section
variable {X : Cx} {F : List Addr} {K : PySem.W.Frag} {G O O' : Own} {σ : L2.St} {H H' : Hp} {e : List Slot} {m : Mu}
/-! ### storing -/
theorem Sim.put {i : Nat} {v : V} {x : Slot} (s : Sim K F G O σ H e m) (ok : SlotOk K F G O H (some (some v)) x) (no : ownS x = true → ∀ (j : Nat) (y : Slot), e[j]? = some y → ownS y = true → σ[j]? ≠ some (some v)) :
    Sim K F G O (σ.set i (some v)) H (e.set i x) m := by
  refine ⟨by rw [List.length_set, List.length_set]; exact s.len, fun j y q => ?_, fun j j' d1 d2 b q1 q2 o1 o2 z1 z2 => ?_, s.fg, s.go, s.live, s.nd, s.sl, s.st⟩
  · rw [set_get] at q ⊢
    by_cases ij : i = j
    · subst ij
      rw [if_pos rfl] at q ⊢
      by_cases hi : i < e.length
      · rw [if_pos hi] at q
        cases q
        rw [if_pos (by rw [← s.len]; exact hi)]
        exact ok
      · rw [if_neg hi] at q; cases q
    · rw [if_neg ij] at q ⊢
      exact s.slot j y q
  · rw [set_get] at q1 q2 z1 z2
    by_cases ij : i = j
    · by_cases ij' : i = j'
      · omega
      · subst ij
        rw [if_pos rfl] at q1 z1
        rw [if_neg ij'] at q2 z2
        split at q1
        · cases q1
          split at z1
          · cases z1
            exact absurd z2 (no o1 j' d2 q2 o2)
          · cases z1
        · cases q1
    · rw [if_neg ij] at q1 z1
      by_cases ij' : i = j'
      · subst ij'
        rw [if_pos rfl] at q2 z2
        split at q2
        · cases q2
          split at z2
          · cases z2
            exact absurd z1 (no o2 j d1 q1 o1)
          · cases z2
        · cases q2
      · rw [if_neg ij'] at q2 z2
        exact s.apart j j' d1 d2 b q1 q2 o1 o2 z1 z2
theorem Sim.putD {i : Nat} {v : V} {d : PyData} (s : Sim K F G O σ H e m) (r : Rep K O H v d) : Sim K F G O (σ.set i (some v)) H (e.set i (.val d)) m := s.put ⟨v, rfl, r⟩ fun z => nomatch z
theorem Sim.putV {i : Nat} {v : V} {x : Val} (s : Sim K F G O σ H e m) (r : VRep K F G O σ H e v x) : Sim K F G O (σ.set i (some v)) H (e.set i (slotOf x)) m := by
  cases x with
  | dat d => exact s.putD r
  | uni d =>
    obtain ⟨a, rfl, h1, h2, h3, h4⟩ := r
    exact s.put ⟨a, rfl, h1, h2, h3⟩ fun _ j y q o => h4 j y q o
  | sto n =>
    obtain ⟨a, rfl, h1⟩ := r
    exact s.put ⟨a, rfl, h1⟩ fun z => nomatch z
  | tab w es =>
    obtain ⟨a, rfl, h1, h2, h3, h4⟩ := r
    exact s.put ⟨a, rfl, h1, h2, h3⟩ fun _ j y q o => h4 j y q o
/-! ### targets -/
mutual
/-- the places that a target stores to -/
def Tg.at : Tg → List Nat
  | .name i => [i]
  | .tup ts => Tg.atAll ts
def Tg.atAll : List Tg → List Nat
  | [] => []
  | t :: ts => Tg.at t ++ Tg.atAll ts
end
/-- two states that part at most at these places -/
def Part (vs : List Nat) (σ σ' : L2.St) : Prop := σ'.length = σ.length ∧ ∀ j, j ∉ vs → σ'[j]? = σ[j]?
def tG (K : PySem.W.Frag) (F : List Addr) (t : Tg) : TG := fun v σ H Q => ∃ G O e m d e' m', Sim K F G O σ H e m ∧ Rep K O H v d ∧ asg t d ⟨e, m⟩ = .ok ((), ⟨e', m'⟩) ∧ ∀ σ', Sim K F G O σ' H e' m' → Part t.at σ σ' → Q σ' H
def tGs (K : PySem.W.Frag) (F : List Addr) (ts : List Tg) : TGs := fun vs σ H Q => ∃ G O e m ds e' m', Sim K F G O σ H e m ∧ RepAll K O H vs ds ∧ asgs ts ds ⟨e, m⟩ = .ok ((), ⟨e', m'⟩) ∧ ∀ σ', Sim K F G O σ' H e' m' → Part (Tg.atAll ts) σ σ' → Q σ' H
theorem PG.mono {tg : Expr} {t t' : TG} (h : PG X tg t) (k : ∀ v σ H Q, t' v σ H Q → t v σ H Q) : PG X tg t' := ⟨fun pins s σ H v u Q I r q => h.run pins s σ H v u Q I r (k v σ H Q q)⟩
theorem PGs.mono {tg : List Expr} {t t' : TGs} (h : PGs X tg t) (k : ∀ v σ H Q, t' v σ H Q → t v σ H Q) : PGs X tg t' := ⟨fun pins s σ H v u Q I r q => h.run pins s σ H v u Q I r (k v σ H Q q)⟩
theorem gName_D {i : Nat} {v : V} {Q : L2.St → Hp → Prop} (h : tG K F (.name i) v σ H Q) : gName i v σ H Q := by
  obtain ⟨G, O, e, m, d, e', m', s, r, h1, h2⟩ := h
  unfold asg setS at h1
  cases h1
  refine h2 _ (s.putD r) ⟨List.length_set, fun j hj => ?_⟩
  rw [set_get, if_neg]
  intro z
  exact hj (by unfold Tg.at; simp [z])
theorem gNil_D {vs : List V} {Q : L2.St → Hp → Prop} (h : tGs K F [] vs σ H Q) : gNil vs σ H Q := by
  obtain ⟨G, O, e, m, ds, e', m', s, r, h1, h2⟩ := h
  cases r with
  | nil =>
    unfold asgs at h1
    cases h1
    exact ⟨rfl, h2 σ s ⟨rfl, fun _ _ => rfl⟩⟩
  | cons _ _ =>
    unfold asgs at h1
    cases h1
theorem gCons_D {t : Tg} {ts : List Tg} {vs : List V} {Q : L2.St → Hp → Prop} (h : tGs K F (t :: ts) vs σ H Q) : gCons (tG K F t) (tGs K F ts) vs σ H Q := by
  obtain ⟨G, O, e, m, ds, e', m', s, r, h1, h2⟩ := h
  cases r with
  | nil =>
    unfold asgs at h1
    cases h1
  | @cons v vs d ds hr rr =>
    unfold asgs at h1
    obtain ⟨u, ⟨e1, m1⟩, h3, h4⟩ := bind_ok h1
    refine ⟨v, vs, rfl, G, O, e, m, d, e1, m1, s, hr, h3, fun σ1 s1 p1 => ?_⟩
    refine ⟨G, O, e1, m1, ds, e', m', s1, rr, h4, fun σ2 s2 p2 => h2 σ2 s2 ⟨p2.1.trans p1.1, fun j hj => ?_⟩⟩
    have hj : j ∉ Tg.at t ++ Tg.atAll ts := hj
    rw [List.mem_append, not_or] at hj
    rw [p2.2 j hj.2, p1.2 j hj.1]
theorem asgs_length : ∀ {ts : List Tg} {ds : List PyData} {s s' : S}, asgs ts ds s = .ok ((), s') → ts.length = ds.length
  | [], [], _, _, _ => rfl
  | [], _ :: _, _, _, h => by unfold asgs at h; cases h
  | _ :: _, [], _, _, h => by unfold asgs at h; cases h
  | t :: ts, d :: ds, s, s', h => by
    unfold asgs at h
    obtain ⟨u, s1, _, h4⟩ := bind_ok h
    exact congrArg (· + 1) (asgs_length h4)
theorem gTup_D {ts : List Tg} {v : V} {Q : L2.St → Hp → Prop} (h : tG K F (.tup ts) v σ H Q) : gTup K ts.length (tGs K F ts) v σ H Q ∨ gUnl K ts.length (tGs K F ts) v σ H Q := by
  obtain ⟨G, O, e, m, d, e', m', s, r, h1, h2⟩ := h
  cases d with
  | list ds =>
    have h1 : asgs ts ds ⟨e, m⟩ = .ok ((), ⟨e', m'⟩) := by unfold asg at h1; exact h1
    cases r with
    | lst ot ra => exact .inr ⟨_, _, rfl, ot.sq, by rw [ra.length, asgs_length h1], G, O, e, m, ds, e', m', s, ra, h1, fun σ' s' p => h2 σ' s' p⟩
  | tuple ds =>
    have h1 : asgs ts ds ⟨e, m⟩ = .ok ((), ⟨e', m'⟩) := by unfold asg at h1; exact h1
    cases r with
    | tup ot ra => exact .inl ⟨_, _, rfl, ot.sq, by rw [ra.length, asgs_length h1], G, O, e, m, ds, e', m', s, ra, h1, fun σ' s' p => h2 σ' s' p⟩
  | _ => unfold asg at h1; cases h1
/-! ### statements -/
/-- what is wanted behind a statement -/
def Done (K : PySem.W.Frag) (F : List Addr) (G O : Own) (σ : L2.St) (H : Hp) (e : List Slot) (D : Ends) : Flow → Prop
  | .nx => D.nx σ H
  | .brk => D.bk σ H
  | .cnt => D.ct σ H
  | .ret v => ∀ w, VRep K F G O σ H e w v → D.rt w H
def AtS (K : PySem.W.Frag) (F : List Addr) (G O : Own) (σ : L2.St) (H : Hp) (e : List Slot) (m : Mu) (x : M Flow) (D : Ends) : Prop :=
  Sim K F G O σ H e m ∧ ∃ f e' m', x ⟨e, m⟩ = .ok (f, ⟨e', m'⟩) ∧ ∀ σ' H' O', Grow F G O H O' H' → Sim K F G O' σ' H' e' m' → Done K F G O' σ' H' e' D f
def tS (K : PySem.W.Frag) (F : List Addr) (x : M Flow) : TS := fun D σ H => ∃ G O e m, AtS K F G O σ H e m x D
/-- the first part of a statement: an expression -/
theorem AtS.bind {α β : Type} {R : Rel α β} {x : M α} {f : α → M Flow} {D : Ends} (h : AtS K F G O σ H e m (x.bind f) D) :
    ∃ a, (∃ s1, x ⟨e, m⟩ = .ok (a, s1)) ∧ At K F R G O σ H e m x fun w H1 => ∃ O1 e1 m1, Grow F G O H O1 H1 ∧ R G O1 σ H1 e1 w a ∧ AtS K F G O1 σ H1 e1 m1 (f a) D := by
  obtain ⟨s, b, e', m', h1, h2⟩ := h
  obtain ⟨a, ⟨e1, m1⟩, h3, h4⟩ := bind_ok h1
  exact ⟨a, ⟨_, h3⟩, s, a, e1, m1, h3, fun w H1 O1 g s1 r => ⟨O1, e1, m1, g, r, s1, b, e', m', h4, fun w' H' O' g' s' => h2 w' H' O' (g.trans g' s.fo) s'⟩⟩
theorem AtS.data {x : Val} {f : PyData → M Flow} {D : Ends} {v : V} (h : AtS K F G O σ H e m (x.data.bind f) D) (r : VRep K F G O σ H e v x) :
    ∃ d O', Grow F G O H O' H ∧ Rep K O' H v d ∧ AtS K F G O' σ H e m (f d) D := by
  obtain ⟨s, b, e', m', h1, h2⟩ := h
  obtain ⟨d, s1, h3, h4⟩ := bind_ok h1
  obtain ⟨O', g, s', rr, hx⟩ := VRep.data s r ⟨s1, h3⟩
  rw [hx] at h3
  cases h3
  exact ⟨d, O', g, rr, s', b, e', m', h4, fun w H' O'' g' s'' => h2 w H' O'' (g.trans g' s.fo) s''⟩
theorem AtS.pure {f : Flow} {D : Ends} (h : AtS K F G O σ H e m (M.pure f) D) : Done K F G O σ H e D f := by
  obtain ⟨s, b, e', m', h1, h2⟩ := h
  cases h1
  exact h2 σ H O .refl s
theorem AtS.step {f : Unit → M Flow} {x : M Unit} {D : Ends} {σ1 : L2.St} {H1 : Hp} {O1 : Own} {e1 : List Slot} {m1 : Mu} (h : AtS K F G O σ H e m (x.bind f) D) (hx : x ⟨e, m⟩ = .ok ((), ⟨e1, m1⟩)) (g : Grow F G O H O1 H1) (s1 : Sim K F G O1 σ1 H1 e1 m1) : AtS K F G O1 σ1 H1 e1 m1 (f ()) D := by
  obtain ⟨s, b, e', m', h1, h2⟩ := h
  obtain ⟨u, s2, h3, h4⟩ := bind_ok h1
  rw [hx] at h3
  cases h3
  exact ⟨s1, b, e', m', h4, fun σ' H' O' g' s' => h2 σ' H' O' (g.trans g' s.fo) s'⟩
theorem tNext_S {D : Ends} (h : tS K F (M.pure .nx) D σ H) : tNext D σ H := by
  obtain ⟨G, O, e, m, h⟩ := h
  exact h.pure
theorem tSeq_S {x y : M Flow} {D : Ends} (h : tS K F (x.bind fun f => match f with | .nx => y | f => M.pure f) D σ H) : tSeq (tS K F x) (tS K F y) D σ H := by
  obtain ⟨G, O, e, m, s, b, e', m', h1, h2⟩ := h
  obtain ⟨f, ⟨e1, m1⟩, h3, h4⟩ := bind_ok h1
  refine ⟨G, O, e, m, s, f, e1, m1, h3, fun σ1 H1 O1 g s1 => ?_⟩
  cases f with
  | nx => exact ⟨G, O1, e1, m1, s1, b, e', m', h4, fun σ' H' O' g' s' => h2 σ' H' O' (g.trans g' s.fo) s'⟩
  | brk => cases h4; exact h2 σ1 H1 O1 g s1
  | cnt => cases h4; exact h2 σ1 H1 O1 g s1
  | ret v => cases h4; exact h2 σ1 H1 O1 g s1
theorem tAsg_S {x : M Val} {i : Nat} {D : Ends} (h : tS K F (x.bind fun v => (setS i (slotOf v)).bind fun _ => M.pure .nx) D σ H) : tAsg (tD K F x) (gName i) D σ H := by
  obtain ⟨G, O, e, m, h⟩ := h
  obtain ⟨v, _, h⟩ := AtS.bind (R := VRep K F) h
  refine (h.mono fun w H1 q => ?_).tr
  obtain ⟨O1, e1, m1, g, r, h⟩ := q
  have s1 := h.1
  exact (AtS.step h rfl .refl (s1.putV r)).pure
theorem tRet_S {x : M Val} {D : Ends} (h : tS K F (x.bind fun v => M.pure (.ret v)) D σ H) : tRet (tD K F x) D σ H := by
  obtain ⟨G, O, e, m, h⟩ := h
  obtain ⟨v, _, h⟩ := AtS.bind (R := VRep K F) h
  refine (h.mono fun w H1 q => ?_).tr
  obtain ⟨O1, e1, m1, g, r, h⟩ := q
  exact h.pure w r
theorem tDrop_S {x : M Val} {D : Ends} (h : tS K F (x.bind fun v => M.pure .nx) D σ H) : tDrop (tD K F x) D σ H := by
  obtain ⟨G, O, e, m, h⟩ := h
  obtain ⟨v, _, h⟩ := AtS.bind (R := VRep K F) h
  refine (h.mono fun w H1 q => ?_).tr
  obtain ⟨O1, e1, m1, g, r, h⟩ := q
  exact h.pure
theorem AtS.truthT {x : M Val} {f : Bool → M Flow} {D : Ends} (h : AtS K F G O σ H e m (x.bind fun v => (isTrueV v).bind f) D) :
    ∃ b, tT K F x σ H fun w H1 => w = b ∧ ∃ O1 e1 m1, Grow F G O H O1 H1 ∧ AtS K F G O1 σ H1 e1 m1 (f b) D := by
  obtain ⟨s, c, e', m', h1, h2⟩ := h
  obtain ⟨v, ⟨e1, m1⟩, h3, h4⟩ := bind_ok h1
  obtain ⟨b, s2, h5, h6⟩ := bind_ok h4
  have hs : s2 = ⟨e1, m1⟩ := by
    cases v with
    | dat d =>
      cases d with
      | bool c => cases h5; rfl
      | _ => cases h5
    | _ => cases h5
  subst hs
  refine ⟨b, G, O, e, m, s, b, e1, m1, ?_, fun w H1 O1 g s1 r => ?_⟩
  · show M.bind x _ _ = _
    unfold M.bind
    rw [h3]
    exact h5
  · exact ⟨r, O1, e1, m1, g, s1, c, e', m', h6, fun w' H' O' g' s' => h2 w' H' O' (g.trans g' s.fo) s'⟩
theorem tIf_S {x : M Val} {y z : M Flow} {D : Ends} (h : tS K F (x.bind fun v => (isTrueV v).bind fun c => if c then y else z) D σ H) : tIfS (tT K F x) (tS K F y) (tS K F z) D σ H := by
  obtain ⟨G, O, e, m, h⟩ := h
  obtain ⟨b, G', O', e', m', h⟩ := AtS.truthT h
  refine (h.mono fun w H1 q => ?_).tr
  obtain ⟨rfl, O1, e1, m1, g, h⟩ := q
  cases w with
  | true => exact iteT ⟨_, _, _, _, h⟩
  | false => exact iteF ⟨_, _, _, _, h⟩
end
end Fb

namespace Fb
open PySem PySem.Spec PyProof.Rows L2
section
variable {X : Cx} {F : List Addr} {K : PySem.W.Frag} {G O O' : Own} {σ : L2.St} {H H' : Hp} {e : List Slot} {m : Mu}
theorem AtS.own {i : Nat} {f : Unit → M Flow} {D : Ends} (h : AtS K F G O σ H e m ((ownChk i).bind f) D) :
    ∃ a xs, σ[i]? = some (some (.ref a)) ∧ H a = some (.lst xs) ∧ AtS K F G O σ H e m (f ()) D := by
  obtain ⟨s, b, e', m', h1, h2⟩ := h
  obtain ⟨u, s1, h3, h4⟩ := bind_ok h1
  unfold ownChk at h3
  dsimp only at h3
  cases q : e[i]? with
  | none => rw [q] at h3; cases h3
  | some x =>
    rw [q] at h3
    cases x with
    | own d =>
      cases d with
      | list ds =>
        cases h3
        obtain ⟨a, k1, _, _, xs, k4, _⟩ := s.slot i _ q
        exact ⟨a, xs, k1, k4, s, b, e', m', h4, h2⟩
      | _ => cases h3
    | _ => cases h3
theorem tUnp_S {x : M Val} {t : Tg} {D : Ends} (h : tS K F (x.bind fun v => v.data.bind fun d => (asg t d).bind fun _ => M.pure .nx) D σ H) : tAsg (tD K F x) (tG K F t) D σ H := by
  obtain ⟨G, O, e, m, h⟩ := h
  obtain ⟨v, _, h⟩ := AtS.bind (R := VRep K F) h
  refine (h.mono fun w H1 q => ?_).tr
  obtain ⟨O1, e1, m1, g, r, h⟩ := q
  obtain ⟨d, O2, g2, rr, s2, b, e', m', h1, h2⟩ := AtS.data h r
  obtain ⟨u, ⟨e3, m3⟩, h3, h4⟩ := bind_ok h1
  cases h4
  exact ⟨G, O2, e1, m1, d, e', m', s2, rr, h3, fun σ' s' _ => h2 σ' H1 O2 .refl s'⟩
theorem tApp_S {x : M Val} {i : Nat} {D : Ends} (h : tS K F ((ownChk i).bind fun _ => x.bind fun v => v.data.bind fun d => (appM i d).bind fun _ => M.pure .nx) D σ H) : tDrop (tBM K "list" rAppend (tVar i) (tCons (tD K F x) tNil)) D σ H := by
  obtain ⟨G, O, e, m, h⟩ := h
  obtain ⟨a, xs, k1, k2, h⟩ := AtS.own h
  refine ⟨.ref a, k1, .inl ⟨rfl, xs, SqL.of k2⟩, ?_⟩
  obtain ⟨v, _, h⟩ := AtS.bind (R := VRep K F) h
  refine (h.mono fun w H1 q => ?_).tr
  obtain ⟨O1, e1, m1, g, r, h⟩ := q
  obtain ⟨d, O2, g2, rr, s, f, e', m', h1, h2⟩ := AtS.data h r
  obtain ⟨u, s3, h3, h4⟩ := bind_ok h1
  unfold appM at h3
  dsimp only at h3
  cases q : e1[i]? with
  | none => rw [q] at h3; cases h3
  | some x =>
    rw [q] at h3
    cases x with
    | own dd =>
      cases dd with
      | list ds =>
        dsimp only at h3
        by_cases hz : ds.length < SZ
        · rw [if_pos hz] at h3
          cases h3
          cases h4
          obtain ⟨a', j1, j2, j3, ys, j4, j5⟩ := s.slot i _ q
          rw [k1] at j1
          cases j1
          obtain ⟨s2, g3⟩ := s.mutate q k1 (j5.append (.cons rr .nil))
          refine ⟨a, ys, w, rfl, rfl, j4, ?_, h2 σ _ O2 g3 s2⟩
          rw [j5.length, ← sz_eq]; exact hz
        · rw [if_neg hz] at h3; cases h3
      | _ => cases h3
    | _ => cases h3
theorem tExt_S {x : M Val} {i : Nat} {D : Ends} (h : tS K F ((ownChk i).bind fun _ => x.bind fun v => (uniL v).bind fun ds => (extM i ds).bind fun _ => M.pure .nx) D σ H) : tDrop (tBM K "list" rExtend (tVar i) (tCons (tD K F x) tNil)) D σ H := by
  obtain ⟨G, O, e, m, h⟩ := h
  obtain ⟨a, xs, k1, k2, h⟩ := AtS.own h
  refine ⟨.ref a, k1, .inl ⟨rfl, xs, SqL.of k2⟩, ?_⟩
  obtain ⟨v, _, h⟩ := AtS.bind (R := VRep K F) h
  refine (h.mono fun w H1 q => ?_).tr
  obtain ⟨O1, e1, m1, g, r, s, f, e', m', h1, h2⟩ := q
  obtain ⟨ds, s2, hu, h1⟩ := bind_ok h1
  cases v with
  | uni dv =>
    cases dv with
    | list dl =>
      cases hu
      obtain ⟨b, rfl, b1, b2, ⟨zs, b3, b4⟩, b5⟩ := r
      obtain ⟨u, s3, h3, h4⟩ := bind_ok h1
      unfold extM at h3
      dsimp only at h3
      cases q : e1[i]? with
      | none => rw [q] at h3; cases h3
      | some x =>
        rw [q] at h3
        cases x with
        | own dd =>
          cases dd with
          | list es =>
            dsimp only at h3
            by_cases hz : es.length + ds.length ≤ SZ
            · rw [if_pos hz] at h3
              cases h3
              cases h4
              obtain ⟨a', j1, j2, j3, ys, j4, j5⟩ := s.slot i _ q
              rw [k1] at j1
              cases j1
              obtain ⟨s2, g3⟩ := s.mutate q k1 (j5.append b4)
              refine ⟨a, b, ys, zs, rfl, rfl, j4, b3, ?_, h2 σ _ O1 g3 s2⟩
              rw [j5.length, b4.length, ← sz_eq]; exact hz
            · rw [if_neg hz] at h3; cases h3
          | _ => cases h3
        | _ => cases h3
    | _ => cases hu
  | _ => cases hu
theorem Sim.store {n : Nat} {a : Addr} {kvs kvs' : List (Str × PyData)} {ks' : List (Key × V)} (s : Sim K F G O σ H e m) (ha : F[n]? = some a) (hm : m[n]? = some kvs) (r : RepKV K O H ks' (kvs'.map fun p => (PyData.str p.1, p.2))) :
    Sim K F G O σ (upd H a (.dK ks')) e (m.set n kvs') ∧ Grow F G O H O (upd H a (.dK ks')) := by
  have af : a ∈ F := List.mem_of_getElem? ha
  have oa : O a := s.fo a af
  have st : Stays O H O (upd H a (.dK ks')) := stays_mut oa
  refine ⟨⟨s.len, fun j x q => ?_, s.apart, s.fg, s.go, fun b q => ?_, s.nd, by rw [List.length_set]; exact s.sl, fun k b kv q1 q2 => ?_⟩, ⟨fun b u q nf _ => ?_, fun _ z => .inl z⟩⟩
  · have sl := s.slot j x q
    cases x with
    | unset => trivial
    | val d => obtain ⟨y, k1, k2⟩ := sl; exact ⟨y, k1, k2.stays st⟩
    | own d =>
      obtain ⟨b, k1, k2, k3, k4⟩ := sl
      have ne : b ≠ a := fun z => k3 (z ▸ s.fg a af)
      refine ⟨b, k1, k2, k3, ?_⟩
      cases d with
      | list ds => obtain ⟨ys, k4, k5⟩ := k4; exact ⟨ys, by rw [upd_ne ne]; exact k4, k5.stays st⟩
      | dict ds => obtain ⟨ys, k4, k5⟩ := k4; exact ⟨ys, by rw [upd_ne ne]; exact k4, k5.stays st⟩
      | _ => exact k4.elim
    | sto n => exact sl
    | tab w es =>
      obtain ⟨b, k1, k2, k3, k4⟩ := sl
      have ne : b ≠ a := fun z => k3 (z ▸ s.fg a af)
      exact ⟨b, k1, k2, k3, k4.to st fun o q => by rw [upd_ne ne]; exact q⟩
  · by_cases z : b = a
    · subst z; exact ⟨_, upd_same⟩
    · obtain ⟨u, q⟩ := s.live b q
      exact ⟨u, by rw [upd_ne z]; exact q⟩
  · rw [set_get] at q2
    by_cases nk : n = k
    · subst nk
      rw [ha] at q1
      cases q1
      rw [if_pos rfl] at q2
      split at q2
      · cases q2; exact ⟨ks', upd_same, r.stays st⟩
      · cases q2
    · rw [if_neg nk] at q2
      obtain ⟨ks, k1, k2⟩ := s.st k b kv q1 q2
      have ne : b ≠ a := fun z => by
        subst z
        exact nk ((List.getElem?_inj (List.getElem?_eq_some_iff.mp ha).1 s.nd).mp (ha.trans q1.symm))
      exact ⟨ks, by rw [upd_ne ne]; exact k1, k2.stays st⟩
  · rw [upd_ne]
    · exact q
    · rintro rfl; exact nf af
theorem tSet_S {x : M Val} {i : Nat} {k : Str} {D : Ends} (h : tS K F (x.bind fun v => v.data.bind fun d => (fsetM i k d).bind fun _ => M.pure .nx) D σ H) : sDPut (tVar i) (tC (.str k)) (tD K F x) D σ H := by
  obtain ⟨G, O, e, m, h⟩ := h
  obtain ⟨v, _, h⟩ := AtS.bind (R := VRep K F) h
  refine (h.mono fun w H1 q => ?_).tr
  obtain ⟨O1, e1, m1, g, r, h⟩ := q
  obtain ⟨d, O2, g2, rr, s, f, e', m', h1, h2⟩ := AtS.data h r
  obtain ⟨u, s3, h3, h4⟩ := bind_ok h1
  unfold fsetM at h3
  dsimp only at h3
  cases q : e1[i]? with
  | none => rw [q] at h3; cases h3
  | some x =>
    rw [q] at h3
    cases x with
    | sto n =>
      dsimp only at h3
      cases q2 : m1[n]? with
      | none => rw [q2] at h3; cases h3
      | some kvs =>
        rw [q2] at h3
        dsimp only at h3
        cases q3 : kvs.lookup k with
        | none => rw [q3] at h3; cases h3
        | some d0 =>
          rw [q3] at h3
          dsimp only at h3
          by_cases hz : kvs.length < 1000
          · rw [if_pos hz] at h3
            cases h3
            cases h4
            obtain ⟨a, k1, k2⟩ := s.slot i _ q
            obtain ⟨ks, k3, k4⟩ := s.st n a kvs k2 q2
            have pe : putK ks (Sum.inr k) w = ks.map fun kv => if kv.1 = Sum.inr k then (kv.1, w) else kv := by
              unfold putK
              rw [if_pos (kv_any k4 q3)]
            obtain ⟨s4, g4⟩ := s.store k2 q2 (kv_put (k := k) rr k4)
            rw [← pe] at s4 g4
            have ln : ks.length < sizeLine := by
              have := k4.length
              rw [List.length_map] at this
              rw [this, sizeLine_eq]
              omega
            exact ⟨_, k1, a, _, rfl, DPut.k (k := Sum.inr k) k3 ln, h2 σ _ O2 g4 s4⟩
          · rw [if_neg hz] at h3; cases h3
    | _ => cases h3
/-! ### for -/
theorem tFor_S {x : M (List PyData)} {t : Tg} {b : M Flow} {D : Ends} (h : tS K F (x.bind fun ds => forGo (fun d => (asg t d).bind fun _ => b) ds) D σ H) : tFor (tI K F x) (tG K F t) (tS K F b) D σ H := by
  obtain ⟨G, O, e, m, h⟩ := h
  obtain ⟨ds, _, h⟩ := AtS.bind (R := JRep K F) h
  refine (h.mono fun J H1 q => ?_).tr
  obtain ⟨O1, e1, m1, g, ⟨Gd, Y, wk⟩, h⟩ := q
  have s1 := h.1
  refine for_it wk.walk (fun i σ' H' => ∃ O' e' m', Grow F G O1 H1 O' H' ∧ AtS K F G O' σ' H' e' m' (forGo (fun d => (asg t d).bind fun _ => b) (ds.drop i)) D) ⟨O1, e1, m1, .refl, h⟩ ?_ ?_ ?_
  · rintro i σ' H' _ ⟨O', e', m', g', _⟩
    exact wk.stands O' H' g'
  · rintro i x σ' H' H2 hi ⟨O', e', m', g', s', f, e2, m2, h1, h2⟩ y
    obtain ⟨d, hd, kp, rx⟩ := wk.gives i O' H' x H2 hi g' s'.live y
    have ed : ds.drop i = d :: ds.drop (i + 1) := by
      rw [List.drop_eq_getElem_cons hi]
      congr 1
      rw [List.getElem?_eq_getElem hi] at hd
      exact Option.some.inj hd
    rw [ed] at h1
    unfold forGo at h1
    obtain ⟨f1, s3, h3, h4⟩ := bind_ok h1
    obtain ⟨u, ⟨e4, m4⟩, h5, h6⟩ := bind_ok h3
    refine ⟨G, O', e', m', d, e4, m4, s'.same kp, rx, h5, fun σ2 s4 _ => ?_⟩
    obtain ⟨e5, m5⟩ := s3
    refine ⟨G, O', e4, m4, s4, f1, e5, m5, h6, fun σ3 H3 O3 g3 s5 => ?_⟩
    have gk : Grow F G O' H' O3 H3 := (Grow.of_same kp).trans g3 s'.fo
    have gt : Grow F G O1 H1 O3 H3 := g'.trans gk s1.fo
    cases f1 with
    | nx => exact ⟨O3, e5, m5, gt, s5, f, e2, m2, h4, fun σ4 H4 O4 g4 s6 => h2 σ4 H4 O4 (gk.trans g4 s'.fo) s6⟩
    | cnt => exact ⟨O3, e5, m5, gt, s5, f, e2, m2, h4, fun σ4 H4 O4 g4 s6 => h2 σ4 H4 O4 (gk.trans g4 s'.fo) s6⟩
    | brk => cases h4; exact h2 σ3 H3 O3 gk s5
    | ret v => cases h4; exact h2 σ3 H3 O3 gk s5
  · rintro σ' H' ⟨O', e', m', g', h⟩
    rw [List.drop_length] at h
    exact h.pure
end
end Fb

namespace Fb
open PySem PySem.Spec PyProof.Rows L2
section
variable {X : Cx} {F : List Addr} {K : PySem.W.Frag} {G O O' : Own} {σ : L2.St} {H H' : Hp} {e : List Slot} {m : Mu}
/-! ### a comprehension's own names -/
theorem wipe_get (σ : L2.St) : ∀ (vs : List Nat) (j : Nat), (wipe σ vs)[j]? = if j ∈ vs ∧ j < σ.length then some none else σ[j]?
  | [], j => by rw [if_neg (by simp)]; rfl
  | v :: vs, j => by
    unfold wipe
    rw [set_get, wipe_length, wipe_get σ vs j]
    by_cases vj : v = j
    · subst vj
      rw [if_pos rfl]
      by_cases hv : v < σ.length
      · rw [if_pos hv, if_pos ⟨List.mem_cons_self, hv⟩]
      · rw [if_neg hv, if_neg (fun z => hv z.2), List.getElem?_eq_none (by omega)]
    · rw [if_neg vj]
      by_cases c : j ∈ vs ∧ j < σ.length
      · rw [if_pos c, if_pos ⟨List.mem_cons_of_mem _ c.1, c.2⟩]
      · rw [if_neg c, if_neg]
        rintro ⟨c1, c2⟩
        rcases List.mem_cons.mp c1 with z | z
        · exact vj z.symm
        · exact c ⟨z, c2⟩
theorem wipeS_length (e : List Slot) : ∀ vs : List Nat, (wipeS e vs).length = e.length
  | [] => rfl
  | v :: vs => by unfold wipeS; rw [List.length_set, wipeS_length e vs]
theorem wipeS_get (e : List Slot) : ∀ (vs : List Nat) (j : Nat), (wipeS e vs)[j]? = if j ∈ vs ∧ j < e.length then some .unset else e[j]?
  | [], j => by rw [if_neg (by simp)]; rfl
  | v :: vs, j => by
    unfold wipeS
    rw [set_get, wipeS_length, wipeS_get e vs j]
    by_cases vj : v = j
    · subst vj
      rw [if_pos rfl]
      by_cases hv : v < e.length
      · rw [if_pos hv, if_pos ⟨List.mem_cons_self, hv⟩]
      · rw [if_neg hv, if_neg (fun z => hv z.2), List.getElem?_eq_none (by omega)]
    · rw [if_neg vj]
      by_cases c : j ∈ vs ∧ j < e.length
      · rw [if_pos c, if_pos ⟨List.mem_cons_of_mem _ c.1, c.2⟩]
      · rw [if_neg c, if_neg]
        rintro ⟨c1, c2⟩
        rcases List.mem_cons.mp c1 with z | z
        · exact vj z.symm
        · exact c ⟨z, c2⟩
theorem merge_length (e e' : List Slot) : ∀ vs : List Nat, (merge e e' vs).length = e'.length
  | [] => rfl
  | v :: vs => by unfold merge; rw [List.length_set, merge_length e e' vs]
theorem merge_get (e e' : List Slot) (hl : e.length = e'.length) : ∀ (vs : List Nat) (j : Nat), (merge e e' vs)[j]? = if j ∈ vs then e[j]? else e'[j]?
  | [], j => by rw [if_neg (by simp)]; rfl
  | v :: vs, j => by
    unfold merge
    rw [set_get, merge_length, merge_get e e' hl vs j]
    by_cases vj : v = j
    · subst vj
      rw [if_pos rfl, if_pos List.mem_cons_self]
      by_cases hv : v < e'.length
      · rw [if_pos hv, List.getD_eq_getElem?_getD, List.getElem?_eq_getElem (by omega)]
        rfl
      · rw [if_neg hv, List.getElem?_eq_none (by omega)]
    · rw [if_neg vj]
      by_cases c : j ∈ vs
      · rw [if_pos c, if_pos (List.mem_cons_of_mem _ c)]
      · rw [if_neg c, if_neg]
        intro z
        rcases List.mem_cons.mp z with z | z
        · exact vj z.symm
        · exact c z
theorem Sim.wipe (s : Sim K F G O σ H e m) (vs : List Nat) : Sim K F G O (L2.wipe σ vs) H (wipeS e vs) m := by
  refine ⟨by rw [wipeS_length, wipe_length]; exact s.len, fun j x q => ?_, fun i j d d2 a q1 q2 o1 o2 z1 z2 => ?_, s.fg, s.go, s.live, s.nd, s.sl, s.st⟩
  · rw [wipeS_get] at q
    rw [wipe_get]
    by_cases c : j ∈ vs ∧ j < e.length
    · rw [if_pos c] at q
      cases q
      trivial
    · rw [if_neg c] at q
      rw [if_neg (by rw [← s.len]; exact c)]
      exact s.slot j x q
  · have z : ∀ (j : Nat) (x : Slot), (wipeS e vs)[j]? = some x → ownS x = true → e[j]? = some x ∧ (L2.wipe σ vs)[j]? = σ[j]? := fun j x q o => by
      rw [wipeS_get] at q
      by_cases c : j ∈ vs ∧ j < e.length
      · rw [if_pos c] at q; cases q; cases o
      · rw [if_neg c] at q
        exact ⟨q, by rw [wipe_get, if_neg (by rw [← s.len]; exact c)]⟩
    obtain ⟨a1, a2⟩ := z i d q1 o1
    obtain ⟨b1, b2⟩ := z j d2 q2 o2
    rw [a2] at z1
    rw [b2] at z2
    exact s.apart i j d d2 a a1 b1 o1 o2 z1 z2
theorem wipe_part {vs ws : List Nat} {σ2 : L2.St} (hs : ∀ j ∈ ws, j ∈ vs) (p : Part ws (L2.wipe σ vs) σ2) : L2.wipe σ2 vs = L2.wipe σ vs := by
  have l2 : σ2.length = σ.length := by rw [p.1, wipe_length]
  apply List.ext_getElem?
  intro j
  rw [wipe_get, wipe_get, l2]
  by_cases c : j ∈ vs ∧ j < σ.length
  · rw [if_pos c, if_pos c]
  · rw [if_neg c, if_neg c]
    by_cases jv : j ∈ vs
    · have hj : ¬ j < σ.length := fun z => c ⟨jv, z⟩
      rw [List.getElem?_eq_none (by omega), List.getElem?_eq_none (by omega)]
    · rw [p.2 j (fun z => jv (hs j z)), wipe_get, if_neg c]
/-- D's own content is changed -/
theorem Sim.watched {p : Addr} {o : HO} (s : Sim K F (plus G p) O σ H e m) (hf : p ∉ F) : Sim K F (plus G p) O σ (upd H p o) e m := by
  have op : O p := s.go p (.inr rfl)
  have st : Stays O H O (upd H p o) := stays_mut op
  refine ⟨s.len, fun i x h => ?_, s.apart, s.fg, s.go, fun a h => ?_, s.nd, s.sl, fun n b kvs q1 q2 => ?_⟩
  · have sl := s.slot i x h
    cases x with
    | unset => trivial
    | val d => obtain ⟨y, k1, k2⟩ := sl; exact ⟨y, k1, k2.stays st⟩
    | own d =>
      obtain ⟨a, h1, h2, h3, h4⟩ := sl
      have ne : a ≠ p := fun z => h3 (.inr z)
      refine ⟨a, h1, h2, h3, ?_⟩
      cases d with
      | list ds => obtain ⟨ys, k4, k5⟩ := h4; exact ⟨ys, by rw [upd_ne ne]; exact k4, k5.stays st⟩
      | dict ds => obtain ⟨ys, k4, k5⟩ := h4; exact ⟨ys, by rw [upd_ne ne]; exact k4, k5.stays st⟩
      | _ => exact h4.elim
    | sto n => exact sl
    | tab w es =>
      obtain ⟨a, h1, h2, h3, h4⟩ := sl
      have ne : a ≠ p := fun z => h3 (.inr z)
      exact ⟨a, h1, h2, h3, h4.to st fun o q => by rw [upd_ne ne]; exact q⟩
  · by_cases z : a = p
    · subst z; exact ⟨_, upd_same⟩
    · obtain ⟨u, q⟩ := s.live a h
      exact ⟨u, by rw [upd_ne z]; exact q⟩
  · obtain ⟨ks, k1, k2⟩ := s.st n b kvs q1 q2
    have ne : b ≠ p := fun z => hf (z ▸ List.mem_of_getElem? q1)
    exact ⟨ks, by rw [upd_ne ne]; exact k1, k2.stays st⟩
/-- a growth under watch, told from before -/
theorem Grow.out {p : Addr} {O1 : Own} {H1 : Hp} (g : Grow F G O H O' H') (g1 : Grow F (plus G p) O' H' O1 H1) (np : H p = none) (hf : ∀ a, a ∈ F → O a) : Grow F G O H O1 H1 := by
  refine ⟨fun a u q nf c => ?_, fun a z => ?_⟩
  · refine g1.keep a u (g.keep a u q nf c) nf ?_
    rcases c with c | c
    · refine .inl fun z => ?_
      rcases g.own a z with z | z
      · exact c z
      · rw [q] at z; cases z
    · exact .inr (.inl c)
  · rcases g1.own a z with z | z
    · exact g.own a z
    · by_cases c : O a
      · exact .inl c
      · refine .inr ?_
        cases q : H a with
        | none => rfl
        | some o =>
          rw [g.keep a o q (fun w => c (hf a w)) (.inl c)] at z
          cases z
theorem Grow.outUpd {p : Addr} {o : HO} (g : Grow F G O H O' H') (np : H p = none) : Grow F G O H O' (upd H' p o) :=
  ⟨fun a u q nf c => by rw [upd_ne (ne_of_none q np)]; exact g.keep a u q nf c, g.own⟩
/-- back outside: the block's own names are as they were -/
theorem Sim.unwipe {O1 : Own} {H1 : Hp} {e1 e2 : List Slot} {m1 m2 : Mu} {vs : List Nat} (s : Sim K F G O σ H e1 m1) (no : (vs.any fun i => isOwn (e1.getD i .unset)) = false) (g : Grow F G O H O1 H1) (s2 : Sim K F G O1 (L2.wipe σ vs) H1 (wipeS e2 vs) m2) :
    Sim K F G O1 σ H1 (merge e1 e2 vs) m2 := by
  have hl : e1.length = e2.length := by
    have := s2.len
    rw [wipeS_length, wipe_length] at this
    rw [s.len, this]
  have st := g.stays s.fo
  have own1 : ∀ (j : Nat) (x : Slot), (merge e1 e2 vs)[j]? = some x → ownS x = true → j ∉ vs ∧ (wipeS e2 vs)[j]? = some x ∧ (L2.wipe σ vs)[j]? = σ[j]? := fun j x q o => by
    rw [merge_get e1 e2 hl] at q
    by_cases jv : j ∈ vs
    · rw [if_pos jv] at q
      have z := (List.any_eq_false.mp no) j jv
      rw [List.getD_eq_getElem?_getD, q] at z
      rcases ownS_ex o with ⟨d, rfl⟩ | ⟨w, es, rfl⟩ <;> exact absurd rfl z
    · rw [if_neg jv] at q
      exact ⟨jv, by rw [wipeS_get, if_neg (fun z => jv z.1)]; exact q, by rw [wipe_get, if_neg (fun z => jv z.1)]⟩
  refine ⟨by rw [merge_length, ← hl]; exact s.len, fun j x q => ?_, fun i j d d2 a q1 q2 o1 o2 z1 z2 => ?_, s2.fg, s2.go, s2.live, s2.nd, s2.sl, s2.st⟩
  · by_cases jv : j ∈ vs
    · have q' := q
      rw [merge_get e1 e2 hl, if_pos jv] at q
      have sl := s.slot j x q
      cases x with
      | unset => trivial
      | val d => obtain ⟨y, k1, k2⟩ := sl; exact ⟨y, k1, k2.stays st⟩
      | own d => exact absurd jv (own1 j (.own d) q' rfl).1
      | tab w es => exact absurd jv (own1 j (.tab w es) q' rfl).1
      | sto n => exact sl
    · rw [merge_get e1 e2 hl, if_neg jv] at q
      have sl := s2.slot j x (by rw [wipeS_get, if_neg (fun z => jv z.1)]; exact q)
      rw [wipe_get, if_neg (fun z => jv z.1)] at sl
      exact sl
  · obtain ⟨_, a1, a2⟩ := own1 i d q1 o1
    obtain ⟨_, b1, b2⟩ := own1 j d2 q2 o2
    exact s2.apart i j d d2 a a1 b1 o1 o2 (a2.trans z1) (b2.trans z2)
/-- a clause's test -/
def tC? (K : PySem.W.Frag) (F : List Addr) : Option Ex → TT
  | none => tYes
  | some c => tT K F (evE c)
theorem tLc_D {x : M (List PyData)} {t : Tg} {c : Option Ex} {y : M Val} {vs : List Nat} {Q : VK} (ht : ∀ j ∈ t.at, j ∈ vs)
    (h : tD K F (x.bind fun ds => lcAll vs (fun d => (asg t d).bind fun _ => (evC c).bind fun b => if b then y.bind fun v => v.data.bind fun r => M.pure (some r) else M.pure none) ds) σ H Q) :
    tLc (tI K F x) (tG K F t) (tC? K F c) (tD K F y) vs σ H Q := by
  obtain ⟨G, O, e, m, h⟩ := h
  obtain ⟨ds, h⟩ := At.bind (R := JRep K F) h
  refine (h.mono fun J H1 q => ?_).tr
  obtain ⟨O1, e1, m1, g, ⟨Gd, Y, wk⟩, s1, v, e2, m2, h1, h2⟩ := q
  intro D nD
  generalize hbody : (fun d => (asg t d).bind fun _ => (evC c).bind fun b => if b then y.bind fun v => v.data.bind fun r => M.pure (some r) else M.pure none : PyData → M (Option PyData)) = body at h1
  unfold lcAll at h1
  dsimp only at h1
  cases no : vs.any fun i => isOwn (e1.getD i .unset) with
  | true => rw [no, if_pos rfl] at h1; cases h1
  | false =>
    rw [no, if_neg Bool.false_ne_true] at h1
    cases hr : lcGo vs body ds ⟨e1, m1⟩ with
    | exc a b => rw [hr] at h1; cases h1
    | stuck => rw [hr] at h1; cases h1
    | ok r =>
      obtain ⟨rs, ⟨e3, m3⟩⟩ := r
      rw [hr] at h1
      dsimp only at h1
      by_cases hz : ds.length ≤ SZ
      · rw [if_pos hz] at h1
        cases h1
        have ng : ¬ G D := fun z => s1.new nD (s1.go D z)
        have nf : D ∉ F := fun z => ng (s1.fg D z)
        have sw := (s1.watch (o := .lst []) nD).wipe vs
        have g0 : Grow F G O1 H1 (plus O1 D) (upd H1 D (.lst [])) := .new nD
        refine lc_it wk.walk (fun i H' => ∃ O' e' m' acc as rest, H' D = some (.lst acc) ∧ acc.length ≤ i ∧ RepAll K O' H' acc as ∧ Sim K F (plus G D) O' (L2.wipe σ vs) H' (wipeS e' vs) m' ∧ Grow F G O1 H1 O' H' ∧ lcGo vs body (ds.drop i) ⟨e', m'⟩ = .ok (rest, ⟨e3, m2⟩) ∧ as ++ rest = rs)
          ⟨_, e1, m1, [], [], rs, upd_same, Nat.le_refl _, .nil, sw, g0, hr, rfl⟩ ?_ ?_ ?_
        · rintro i H' _ ⟨O', e', m', acc, as, rest, _, _, _, _, g', _⟩
          exact wk.stands O' H' g'
        · rintro i xv H' H2 hi ⟨O', e', m', acc, as, rest, hD, hl, ra, s', g', hg, hrs⟩ yv
          obtain ⟨d, hd, kp, rx⟩ := wk.gives i O' H' xv H2 hi g' s'.live yv
          have ed : ds.drop i = d :: ds.drop (i + 1) := by
            rw [List.drop_eq_getElem_cons hi]
            congr 1
            rw [List.getElem?_eq_getElem hi] at hd
            exact Option.some.inj hd
          rw [ed] at hg
          unfold lcGo at hg
          obtain ⟨_, sW, hW, hg⟩ := bind_ok hg
          cases hW
          obtain ⟨r1, ⟨e5, m5⟩, hb, hg⟩ := bind_ok hg
          obtain ⟨rs2, s6, hg2, hg⟩ := bind_ok hg
          cases hg
          rw [← hbody] at hb
          obtain ⟨_, ⟨e7, m7⟩, ha, hb⟩ := bind_ok hb
          have s2 := s'.same kp
          have gk : Grow F (plus G D) O' H' O' H2 := .of_same kp
          refine ⟨plus G D, O', wipeS e' vs, m', d, e7, m7, s2, rx, ha, fun σ2 s3 p => ⟨wipe_part ht p, ?_⟩⟩
          have rest1 : ∀ (b : Bool) (O3 : Own) (H3 : Hp) (e8 : List Slot) (m8 : Mu), Grow F (plus G D) O' H2 O3 H3 → Sim K F (plus G D) O3 σ2 H3 e8 m8 → (if b then y.bind fun v => v.data.bind fun r => M.pure (some r) else M.pure none) ⟨e8, m8⟩ = .ok (r1, ⟨e5, m5⟩) →
              if b = true then tD K F y σ2 H3 fun yv H4 => ∃ acc, H4 D = some (.lst acc) ∧ acc.length < sizeLine ∧ ∃ O' e' m' acc2 as rest, (upd H4 D (.lst (acc ++ [yv]))) D = some (.lst acc2) ∧ acc2.length ≤ i + 1 ∧ RepAll K O' (upd H4 D (.lst (acc ++ [yv]))) acc2 as ∧ Sim K F (plus G D) O' (L2.wipe σ vs) (upd H4 D (.lst (acc ++ [yv]))) (wipeS e' vs) m' ∧ Grow F G O1 H1 O' (upd H4 D (.lst (acc ++ [yv]))) ∧ lcGo vs body (ds.drop (i + 1)) ⟨e', m'⟩ = .ok (rest, ⟨e3, m2⟩) ∧ as ++ rest = rs
              else ∃ O' e' m' acc2 as rest, H3 D = some (.lst acc2) ∧ acc2.length ≤ i + 1 ∧ RepAll K O' H3 acc2 as ∧ Sim K F (plus G D) O' (L2.wipe σ vs) H3 (wipeS e' vs) m' ∧ Grow F G O1 H1 O' H3 ∧ lcGo vs body (ds.drop (i + 1)) ⟨e', m'⟩ = .ok (rest, ⟨e3, m2⟩) ∧ as ++ rest = rs := fun b O3 H3 e8 m8 g3 s8 hy => by
            have gD : Grow F (plus G D) O' H' O3 H3 := gk.trans g3 s'.fo
            have hD3 : H3 D = some (.lst acc) := gD.keep D _ hD nf (.inr (.inr rfl))
            cases b with
            | false =>
              refine iteF ?_
              cases hy
              refine ⟨O3, e5, m5, acc, as, rs2, hD3, Nat.le_succ_of_le hl, ra.stays (gD.stays s'.fo), ?_, g'.out gD nD s1.fo, hg2, hrs⟩
              have := s8.wipe vs
              rw [wipe_part ht p] at this
              exact this
            | true =>
              refine iteT ?_
              obtain ⟨v, ⟨e9, m9⟩, hv, hy⟩ := bind_ok hy
              refine ⟨plus G D, O3, e8, m8, s8, v, e9, m9, hv, fun yv H4 O4 g4 s9 rv => ?_⟩
              have gD4 : Grow F (plus G D) O' H' O4 H4 := gD.trans g4 s'.fo
              obtain ⟨dv, s10, hdv, hy⟩ := bind_ok hy
              obtain ⟨O5, g5, s11, rr, hdd⟩ := VRep.data s9 rv ⟨s10, hdv⟩
              rw [hdd] at hdv
              cases hdv
              cases hy
              have gD5 : Grow F (plus G D) O' H' O5 H4 := gD4.trans g5 s'.fo
              have hD4 : H4 D = some (.lst acc) := gD4.keep D _ hD nf (.inr (.inr rfl))
              have od : O5 D := s11.go D (.inr rfl)
              have stm : Stays O5 H4 O5 (upd H4 D (.lst (acc ++ [yv]))) := stays_mut od
              refine ⟨acc, hD4, ?_, O5, e5, m5, acc ++ [yv], as ++ [dv], rs2, upd_same, ?_, ?_, ?_, ?_, hg2, ?_⟩
              · rw [← sz_eq]; omega
              · rw [List.length_append]; simp; exact hl
              · exact ((ra.stays (gD5.stays s'.fo)).append (.cons rr .nil)).stays stm
              · have := (s11.wipe vs).watched (o := .lst (acc ++ [yv])) nf
                rw [wipe_part ht p] at this
                exact this
              · exact (g'.out gD5 nD s1.fo).outUpd nD
              · rw [List.append_assoc]; exact hrs
          cases c with
          | none =>
            have hb : (if true then y.bind fun v => v.data.bind fun r => M.pure (some r) else M.pure none) ⟨e7, m7⟩ = .ok (r1, ⟨e5, m5⟩) := hb
            exact rest1 true O' H2 e7 m7 .refl s3 hb
          | some cc =>
            obtain ⟨b, ⟨e8, m8⟩, hc, hb⟩ := bind_ok hb
            have hc : ((evE cc).bind isTrueV) ⟨e7, m7⟩ = .ok (b, ⟨e8, m8⟩) := hc
            refine ⟨plus G D, O', e7, m7, s3, b, e8, m8, hc, fun w H3 O3 g3 s8 rb => ?_⟩
            obtain rfl : w = b := rb
            exact rest1 w O3 H3 e8 m8 g3 s8 hb
        · rintro H' ⟨O', e', m', acc, as, rest, hD, hl, ra, s', g', hg, hrs⟩
          rw [List.drop_length] at hg
          cases hg
          rw [List.append_nil] at hrs
          subst hrs
          have od : O' D := s'.go D (.inr rfl)
          have sG : Sim K F G O' (L2.wipe σ vs) H' (wipeS e3 vs) m2 := by
            refine ⟨s'.len, fun j z q => ?_, s'.apart, s1.fg, fun a z => s'.go a (.inl z), s'.live, s'.nd, s'.sl, s'.st⟩
            have sl := s'.slot j z q
            cases z with
            | own d => obtain ⟨a, k1, k2, k3, k4⟩ := sl; exact ⟨a, k1, k2, fun z => k3 (.inl z), k4⟩
            | tab w es => obtain ⟨a, k1, k2, k3, k4⟩ := sl; exact ⟨a, k1, k2, fun z => k3 (.inl z), k4⟩
            | _ => exact sl
          have sF := s1.unwipe no g' sG
          refine h2 (.ref D) H' O' g' sF ⟨D, rfl, od, ng, ⟨acc, hD, ra⟩, fun j d' q o z => ?_⟩
          have hl2 : e1.length = e3.length := by
            have := s'.len
            rw [wipeS_length, wipe_length] at this
            rw [s1.len, this]
          rw [merge_get e1 e3 hl2] at q
          by_cases jv : j ∈ vs
          · rw [if_pos jv] at q
            have zz := (List.any_eq_false.mp no) j jv
            rw [List.getD_eq_getElem?_getD, q] at zz
            rcases ownS_ex o with ⟨d, rfl⟩ | ⟨w, es, rfl⟩ <;> exact absurd rfl zz
          · rw [if_neg jv] at q
            obtain ⟨a, k1, _, k3⟩ := (s'.slot j _ (by rw [wipeS_get, if_neg (fun z => jv z.1)]; exact q)).ref o
            rw [wipe_get, if_neg (fun z => jv z.1), z] at k1
            cases k1
            exact k3 (.inr rfl)
      · rw [if_neg hz] at h1; cases h1
end
end Fb

namespace Fb
open PySem PySem.Spec PyProof.Rows L2
section
variable {X : Cx} {F : List Addr} {K : PySem.W.Frag} {G O O' : Own} {σ : L2.St} {H H' : Hp} {e : List Slot} {m : Mu}
/-! ### values side by side, new ones kept new -/
/-- an owned address that no name holds is watched over -/
theorem Sim.guard {p : Addr} (s : Sim K F G O σ H e m) (op : O p) (no : ∀ (i : Nat) (x : Slot), e[i]? = some x → ownS x = true → σ[i]? ≠ some (some (.ref p))) : Sim K F (plus G p) O σ H e m := by
  refine ⟨s.len, fun i x h => ?_, s.apart, fun a h => .inl (s.fg a h), fun a h => ?_, s.live, s.nd, s.sl, s.st⟩
  · have sl := s.slot i x h
    cases x with
    | own d =>
      obtain ⟨a, h1, h2, h3, h4⟩ := sl
      refine ⟨a, h1, h2, fun z => ?_, h4⟩
      rcases z with z | z
      · exact h3 z
      · subst z
        exact no i (.own d) h rfl h1
    | tab w es =>
      obtain ⟨a, h1, h2, h3, h4⟩ := sl
      refine ⟨a, h1, h2, fun z => ?_, h4⟩
      rcases z with z | z
      · exact h3 z
      · subst z
        exact no i (.tab w es) h rfl h1
    | _ => exact sl
  · rcases h with h | h
    · exact s.go a h
    · subst h; exact op
theorem Sim.unguard {p : Addr} (s : Sim K F (plus G p) O σ H e m) (hf : ∀ a, a ∈ F → G a) : Sim K F G O σ H e m := by
  refine ⟨s.len, fun i x h => ?_, s.apart, hf, fun a h => s.go a (.inl h), s.live, s.nd, s.sl, s.st⟩
  have sl := s.slot i x h
  cases x with
  | own d =>
    obtain ⟨a, h1, h2, h3, h4⟩ := sl
    exact ⟨a, h1, h2, fun z => h3 (.inl z), h4⟩
  | tab w es =>
    obtain ⟨a, h1, h2, h3, h4⟩ := sl
    exact ⟨a, h1, h2, fun z => h3 (.inl z), h4⟩
  | _ => exact sl
theorem Grow.unguard {p : Addr} (g : Grow F (plus G p) O H O' H') : Grow F G O H O' H' :=
  ⟨fun a u q hf c => g.keep a u q hf (c.elim .inl fun z => .inr (.inl z)), g.own⟩
theorem OwnAt.stays {O1 : Own} {H1 : Hp} {a : Addr} {d : PyData} (st : Stays O H O1 H1) (k : ∀ o, H a = some o → H1 a = some o) (h : OwnAt K O H a d) : OwnAt K O1 H1 a d := by
  cases d with
  | list ds => obtain ⟨xs, h, r⟩ := h; exact ⟨xs, k _ h, r.stays st⟩
  | dict es => obtain ⟨xs, h, r⟩ := h; exact ⟨xs, k _ h, r.stays st⟩
  | _ => exact h.elim
def isUni : Val → Bool
  | .uni _ => true
  | .tab _ _ => true
  | _ => false
def UsRep (K : PySem.W.Frag) (F : List Addr) (G O : Own) (σ : L2.St) (H : Hp) (e : List Slot) : List V → List Val → Prop
  | [], [] => True
  | v :: vs, x :: xs => VRep K F G O σ H e v x ∧ UsRep K F G O σ H e vs xs ∧ (isUni x = true → ∀ (k : Nat) (y : Val), xs[k]? = some y → isUni y = true → vs[k]? ≠ some v)
  | _, _ => False
abbrev tUs (K : PySem.W.Frag) (F : List Addr) (x : M (List Val)) : TA := tR K F (UsRep K F) x
theorem UsRep.length : ∀ {vs : List V} {xs : List Val}, UsRep K F G O σ H e vs xs → vs.length = xs.length
  | [], [], _ => rfl
  | [], _ :: _, h => h.elim
  | _ :: _, [], h => h.elim
  | _ :: _, _ :: _, h => congrArg (· + 1) h.2.1.length
theorem VRep.unguard {p : Addr} {v : V} {x : Val} (r : VRep K F (plus G p) O σ H e v x) : VRep K F G O σ H e v x ∧ (isUni x = true → v ≠ .ref p) := by
  cases x with
  | dat d => exact ⟨r, fun z => nomatch z⟩
  | sto n => exact ⟨r, fun z => nomatch z⟩
  | uni d =>
    obtain ⟨a, rfl, h1, h2, h3, h4⟩ := r
    exact ⟨⟨a, rfl, h1, fun z => h2 (.inl z), h3, h4⟩, fun _ z => by cases z; exact h2 (.inr rfl)⟩
  | tab w es =>
    obtain ⟨a, rfl, h1, h2, h3, h4⟩ := r
    exact ⟨⟨a, rfl, h1, fun z => h2 (.inl z), h3, h4⟩, fun _ z => by cases z; exact h2 (.inr rfl)⟩
theorem UsRep.unguard {p : Addr} : ∀ {vs : List V} {xs : List Val}, UsRep K F (plus G p) O σ H e vs xs → UsRep K F G O σ H e vs xs ∧ ∀ (k : Nat) (y : Val), xs[k]? = some y → isUni y = true → vs[k]? ≠ some (.ref p)
  | [], [], _ => ⟨trivial, fun _ _ z => by simp at z⟩
  | [], _ :: _, h => h.elim
  | _ :: _, [], h => h.elim
  | v :: vs, x :: xs, ⟨h1, h2, h3⟩ => by
    obtain ⟨a1, a2⟩ := h1.unguard
    obtain ⟨b1, b2⟩ := UsRep.unguard h2
    refine ⟨⟨a1, b1, h3⟩, fun k y q u => ?_⟩
    cases k with
    | zero => simp at q; subst q; intro z; simp at z; exact a2 u z
    | succ k => simp at q; intro z; simp at z; exact b2 k y q u z
theorem tCons_Us {x : M Val} {y : M (List Val)} {Q : List V → Hp → Prop} (h : tUs K F (x.bind fun v => y.bind fun vs => M.pure (v :: vs)) σ H Q) : tCons (tD K F x) (tUs K F y) σ H Q := by
  obtain ⟨G, O, e, m, h⟩ := h
  have fo := h.sim
  obtain ⟨v, h⟩ := At.bind (R := VRep K F) h
  refine (h.mono fun w H1 q => ?_).tr
  obtain ⟨O1, e1, m1, g, r, s1, us, e2, m2, h1, h2⟩ := q
  obtain ⟨xs, ⟨e3, m3⟩, h3, h4⟩ := bind_ok h1
  cases h4
  cases v with
  | dat d =>
    refine ⟨G, O1, e1, m1, s1, xs, _, _, h3, fun ws H2 O2 g2 s2 r2 => h2 _ H2 O2 g2 s2 ⟨Rep.stays (g2.stays s1.fo) r, r2, fun z => nomatch z⟩⟩
  | sto n =>
    refine ⟨G, O1, e1, m1, s1, xs, _, _, h3, fun ws H2 O2 g2 s2 r2 => h2 _ H2 O2 g2 s2 ⟨r, r2, fun z => nomatch z⟩⟩
  | uni d =>
    obtain ⟨a, rfl, k1, k2, k3, k4⟩ := r
    have nf : a ∉ F := fun z => k2 (s1.fg a z)
    refine ⟨plus G a, O1, e1, m1, s1.guard k1 k4, xs, _, _, h3, fun ws H2 O2 g2 s2 r2 => ?_⟩
    obtain ⟨u1, u2⟩ := r2.unguard
    refine h2 _ H2 O2 g2.unguard (s2.unguard s1.fg) ⟨⟨a, rfl, s2.go a (.inr rfl), k2, ?_, fun i d2 q o z => ?_⟩, u1, fun _ k y q u => u2 k y q u⟩
    · exact k3.stays (g2.stays s1.fo) fun o q => g2.keep a o q nf (.inr (.inr rfl))
    · obtain ⟨b, z1, _, z3⟩ := (s2.slot i _ q).ref o
      rw [z] at z1
      cases z1
      exact z3 (.inr rfl)
  | tab w es =>
    obtain ⟨a, rfl, k1, k2, k3, k4⟩ := r
    have nf : a ∉ F := fun z => k2 (s1.fg a z)
    refine ⟨plus G a, O1, e1, m1, s1.guard k1 k4, xs, _, _, h3, fun ws H2 O2 g2 s2 r2 => ?_⟩
    obtain ⟨u1, u2⟩ := r2.unguard
    refine h2 _ H2 O2 g2.unguard (s2.unguard s1.fg) ⟨⟨a, rfl, s2.go a (.inr rfl), k2, ?_, fun i d2 q o z => ?_⟩, u1, fun _ k y q u => u2 k y q u⟩
    · exact k3.to (g2.stays s1.fo) fun o q => g2.keep a o q nf (.inr (.inr rfl))
    · obtain ⟨b, z1, _, z3⟩ := (s2.slot i _ q).ref o
      rw [z] at z1
      cases z1
      exact z3 (.inr rfl)
theorem tNil_Us {Q : List V → Hp → Prop} (h : tUs K F (M.pure []) σ H Q) : tNil σ H Q := by
  obtain ⟨G, O, e, m, h⟩ := h
  exact At.pure h (show UsRep K F G O σ H e [] [] from trivial)
/-- the names are set, one behind another -/
def puts : List Nat → List V → L2.St → L2.St
  | i :: is, v :: vs, σ => puts is vs (σ.set i (some v))
  | _, _, σ => σ
theorem VRep.put {i : Nat} {v w : V} {x y : Val} (s : Sim K F G O σ H e m) (ry : VRep K F G O σ H e w y) (ne : isUni x = true → isUni y = true → w ≠ v) : VRep K F G O (σ.set i (some v)) H (e.set i (slotOf x)) w y := by
  cases y with
  | dat d => exact ry
  | sto n => exact ry
  | uni d =>
    obtain ⟨a, rfl, h1, h2, h3, h4⟩ := ry
    refine ⟨a, rfl, h1, h2, h3, fun j d2 q o z => ?_⟩
    rw [set_get] at q z
    by_cases ij : i = j
    · rw [if_pos ij] at q z
      split at q
      · cases x with
        | uni d3 =>
          split at z
          · cases z
            exact ne rfl rfl rfl
          · cases z
        | tab d3 d4 =>
          split at z
          · cases z
            exact ne rfl rfl rfl
          · cases z
        | dat d3 => cases q; cases o
        | sto d3 => cases q; cases o
      · cases q
    · rw [if_neg ij] at q z
      exact h4 j d2 q o z
  | tab wy ey =>
    obtain ⟨a, rfl, h1, h2, h3, h4⟩ := ry
    refine ⟨a, rfl, h1, h2, h3, fun j d2 q o z => ?_⟩
    rw [set_get] at q z
    by_cases ij : i = j
    · rw [if_pos ij] at q z
      split at q
      · cases x with
        | uni d3 =>
          split at z
          · cases z
            exact ne rfl rfl rfl
          · cases z
        | tab d3 d4 =>
          split at z
          · cases z
            exact ne rfl rfl rfl
          · cases z
        | dat d3 => cases q; cases o
        | sto d3 => cases q; cases o
      · cases q
    · rw [if_neg ij] at q z
      exact h4 j d2 q o z
theorem UsRep.put {i : Nat} {v : V} {x : Val} (s : Sim K F G O σ H e m) : ∀ {vs : List V} {xs : List Val}, UsRep K F G O σ H e vs xs → (isUni x = true → ∀ (k : Nat) (y : Val), xs[k]? = some y → isUni y = true → vs[k]? ≠ some v) →
    UsRep K F G O (σ.set i (some v)) H (e.set i (slotOf x)) vs xs
  | [], [], _, _ => trivial
  | [], _ :: _, h, _ => h.elim
  | _ :: _, [], h, _ => h.elim
  | w :: vs, y :: xs, ⟨h1, h2, h3⟩, hv => ⟨h1.put s fun u1 u2 z => hv u1 0 y rfl u2 (by rw [z]; rfl), UsRep.put s h2 fun u k y' q u' => hv u (k + 1) y' (by simpa using q) u', h3⟩
theorem puts_sim : ∀ {is : List Nat} {vs : List V} {xs : List Val} {σ : L2.St} {e e' : List Slot} {m m' : Mu}, Sim K F G O σ H e m → UsRep K F G O σ H e vs xs → parGo is xs ⟨e, m⟩ = .ok ((), ⟨e', m'⟩) → Sim K F G O (puts is vs σ) H e' m' ∧ is.length = vs.length
  | [], [], [], σ, e, e', m, m', s, r, h => by unfold parGo at h; cases h; exact ⟨s, rfl⟩
  | [], _ :: _, [], _, _, _, _, _, _, r, _ => r.elim
  | _ :: _, _, [], _, _, _, _, _, _, _, h => by unfold parGo at h; cases h
  | [], _, _ :: _, _, _, _, _, _, _, _, h => by unfold parGo at h; cases h
  | _ :: _, [], _ :: _, _, _, _, _, _, _, r, _ => r.elim
  | i :: is, v :: vs, x :: xs, σ, e, e', m, m', s, ⟨r1, r2, r3⟩, h => by
    unfold parGo at h
    obtain ⟨u, ⟨e1, m1⟩, h3, h4⟩ := bind_ok h
    unfold setS at h3
    cases h3
    obtain ⟨a1, a2⟩ := puts_sim (s.putV r1) (r2.put s r3) h4
    exact ⟨a1, by rw [List.length_cons, List.length_cons, a2]⟩
theorem AtS.par {is : List Nat} {xs : List Val} {vs : List V} {D : Ends} (h : AtS K F G O σ H e m ((parGo is xs).bind fun _ => M.pure .nx) D) (r : UsRep K F G O σ H e vs xs) : D.nx (puts is vs σ) H ∧ is.length = vs.length := by
  obtain ⟨s, f, e', m', h1, h2⟩ := h
  obtain ⟨u, ⟨e1, m1⟩, h3, h4⟩ := bind_ok h1
  cases h4
  obtain ⟨a1, a2⟩ := puts_sim s r h3
  exact ⟨h2 _ H O .refl a1, a2⟩
theorem tPar_S {x : M (List Val)} {i j : Nat} {D : Ends} (h : tS K F (x.bind fun vs => (parGo [i, j] vs).bind fun _ => M.pure .nx) D σ H) : tPar i j (tUs K F x) D σ H := by
  obtain ⟨G, O, e, m, h⟩ := h
  obtain ⟨a, _, h⟩ := AtS.bind (R := UsRep K F) h
  refine (h.mono fun w H1 q => ?_).tr
  obtain ⟨O1, e1, m1, g, r, h⟩ := q
  obtain ⟨q1, q2⟩ := h.par r
  match w, q1, q2 with
  | [v, u], q1, _ => exact ⟨v, u, rfl, q1⟩
theorem tPar3_S {x : M (List Val)} {i j l : Nat} {D : Ends} (h : tS K F (x.bind fun vs => (parGo [i, j, l] vs).bind fun _ => M.pure .nx) D σ H) : tPar3 i j l (tUs K F x) D σ H := by
  obtain ⟨G, O, e, m, h⟩ := h
  obtain ⟨a, _, h⟩ := AtS.bind (R := UsRep K F) h
  refine (h.mono fun w H1 q => ?_).tr
  obtain ⟨O1, e1, m1, g, r, h⟩ := q
  obtain ⟨q1, q2⟩ := h.par r
  match w, q1, q2 with
  | [v, u, t], q1, _ => exact ⟨v, u, t, rfl, q1⟩
def gNames : List Nat → TGs
  | [] => gNil
  | i :: is => gCons (gName i) (gNames is)
theorem gNames_puts : ∀ {is : List Nat} {vs : List V} {σ : L2.St} {Q : L2.St → Hp → Prop}, is.length = vs.length → Q (puts is vs σ) H → gNames is vs σ H Q
  | [], [], _, _, _, q => ⟨rfl, q⟩
  | [], _ :: _, _, _, h, _ => by cases h
  | _ :: _, [], _, _, h, _ => by cases h
  | i :: is, v :: vs, σ, Q, h, q => ⟨v, vs, rfl, gNames_puts (by simpa using h) q⟩
/-- .. by way of a tuple (a name that a block captures stands among them) -/
theorem tParT_S {x : M (List Val)} {is : List Nat} {D : Ends} (hz : is.length ≤ 1000) (h : tS K F (x.bind fun vs => (parGo is vs).bind fun _ => M.pure .nx) D σ H) : tAsg (tTup (tUs K F x)) (gTup K is.length (gNames is)) D σ H := by
  obtain ⟨G, O, e, m, h⟩ := h
  obtain ⟨a, _, h⟩ := AtS.bind (R := UsRep K F) h
  refine (h.mono fun w H1 q => ?_).tr
  obtain ⟨O1, e1, m1, g, r, s1, f, e', m', h1, h2⟩ := q
  obtain ⟨u, ⟨e2, m2⟩, h3, h4⟩ := bind_ok h1
  cases h4
  obtain ⟨a1, a2⟩ := puts_sim s1 r h3
  refine ⟨by rw [← a2, sizeLine_eq]; omega, fun p np => ⟨p, w, rfl, .inl (.inl upd_same), a2.symm, gNames_puts a2 ?_⟩⟩
  have k := upd_keeps (o := .tup w) np
  exact h2 _ _ O1 (.of_same k) (a1.same k)
/-! ### return x, an owned list moved out -/
theorem tRetv_S {i : Nat} {D : Ends} (h : tS K F ((mvVar i).bind fun v => M.pure (.ret v)) D σ H) : tRet (tVar i) D σ H := by
  obtain ⟨G, O, e, m, s, f, e', m', h1, h2⟩ := h
  obtain ⟨v, ⟨e1, m1⟩, h3, h4⟩ := bind_ok h1
  cases h4
  unfold mvVar at h3
  dsimp only at h3
  cases q : e[i]? with
  | none => rw [q] at h3; cases h3
  | some x =>
    rw [q] at h3
    have sl := s.slot i x q
    cases x with
    | unset => cases h3
    | val d =>
      cases h3
      obtain ⟨y, k1, k2⟩ := sl
      exact ⟨y, k1, h2 σ H O .refl s y k2⟩
    | tab w es => cases h3
    | sto n =>
      cases h3
      obtain ⟨a, k1, k2⟩ := sl
      exact ⟨_, k1, h2 σ H O .refl s _ ⟨a, rfl, k2⟩⟩
    | own d =>
      cases h3
      obtain ⟨a, k1, k2, k3, k4⟩ := sl
      have s' : Sim K F G O σ H (e.set i .unset) m := by
        refine ⟨by rw [List.length_set]; exact s.len, fun j y z => ?_, fun j j' d1 d2 b z1 z2 o1 o2 => ?_, s.fg, s.go, s.live, s.nd, s.sl, s.st⟩
        · rw [set_get] at z
          split at z
          · split at z
            · cases z; trivial
            · cases z
          · exact s.slot j y z
        · rw [set_get] at z1 z2
          split at z1
          · split at z1
            · cases z1; cases o1
            · cases z1
          · split at z2
            · split at z2
              · cases z2; cases o2
              · cases z2
            · exact s.apart j j' d1 d2 b z1 z2 o1 o2
      refine ⟨_, k1, h2 σ H O .refl s' _ ⟨a, rfl, k2, k3, k4, fun j d2 z o zz => ?_⟩⟩
      rw [set_get] at z
      split at z
      · split at z
        · cases z; cases o
        · cases z
      · rename_i ne
        exact ne (s.apart i j (.own d) d2 a q z rfl o k1 zz)
/-! ### sorted(set(..)) -/
theorem tR_mono {α β : Type} {R : Rel α β} {x : M α} {Q Q' : β → Hp → Prop} (h : tR K F R x σ H Q) (k : ∀ w H, Q w H → Q' w H) : tR K F R x σ H Q' := by
  obtain ⟨G, O, e, m, h⟩ := h
  exact (h.mono k).tr
theorem tSrt_D {w : World} {x : M Opd} {Q : VK} (h : tD K F (x.bind fun x => x.now.bind fun d => lift (O1.srtset.den d)) σ H Q) : tCB (rSortedSet w) (tCons (tCB (rSetL K w) (tCons (tO K F x) tNil)) tNil) σ H Q := by
  refine tR_mono (tUn_D h) fun v H1 q => ?_
  obtain ⟨G, O, σ, e, m, d, z, cd, hv, wt⟩ := q
  cases d with
  | list ds =>
    obtain ⟨l, h1, h2⟩ := Option.bind_eq_some_iff.mp (show (ints? ds).bind _ = some z from hv)
    obtain ⟨h3, h4⟩ := some_ite h2
    subst h4
    obtain ⟨a, xs, rfl, sq, rp⟩ := cd.lst
    have ex := ints_rep rp h1
    subst ex
    refine ⟨a, l, rfl, sq, h3, fun p c np hc => ?_⟩
    refine ⟨p, _, c, rfl, upd_same, by omega, fun ns p2 up mem len np2 => ?_⟩
    have en : ns = usort l := up_eq up (usort_up l) fun k => by rw [mem k, usort_mem, decide_eq_true_eq]
    subst en
    have k := upd_keeps (o := SetO w p (fun j => decide (j ∈ l)) c) np
    have s2 := wt.1.same k
    refine wt.2 _ _ _ ((Grow.of_same k).trans (.new np2) wt.1.fo) (s2.newOwn np2) ⟨p2, rfl, .inr rfl, fun z => s2.new np2 (s2.go p2 z), ⟨_, upd_same, rep_ints _⟩, s2.notOwn np2⟩
  | _ => cases hv
end
end Fb

namespace Fb
open PySem PySem.Spec PyProof.Rows L2
section
variable {X : Cx} {F : List Addr} {K : PySem.W.Frag} {G O O' : Own} {σ : L2.St} {H H' : Hp} {e : List Slot} {m : Mu}
/-! ### arguments -/
def ARep (K : PySem.W.Frag) (F : List Addr) (O : Own) (H : Hp) (v : V) : Val → Prop
  | .dat d => Rep K O H v d
  | .uni _ => False
  | .sto n => ∃ a, v = .ref a ∧ F[n]? = some a
  | .tab _ _ => False
def AsRep (K : PySem.W.Frag) (F : List Addr) (O : Own) (H : Hp) : List V → List Val → Prop
  | [], [] => True
  | v :: vs, x :: xs => ARep K F O H v x ∧ AsRep K F O H vs xs
  | _, _ => False
theorem ARep.stays {v : V} {x : Val} (st : Stays O H O' H') (r : ARep K F O H v x) : ARep K F O' H' v x := by
  cases x with
  | dat d => exact Rep.stays st r
  | uni d => exact r.elim
  | tab w es => exact r.elim
  | sto n => exact r
theorem AsRep.stays (st : Stays O H O' H') : ∀ {vs : List V} {xs : List Val}, AsRep K F O H vs xs → AsRep K F O' H' vs xs
  | [], [], _ => trivial
  | [], _ :: _, h => h.elim
  | _ :: _, [], h => h.elim
  | _ :: _, _ :: _, ⟨h1, h2⟩ => ⟨h1.stays st, AsRep.stays st h2⟩
theorem AsRep.append : ∀ {vs ws : List V} {xs ys : List Val}, AsRep K F O H vs xs → AsRep K F O H ws ys → AsRep K F O H (vs ++ ws) (xs ++ ys)
  | [], _, [], _, _, q => q
  | [], _, _ :: _, _, h, _ => h.elim
  | _ :: _, _, [], _, h, _ => h.elim
  | _ :: _, _, _ :: _, _, ⟨h1, h2⟩, q => ⟨h1, h2.append q⟩
theorem AsRep.length : ∀ {vs : List V} {xs : List Val}, AsRep K F O H vs xs → vs.length = xs.length
  | [], [], _ => rfl
  | [], _ :: _, h => h.elim
  | _ :: _, [], h => h.elim
  | _ :: _, _ :: _, ⟨_, h2⟩ => congrArg (· + 1) h2.length
theorem AsRep.get : ∀ {vs : List V} {xs : List Val} {i : Nat} {x : Val}, AsRep K F O H vs xs → xs[i]? = some x → ∃ v, vs[i]? = some v ∧ ARep K F O H v x
  | [], [], _, _, _, h => by simp at h
  | [], _ :: _, _, _, h, _ => h.elim
  | _ :: _, [], _, _, h, _ => h.elim
  | v :: _, x :: _, 0, y, ⟨h1, _⟩, h => by simp at h; subst h; exact ⟨v, rfl, h1⟩
  | _ :: vs, _ :: xs, i + 1, y, ⟨_, h2⟩, h => by
    obtain ⟨v, q1, q2⟩ := AsRep.get (i := i) h2 (by simpa using h)
    exact ⟨v, by simpa using q1, q2⟩
def VsRep (K : PySem.W.Frag) (F : List Addr) (G O : Own) (σ : L2.St) (H : Hp) (e : List Slot) (ws : List V) (xs : List Val) : Prop := AsRep K F O H ws xs
abbrev tVs (K : PySem.W.Frag) (F : List Addr) (x : M (List Val)) : TA := tR K F (VsRep K F) x
theorem tCons_Vs {x : M Val} {y : M (List Val)} {Q : List V → Hp → Prop} (h : tVs K F (x.bind fun v => y.bind fun vs => argsM v vs) σ H Q) : tCons (tD K F x) (tVs K F y) σ H Q := by
  obtain ⟨G, O, e, m, h⟩ := h
  obtain ⟨v, h⟩ := At.bind (R := VRep K F) h
  refine (h.mono fun w H1 q => ?_).tr
  obtain ⟨O1, e1, m1, g, r, s1, us, e2, m2, h1, h2⟩ := q
  obtain ⟨xs, ⟨e3, m3⟩, h3, h4⟩ := bind_ok h1
  cases v with
  | dat d => cases h4; exact ⟨G, O1, e1, m1, s1, xs, _, _, h3, fun ws H2 O2 g2 s2 r2 => h2 _ H2 O2 g2 s2 ⟨Rep.stays (g2.stays s1.fo) r, r2⟩⟩
  | sto n => cases h4; exact ⟨G, O1, e1, m1, s1, xs, _, _, h3, fun ws H2 O2 g2 s2 r2 => h2 _ H2 O2 g2 s2 ⟨r, r2⟩⟩
  | tab w es => cases h4
  | uni d =>
    cases h4
    obtain ⟨a, rfl, k1, k2, k3, k4⟩ := r
    have s1' := s1.minus k2 k4
    exact ⟨G, minus O1 a, e1, m1, s1', xs, _, _, h3, fun ws H2 O2 g2 s2 r2 => h2 _ H2 O2 (Grow.minus.trans g2 s1.fo) s2 ⟨Rep.stays (g2.stays s1'.fo) k3.rep, r2⟩⟩
theorem tNil_Vs {Q : List V → Hp → Prop} (h : tVs K F (M.pure []) σ H Q) : tNil σ H Q := by
  obtain ⟨G, O, e, m, h⟩ := h
  exact At.pure h (show AsRep K F O H [] [] from trivial)
/-! ### a def's promise -/
def spD (K : PySem.W.Frag) (n : Nat) (g : Fn) : Sp := fun vs H Q _ => ∃ F O m ws v m', vs.length = n ∧ Sim K F O O [] H [] m ∧ AsRep K F O H vs ws ∧ g ws m = .ok (v, m') ∧
  ∀ w H' O', Grow F O O H O' H' → Sim K F O O' [] H' [] m' → VRep K F O O' [] H' [] w v → Q w H'
/-- the state without its names, all that is owned watched over -/
theorem Sim.bare (s : Sim K F G O σ H e m) : Sim K F O O [] H [] m :=
  ⟨rfl, fun i x h => by simp at h, fun i j d d2 a h => by simp at h, s.fo, fun a h => h, s.live, s.nd, s.sl, s.st⟩
theorem Sim.names (s : Sim K F G O σ H e m) : Sim K F G O [] H [] m :=
  ⟨rfl, fun i x h => by simp at h, fun i j d d2 a h => by simp at h, s.fg, s.go, s.live, s.nd, s.sl, s.st⟩
theorem VRep.names {v : V} {x : Val} (r : VRep K F G O σ H e v x) : VRep K F G O [] H [] v x := by
  cases x with
  | dat d => exact r
  | sto n => exact r
  | uni d =>
    obtain ⟨a, rfl, k1, k2, k3, k4⟩ := r
    exact ⟨a, rfl, k1, k2, k3, fun i d2 h => by simp at h⟩
  | tab w es =>
    obtain ⟨a, rfl, k1, k2, k3, k4⟩ := r
    exact ⟨a, rfl, k1, k2, k3, fun i d2 h => by simp at h⟩
theorem Grow.weak (go : ∀ a, G a → O a) (g : Grow F O O H O' H') : Grow F G O H O' H' :=
  ⟨fun a u q hf c => g.keep a u q hf (c.elim .inl fun z => .inr (go a z)), g.own⟩
/-- behind a call the caller's names stand as before -/
theorem Sim.back {m' : Mu} (s : Sim K F G O σ H e m) (g : Grow F O O H O' H') (s' : Sim K F O O' [] H' [] m') : Sim K F G O' σ H' e m' := by
  have st := g.stays s.fo
  refine ⟨s.len, fun i x h => ?_, s.apart, s.fg, fun a h => s'.go a (s.go a h), s'.live, s'.nd, s'.sl, s'.st⟩
  have sl := s.slot i x h
  cases x with
  | unset => trivial
  | val d => obtain ⟨y, h1, h2⟩ := sl; exact ⟨y, h1, h2.stays st⟩
  | own d =>
    obtain ⟨a, h1, h2, h3, h4⟩ := sl
    have nf : a ∉ F := fun z => h3 (s.fg a z)
    exact ⟨a, h1, s'.go a h2, h3, h4.stays st fun o q => g.keep a o q nf (.inr h2)⟩
  | sto n => exact sl
  | tab w es =>
    obtain ⟨a, h1, h2, h3, h4⟩ := sl
    have nf : a ∉ F := fun z => h3 (s.fg a z)
    exact ⟨a, h1, s'.go a h2, h3, h4.to st fun o q => g.keep a o q nf (.inr h2)⟩
theorem VRep.back {m' : Mu} {v : V} {x : Val} (s : Sim K F G O σ H e m) (r : VRep K F O O' [] H' [] v x) : VRep K F G O' σ H' e v x := by
  cases x with
  | dat d => exact r
  | sto n => exact r
  | uni d =>
    obtain ⟨a, rfl, k1, k2, k3, k4⟩ := r
    refine ⟨a, rfl, k1, fun z => k2 (s.go a z), k3, fun i d2 h o z => ?_⟩
    obtain ⟨b, z1, z2, _⟩ := (s.slot i _ h).ref o
    rw [z] at z1
    cases z1
    exact k2 z2
  | tab w es =>
    obtain ⟨a, rfl, k1, k2, k3, k4⟩ := r
    refine ⟨a, rfl, k1, fun z => k2 (s.go a z), k3, fun i d2 h o z => ?_⟩
    obtain ⟨b, z1, z2, _⟩ := (s.slot i _ h).ref o
    rw [z] at z1
    cases z1
    exact k2 z2
theorem At.call {g : Fn} {vs : List Val} {ws : List V} {Q : VK} (h : At K F (VRep K F) G O σ H e m (callFn g vs) Q) (r : AsRep K F O H ws vs) (E : XK) : spD K ws.length g ws H Q E := by
  obtain ⟨s, a, e', m', h1, h2⟩ := h
  unfold callFn at h1
  dsimp only at h1
  cases q : g vs m with
  | exc c fs => rw [q] at h1; cases h1
  | stuck => rw [q] at h1; cases h1
  | ok p =>
    obtain ⟨v, m1⟩ := p
    rw [q] at h1
    cases h1
    exact ⟨F, O, m, vs, _, _, rfl, s.bare, r, q, fun w H' O' g' s' r' => h2 w H' O' (g'.weak s.go) (s.back g' s') (VRep.back (m' := m') s r')⟩
theorem evVs_length : ∀ {es : List Ex} {ds : List Val} {s s' : S}, evVs es s = .ok (ds, s') → ds.length = es.length
  | [], ds, s, s', h => by
    unfold evVs at h
    cases h
    rfl
  | e :: es, ds, s, s', h => by
    unfold evVs at h
    obtain ⟨v, s1, h1, h⟩ := bind_ok h
    obtain ⟨dr, s3, h3, h⟩ := bind_ok h
    cases v with
    | tab w es => cases h
    | dat d => cases h; rw [List.length_cons, List.length_cons, evVs_length h3]
    | uni d => cases h; rw [List.length_cons, List.length_cons, evVs_length h3]
    | sto d => cases h; rw [List.length_cons, List.length_cons, evVs_length h3]
/-- f(..) -/
theorem tCall_D {g : Fn} {es : List Ex} {E : XK} {Q : VK} (h : tD K F ((evVs es).bind fun vs => (evVs []).bind fun ws => callFn g (vs ++ ws)) σ H Q) : tCall (spD K es.length g) [] E (tVs K F (evVs es)) σ H Q := by
  obtain ⟨G, O, e, m, h⟩ := h
  obtain ⟨vs, ⟨s1, hl⟩, h⟩ := At.bind2 (R := VsRep K F) h
  refine (h.mono fun ws H1 q => ?_).tr
  obtain ⟨O1, e1, m1, g1, r, h⟩ := q
  have r : AsRep K F O1 H1 ws vs := r
  have h := At.same (a := []) h fun b s' z => by
    unfold evVs at z
    cases z
    exact ⟨rfl, rfl⟩
  have q := At.call h (ws := ws ++ []) (r.append trivial) E
  rw [List.length_append, List.length_nil, Nat.add_zero, r.length, evVs_length hl] at q
  exact q
/-- f(.., k = ..): all parameters written, the keywords in the order of their parameters -/
theorem tCallN_D {g : Fn} {es gs : List Ex} {E : XK} {Q : VK} {gV : List V → List V → List V} {pm : List Val → List Val} (h : tD K F ((evVs es).bind fun vs => (evVs gs).bind fun ws => callFn (fun xs mu => g (pm xs) mu) (vs ++ ws)) σ H Q)
    (hp : ∀ (O : Own) (H : Hp) (vs ws : List V) (xs ys : List Val), vs.length = es.length → ws.length = gs.length → AsRep K F O H vs xs → AsRep K F O H ws ys → AsRep K F O H (gV vs ws) (pm (xs ++ ys)) ∧ (gV vs ws).length = es.length + gs.length) :
    tCallN es.length gs.length (spD K (es.length + gs.length) g) gV E (tVs K F (evVs es)) (tVs K F (evVs gs)) σ H Q := by
  obtain ⟨G, O, e, m, h⟩ := h
  obtain ⟨vs, ⟨s1, hl⟩, h⟩ := At.bind2 (R := VsRep K F) h
  refine (h.mono fun ws H1 q => ?_).tr
  obtain ⟨O1, e1, m1, g1, r, h⟩ := q
  have r : AsRep K F O1 H1 ws vs := r
  have s1 := h.sim
  obtain ⟨us, ⟨s2, hl2⟩, h⟩ := At.bind2 (R := VsRep K F) h
  refine (h.mono fun zs H2 q => ?_).tr
  obtain ⟨O2, e2, m2, g2, r2, h⟩ := q
  have r2 : AsRep K F O2 H2 zs us := r2
  have l1 : ws.length = es.length := by rw [r.length, evVs_length hl]
  have l2 : zs.length = gs.length := by rw [r2.length, evVs_length hl2]
  obtain ⟨q1, q2⟩ := hp O2 H2 ws zs vs us l1 l2 (r.stays (g2.stays s1.fo)) r2
  refine ⟨l1, l2, ?_⟩
  have h' : At K F (VRep K F) G O2 σ H2 e2 m2 (callFn g (pm (vs ++ us))) Q := h
  have q := At.call h' q1 E
  rw [q2] at q
  exact q
/-! ### a def by its body -/
theorem start_sim {N : List Str} {vs : List V} {ws : List Val} {n : Nat} (s : Sim K F O O [] H [] m) (r : AsRep K F O H vs ws) (hn : n = N.length) (hl : vs.length ≤ N.length) :
    Sim K F O O (start N vs) H (ws.map slotOf ++ List.replicate (n - ws.length) .unset) m := by
  have lw := r.length
  have noOwn : ∀ (i : Nat) (y : Slot), ownS y = true → (ws.map slotOf ++ List.replicate (n - ws.length) Slot.unset)[i]? ≠ some y := fun i y o h => by
    rcases List.mem_append.mp (List.mem_of_getElem? h) with z | z
    · obtain ⟨x, hx, e1⟩ := List.mem_map.mp z
      obtain ⟨j, hj⟩ := List.getElem?_of_mem hx
      obtain ⟨v, _, q⟩ := r.get hj
      cases x with
      | dat d => subst e1; cases o
      | sto d => subst e1; cases o
      | uni d => exact q.elim
      | tab w es => exact q.elim
    · have := List.eq_of_mem_replicate z
      subst this
      cases o
  refine ⟨?_, fun i x h => ?_, fun i j d d2 a h _ o => absurd h (noOwn i d o), s.fg, s.go, s.live, s.nd, s.sl, s.st⟩
  · unfold L2.start
    simp only [List.length_append, List.length_map, List.length_replicate]
    omega
  · by_cases hi : i < ws.length
    · rw [List.getElem?_append_left (by simpa using hi), List.getElem?_map] at h
      cases q : ws[i]? with
      | none => rw [q] at h; cases h
      | some y =>
        rw [q] at h
        cases h
        obtain ⟨v, z1, z2⟩ := r.get q
        have st : (start N vs)[i]? = some (some v) := by
          unfold L2.start
          rw [List.getElem?_append_left (by rw [List.length_map]; omega), List.getElem?_map, z1]
          rfl
        rw [st]
        cases y with
        | dat d => exact ⟨v, rfl, z2⟩
        | uni d => exact z2.elim
        | tab w es => exact z2.elim
        | sto n => obtain ⟨a, rfl, z2⟩ := z2; exact ⟨a, rfl, z2⟩
    · rw [List.getElem?_append_right (by simpa using hi)] at h
      have := List.eq_of_mem_replicate (List.mem_of_getElem? h)
      subst this
      trivial
/-- the body's reading from the promise -/
theorem run_sp {N : List Str} {vs : List V} {np : Nat} {b : List Sm} {Q : VK} {E : XK} (hl : np ≤ N.length) (h : spD K np (runFn N.length b) vs H Q E) : ∃ F, tS K F (evSs b) { nx := fun _ H' => Q .non H', rt := Q } (start N vs) H := by
  obtain ⟨F, O, m, ws, v, m', h1, s, r, h2, h3⟩ := h
  have s0 := start_sim (n := N.length) s r rfl (by omega)
  unfold runFn at h2
  cases q : evSs b ⟨ws.map slotOf ++ List.replicate (N.length - ws.length) .unset, m⟩ with
  | exc c fs => rw [q] at h2; cases h2
  | stuck => rw [q] at h2; cases h2
  | ok p =>
    obtain ⟨f, e', m2⟩ := p
    rw [q] at h2
    refine ⟨F, O, O, _, m, s0, f, e', m2, q, fun σ' H' O' g s' => ?_⟩
    cases f with
    | nx => cases h2; exact h3 _ H' O' g s'.names .non
    | brk => cases h2
    | cnt => cases h2
    | ret u => cases h2; exact fun w rw' => h3 w H' O' g s'.names rw'.names
end
/-! ### defs: as FnOk, but no guard runs -/
structure FG (P : Program) (w : World) (K : PySem.W.Frag) (mg : Str → Option Value) (base : Heap) (CX : CXT) (k : Nat) (f : Addr) (fd : FuncData) (ps : List Str) (sp : Sp) : Prop where
  len : ∀ vs H Q E, sp vs H Q E → vs.length = ps.length
  run : ∀ (A : Around) (outer : List Env) (s : Shared) (H : Hp) (args : Args) (us : List Value) (vs : List V) (Q : VK) (E : XK), Room k A → A.guards = some [] → Env0 P w K mg base A outer s H → BindsTo s fd args (ps.zip us) → Vals vs us → sp vs H Q E →
    codeAny (model P w) A (.call (.ref f) args) (CR CX outer P w H s Q E) s
theorem FG.mono {P : Program} {w : World} {K : PySem.W.Frag} {mg : Str → Option Value} {base : Heap} {CX : CXT} {j k : Nat} {f : Addr} {fd : FuncData} {ps : List Str} {sp : Sp} (F : FG P w K mg base CX j f fd ps sp) (h : j ≤ k) :
    FG P w K mg base CX k f fd ps sp := ⟨F.len, fun A outer s H args us vs Q E hr => F.run A outer s H args us vs Q E (hr.mono h)⟩
section
variable {X : Cx} {CX : CXT} {k n : Nat} {f : Addr} {fd : FuncData} {ps ks : List Str} {sp : Sp} {E : XK} {x : Str} {p pos : Pos} {e : Expr} {es : List Expr} {kws : List Keyword} {t tk : TA} {g : List Value → List Value → List Value} {gV : List V → List V → List V}
theorem goG {pins : List (Addr × Obj)} {σ : L2.St} {H : Hp} {s : Shared} {Q : VK} {us : List Value} {vs : List V} {args : Args} (F : FG X.prog X.w X.K X.mg X.base CX k f fd ps sp) (hr : Room k X.A) (hg : X.A.guards = some []) (hx : Passes CX X E)
    (I : Inv X pins σ H s) (hb : BindsTo s fd args (ps.zip us)) (r : Vals vs us) (h : sp vs H Q E) : codeAny (model X.prog X.w) X.A (.call (.ref f) args) (fun r s' => match r with | .ok (.ret u) => EP X pins σ Q u s' | .ok _ => False | .error e => X.xe e s') s := by
  refine codeAny_mono (F.run X.A X.stack s H args us vs Q E hr hg I.env0 hb r h) fun r s' hq => ?_
  match r, hq with
  | .error e, hq => exact hx pins σ H s e s' I hq
  | .ok (.ret u), hq => exact I.after hq
  | .ok .next, hq => exact hq.elim
  | .ok .brk, hq => exact hq.elim
  | .ok .cont, hq => exact hq.elim
theorem pe_callg (F : FG X.prog X.w X.K X.mg X.base CX k f fd ps sp) (hr : Room k X.A) (hgd : X.A.guards = some []) (hg : Gl X x) (hm : X.mg x = some (.ref f)) (hk : PySem.W.keepIn X.K (.ref f) = true) (hb : Binds X.K fd ps []) (hx : Passes CX X E)
    (ha : PA X (e :: es) t) (hdb : (x == ("__debug__" : Str)) = false := by decide) (he : starEach (e :: es) X.env = (false, eval e X.env) :: starEach es X.env := by rfl) (hpl : (backTo pos (starEach es X.env)).any (·.1) = false := by rfl) :
    PE X (.Call (.Name x p) (e :: es) [] pos) (tCall sp [] E t) := by
  constructor
  intro pins s σ H Q I h
  refine wpAny_Call_Name_kw (ld_glob I hg hm ?_ hdb)
  refine PySem.W.callWith_K (h₀ := X.base) I.ok.mod.kin hk (thn (ha.run pos pins s σ H _ I h) fun us s1 ⟨vs, H1, I1, r, q⟩ => ⟨I1.kIn, ?_⟩) he hpl
  have hl : (us ++ []).length = ps.length := by
    have := F.len _ _ _ _ q
    simp only [List.append_nil] at this ⊢
    rw [← r.length]; exact this
  have q' : sp vs H1 Q E := by simpa using q
  have hb' := hb s1 us I1.kIn hl
  rw [List.append_nil] at hb'
  refine wpAny_call (codeAny_mono (goG F hr hgd hx I1 hb' r q') fun r s' hq => ?_)
  match r, hq with
  | .error e, hq => exact hq
  | .ok (.ret u), hq => exact hq
  | .ok .next, hq => exact hq.elim
  | .ok .brk, hq => exact hq.elim
  | .ok .cont, hq => exact hq.elim
theorem pe_callg0 (F : FG X.prog X.w X.K X.mg X.base CX k f fd ps sp) (hr : Room k X.A) (hgd : X.A.guards = some []) (hg : Gl X x) (hm : X.mg x = some (.ref f)) (hk : PySem.W.keepIn X.K (.ref f) = true) (hb : Binds X.K fd ps []) (hx : Passes CX X E)
    (hdb : (x == ("__debug__" : Str)) = false := by decide) : PE X (.Call (.Name x p) [] [] pos) (tCall sp [] E tNil) := by
  constructor
  intro pins s σ H Q I h
  have h : sp [] H Q E := h
  refine wpAny_Call_Name_kw (ld_glob I hg hm ?_ hdb)
  refine PySem.W.callWith_K0 I.kIn hk ?_
  have hl : ([] ++ [] : List Value).length = ps.length := F.len _ _ _ _ h
  refine wpAny_call (codeAny_mono (goG (us := []) F hr hgd hx I (hb s [] I.kIn hl) .nil h) fun r s' hq => ?_)
  match r, hq with
  | .error e, hq => exact hq
  | .ok (.ret u), hq => exact hq
  | .ok .next, hq => exact hq.elim
  | .ok .brk, hq => exact hq.elim
  | .ok .cont, hq => exact hq.elim
/-- keywords alone -/
theorem pe_callgK (F : FG X.prog X.w X.K X.mg X.base CX k f fd ps sp) (hr : Room k X.A) (hgd : X.A.guards = some []) (hg : Gl X x) (hm : X.mg x = some (.ref f)) (hk : PySem.W.keepIn X.K (.ref f) = true) (hb : KBn X.K fd ps 0 ks g gV) (hx : Passes CX X E)
    (hkw : PK X kws tk) (hall : (backToKw pos (keywordEach kws X.env)).all (·.1.isSome) = true := by rfl) (hks : (backToKw pos (keywordEach kws X.env)).filterMap (·.1) = ks := by rfl)
    (hdb : (x == ("__debug__" : Str)) = false := by decide)
    (hpl : (backToKw pos (keywordEach kws X.env)).any (·.1.isNone) = false := by rfl) (hne : kws.isEmpty = false := by rfl) :
    PE X (.Call (.Name x p) [] kws pos) (tCallN 0 ks.length sp gV E tNil tk) := by
  constructor
  intro pins s σ H Q I h
  refine wpAny_Call_Name_kw (ld_glob I hg hm ?_ hdb)
  refine PySem.W.callWith_KW0 (h₀ := X.base) I.ok.mod.kin hk hall ?_ hpl
  refine thn (hkw.run pos pins s σ H _ I h) fun ws s2 ⟨zs, H2, I2, rz, l1, l2, q2⟩ => ⟨I2.kIn, ?_⟩
  rw [hks]
  refine wpAny_call (codeAny_mono (goG F hr hgd hx I2 (hb.to s2 [] ws I2.kIn rfl (rz.length.symm.trans l2)) (hb.rel .nil rz) q2) fun r s' hq => ?_)
  match r, hq with
  | .error e, hq => exact hq
  | .ok (.ret u), hq => exact hq
  | .ok .next, hq => exact hq.elim
  | .ok .brk, hq => exact hq.elim
  | .ok .cont, hq => exact hq.elim
/-- with keywords: n positional values -/
theorem pe_callgN (F : FG X.prog X.w X.K X.mg X.base CX k f fd ps sp) (hr : Room k X.A) (hgd : X.A.guards = some []) (hg : Gl X x) (hm : X.mg x = some (.ref f)) (hk : PySem.W.keepIn X.K (.ref f) = true) (hb : KBn X.K fd ps n ks g gV) (hx : Passes CX X E)
    (ha : PA X (e :: es) t) (hkw : PK X kws tk) (hall : (backToKw pos (keywordEach kws X.env)).all (·.1.isSome) = true := by rfl) (hks : (backToKw pos (keywordEach kws X.env)).filterMap (·.1) = ks := by rfl)
    (hdb : (x == ("__debug__" : Str)) = false := by decide) (he : starEach (e :: es) X.env = (false, eval e X.env) :: starEach es X.env := by rfl)
    (hpl : ((backTo pos (starEach (e :: es) X.env)).any (·.1) || (backToKw pos (keywordEach kws X.env)).any (·.1.isNone)) = false := by rfl) :
    PE X (.Call (.Name x p) (e :: es) kws pos) (tCallN n ks.length sp gV E t tk) := by
  constructor
  intro pins s σ H Q I h
  refine wpAny_Call_Name_kw (ld_glob I hg hm ?_ hdb)
  refine PySem.W.callWith_KW (h₀ := X.base) I.ok.mod.kin hk hall (thn (ha.run pos pins s σ H _ I h) fun us s1 ⟨vs, H1, I1, r, q⟩ => ?_) hpl he
  refine thn (hkw.run pos pins s1 σ H1 _ I1 q) fun ws s2 ⟨zs, H2, I2, rz, l1, l2, q2⟩ => ⟨I2.kIn, ?_⟩
  rw [hks]
  refine wpAny_call (codeAny_mono (goG F hr hgd hx I2 (hb.to s2 us ws I2.kIn (r.length.symm.trans l1) (rz.length.symm.trans l2)) (hb.rel r rz) q2) fun r s' hq => ?_)
  match r, hq with
  | .error e, hq => exact hq
  | .ok (.ret u), hq => exact hq
  | .ok .next, hq => exact hq.elim
  | .ok .brk, hq => exact hq.elim
  | .ok .cont, hq => exact hq.elim
end
end Fb

namespace Fb
open PySem PySem.Spec PyProof.Rows L2
/-! ### a def of the text, by its body, at one place of the stack -/
theorem body_at {CX : CXT} {P : Program} {w : World} {K : PySem.W.Frag} {mg : Str → Option Value} {base : Heap} {k : Nat} {f : Addr} {name qual : Str} {params : Arguments} {body : List Stmt} {scope : Scope} {dV kV doc pm cdv ct oc : Value} {an od : Option Addr}
    {osl : Array (Option Value)} {N ps : List Str} {A : Around} {outer : List Env} {s : Shared} {H : Hp} {args : Args} {us : List Value} {vs : List V} {Q : VK} {E : XK} {t : TS}
    (lk : K.lookup f = some ⟨oc, od, .func (PySem.W.fnOf name qual params body scope dV kV doc pm an cdv ct), osl⟩) (hcd : PySem.W.codeIn K cdv qual = true) (S : FnScope N ps scope) (hl : vs.length = ps.length) (hr : Room (k + 1) A) (e0 : Env0 P w K mg base A outer s H)
    (hb : BindsTo s (PySem.W.fnOf name qual params body scope dV kV doc pm an cdv ct) args (ps.zip us)) (r : Vals vs us)
    (ht : PSs (cxOf CX P w K mg base N qual scope f cdv A outer s H E) body t) (hq : t { nx := fun _ H' => Q .non H', rt := Q } (L2.start N vs) H) :
    codeAny (model P w) A (.call (.ref f) args) (CR CX outer P w H s Q E) s := by
  have kp : ∀ b o, base.get? b = some o → s.heap.get? b = some o := fun b o z => (e0.bs b o z).1
  have hK := e0.mod.kin.keeps kp
  refine codeAny_call_function hr.depth (hK _ _ lk) rfl S.co S.gen rfl (PySem.W.codeRec_of hK hcd) (hb _ _ _ _ ?_)
  refine wpAny_newFunctionEnv_cells S.kind (fun y hy => ?_) fun env he s1 x => ?_
  · exact (S.par y.1 (List.of_mem_zip (a := y.1) (b := y.2) hy).1).imp id fun z => ⟨z, PySem.W.cellsFrom_some _ _ _ (.inl z)⟩
  · subst he
    refine ⟨(e0.mod.nolimit.keeps kp).keeps x.toInCall.keep, codeAny_func (wpAny_mono (ht.run [] s1 _ H _ (inv_start S hr.hd e0 hl r x) hq) (fun fl s' hs => ?_) fun _ _ z => z)⟩
    match fl, hs with
    | .ret u, ⟨v, _, H', J, rv, q⟩ => exact ⟨v, H', J.os, J.bare, J.base, J.hok, rv, q⟩
    | .next, ⟨_, H', J, q⟩ => exact ⟨.non, H', J.os, J.bare, J.base, J.hok, rfl, q⟩
    | .brk, ⟨_, _, _, q⟩ => exact q.elim
    | .cont, ⟨_, _, _, q⟩ => exact q.elim
section
variable {P : Program} {w : World} {K : PySem.W.Frag} {mg : Str → Option Value} {base : Heap} {x qual : Str} {params : Arguments} {body : List Stmt} {scope : Scope} {dvs : List V} {kws : List (Str × V)} {f : Addr} {fd : FuncData}
/-- what a body is proved over -/
theorem fg_of {CX : CXT} {N ps : List Str} {k : Nat} {b : List Sm} (D : FunD K x qual params body scope dvs kws f fd) (S : FnScope N ps scope)
    (hbody : ∀ (cdv : Value) (A : Around) (outer : List Env) (s : Shared) (H : Hp) (E : XK), Room k (A.deeper (envOfC qual scope s.heap.objs.size f cdv)) → (A.deeper (envOfC qual scope s.heap.objs.size f cdv)).guards = some [] →
      ∀ F : List Addr, PSs (cxOf CX P w K mg base N qual scope f cdv A outer s H E) body (tS K F (evSs b))) : FG P w K mg base CX (k + 1) f fd ps (spD K ps.length (runFn N.length b)) := by
  have hpl : ps.length ≤ N.length := by have := congrArg List.length S.pre; rw [List.length_take] at this; omega
  refine ⟨fun vs H Q E h => ?_, fun A outer s H args us vs Q E hr hg e0 hb r h => ?_⟩
  · obtain ⟨F, O, m, ws, v, m', h1, _⟩ := h
    exact h1
  · obtain ⟨oc, od, dV, kV, doc, pm, an, cdv, ct, osl, rfl, lk, hcd, _, _⟩ := D.ex
    have hl : vs.length = ps.length := by
      obtain ⟨F, O, m, ws, v, m', h1, _⟩ := h
      exact h1
    obtain ⟨F, q⟩ := run_sp hpl h
    exact body_at lk hcd S hl hr e0 hb r (hbody cdv A outer s H E (hr.deeper _) hg F) q
/-! ### keywords -/
def permL {α : Type} (ix : List Nat) (l : List α) : List α := ix.filterMap (l[·]?)
theorem permL_cons {α : Type} {i : Nat} {ix : List Nat} {l : List α} {x : α} (h : l[i]? = some x) : permL (i :: ix) l = x :: permL ix l := by
  unfold permL
  rw [List.filterMap_cons, h]
theorem permL_none {α : Type} {i : Nat} {ix : List Nat} {l : List α} (h : l[i]? = none) : permL (i :: ix) l = permL ix l := by
  unfold permL
  rw [List.filterMap_cons, h]
theorem AsRep.perm {F : List Addr} {O : Own} {H : Hp} {vs : List V} {xs : List Val} (r : AsRep K F O H vs xs) : ∀ ix : List Nat, AsRep K F O H (permL ix vs) (permL ix xs)
  | [] => trivial
  | i :: ix => by
    cases q : xs[i]? with
    | none =>
      have q' : vs[i]? = none := List.getElem?_eq_none (by rw [r.length]; exact List.getElem?_eq_none_iff.mp q)
      rw [permL_none q, permL_none q']
      exact r.perm ix
    | some y =>
      obtain ⟨v, z1, z2⟩ := r.get q
      rw [permL_cons q, permL_cons z1]
      exact ⟨z2, r.perm ix⟩
theorem permL_length {α : Type} {l : List α} : ∀ {ix : List Nat}, (∀ i ∈ ix, i < l.length) → (permL ix l).length = ix.length
  | [], _ => rfl
  | i :: ix, h => by
    rw [permL_cons (List.getElem?_eq_getElem (h i List.mem_cons_self)), List.length_cons, List.length_cons, permL_length fun j hj => h j (List.mem_cons_of_mem _ hj)]
theorem vals_perm {vs : List V} {us : List Value} (r : Vals vs us) : ∀ ix : List Nat, Vals (permL ix vs) (permL ix us)
  | [] => .nil
  | i :: ix => by
    cases q : vs[i]? with
    | none =>
      have q' : us[i]? = none := List.getElem?_eq_none (by rw [← r.length]; exact List.getElem?_eq_none_iff.mp q)
      rw [permL_none q, permL_none q']
      exact vals_perm r ix
    | some y =>
      obtain ⟨v, z1, z2⟩ := r.get q
      rw [permL_cons q, permL_cons z1]
      exact .cons z2 (vals_perm r ix)
theorem kbn_of {ps ks : List Str} {n : Nat} (D : FunD K x qual params body scope [] kws f fd) (ix : List Nat)
    (h : ∀ (kV doc pm : Value) (an : Option Addr) (cdv ct : Value) (us ws : List Value), us.length = n → ws.length = ks.length → bindArgs (PySem.W.fnOf x qual params body scope .none kV doc pm an cdv ct) ⟨us, ks.zip ws⟩ = pure (ps.zip (permL ix (us ++ ws)))) :
    KBn K fd ps n ks (fun us ws => permL ix (us ++ ws)) (fun vs zs => permL ix (vs ++ zs)) := by
  obtain ⟨oc, od, dV, kV, doc, pm, an, cdv, ct, osl, rfl, lk, hcd, hD, hK⟩ := D.ex
  rcases hD with ⟨_, rfl⟩ | ⟨e, _⟩
  · exact ⟨fun s us ws X l1 l2 => .of_eq (h kV doc pm an cdv ct us ws l1 l2), fun r1 r2 => vals_perm (r1.append r2) ix⟩
  · exact absurd rfl e
theorem tCallP_D {F : List Addr} {g : Fn} {es gs : List Ex} {E : XK} {Q : VK} {σ : L2.St} {H : Hp} {ix : List Nat} (hi : ix.length = es.length + gs.length) (hb : (ix.all fun i => decide (i < es.length + gs.length)) = true)
    (h : tD K F ((evVs es).bind fun vs => (evVs gs).bind fun ws => callFn (fun xs mu => g (permL ix xs) mu) (vs ++ ws)) σ H Q) :
    tCallN es.length gs.length (spD K (es.length + gs.length) g) (fun vs zs => permL ix (vs ++ zs)) E (tVs K F (evVs es)) (tVs K F (evVs gs)) σ H Q :=
  tCallN_D h fun O H vs ws xs ys l1 l2 r1 r2 => ⟨(r1.append r2).perm ix, by
    rw [permL_length, hi]
    intro i hm
    rw [List.length_append, l1, l2]
    exact of_decide_eq_true (List.all_eq_true.mp hb i hm)⟩
end
/-! ### the law's end -/
/-- at the entry: the script alone is tracked -/
theorem law_g {P : Program} {w : World} {K : PySem.W.Frag} {mg mb : Str → Option Value} {k : Nat} {fa a : Addr} {fd : FuncData} {x : Str} {sp : Sp} {s1 : Shared} {vs : List Value} {ns : List Int}
    (hK : K.In s1.heap) (hns : s1.heap.Ns mainGlobals mg) (hb : s1.heap.Ns builtinsNs mb) (hbb : ∀ x : Str, x ≠ "__name__" → mb x = bootBuiltins x) (hlim : s1.heap.NoLimit) (hg : s1.gens = #[])
    (ha : s1.heap.get? a = some { cls := .type "list", data := .seq vs.toArray }) (hi : IntsAre vs ns) (hl : ns.length ≤ sizeLine) (hr : Room k callerA)
    (F : ∀ base : Heap, K.In base → base.Ns mainGlobals mg → FG P w K mg base CX0 k fa fd [x] sp) (hbind : ∀ (s : Shared) (u : Value), BindsTo s fd ⟨[u], []⟩ [(x, u)])
    (hsp : ∀ H : Hp, SqL K H a (ns.map V.int) → sp [.ref a] H (fun v _ => v = .bl true) E0) :
    codeAny (model P w) callerA (.call (.ref fa) ⟨[.ref a], []⟩) (fun r s' => r = .ok (.ret (.bool true)) ∧ OldK s1.heap s'.heap ∧ s'.os = s1.os ∧ AllBare s'.gens) s1 := by
  have rv := vals_ints hi
  have zv : vs.length ≤ sizeLine := by rw [hi.length]; exact hl
  obtain ⟨H, hH, hS⟩ : ∃ H : Hp, (∀ b u, H b = some u → b = a ∧ K.lookup a = none ∧ u = .frz { cls := .type "list", data := .seq vs.toArray } (.lst (ns.map V.int))) ∧ SqL K H a (ns.map V.int) := by
    cases hk : K.lookup a with
    | some o =>
      have z := hK a o hk
      rw [ha] at z
      cases z
      refine ⟨fun _ => none, ⟨fun b u z => ?_, .inr ⟨_, vs.toArray, _, hk, rfl, rfl, rfl, by rw [List.size_toArray]; exact zv, by simpa using rv⟩⟩⟩
      cases z
    | none =>
      refine ⟨fun b => if b = a then some (.frz { cls := .type "list", data := .seq vs.toArray } (.lst (ns.map V.int))) else none, ⟨fun b u z => ?_, .inl (.inr ⟨_, if_pos rfl⟩)⟩⟩
      dsimp only at z
      by_cases c : b = a
      · rw [if_pos c] at z
        cases z
        exact ⟨c, rfl, rfl⟩
      · rw [if_neg c] at z
        cases z
  have hok : HOk P w H s1.heap := fun b u z => by
    obtain ⟨rfl, _, rfl⟩ := hH b u z
    exact ⟨ha, by rw [List.length_map]; exact hl, vs, _, rv, ha⟩
  have free : ∀ b o, s1.heap.get? b = some o → (∃ es ep, o.data = .dict es ep) → H b = none := fun b o z ⟨es, ep, d⟩ => by
    cases q : H b with
    | none => rfl
    | some u =>
      obtain ⟨rfl, _, _⟩ := hH b u q
      rw [ha] at z
      cases z
      cases d
  have nsB : ∀ {b : Addr} {m : Str → Option Value}, s1.heap.Ns b m → (hidT s1.heap H).Ns b m := fun {b m} ⟨o, es, ep, z, d, r⟩ => ⟨o, es, ep, hidT_get z (free b o z ⟨es, ep, d⟩), d, r⟩
  have kB : K.In (hidT s1.heap H) := fun b o z => hidT_get (hK b o z) (by
    cases q : H b with
    | none => rfl
    | some u =>
      obtain ⟨rfl, n, _⟩ := hH b u q
      rw [n] at z
      cases z)
  have md : Mod K mg (hidT s1.heap H) := ⟨kB, nsB hns, ⟨mb, nsB hb, hbb⟩, let ⟨mc, h1, h2⟩ := hlim; ⟨mc, nsB h1, h2⟩⟩
  have e0 : Env0 P w K mg (hidT s1.heap H) callerA [] s1 H := ⟨rfl, md, fun b o z => of_hidT z, Nat.le_of_eq (hidT_size _ _), trivial, fun b z => (by cases z), hok, .of_eq hg⟩
  refine codeAny_mono ((F _ kB (nsB hns)).run callerA [] s1 H ⟨[.ref a], []⟩ [.ref a] [.ref a] _ _ hr rfl e0 (hbind s1 (.ref a)) (.cons rfl .nil) (hsp H hS)) fun r s' h => ?_
  match r, h with
  | .error e, h => exact h.elim
  | .ok .next, h => exact h.elim
  | .ok .brk, h => exact h.elim
  | .ok .cont, h => exact h.elim
  | .ok (.ret u), ⟨v, H', os, bare, un, hok', r', q⟩ =>
    have q : v = .bl true := q
    subst q
    obtain rfl : u = Value.bool true := r'
    refine ⟨rfl, OldK.of_keep fun b o z => ?_, os, bare⟩
    cases q : H b with
    | none => exact un.keep b o z q (fun y => by cases y) (fun y => by cases y)
    | some u =>
      obtain ⟨rfl, _, rfl⟩ := hH b u q
      have z2 := (hok' _ _ (un.frzs _ _ _ q)).1
      rw [ha] at z
      cases z
      exact z2
theorem walk_g {l : PySem.W.OpenLaw} {n k : Nat} {q : Program} {loose : List Str} {XP : (Str → Option Value) → Heap → Prop} {YP : World → Heap → Prop} {d : DefRec} {x : Str}
    (hn : l.most = some n) (hn2 : n ≤ sizeLine) (hdf : d.params.defaults = []) (hr : Room k callerA)
    (F : ∀ (w : World) (mg : Str → Option Value) (fa : Addr) (h : Heap), YP w h → h.Ns mainGlobals mg → mg d.name = some (.ref fa) →
      ∃ (K : PySem.W.Frag) (fd : FuncData) (sp : Sp), K.In h ∧ (∀ (s : Shared) (u : Value), BindsTo s fd ⟨[u], []⟩ [(x, u)]) ∧
        (∀ (H : Hp) (a : Addr) (ns : List Int), ns.length ≤ n → (∀ k ∈ ns, Builtin.Int.intBits k ≤ 1048576) → SqL K H a (ns.map V.int) → sp [.ref a] H (fun v _ => v = .bl true) E0) ∧
        ∀ base : Heap, K.In base → base.Ns mainGlobals mg → FG l.prog w K mg base CX0 k fa fd [x] sp) :
    PySem.W.WalkO q loose XP YP l.row.toRowW d [] (fun f vs => PySem.call f vs) := by
  refine Att.attach_callB hn hdf fun w s0 s1 mg mb fa o pm cd doc a vs ns G Y ho hd hcd hmg hobj hints hlen hbits hg => ?_
  obtain ⟨K, fd, sp, KX, hb, hsp, hF⟩ := F w mg fa _ Y G.T.g hmg
  exact law_g KX G.T.g G.T.b G.T.builtins G.T.nolimit hg hobj hints (Nat.le_trans hlen hn2) hr hF hb fun H hS => hsp H a ns hlen hbits hS
/-- the keys of a dict that becomes the store's object -/
def sto? : List (PyData × PyData) → Option (List (Str × PyData))
  | [] => some []
  | (.str k, d) :: r => (sto? r).map ((k, d) :: ·)
  | _ => none
theorem sto_eq : ∀ {es : List (PyData × PyData)} {kvs : List (Str × PyData)}, sto? es = some kvs → es = kvs.map fun p => (PyData.str p.1, p.2)
  | [], kvs, h => by cases h; rfl
  | (.str k, d) :: r, kvs, h => by
    obtain ⟨l, h1, h2⟩ := Option.map_eq_some_iff.mp (show (sto? r).map ((k, d) :: ·) = some kvs from h)
    subst h2
    rw [sto_eq h1]
    rfl
  | (.none, _) :: _, _, h => by cases h
  | (.bool _, _) :: _, _, h => by cases h
  | (.int _, _) :: _, _, h => by cases h
  | (.list _, _) :: _, _, h => by cases h
  | (.tuple _, _) :: _, _, h => by cases h
  | (.dict _, _) :: _, _, h => by cases h
/-- what the law's def does: the feed first, then the rest with the feed in the store -/
noncomputable def lawGo (n : Nat) (i : Nat) (e : Ex) (rest : List Sm) (ns : List Int) : Res (Flow × S) := match evE e ⟨.val (.list (ofInts ns)) :: List.replicate (n - 1) .unset, []⟩ with
  | .ok (.uni (.dict es), ⟨s, []⟩) => match sto? es with
    | some kvs => if i < s.length then evSs rest ⟨s.set i (.sto 0), [kvs]⟩ else .stuck
    | none => .stuck
  | _ => .stuck
def spLaw (K : PySem.W.Frag) (n : Nat) (i : Nat) (e : Ex) (rest : List Sm) : Sp := fun vs H Q _ => ∃ a ns s, vs = [.ref a] ∧ SqL K H a (ns.map V.int) ∧ lawGo n i e rest ns = .ok (.ret (.dat (.bool true)), s) ∧ ∀ H', Q (.bl true) H'
theorem law_body {K : PySem.W.Frag} {N : List Str} {H : Hp} {vs : List V} {i : Nat} {e : Ex} {rest : List Sm} {Q : VK} {E : XK} (hN : 1 ≤ N.length) (h : spLaw K N.length i e rest vs H Q E) :
    tSeq (tS K [] (evS (.asg i e))) (fun D σ H => ∃ a, tS K [a] (evSs rest) D σ H) { nx := fun _ H' => Q .non H', rt := Q } (L2.start N vs) H := by
  obtain ⟨a, ns, s, rfl, hS, hgo, hq⟩ := h
  have r0 : Rep K (fun _ => False) H (.ref a) (.list (ofInts ns)) := by
    refine .lst ?_ (rep_ints ns)
    rcases hS with hS | hS
    · exact .inl ⟨fun z => z, hS⟩
    · exact .inr (.inr hS)
  have s00 : Sim K [] (fun _ => False) (fun _ => False) [] H [] [] :=
    ⟨rfl, fun i x h => by simp at h, fun i j d d2 a h => by simp at h, fun a h => (by cases h), fun a h => h, fun a h => h.elim, List.nodup_nil, rfl, fun n a kvs h => by simp at h⟩
  have s0 := start_sim (N := N) (vs := [.ref a]) (ws := [.dat (.list (ofInts ns))]) (n := N.length) s00 ⟨r0, trivial⟩ rfl hN
  unfold lawGo at hgo
  have se : ([Val.dat (.list (ofInts ns))].map slotOf ++ List.replicate (N.length - [Val.dat (.list (ofInts ns))].length) Slot.unset) = .val (.list (ofInts ns)) :: List.replicate (N.length - 1) .unset := rfl
  rw [se] at s0
  split at hgo
  · rename_i es s1 he
    split at hgo
    · rename_i kvs hk
      have eq := sto_eq hk
      subst eq
      split at hgo
      case isFalse => cases hgo
      rename_i hi
      refine ⟨fun _ => False, fun _ => False, _, [], s0, .nx, s1.set i (slotOf (.uni (.dict (kvs.map fun p => (PyData.str p.1, p.2))))), [], ?_, fun σ' H' O' g s' => ?_⟩
      · show ((evE e).bind fun v => (setS i (slotOf v)).bind fun _ => M.pure Flow.nx) _ = _
        unfold M.bind
        rw [he]
        rfl
      · obtain ⟨b, k1, k2, k3, k4⟩ := s'.slot i (.own _) (by rw [List.getElem?_set_self hi]; rfl)
        obtain ⟨ks, k5, k6⟩ := k4
        have ne : ∀ (j : Nat) (y : Slot), ((s1.set i (slotOf (.uni _))).set i (.sto 0))[j]? = some y → y ≠ .sto 0 → (s1.set i (slotOf (.uni (.dict (kvs.map fun p => (PyData.str p.1, p.2))))))[j]? = some y ∧ i ≠ j := fun j y z n => by
          rw [set_get] at z
          split at z
          · split at z
            · cases z
              exact absurd rfl n
            · cases z
          · exact ⟨z, by assumption⟩
        have s2 : Sim K [b] (fun z => z = b) O' σ' H' ((s1.set i (slotOf (.uni (.dict (kvs.map fun p => (PyData.str p.1, p.2)))))).set i (.sto 0)) [kvs] := by
          refine ⟨by rw [List.length_set]; exact s'.len, fun j y z => ?_, fun j j' d d2 c z1 z2 o1 o2 q1 q2 => ?_, fun c z => by simpa using z, fun c z => z ▸ k2, s'.live, by simp, rfl, fun n c kv z1 z2 => ?_⟩
          · cases y with
            | unset => trivial
            | val d => obtain ⟨z, _⟩ := ne j _ z (by simp); exact s'.slot j _ z
            | own d =>
              obtain ⟨z, nj⟩ := ne j _ z (by simp)
              obtain ⟨c, q1, q2, q3, q4⟩ := s'.slot j _ z
              refine ⟨c, q1, q2, fun y => ?_, q4⟩
              subst y
              exact nj (s'.apart i j _ (.own d) c (by rw [List.getElem?_set_self hi]) z rfl rfl k1 q1)
            | tab w es =>
              obtain ⟨z, nj⟩ := ne j _ z (by simp)
              obtain ⟨c, q1, q2, q3, q4⟩ := s'.slot j _ z
              refine ⟨c, q1, q2, fun y => ?_, q4⟩
              subst y
              exact nj (s'.apart i j _ (.tab w es) c (by rw [List.getElem?_set_self hi]) z rfl rfl k1 q1)
            | sto n =>
              by_cases n0 : n = 0
              · subst n0
                by_cases ij : i = j
                · subst ij
                  exact ⟨b, k1, rfl⟩
                · rw [set_get, if_neg ij] at z
                  obtain ⟨c, _, q⟩ := s'.slot j _ z
                  cases q
              · obtain ⟨z, _⟩ := ne j _ z (by simp [n0])
                obtain ⟨c, _, q⟩ := s'.slot j _ z
                cases q
          · obtain ⟨z1, _⟩ := ne j _ z1 (by intro z; subst z; cases o1)
            obtain ⟨z2, _⟩ := ne j' _ z2 (by intro z; subst z; cases o2)
            exact s'.apart j j' d d2 c z1 z2 o1 o2 q1 q2
          · cases n with
            | zero => cases z1; cases z2; exact ⟨ks, k5, k6⟩
            | succ n => simp at z1
        rw [List.set_set] at s2
        obtain ⟨e', m'⟩ := s
        refine ⟨b, _, O', _, _, s2, .ret (.dat (.bool true)), e', m', hgo, fun σ2 H2 O2 g2 s3 w hw => ?_⟩
        have hw : Rep K O2 H2 w (.bool true) := hw
        cases hw
        exact hq H2
    · cases hgo
  · cases hgo
end Fb

namespace Fb
open PySem PySem.Spec PyProof.Rows L2
/-- built-in names that the program leaves alone -/
def blts : List Str := ["len", "tuple", "list", "sorted", "set", "int", "str", "repr", "all", "any", "sum", "min", "max", "range", "enumerate", "zip", "isinstance", "bool", "dict"]
/-- what holds of a def's body and of each block in it -/
structure Ctx (X : Cx) : Prop where
  calm : X.calm = true
  nd : X.N.Nodup
  gd : X.A.guards = some []
  un : X.A.units + 150 < cLine
  free : ∀ x ∈ blts, X.mg x = none
theorem Ctx.blk {X : Cx} (c : Ctx X) (s : Shared) (H : Hp) (scope : Scope) (env : Env) (fp : List Addr) : Ctx (X.blk s H scope env fp) := ⟨c.calm, c.nd, c.gd, c.un, c.free⟩
section
variable {X : Cx} {F : List Addr} {pos p : Pos}
abbrev GE (X : Cx) (F : List Addr) (a : Expr) (e : Ex) : Prop := PE X a (tD X.K F (evE e))
abbrev GO (X : Cx) (F : List Addr) (a : Expr) (e : Ex) : Prop := PE X a (tO X.K F (opd e (evE e)))
abbrev GT (X : Cx) (F : List Addr) (a : Expr) (e : Ex) : Prop := PT X a (tT X.K F (evE e))
abbrev GW (X : Cx) (F : List Addr) (a : Expr) (e : Ex) : Prop := PW X a (tT X.K F (evE e))
abbrev GDs (X : Cx) (F : List Addr) (a : List Expr) (e : List Ex) : Prop := PA X a (tDs X.K F (evEs e))
abbrev GVs (X : Cx) (F : List Addr) (a : List Expr) (e : List Ex) : Prop := PA X a (tVs X.K F (evVs e))
abbrev GUs (X : Cx) (F : List Addr) (a : List Expr) (e : List Ex) : Prop := PA X a (tUs X.K F (evUs e))
abbrev GP (X : Cx) (F : List Addr) (a : Option Expr) (e : Option Ex) : Prop := PO X a (tP X.K F (evP e))
abbrev GI (X : Cx) (F : List Addr) (tg a : Expr) (e : It) : Prop := PI X tg a (tI X.K F (evIt e))
abbrev GG (X : Cx) (F : List Addr) (a : Expr) (t : Tg) : Prop := PG X a (tG X.K F t)
abbrev GGs (X : Cx) (F : List Addr) (a : List Expr) (t : List Tg) : Prop := PGs X a (tGs X.K F t)
abbrev GS (X : Cx) (F : List Addr) (a : Stmt) (s : Sm) : Prop := PS X a (tS X.K F (evS s))
abbrev GSs (X : Cx) (F : List Addr) (a : List Stmt) (s : List Sm) : Prop := PSs X a (tS X.K F (evSs s))
/-! ### expressions -/
theorem tC_D {v : V} {d : PyData} {K : PySem.W.Frag} (r : ∀ O H, Rep K O H v d) {σ : L2.St} {H : Hp} {Q : VK} (h : tD K F (M.pure (.dat d)) σ H Q) : tC v σ H Q := by
  obtain ⟨G, O, e, m, h⟩ := h
  exact h.pureW.dat (r O H)
theorem ge_num {i : Int} {j : Nat} : GE X F (.Constant (.int i) j pos) (.num i) := PE.mono pe_int fun _ _ _ h => tC_D (fun _ _ => .int i) h
theorem ge_str {x : Str} {j : Nat} : GE X F (.Constant (.str x) j pos) (.str x) := PE.mono pe_str fun _ _ _ h => tC_D (fun _ _ => .str x) h
theorem ge_bl {b : Bool} {j : Nat} : GE X F (.Constant (.bool b) j pos) (.bl b) := PE.mono pe_bl fun _ _ _ h => tC_D (fun _ _ => .bl b) h
theorem ge_non {j : Nat} : GE X F (.Constant .none j pos) .non := PE.mono pe_non fun _ _ _ h => tC_D (fun _ _ => .non) h
def visB (sc : Scope) (x : Str) : Bool := match sc.names.lookup x with
  | some .local => true
  | some .cell => true
  | some .free => true
  | _ => false
theorem vis_of {sc : Scope} {x : Str} (h : visB sc x = true) : Vis sc x := by
  unfold visB at h
  unfold Vis
  cases q : sc.names.lookup x with
  | none => rw [q] at h; cases h
  | some k => rw [q] at h; cases k <;> first | exact .inl rfl | exact .inr (.inl rfl) | exact .inr (.inr rfl) | cases h
def dbgB (x : Str) : Bool := !(x == ("__debug__" : Str)) && !(x == ("__classdict__" : Str))
theorem dbg_of {x : Str} (h : dbgB x = true) : (x == ("__debug__" : Str)) = false ∧ (x == ("__classdict__" : Str)) = false := by
  unfold dbgB at h
  simpa using h
theorem ge_var (i : Nat) {x : Str} (hN : X.N[i]? = some x := by rfl) (hv : visB X.env.scope x = true := by rfl) (hd : dbgB x = true := by rfl) : GE X F (.Name x pos) (.var i) :=
  PE.mono (pe_var hN (vis_of hv) (dbg_of hd).1 (dbg_of hd).2) fun _ _ _ h => tVar_D h
theorem go_var (i : Nat) {x : Str} (hN : X.N[i]? = some x := by rfl) (hv : visB X.env.scope x = true := by rfl) (hd : dbgB x = true := by rfl) : GO X F (.Name x pos) (.var i) :=
  PE.mono (pe_var hN (vis_of hv) (dbg_of hd).1 (dbg_of hd).2) fun _ _ _ h => tVar_O h
theorem go_of {a : Expr} {e : Ex} (h : GE X F a e) (q : ∀ r, opd e r = r.bind fun v => v.data.bind fun d => M.pure (.val d) := by intro _; rfl) : GO X F a e := PE.mono h fun _ _ _ z => tO_of (by rw [q] at z; exact z)
theorem gds_nil : GDs X F [] [] := PA.mono pa_nil fun _ _ _ h => tNil_Ds h
theorem gds_cons {a : Expr} {as : List Expr} {e : Ex} {es : List Ex} (h : GE X F a e) (t : GDs X F as es) (hs : ∀ env, starEach (a :: as) env = (false, eval a env) :: starEach as env := by intro _; rfl) : GDs X F (a :: as) (e :: es) :=
  PA.mono (pa_cons h t (hs _)) fun _ _ _ z => tCons_Ds z
theorem gvs_nil : GVs X F [] [] := PA.mono pa_nil fun _ _ _ h => tNil_Vs h
theorem gvs_cons {a : Expr} {as : List Expr} {e : Ex} {es : List Ex} (h : GE X F a e) (t : GVs X F as es) (hs : ∀ env, starEach (a :: as) env = (false, eval a env) :: starEach as env := by intro _; rfl) : GVs X F (a :: as) (e :: es) :=
  PA.mono (pa_cons h t (hs _)) fun _ _ _ z => tCons_Vs z
theorem gus_nil : GUs X F [] [] := PA.mono pa_nil fun _ _ _ h => tNil_Us h
theorem gus_cons {a : Expr} {as : List Expr} {e : Ex} {es : List Ex} (h : GE X F a e) (t : GUs X F as es) (hs : ∀ env, starEach (a :: as) env = (false, eval a env) :: starEach as env := by intro _; rfl) : GUs X F (a :: as) (e :: es) :=
  PA.mono (pa_cons h t (hs _)) fun _ _ _ z => tCons_Us z
theorem ge_tup {as : List Expr} {es : List Ex} {k : Nat} (h : GDs X F as es) (hz : decide (es.length ≤ 1000) = true := by rfl) : GE X F (.Tuple as k pos) (.tup es) := PE.mono (pe_tup h) fun _ _ _ z => tTup_D (of_decide_eq_true hz) z
theorem ge_lst {as : List Expr} {es : List Ex} (h : GDs X F as es) (hz : decide (es.length ≤ 1000) = true := by rfl) : GE X F (.List as pos) (.lst es) := PE.mono (pe_lst h) fun _ _ _ z => tLst_D (of_decide_eq_true hz) z
/-! operators -/
section
variable {a b : Expr} {e f : Ex}
theorem ge_bin {op : Operator} {o : O2} (ho : OpR X (binaryOp op) (R2D X.K F o)) (ha : GO X F a e) (hb : GO X F b f) : GE X F (.BinOp a op b pos) (.o2 o e f) := PE.mono (pe_op ho ha hb) fun _ _ _ h => tOp_D h
theorem ge_add (ha : GO X F a e) (hb : GO X F b f) : GE X F (.BinOp a .Add b pos) (.o2 .add e f) := ge_bin or_add ha hb
theorem ge_sub (ha : GO X F a e) (hb : GO X F b f) : GE X F (.BinOp a .Sub b pos) (.o2 .sub e f) := ge_bin or_sub ha hb
theorem ge_mul (ha : GO X F a e) (hb : GO X F b f) : GE X F (.BinOp a .Mult b pos) (.o2 .mul e f) := ge_bin or_mul ha hb
theorem ge_mod (ha : GO X F a e) (hb : GO X F b f) : GE X F (.BinOp a .Mod b pos) (.o2 .mod e f) := ge_bin or_mod ha hb
theorem ge_fdiv (ha : GO X F a e) (hb : GO X F b f) : GE X F (.BinOp a .FloorDiv b pos) (.o2 .fdiv e f) := ge_bin or_fdiv ha hb
theorem ge_pow (ha : GO X F a e) (hb : GO X F b f) : GE X F (.BinOp a .Pow b pos) (.o2 .pow e f) := ge_bin or_pow ha hb
theorem ge_cmp {op : CmpOp} {o : O2} (ho : OpR X (compareOp op) (R2D X.K F o)) (ha : GO X F a e) (hb : GO X F b f) (hm : behindInMarks op b = false) : GE X F (.Compare a [op] [b] pos) (.o2 o e f) := PE.mono (pe_cmpR ho ha hb hm) fun _ _ _ h => tOp_D h
theorem ge_eq (c : Ctx X) (ha : GO X F a e) (hb : GO X F b f) : GE X F (.Compare a [.Eq] [b] pos) (.o2 .eq e f) := ge_cmp (or_eq (by have := c.un; omega)) ha hb (nomark _)
theorem ge_ne (c : Ctx X) (ha : GO X F a e) (hb : GO X F b f) : GE X F (.Compare a [.NotEq] [b] pos) (.o2 .ne e f) := ge_cmp (or_ne (by have := c.un; omega)) ha hb (nomark _)
theorem ge_lt (ha : GO X F a e) (hb : GO X F b f) : GE X F (.Compare a [.Lt] [b] pos) (.o2 .lt e f) := ge_cmp or_lt ha hb (nomark _)
theorem ge_le (ha : GO X F a e) (hb : GO X F b f) : GE X F (.Compare a [.LtE] [b] pos) (.o2 .le e f) := ge_cmp or_le ha hb (nomark _)
theorem ge_gt (ha : GO X F a e) (hb : GO X F b f) : GE X F (.Compare a [.Gt] [b] pos) (.o2 .gt e f) := ge_cmp or_gt ha hb (nomark _)
theorem ge_ge (ha : GO X F a e) (hb : GO X F b f) : GE X F (.Compare a [.GtE] [b] pos) (.o2 .ge e f) := ge_cmp or_ge ha hb (nomark _)
theorem ge_in (c : Ctx X) (ha : GO X F a e) (hb : GO X F b f) (hm : behindInMarks .In b = false := by rfl) : GE X F (.Compare a [.In] [b] pos) (.o2 .inn e f) := ge_cmp (or_in (by have := c.un; omega)) ha hb hm
theorem ge_nin (c : Ctx X) (ha : GO X F a e) (hb : GO X F b f) (hm : behindInMarks .NotIn b = false := by rfl) : GE X F (.Compare a [.NotIn] [b] pos) (.o2 .nin e f) := ge_cmp (or_notin (by have := c.un; omega)) ha hb hm
theorem ge_is (ha : GO X F a e) (hb : GO X F b f) : GE X F (.Compare a [.Is] [b] pos) (.o2 .isN e f) := ge_cmp or_isN ha hb (nomark _)
theorem ge_isnt (ha : GO X F a e) (hb : GO X F b f) : GE X F (.Compare a [.IsNot] [b] pos) (.o2 .notN e f) := ge_cmp or_notN ha hb (nomark _)
theorem ge_neg (ha : GO X F a e) : GE X F (.UnaryOp .USub a pos) (.o1 .neg e) := PE.mono (pe_un ur_neg ha) fun _ _ _ h => tUn_D h
theorem ge_idx (c : Ctx X) (ha : GO X F a e) (hb : GO X F b f) (hs : PlainIx b := by intro _ _; rfl) : GE X F (.Subscript a b pos) (.o2 .idx e f) := PE.mono (pe_ix (or_idx (by have := c.un; omega)) ha hb hs) fun _ _ _ h => tOp_D h
theorem PO_mono {a : Option Expr} {t t' : TO} (h : PO X a t) (k : ∀ σ H Q, t' σ H Q → t σ H Q) : PO X a t' := ⟨fun pins s σ H Q I q => h.run pins s σ H Q I (k σ H Q q)⟩
theorem gp_none : GP X F none none := PO_mono po_none fun _ _ _ h => tNoPart_P h
theorem gp_some (h : GE X F a e) : GP X F (some a) (some e) := PO_mono (po_some h) fun _ _ _ h => tPart_P h
theorem ge_slc {lo hi : Option Expr} {l h : Option Ex} (ha : GO X F a e) (hl : GP X F lo l) (hh : GP X F hi h) : GE X F (.Subscript a (.Slice lo hi none p) pos) (.slc e l h) := PE.mono (pe_slice sl_D ha hl hh) fun _ _ _ z => tSl_D z
theorem ge_rev {k : Nat} {p1 p2 p3 : Pos} (ha : GO X F a e) : GE X F (.Subscript a (.Slice none none (some (.UnaryOp .USub (.Constant (.int 1) k p1) p2)) p3) pos) (.rev e) := PE.mono (pe_rev ha) fun _ _ _ z => tRev_D z
theorem ge_not (ha : GE X F a e) : GE X F (.UnaryOp .Not a pos) (.not e) := PE.mono (pe_not ha) fun _ _ _ z => tNotV_D z
theorem ge_one {op : BoolOp} (ha : GE X F a e) : GE X F (.BoolOp op [a] pos) e := pe_one ha
theorem ge_and {rest : List Expr} (ha : GE X F a e) (hb : GE X F (.BoolOp .And (b :: rest) pos) f) : GE X F (.BoolOp .And (a :: b :: rest) pos) (.and e f) := PE.mono (pe_and ha hb) fun _ _ _ z => tAndV_D z
theorem ge_or {rest : List Expr} (ha : GE X F a e) (hb : GE X F (.BoolOp .Or (b :: rest) pos) f) : GE X F (.BoolOp .Or (a :: b :: rest) pos) (.or e f) := PE.mono (pe_or ha hb) fun _ _ _ z => tOrV_D z
/-! tests -/
theorem gt_val (ha : GE X F a e) (he : ∀ whole, isTrue a X.env whole = (do let v ← whole; standAt a.pos; holding [v] (truthy v)) := by intro _; rfl) : GT X F a e := PT.mono (pt_val ha he) fun _ _ _ z => tB_T z
theorem gt_cmp {op : CmpOp} {o : O2} (ho : OpR X (compareOp op) (R2D X.K F o)) (ha : GO X F a e) (hb : GO X F b f) (hm : behindInMarks op b = false) : GT X F (.Compare a [op] [b] pos) (.o2 o e f) :=
  PT.mono (pt_cmpR ho ha hb hm) fun _ _ _ h => tR_mono (tT_D h) (fun _ _ z => z) |> tOp_D
theorem gt_eq (c : Ctx X) (ha : GO X F a e) (hb : GO X F b f) : GT X F (.Compare a [.Eq] [b] pos) (.o2 .eq e f) := gt_cmp (or_eq (by have := c.un; omega)) ha hb (nomark _)
theorem gt_ne (c : Ctx X) (ha : GO X F a e) (hb : GO X F b f) : GT X F (.Compare a [.NotEq] [b] pos) (.o2 .ne e f) := gt_cmp (or_ne (by have := c.un; omega)) ha hb (nomark _)
theorem gt_lt (ha : GO X F a e) (hb : GO X F b f) : GT X F (.Compare a [.Lt] [b] pos) (.o2 .lt e f) := gt_cmp or_lt ha hb (nomark _)
theorem gt_le (ha : GO X F a e) (hb : GO X F b f) : GT X F (.Compare a [.LtE] [b] pos) (.o2 .le e f) := gt_cmp or_le ha hb (nomark _)
theorem gt_gt (ha : GO X F a e) (hb : GO X F b f) : GT X F (.Compare a [.Gt] [b] pos) (.o2 .gt e f) := gt_cmp or_gt ha hb (nomark _)
theorem gt_ge (ha : GO X F a e) (hb : GO X F b f) : GT X F (.Compare a [.GtE] [b] pos) (.o2 .ge e f) := gt_cmp or_ge ha hb (nomark _)
theorem gt_in (c : Ctx X) (ha : GO X F a e) (hb : GO X F b f) (hm : behindInMarks .In b = false := by rfl) : GT X F (.Compare a [.In] [b] pos) (.o2 .inn e f) := gt_cmp (or_in (by have := c.un; omega)) ha hb hm
theorem gt_nin (c : Ctx X) (ha : GO X F a e) (hb : GO X F b f) (hm : behindInMarks .NotIn b = false := by rfl) : GT X F (.Compare a [.NotIn] [b] pos) (.o2 .nin e f) := gt_cmp (or_notin (by have := c.un; omega)) ha hb hm
theorem gt_is (ha : GO X F a e) (hb : GO X F b f) : GT X F (.Compare a [.Is] [b] pos) (.o2 .isN e f) := gt_cmp or_isN ha hb (nomark _)
theorem gt_isnt (ha : GO X F a e) (hb : GO X F b f) : GT X F (.Compare a [.IsNot] [b] pos) (.o2 .notN e f) := gt_cmp or_notN ha hb (nomark _)
theorem gt_not (ha : GT X F a e) : GT X F (.UnaryOp .Not a pos) (.not e) := PT.mono (pt_not ha) fun _ _ _ z => tNot_T z
theorem PW.mono {x : Expr} {t t' : TT} (h : PW X x t) (k : ∀ σ H Q, t' σ H Q → t σ H Q) : PW X x t' := ⟨fun wh pins s σ H Q I q => h.run wh pins s σ H Q I (k σ H Q q)⟩
theorem gw_and1 (ha : GT X F a e) : GW X F (.BoolOp .And [a] pos) e := pw_and1 ha
theorem gw_or1 (ha : GT X F a e) : GW X F (.BoolOp .Or [a] pos) e := pw_or1 ha
theorem gw_and {rest : List Expr} (ha : GT X F a e) (hb : GW X F (.BoolOp .And (b :: rest) pos) f) : GW X F (.BoolOp .And (a :: b :: rest) pos) (.and e f) := PW.mono (pw_and ha hb) fun _ _ _ z => tAnd_T z
theorem gw_or {rest : List Expr} (ha : GT X F a e) (hb : GW X F (.BoolOp .Or (b :: rest) pos) f) : GW X F (.BoolOp .Or (a :: b :: rest) pos) (.or e f) := PW.mono (pw_or ha hb) fun _ _ _ z => tOr_T z
theorem gt_w (h : GW X F a e) : GT X F a e := h.pt
theorem ge_ife {cx : Expr} {ce : Ex} (hc : GT X F cx ce) (ha : GE X F a e) (hb : GE X F b f) : GE X F (.IfExp cx a b pos) (.ife ce e f) := PE.mono (pe_ifExp hc ha hb) fun _ _ _ z => tIf_D z
/-! built-ins -/
theorem pa1 {t : TE} (h : PE X a t) (hs : ∀ env, starEach [a] env = (false, eval a env) :: starEach [] env) : PA X [a] (tCons t tNil) := pa_cons h pa_nil (hs _)
theorem ge_B1 {id : String} {x : Str} {o : O1} (c : Ctx X) (hc : CallR X (.builtin id) (C1D X.K F o)) (hv : bootBuiltins x = some (.builtin id)) (hx : x ∈ blts) (hn : x ≠ "__name__") (hdb : (x == ("__debug__" : Str)) = false) (hg : Gl X x) (ha : GO X F a e)
    (hs : ∀ env, starEach [a] env = (false, eval a env) :: starEach [] env) : GE X F (.Call (.Name x p) [a] [] pos) (.o1 o e) :=
  PE.mono (pe_callB hc hg (c.free x hx) hv (pa1 ha hs) hn hdb (hs _) rfl) fun _ _ _ z => tR_mono (tUn_D z) fun v H1 q => ⟨v, rfl, q⟩
theorem ge_T1 {id : String} {x : Str} {o : O1} (c : Ctx X) (hc : CallR X (.type id) (C1D X.K F o)) (hv : bootBuiltins x = some (.type id)) (hx : x ∈ blts) (hn : x ≠ "__name__") (hdb : (x == ("__debug__" : Str)) = false) (hg : Gl X x) (ha : GO X F a e)
    (hs : ∀ env, starEach [a] env = (false, eval a env) :: starEach [] env) : GE X F (.Call (.Name x p) [a] [] pos) (.o1 o e) :=
  PE.mono (pe_callTy hc hg (c.free x hx) hv (pa1 ha hs) hn hdb (hs _) rfl) fun _ _ _ z => tR_mono (tUn_D z) fun v H1 q => ⟨v, rfl, q⟩
theorem ge_len (c : Ctx X) (ha : GO X F a e) (hg : Gl X "len" := by rfl) (hs : ∀ env, starEach [a] env = (false, eval a env) :: starEach [] env := by intro _; rfl) : GE X F (.Call (.Name "len" p) [a] [] pos) (.o1 .len e) :=
  ge_B1 c cr_len (by decide +kernel) (by decide +kernel) (by decide +kernel) (by decide +kernel) hg ha hs
theorem ge_tuple (c : Ctx X) (ha : GO X F a e) (hg : Gl X "tuple" := by rfl) (hs : ∀ env, starEach [a] env = (false, eval a env) :: starEach [] env := by intro _; rfl) : GE X F (.Call (.Name "tuple" p) [a] [] pos) (.o1 .tuple e) :=
  ge_T1 c cr_tuple (by decide +kernel) (by decide +kernel) (by decide +kernel) (by decide +kernel) hg ha hs
theorem ge_list (c : Ctx X) (ha : GO X F a e) (hg : Gl X "list" := by rfl) (hs : ∀ env, starEach [a] env = (false, eval a env) :: starEach [] env := by intro _; rfl) : GE X F (.Call (.Name "list" p) [a] [] pos) (.o1 .list e) :=
  ge_T1 c (cr_list c.calm) (by decide +kernel) (by decide +kernel) (by decide +kernel) (by decide +kernel) hg ha hs
theorem ge_dictF (c : Ctx X) (ha : GO X F a e) (hg : Gl X "dict" := by rfl) (hs : ∀ env, starEach [a] env = (false, eval a env) :: starEach [] env := by intro _; rfl) : GE X F (.Call (.Name "dict" p) [a] [] pos) (.o1 .dict e) :=
  ge_T1 c (cr_dict c.calm) (by decide +kernel) (by decide +kernel) (by decide +kernel) (by decide +kernel) hg ha hs
theorem ge_int (c : Ctx X) (ha : GO X F a e) (hg : Gl X "int" := by rfl) (hs : ∀ env, starEach [a] env = (false, eval a env) :: starEach [] env := by intro _; rfl) : GE X F (.Call (.Name "int" p) [a] [] pos) (.o1 .int e) :=
  ge_T1 c cr_int (by decide +kernel) (by decide +kernel) (by decide +kernel) (by decide +kernel) hg ha hs
theorem ge_strF (c : Ctx X) (ha : GO X F a e) (hg : Gl X "str" := by rfl) (hs : ∀ env, starEach [a] env = (false, eval a env) :: starEach [] env := by intro _; rfl) : GE X F (.Call (.Name "str" p) [a] [] pos) (.o1 .str e) :=
  ge_T1 c cr_str (by decide +kernel) (by decide +kernel) (by decide +kernel) (by decide +kernel) hg ha hs
theorem ge_repr (c : Ctx X) (ha : GO X F a e) (hg : Gl X "repr" := by rfl) (hs : ∀ env, starEach [a] env = (false, eval a env) :: starEach [] env := by intro _; rfl) : GE X F (.Call (.Name "repr" p) [a] [] pos) (.o1 .repr e) :=
  ge_B1 c (cr_repr c.gd (by have := c.un; omega)) (by decide +kernel) (by decide +kernel) (by decide +kernel) (by decide +kernel) hg ha hs
theorem ge_sorted (c : Ctx X) (ha : GO X F a e) (hg : Gl X "sorted" := by rfl) (hs : ∀ env, starEach [a] env = (false, eval a env) :: starEach [] env := by intro _; rfl) : GE X F (.Call (.Name "sorted" p) [a] [] pos) (.o1 .sorted e) :=
  ge_B1 c (cr_sortedD (by have := c.un; omega)) (by decide +kernel) (by decide +kernel) (by decide +kernel) (by decide +kernel) hg ha hs
theorem ge_all (c : Ctx X) (ha : GO X F a e) (hg : Gl X "all" := by rfl) (hs : ∀ env, starEach [a] env = (false, eval a env) :: starEach [] env := by intro _; rfl) : GE X F (.Call (.Name "all" p) [a] [] pos) (.o1 .all e) :=
  ge_B1 c (cr_allD c.calm) (by decide +kernel) (by decide +kernel) (by decide +kernel) (by decide +kernel) hg ha hs
theorem ge_any (c : Ctx X) (ha : GO X F a e) (hg : Gl X "any" := by rfl) (hs : ∀ env, starEach [a] env = (false, eval a env) :: starEach [] env := by intro _; rfl) : GE X F (.Call (.Name "any" p) [a] [] pos) (.o1 .any e) :=
  ge_B1 c (cr_anyD c.calm) (by decide +kernel) (by decide +kernel) (by decide +kernel) (by decide +kernel) hg ha hs
theorem ge_sum (c : Ctx X) (ha : GO X F a e) (hg : Gl X "sum" := by rfl) (hs : ∀ env, starEach [a] env = (false, eval a env) :: starEach [] env := by intro _; rfl) : GE X F (.Call (.Name "sum" p) [a] [] pos) (.o1 .sum e) :=
  ge_B1 c (cr_sumD c.calm) (by decide +kernel) (by decide +kernel) (by decide +kernel) (by decide +kernel) hg ha hs
theorem tOp2_D {x y : M Opd} {o : O2} {K : PySem.W.Frag} {σ : L2.St} {H : Hp} {Q : VK} (h : tD K F (x.bind fun x => y.bind fun y => x.now.bind fun d => y.now.bind fun e => lift (o.den d e)) σ H Q) : tCB (C2D K F o) (tCons (tO K F x) (tCons (tO K F y) tNil)) σ H Q :=
  tR_mono (tOp_D h) fun v H1 q => tR_mono q fun w H2 q => ⟨v, w, rfl, q⟩
theorem ge_min (c : Ctx X) (ha : GO X F a e) (hb : GO X F b f) (hg : Gl X "min" := by rfl) (hs : ∀ env, starEach [a, b] env = (false, eval a env) :: starEach [b] env := by intro _; rfl) (hs2 : ∀ env, starEach [b] env = (false, eval b env) :: starEach [] env := by intro _; rfl)
    (hpl : (backTo pos (starEach [b] X.env)).any (·.1) = false := by rfl) : GE X F (.Call (.Name "min" p) [a, b] [] pos) (.o2 .min e f) :=
  PE.mono (pe_callB (cr_min2 c.calm) hg (c.free _ (by decide +kernel)) boot_min (pa_cons ha (pa1 hb hs2) (hs _)) (by decide +kernel) (by decide +kernel) (hs _) hpl) fun _ _ _ z => tOp2_D z
theorem ge_max (c : Ctx X) (ha : GO X F a e) (hb : GO X F b f) (hg : Gl X "max" := by rfl) (hs : ∀ env, starEach [a, b] env = (false, eval a env) :: starEach [b] env := by intro _; rfl) (hs2 : ∀ env, starEach [b] env = (false, eval b env) :: starEach [] env := by intro _; rfl)
    (hpl : (backTo pos (starEach [b] X.env)).any (·.1) = false := by rfl) : GE X F (.Call (.Name "max" p) [a, b] [] pos) (.o2 .max e f) :=
  PE.mono (pe_callB (cr_max2 c.calm) hg (c.free _ (by decide +kernel)) boot_max (pa_cons ha (pa1 hb hs2) (hs _)) (by decide +kernel) (by decide +kernel) (hs _) hpl) fun _ _ _ z => tOp2_D z
theorem ge_srt {p2 pos2 : Pos} (c : Ctx X) (ha : GO X F a e) (hg : Gl X "sorted" := by rfl) (hg2 : Gl X "set" := by rfl) (hs : ∀ env, starEach [a] env = (false, eval a env) :: starEach [] env := by intro _; rfl) : GE X F (.Call (.Name "sorted" p) [.Call (.Name "set" p2) [a] [] pos2] [] pos) (.o1 .srtset e) :=
  PE.mono (pe_callB (cr_sortedSet c.calm) hg (c.free _ (by decide +kernel)) (by decide +kernel) (pa1 (pe_callTy (cr_setL c.calm) hg2 (c.free _ (by decide +kernel)) (by decide +kernel) (pa1 ha hs) (by decide +kernel) (by decide +kernel) (hs _) rfl) fun _ => rfl) (by decide +kernel) (by decide +kernel) rfl rfl) fun _ _ _ z => tSrt_D z
end
end
end Fb

namespace Fb
open PySem PySem.Spec PyProof.Rows L2
section
variable {X : Cx} {F : List Addr} {pos p : Pos} {a b : Expr} {e f : Ex}
theorem PI_mono {tg it : Expr} {t t' : TI} (h : PI X tg it t) (k : ∀ σ H R, t' σ H R → t σ H R) : PI X tg it t' := ⟨fun pins s σ H R I q => h.run pins s σ H R I (k σ H R q)⟩
theorem PI_or {tg it : Expr} {t u t' : TI} (h : PI X tg it t) (h2 : PI X tg it u) (k : ∀ σ H R, t' σ H R → t σ H R ∨ u σ H R) : PI X tg it t' := ⟨fun pins s σ H R I q => (k σ H R q).elim (h.run pins s σ H R I) (h2.run pins s σ H R I)⟩
/-! ### more expressions -/
theorem ge_isi {T : String} {x : Str} {px : Pos} (c : Ctx X) (ha : GO X F a e) (hv : bootBuiltins x = some (.type T)) (hx : x ∈ blts) (hn : x ≠ "__name__") (hdb : (x == ("__debug__" : Str)) = false) (hg : Gl X "isinstance" := by rfl) (hg2 : Gl X x := by rfl)
    (hs : ∀ env, starEach [a, .Name x px] env = (false, eval a env) :: starEach [.Name x px] env := by intro _; rfl) : GE X F (.Call (.Name "isinstance" p) [a, .Name x px] [] pos) (.isi e T) :=
  PE.mono (pe_callB call_isi hg (c.free _ (by decide +kernel)) (by decide +kernel) (pa_cons ha (pa1 (pe_bltn (v := .ty T) hg2 (c.free x hx) hv rfl hn hdb) fun _ => rfl) (hs _)) (by decide +kernel) (by decide +kernel) (hs _) rfl) fun _ _ _ z => tIsi_D z
theorem ge_isiInt {px : Pos} (c : Ctx X) (ha : GO X F a e) (hg : Gl X "isinstance" := by rfl) (hg2 : Gl X "int" := by rfl) (hs : ∀ env, starEach [a, .Name "int" px] env = (false, eval a env) :: starEach [.Name "int" px] env := by intro _; rfl) :
    GE X F (.Call (.Name "isinstance" p) [a, .Name "int" px] [] pos) (.isi e "int") := ge_isi c ha (by decide +kernel) (by decide +kernel) (by decide +kernel) (by decide +kernel) hg hg2 hs
theorem ge_isiBool {px : Pos} (c : Ctx X) (ha : GO X F a e) (hg : Gl X "isinstance" := by rfl) (hg2 : Gl X "bool" := by rfl) (hs : ∀ env, starEach [a, .Name "bool" px] env = (false, eval a env) :: starEach [.Name "bool" px] env := by intro _; rfl) :
    GE X F (.Call (.Name "isinstance" p) [a, .Name "bool" px] [] pos) (.isi e "bool") := ge_isi c ha (by decide +kernel) (by decide +kernel) (by decide +kernel) (by decide +kernel) hg hg2 hs
theorem ge_isiTup {px : Pos} (c : Ctx X) (ha : GO X F a e) (hg : Gl X "isinstance" := by rfl) (hg2 : Gl X "tuple" := by rfl) (hs : ∀ env, starEach [a, .Name "tuple" px] env = (false, eval a env) :: starEach [.Name "tuple" px] env := by intro _; rfl) :
    GE X F (.Call (.Name "isinstance" p) [a, .Name "tuple" px] [] pos) (.isi e "tuple") := ge_isi c ha (by decide +kernel) (by decide +kernel) (by decide +kernel) (by decide +kernel) hg hg2 hs
theorem ge_isiStr {px : Pos} (c : Ctx X) (ha : GO X F a e) (hg : Gl X "isinstance" := by rfl) (hg2 : Gl X "str" := by rfl) (hs : ∀ env, starEach [a, .Name "str" px] env = (false, eval a env) :: starEach [.Name "str" px] env := by intro _; rfl) :
    GE X F (.Call (.Name "isinstance" p) [a, .Name "str" px] [] pos) (.isi e "str") := ge_isi c ha (by decide +kernel) (by decide +kernel) (by decide +kernel) (by decide +kernel) hg hg2 hs
theorem ge_isiList {px : Pos} (c : Ctx X) (ha : GO X F a e) (hg : Gl X "isinstance" := by rfl) (hg2 : Gl X "list" := by rfl) (hs : ∀ env, starEach [a, .Name "list" px] env = (false, eval a env) :: starEach [.Name "list" px] env := by intro _; rfl) :
    GE X F (.Call (.Name "isinstance" p) [a, .Name "list" px] [] pos) (.isi e "list") := ge_isi c ha (by decide +kernel) (by decide +kernel) (by decide +kernel) (by decide +kernel) hg hg2 hs
/-! list(range(..)), tuple(range(..)) -/
theorem ge_tupRg1 {p2 pos2 : Pos} (c : Ctx X) (ha : GE X F a e) (hg : Gl X "tuple" := by rfl) (hg2 : Gl X "range" := by rfl) (hs : ∀ env, starEach [a] env = (false, eval a env) :: starEach [] env := by intro _; rfl) :
    GE X F (.Call (.Name "tuple" p) [.Call (.Name "range" p2) [a] [] pos2] [] pos) (.lrng true (some e) none) :=
  PE.mono (pe_tupRg c.calm hg (c.free _ (by decide +kernel)) (prg_1 hg2 (c.free _ (by decide +kernel)) ha (hs _)) rfl) fun _ _ _ z => tTupRg1_D z
theorem ge_lstRg1 {p2 pos2 : Pos} (c : Ctx X) (ha : GE X F a e) (hg : Gl X "list" := by rfl) (hg2 : Gl X "range" := by rfl) (hs : ∀ env, starEach [a] env = (false, eval a env) :: starEach [] env := by intro _; rfl) :
    GE X F (.Call (.Name "list" p) [.Call (.Name "range" p2) [a] [] pos2] [] pos) (.lrng false (some e) none) :=
  PE.mono (pe_listRg c.calm hg (c.free _ (by decide +kernel)) (prg_1 hg2 (c.free _ (by decide +kernel)) ha (hs _)) rfl) fun _ _ _ z => tLstRg1_D z
theorem ge_tupRg2 {p2 pos2 : Pos} (c : Ctx X) (ha : GE X F a e) (hb : GE X F b f) (hg : Gl X "tuple" := by rfl) (hg2 : Gl X "range" := by rfl) (hs : ∀ env, starEach [a, b] env = (false, eval a env) :: starEach [b] env := by intro _; rfl)
    (hs2 : ∀ env, starEach [b] env = (false, eval b env) :: starEach [] env := by intro _; rfl) (hp : (backTo pos2 (starEach [b] X.env)).any (·.1) = false := by rfl) :
    GE X F (.Call (.Name "tuple" p) [.Call (.Name "range" p2) [a, b] [] pos2] [] pos) (.lrng true (some e) (some f)) :=
  PE.mono (pe_tupRg c.calm hg (c.free _ (by decide +kernel)) (prg_2 hg2 (c.free _ (by decide +kernel)) ha hb (hs _) (hs2 _) hp) rfl) fun _ _ _ z => tTupRg2_D z
theorem ge_lstRg2 {p2 pos2 : Pos} (c : Ctx X) (ha : GE X F a e) (hb : GE X F b f) (hg : Gl X "list" := by rfl) (hg2 : Gl X "range" := by rfl) (hs : ∀ env, starEach [a, b] env = (false, eval a env) :: starEach [b] env := by intro _; rfl)
    (hs2 : ∀ env, starEach [b] env = (false, eval b env) :: starEach [] env := by intro _; rfl) (hp : (backTo pos2 (starEach [b] X.env)).any (·.1) = false := by rfl) :
    GE X F (.Call (.Name "list" p) [.Call (.Name "range" p2) [a, b] [] pos2] [] pos) (.lrng false (some e) (some f)) :=
  PE.mono (pe_listRg c.calm hg (c.free _ (by decide +kernel)) (prg_2 hg2 (c.free _ (by decide +kernel)) ha hb (hs _) (hs2 _) hp) rfl) fun _ _ _ z => tLstRg2_D z
/-! the store -/
theorem ge_get (i : Nat) {x k : Str} {px pk : Pos} {j : Nat} (c : Ctx X) (hN : X.N[i]? = some x := by rfl) (hv : visB X.env.scope x = true := by rfl) (hd : dbgB x = true := by rfl) : GE X F (.Subscript (.Name x px) (.Constant (.str k) j pk) pos) (.fget i k) :=
  PE.mono (pe_dget (by have := c.un; omega) (pe_var hN (vis_of hv) (dbg_of hd).1 (dbg_of hd).2) pe_str (fun _ _ => rfl)) fun _ _ _ z => tGet_D z
/-! dict displays -/
abbrev GPs (X : Cx) (F : List Addr) (pos : Pos) (ks : List (Option Expr)) (vs : List Expr) (xs : List Str) (es : List Ex) : Prop := PPs X pos ks vs (dTrs X.K F xs es)
theorem gps_nil : GPs X F pos [] [] [] [] := pps_nil
theorem gps_cons {ks : List (Option Expr)} {vs : List Expr} {xs : List Str} {es : List Ex} {k : Str} {j : Nat} {pk : Pos} (ha : GE X F a e) (h : GPs X F pos ks vs xs es) : GPs X F pos (some (.Constant (.str k) j pk) :: ks) (a :: vs) (k :: xs) (e :: es) := pps_cons pe_str ha h
theorem ge_dic {ks : List (Option Expr)} {vs : List Expr} {xs : List Str} {es : List Ex} (h : GPs X F pos ks vs xs es) (hall : ks.all (·.isSome) = true := by rfl) (hl : decide (ks.length = vs.length) = true := by rfl) (h0 : ks ≠ [] := by intro z; cases z) (h15 : decide (ks.length ≤ 15) = true := by rfl)
    (hl2 : decide (xs.length = es.length) = true := by rfl) (h152 : decide (xs.length ≤ 15) = true := by rfl) (hn : decide xs.Nodup = true := by decide +kernel) : GE X F (.Dict ks vs pos) (.dic xs es) :=
  PE.mono (pe_disp h hall (of_decide_eq_true hl) h0 (of_decide_eq_true h15)) fun _ _ _ z => tDisp_D (of_decide_eq_true hl2) (of_decide_eq_true h152) (of_decide_eq_true hn) z
/-! calls -/
variable {CX : CXT} {k : Nat} {fa : Addr} {fd : FuncData} {ps ks : List Str} {x : Str}
theorem ge_call {as : List Expr} {es : List Ex} {g : Fn} (c : Ctx X) (Fg : FG X.prog X.w X.K X.mg X.base CX0 k fa fd ps (spD X.K ps.length g)) (hr : Room k X.A) (hm : X.mg x = some (.ref fa)) (hk : PySem.W.keepIn X.K (.ref fa) = true) (hb : Binds X.K fd ps [])
    (ha : GVs X F (a :: as) (e :: es)) (hl : decide (ps.length = (e :: es).length) = true := by rfl) (hg : Gl X x := by rfl) (hdb : dbgB x = true := by rfl) (he : ∀ env, starEach (a :: as) env = (false, eval a env) :: starEach as env := by intro _; rfl) (hpl : (backTo pos (starEach as X.env)).any (·.1) = false := by rfl) :
    GE X F (.Call (.Name x p) (a :: as) [] pos) (.call x g (e :: es) [] []) := by
  have hl' := of_decide_eq_true hl
  rw [hl'] at Fg
  exact PE.mono (pe_callg Fg hr c.gd hg hm hk hb pass0 ha (dbg_of hdb).1 (he _) hpl) fun _ _ _ z => tCall_D (E := E0) z
theorem ge_call0 {g : Fn} (c : Ctx X) (Fg : FG X.prog X.w X.K X.mg X.base CX0 k fa fd [] (spD X.K 0 g)) (hr : Room k X.A) (hm : X.mg x = some (.ref fa)) (hk : PySem.W.keepIn X.K (.ref fa) = true) (hb : Binds X.K fd [] [])
    (hg : Gl X x := by rfl) (hdb : dbgB x = true := by rfl) : GE X F (.Call (.Name x p) [] [] pos) (.call x g [] [] []) :=
  PE.mono (pe_callg0 Fg hr c.gd hg hm hk hb pass0 (dbg_of hdb).1) fun _ _ _ z => tNil_Vs (tCall_D (E := E0) z)
abbrev GKs (X : Cx) (F : List Addr) (ks : List Keyword) (es : List Ex) : Prop := PK X ks (tVs X.K F (evVs es))
theorem PK_mono {kws : List Keyword} {t t' : TA} (h : PK X kws t) (k : ∀ σ H Q, t' σ H Q → t σ H Q) : PK X kws t' := ⟨fun pos pins s σ H Q I q => h.run pos pins s σ H Q I (k σ H Q q)⟩
theorem gks_nil : GKs X F [] [] := PK_mono pk_nil fun _ _ _ h => tNil_Vs h
theorem gks_cons {nm : Option Str} {kp : Pos} {kws : List Keyword} {es : List Ex} (h : GE X F a e) (t : GKs X F kws es) : GKs X F (⟨nm, a, kp⟩ :: kws) (e :: es) := PK_mono (pk_cons h t) fun _ _ _ z => tCons_Vs z
theorem ge_callK {kws : List Keyword} {gs : List Ex} {g : Fn} (ix : List Nat) (c : Ctx X) (Fg : FG X.prog X.w X.K X.mg X.base CX0 k fa fd ps (spD X.K ps.length g)) (hr : Room k X.A) (hm : X.mg x = some (.ref fa)) (hk : PySem.W.keepIn X.K (.ref fa) = true)
    (hb : KBn X.K fd ps 0 ks (fun us ws => permL ix (us ++ ws)) (fun vs zs => permL ix (vs ++ zs))) (ha : GKs X F kws gs) (hl : decide (ps.length = gs.length) = true := by rfl) (hl2 : decide (ks.length = gs.length) = true := by rfl) (hi : decide (ix.length = gs.length) = true := by rfl) (hix : (ix.all fun i => decide (i < gs.length)) = true := by rfl)
    (hg : Gl X x := by rfl) (hdb : dbgB x = true := by rfl) (hall : (backToKw pos (keywordEach kws X.env)).all (·.1.isSome) = true := by rfl) (hks : (backToKw pos (keywordEach kws X.env)).filterMap (·.1) = ks := by rfl)
    (hpl : (backToKw pos (keywordEach kws X.env)).any (·.1.isNone) = false := by rfl) (hne : kws.isEmpty = false := by rfl) :
    GE X F (.Call (.Name x p) [] kws pos) (.call x (fun xs mu => g (permL ix xs) mu) [] ks gs) := by
  have hl' := of_decide_eq_true hl
  have h2 := of_decide_eq_true hl2
  have h3 := of_decide_eq_true hi
  refine PE.mono (pe_callgK Fg hr c.gd hg hm hk hb pass0 ha hall hks (dbg_of hdb).1 hpl hne) fun _ _ _ z => ?_
  rw [hl', h2]
  have q := tCallP_D (es := []) (E := E0) (ix := ix) (by rw [h3, List.length_nil, Nat.zero_add]) (by simpa using hix) z
  rw [List.length_nil, Nat.zero_add] at q
  exact tNil_Vs q
theorem ge_callN {as : List Expr} {es : List Ex} {kws : List Keyword} {gs : List Ex} {g : Fn} {n : Nat} (ix : List Nat) (c : Ctx X) (Fg : FG X.prog X.w X.K X.mg X.base CX0 k fa fd ps (spD X.K ps.length g)) (hr : Room k X.A) (hm : X.mg x = some (.ref fa)) (hk : PySem.W.keepIn X.K (.ref fa) = true)
    (hb : KBn X.K fd ps n ks (fun us ws => permL ix (us ++ ws)) (fun vs zs => permL ix (vs ++ zs))) (ha : GVs X F (a :: as) (e :: es)) (hk2 : GKs X F kws gs) (hl : decide (ps.length = (e :: es).length + gs.length) = true := by rfl) (hln : decide (n = (e :: es).length) = true := by rfl) (hl2 : decide (ks.length = gs.length) = true := by rfl)
    (hi : decide (ix.length = (e :: es).length + gs.length) = true := by rfl) (hix : (ix.all fun i => decide (i < (e :: es).length + gs.length)) = true := by rfl)
    (hg : Gl X x := by rfl) (hdb : dbgB x = true := by rfl) (hall : (backToKw pos (keywordEach kws X.env)).all (·.1.isSome) = true := by rfl) (hks : (backToKw pos (keywordEach kws X.env)).filterMap (·.1) = ks := by rfl)
    (he : ∀ env, starEach (a :: as) env = (false, eval a env) :: starEach as env := by intro _; rfl)
    (hpl : ((backTo pos (starEach (a :: as) X.env)).any (·.1) || (backToKw pos (keywordEach kws X.env)).any (·.1.isNone)) = false := by rfl) :
    GE X F (.Call (.Name x p) (a :: as) kws pos) (.call x (fun xs mu => g (permL ix xs) mu) (e :: es) ks gs) := by
  have hl' := of_decide_eq_true hl
  have h2 := of_decide_eq_true hl2
  have h3 := of_decide_eq_true hi
  have h4 := of_decide_eq_true hln
  refine PE.mono (pe_callgN Fg hr c.gd hg hm hk hb pass0 ha hk2 hall hks (dbg_of hdb).1 (he _) hpl) fun _ _ _ z => ?_
  rw [hl', h2, h4]
  exact tCallP_D (E := E0) (ix := ix) h3 hix z
/-! pop -/
theorem ge_pop (i : Nat) {y : Str} {py ap : Pos} (ha : GE X F a e) (hN : X.N[i]? = some y := by rfl) (hv : visB X.env.scope y = true := by rfl) (hd : dbgB y = true := by rfl)
    (hbase : attributeBase (.Name y py) "pop" X.env (eval (.Name y py) X.env) = eval (.Name y py) X.env := by rfl)
    (hfew : ((backTo pos (starEach [a] X.env)).all (fun x => !x.1) && (backToKw pos (keywordEach [] X.env)).all (fun x => x.1.isSome)
      && decide ([a].length + ([] : List Keyword).length + (if ([] : List Keyword).isEmpty then 0 else 1) < 30)) = true := by rfl)
    (hline : (ap.endLine == pos.line) = true := by rfl) (hs : ∀ env, starEach [a] env = (false, eval a env) :: starEach [] env := by intro _; rfl) : GE X F (.Call (.Attribute (.Name y py) "pop" ap) [a] [] pos) (.pop i e) :=
  PE.mono (pe_bm PySem.F.plainAttrs_list PySem.F.slot_list_pop PySem.F.type_list_pop mt_popAt (pe_var hN (vis_of hv) (dbg_of hd).1 (dbg_of hd).2) (pa1 ha hs) hbase hfew hline (hs _) rfl) fun _ _ _ z => tPop_D z
/-! ### walks -/
theorem gi_of {tg : Expr} (ha : GE X F a e) : GI X F tg a (.ofE e) := PI_or (pi_list ha) (PI_or (pi_tup ha) (pi_str ha) fun _ _ _ z => z) fun _ _ _ z => iOf_D z
theorem gi_rng1 {tg : Expr} (c : Ctx X) (ha : GE X F a e) (hg : Gl X "range" := by rfl) (hs : ∀ env, starEach [a] env = (false, eval a env) :: starEach [] env := by intro _; rfl) (hs' : starEach [a] X.env = [(false, eval a X.env)] := by rfl) : GI X F tg (.Call (.Name "range" p) [a] [] pos) (.rng (some e) none) :=
  PI_mono (pi_range1 hg (c.free _ (by decide +kernel)) (pa1 ha hs) hs') fun _ _ _ z => iRng1_D z
theorem gi_rng2 {tg : Expr} (c : Ctx X) (ha : GE X F a e) (hb : GE X F b f) (hg : Gl X "range" := by rfl) (hs : ∀ env, starEach [a, b] env = (false, eval a env) :: starEach [b] env := by intro _; rfl)
    (hs2 : ∀ env, starEach [b] env = (false, eval b env) :: starEach [] env := by intro _; rfl) (h1 : starEach [a, b] X.env = [(false, eval a X.env), (false, eval b X.env)] := by rfl) (h2 : starEach [b] X.env = [(false, eval b X.env)] := by rfl) : GI X F tg (.Call (.Name "range" p) [a, b] [] pos) (.rng (some e) (some f)) :=
  PI_mono (pi_range2 hg (c.free _ (by decide +kernel)) (pa_cons ha (pa1 hb hs2) (hs _)) h1 h2) fun _ _ _ z => iRng2_D z
theorem gi_enu {elts : List Expr} {kk : Nat} {tp : Pos} (c : Ctx X) (ha : GE X F a e) (hg : Gl X "enumerate" := by rfl) (hs : ∀ env, starEach [a] env = (false, eval a env) :: starEach [] env := by intro _; rfl) (h1 : starEach [a] X.env = [(false, eval a X.env)] := by rfl) :
    GI X F (.Tuple elts kk tp) (.Call (.Name "enumerate" p) [a] [] pos) (.enu e) := PI_or (pi_enum hg (c.free _ (by decide +kernel)) (pa1 ha hs) h1) (pi_enumT hg (c.free _ (by decide +kernel)) (pa1 ha hs) h1) fun _ _ _ z => iEnum_D z
theorem gi_zip {elts : List Expr} {kk : Nat} {tp : Pos} (c : Ctx X) (ha : GE X F a e) (hb : GE X F b f) (hg : Gl X "zip" := by rfl) (hs : ∀ env, starEach [a, b] env = (false, eval a env) :: starEach [b] env := by intro _; rfl)
    (hs2 : ∀ env, starEach [b] env = (false, eval b env) :: starEach [] env := by intro _; rfl) (hp : (backTo pos (starEach [b] X.env)).any (·.1) = false := by rfl) :
    GI X F (.Tuple elts kk tp) (.Call (.Name "zip" p) [a, b] [] pos) (.zip e f) := PI_mono (RZ.pi_zipA hg (c.free _ (by decide +kernel)) (pa_cons ha (pa1 hb hs2) (hs _)) (hs _) hp) fun _ _ _ z => iZip_D z
/-! ### targets -/
def locB (X : Cx) (x : Str) : Bool := match X.env.scope.names.lookup x with
  | some .local => true
  | some .cell => X.fn x
  | _ => false
theorem loc_of (h : locB X x = true) : Loc X.env.scope x ∧ (X.fn x = true ∨ X.env.scope.names.lookup x = some .local) := by
  unfold locB at h
  cases q : X.env.scope.names.lookup x with
  | none => rw [q] at h; cases h
  | some k =>
    rw [q] at h
    cases k <;> first | exact ⟨.inl q, .inr rfl⟩ | exact ⟨.inr q, .inl h⟩ | cases h
theorem gg_name (i : Nat) (c : Ctx X) (hi : X.N[i]? = some x := by rfl) (hx : locB X x = true := by rfl) : GG X F (.Name x pos) (.name i) := PG.mono (pg_name c.nd hi (loc_of hx).1 (loc_of hx).2) fun _ _ _ _ z => gName_D z
theorem ggs_nil : GGs X F [] [] := PGs.mono pgs_nil fun _ _ _ _ z => gNil_D z
theorem ggs_cons {as : List Expr} {t : Tg} {ts : List Tg} (h : GG X F a t) (hr : GGs X F as ts) (hs : (assignEach (a :: as) X.env).map (·.2) = assign a X.env :: (assignEach as X.env).map (·.2) := by rfl) : GGs X F (a :: as) (t :: ts) := PGs.mono (pgs_cons h hr hs) fun _ _ _ _ z => gCons_D z
theorem gg_tup {as : List Expr} {ts : List Tg} {kk : Nat} (c : Ctx X) (h : GGs X F as ts) (hn : (assignEach as X.env).length = ts.length := by rfl) (hst : (assignEach as X.env).findIdx? (·.1) = none := by rfl) : GG X F (.Tuple as kk pos) (.tup ts) :=
  ⟨fun pins s σ H v u Q I r q => (gTup_D q).elim (fun q => (pg_tup c.calm h hn hst).run pins s σ H v u Q I r q) fun q => (pg_unl c.calm h hn hst).run pins s σ H v u Q I r q⟩
end
end Fb

namespace Fb
open PySem PySem.Spec PyProof.Rows L2
section
variable {X : Cx} {F : List Addr} {pos p : Pos} {a b : Expr} {e f : Ex} {x : Str}
/-! ### comprehensions -/
abbrev GC (X : Cx) (F : List Addr) (as : List Expr) (c : Option Ex) : Prop := PTs X as (tC? X.K F c)
theorem gc_none : GC X F [] none := pts_nil
theorem gc_one (h : GT X F a e) : GC X F [a] (some e) := pts_one h
def tgIn (t : Tg) (vs : List Nat) : Bool := t.at.all fun j => vs.contains j
theorem tgIn_of {t : Tg} {vs : List Nat} (h : tgIn t vs = true) : ∀ j ∈ t.at, j ∈ vs := fun j hj => by
  have := List.all_eq_true.mp h j hj
  simpa using this
theorem ge_lc {elt tg iter : Expr} {ifs : List Expr} {scope : Scope} (own : List (Str × Nat)) {t : Tg} {it : It} {c? : Option Ex} {vs : List Nat} (c : Ctx X) (hi : GI X F tg iter it)
    (hg : ∀ (s : Shared) (H : Hp) (C : Addr) (cl : List (Str × Addr)) (fp : List Addr), GG (X.blk s H scope (compEnvC scope cl C X.env) fp) F tg t)
    (ht : ∀ (s : Shared) (H : Hp) (C : Addr) (cl : List (Str × Addr)) (fp : List Addr), GC (X.blk s H scope (compEnvC scope cl C X.env) fp) F ifs c?)
    (he : ∀ (s : Shared) (H : Hp) (C : Addr) (cl : List (Str × Addr)) (fp : List Addr), GE (X.blk s H scope (compEnvC scope cl C X.env) fp) F elt e)
    (ok : blkC X.N X.env.scope scope own = true := by kernel_rfl) (hv : own.map (·.2) = vs := by rfl) (hj : tgIn t vs = true := by rfl) (hs : ∀ x, foldedSetIterable iter X.env x = pure x := by intro _; rfl) :
    GE X F (.ListComp elt [⟨tg, iter, ifs, 0⟩] scope pos) (.lc vs e t it c?) := by
  subst hv
  exact PE.mono (pe_lc c.calm c.nd hi (blkOk_by ok) hg ht he hs) fun _ _ _ z => tLc_D (tgIn_of hj) z
/-! ### statements -/
theorem gss_nil : GSs X F [] [] := PSs.mono pss_nil fun _ _ _ z => tNext_S z
theorem gss_cons {st : Stmt} {rest : List Stmt} {s : Sm} {ss : List Sm} (h : GS X F st s) (hr : GSs X F rest ss) : GSs X F (st :: rest) (s :: ss) := PSs.mono (pss_cons h hr) fun _ _ _ z => tSeq_S z
theorem gs_asg (i : Nat) {px : Pos} (c : Ctx X) (ha : GE X F a e) (hi : X.N[i]? = some x := by rfl) (hx : locB X x = true := by rfl) (hs : swapsWith a (some (.Name x px)) pos.line X.env = pure false := by rfl) : GS X F (.Assign [.Name x px] a pos) (.asg i e) :=
  PS.mono (ps_set c.nd hi (loc_of hx).1 ha hs (loc_of hx).2) fun _ _ _ z => tAsg_S z
/-- name = [..] stored within the block's line -/
theorem gs_asgLc {elt tg iter : Expr} {ifs : List Expr} {scope : Scope} (i : Nat) (own : List (Str × Nat)) {px lp : Pos} {t : Tg} {it : It} {c? : Option Ex} {vs : List Nat} (c : Ctx X) (hi : GI X F tg iter it)
    (hg : ∀ (s : Shared) (H : Hp) (C : Addr) (cl : List (Str × Addr)) (fp : List Addr), GG (X.blk s H scope (compEnvC scope cl C X.env) fp) F tg t)
    (ht : ∀ (s : Shared) (H : Hp) (C : Addr) (cl : List (Str × Addr)) (fp : List Addr), GC (X.blk s H scope (compEnvC scope cl C X.env) fp) F ifs c?)
    (he : ∀ (s : Shared) (H : Hp) (C : Addr) (cl : List (Str × Addr)) (fp : List Addr), GE (X.blk s H scope (compEnvC scope cl C X.env) fp) F elt e)
    (hy : X.N[i]? = some x := by rfl) (hyl : X.env.scope.names.lookup x = some .local := by rfl) (hsw : swapsWith (.ListComp elt [⟨tg, iter, ifs, 0⟩] scope lp) (some (.Name x px)) pos.line X.env = pure true := by rfl)
    (ok : blkC X.N X.env.scope scope own = true := by kernel_rfl) (hv : own.map (·.2) = vs := by rfl) (hj : tgIn t vs = true := by rfl) (hs : ∀ x, foldedSetIterable iter X.env x = pure x := by intro _; rfl) :
    GS X F (.Assign [.Name x px] (.ListComp elt [⟨tg, iter, ifs, 0⟩] scope lp) pos) (.asg i (.lc vs e t it c?)) := by
  subst hv
  refine PS.mono (ps_setLc (g := tG X.K F t) (tt := tC? X.K F c?) (te := tD X.K F (evE e)) c.calm c.nd hy hyl hsw hi (blkOk_by ok) hg ht he hs) fun D σ H z => ?_
  have z' := tAsg_S z
  exact tLc_D (tgIn_of hj) z'
theorem gs_unp {tg : Expr} {t : Tg} (ha : GE X F a e) (hg : GG X F tg t) (hs : swapsWithSole [tg] a pos.line X.env = pure false := by rfl) (hw : swappedStores [tg] a X.env = pure none := by rfl)
    (h1 : (assignEach [tg] X.env).map (·.2) = [assign tg X.env] := by rfl) : GS X F (.Assign [tg] a pos) (.unp t e) := PS.mono (ps_asg ha hg hs hw h1) fun _ _ _ z => tUnp_S z
theorem gs_par2 (i j : Nat) {y : Str} {px py pt pt2 : Pos} {kt k2 : Nat} {es : List Ex} (c : Ctx X) (ha : GUs X F [a, b] es) (hi : X.N[i]? = some x := by rfl) (hj : X.N[j]? = some y := by rfl) (hij : decide (i ≠ j) = true := by rfl)
    (hx : X.env.scope.names.lookup x = some .local := by rfl) (hy : X.env.scope.names.lookup y = some .local := by rfl)
    (hw : swappedStores [.Tuple [.Name x px, .Name y py] kt pt] (.Tuple [a, b] k2 pt2) X.env = pure (some [x, y]) := by rfl)
    (hs : swapsWithSole [.Tuple [.Name x px, .Name y py] kt pt] (.Tuple [a, b] k2 pt2) pos.line X.env = pure false := by rfl) :
    GS X F (.Assign [.Tuple [.Name x px, .Name y py] kt pt] (.Tuple [a, b] k2 pt2) pos) (.par [i, j] es) := PS.mono (ps_par c.calm c.nd hi hj (of_decide_eq_true hij) hx hy ha hw hs) fun _ _ _ z => tPar_S z
theorem gs_par3 (i j l : Nat) {y z : Str} {cc : Expr} {px py pz pt pt2 : Pos} {kt k2 : Nat} {es : List Ex} (c : Ctx X) (ha : GUs X F [a, b, cc] es) (hi : X.N[i]? = some x := by rfl) (hj : X.N[j]? = some y := by rfl) (hl : X.N[l]? = some z := by rfl) (hij : decide (i ≠ j) = true := by rfl) (hil : decide (i ≠ l) = true := by rfl) (hjl : decide (j ≠ l) = true := by rfl)
    (hx : X.env.scope.names.lookup x = some .local := by rfl) (hy : X.env.scope.names.lookup y = some .local := by rfl) (hz : X.env.scope.names.lookup z = some .local := by rfl)
    (hw : swappedStores [.Tuple [.Name x px, .Name y py, .Name z pz] kt pt] (.Tuple [a, b, cc] k2 pt2) X.env = pure (some [x, y, z]) := by rfl)
    (hs : swapsWithSole [.Tuple [.Name x px, .Name y py, .Name z pz] kt pt] (.Tuple [a, b, cc] k2 pt2) pos.line X.env = pure false := by rfl) :
    GS X F (.Assign [.Tuple [.Name x px, .Name y py, .Name z pz] kt pt] (.Tuple [a, b, cc] k2 pt2) pos) (.par [i, j, l] es) := PS.mono (ps_par3 c.calm c.nd hi hj hl (of_decide_eq_true hij) (of_decide_eq_true hil) (of_decide_eq_true hjl) hx hy hz ha hw hs) fun _ _ _ z => tPar3_S z
abbrev GNs (X : Cx) (as : List Expr) (is : List Nat) : Prop := PGs X as (gNames is)
theorem gns_nil : GNs X [] [] := pgs_nil
theorem gns_cons (i : Nat) {as : List Expr} {is : List Nat} (c : Ctx X) (hr : GNs X as is) (hi : X.N[i]? = some x := by rfl) (hx : locB X x = true := by rfl) (hs : (assignEach (.Name x p :: as) X.env).map (·.2) = assign (.Name x p) X.env :: (assignEach as X.env).map (·.2) := by rfl) : GNs X (.Name x p :: as) (i :: is) :=
  pgs_cons (pg_name c.nd hi (loc_of hx).1 (loc_of hx).2) hr hs
/-- by way of a tuple -/
theorem gs_parT {as ns : List Expr} {is : List Nat} {es : List Ex} {pt pt2 : Pos} {kt k2 : Nat} (c : Ctx X) (ha : GUs X F as es) (hg : GNs X ns is) (hz : decide (is.length ≤ 1000) = true := by rfl) (hn : (assignEach ns X.env).length = is.length := by rfl) (hst : (assignEach ns X.env).findIdx? (·.1) = none := by rfl)
    (hs : swapsWithSole [.Tuple ns kt pt] (.Tuple as k2 pt2) pos.line X.env = pure false := by rfl) (hw : swappedStores [.Tuple ns kt pt] (.Tuple as k2 pt2) X.env = pure none := by rfl)
    (h1 : (assignEach [.Tuple ns kt pt] X.env).map (·.2) = [assign (.Tuple ns kt pt) X.env] := by rfl) : GS X F (.Assign [.Tuple ns kt pt] (.Tuple as k2 pt2) pos) (.par is es) :=
  PS.mono (ps_asg (pe_tup ha) (pg_tup c.calm hg hn hst) hs hw h1) fun _ _ _ z => tParT_S (of_decide_eq_true hz) z
theorem gs_app (i : Nat) {py ap cp : Pos} (ha : GE X F a e) (hN : X.N[i]? = some x := by rfl) (hv : visB X.env.scope x = true := by rfl) (hd : dbgB x = true := by rfl)
    (hbase : attributeBase (.Name x py) "append" X.env (eval (.Name x py) X.env) = eval (.Name x py) X.env := by rfl)
    (hfew : ((backTo cp (starEach [a] X.env)).all (fun x => !x.1) && (backToKw cp (keywordEach [] X.env)).all (fun x => x.1.isSome)
      && decide ([a].length + ([] : List Keyword).length + (if ([] : List Keyword).isEmpty then 0 else 1) < 30)) = true := by rfl)
    (hline : (ap.endLine == cp.line) = true := by rfl) (hs : ∀ env, starEach [a] env = (false, eval a env) :: starEach [] env := by intro _; rfl)
    (hsw : swapsWith (.Call (.Attribute (.Name x py) "append" ap) [a] [] cp) none pos.line X.env = pure false := by rfl) : GS X F (.Expr (.Call (.Attribute (.Name x py) "append" ap) [a] [] cp) pos) (.app i e) :=
  PS.mono (ps_expr (pe_bm PySem.F.plainAttrs_list PySem.F.slot_list_append PySem.F.type_list_append mt_append (pe_var hN (vis_of hv) (dbg_of hd).1 (dbg_of hd).2) (pa1 ha hs) hbase hfew hline (hs _) rfl) hsw) fun _ _ _ z => tApp_S z
theorem gs_ext (i : Nat) {py ap cp : Pos} (ha : GE X F a e) (hN : X.N[i]? = some x := by rfl) (hv : visB X.env.scope x = true := by rfl) (hd : dbgB x = true := by rfl)
    (hbase : attributeBase (.Name x py) "extend" X.env (eval (.Name x py) X.env) = eval (.Name x py) X.env := by rfl)
    (hfew : ((backTo cp (starEach [a] X.env)).all (fun x => !x.1) && (backToKw cp (keywordEach [] X.env)).all (fun x => x.1.isSome)
      && decide ([a].length + ([] : List Keyword).length + (if ([] : List Keyword).isEmpty then 0 else 1) < 30)) = true := by rfl)
    (hline : (ap.endLine == cp.line) = true := by rfl) (hs : ∀ env, starEach [a] env = (false, eval a env) :: starEach [] env := by intro _; rfl)
    (hsw : swapsWith (.Call (.Attribute (.Name x py) "extend" ap) [a] [] cp) none pos.line X.env = pure false := by rfl) : GS X F (.Expr (.Call (.Attribute (.Name x py) "extend" ap) [a] [] cp) pos) (.ext i e) :=
  PS.mono (ps_expr (pe_bm PySem.F.plainAttrs_list PySem.F.slot_list_extend PySem.F.type_list_extend mt_extend (pe_var hN (vis_of hv) (dbg_of hd).1 (dbg_of hd).2) (pa1 ha hs) hbase hfew hline (hs _) rfl) hsw) fun _ _ _ z => tExt_S z
theorem gs_fset (i : Nat) {k : Str} {px pk ps : Pos} {j : Nat} (c : Ctx X) (ha : GE X F a e) (hN : X.N[i]? = some x := by rfl) (hv : visB X.env.scope x = true := by rfl) (hd : dbgB x = true := by rfl)
    (hs : swapsWith a (some (.Subscript (.Name x px) (.Constant (.str k) j pk) ps)) pos.line X.env = pure false := by rfl) : GS X F (.Assign [.Subscript (.Name x px) (.Constant (.str k) j pk) ps] a pos) (.fset i k e) :=
  PS.mono (ps_dput (by have := c.un; omega) (pe_var hN (vis_of hv) (dbg_of hd).1 (dbg_of hd).2) pe_str ha hs) fun _ _ _ z => tSet_S z
theorem gs_if {cx : Expr} {A B : List Stmt} {ce : Ex} {sa sb : List Sm} (hc : GT X F cx ce) (ha : GSs X F A sa) (hb : GSs X F B sb) : GS X F (.If cx A B pos) (.ife ce sa sb) := PS.mono (ps_if hc ha hb) fun _ _ _ z => tIf_S z
theorem gs_for {tg iter : Expr} {B : List Stmt} {t : Tg} {it : It} {sb : List Sm} (c : Ctx X) (hp : PassesOwn (model X.prog X.w) X.A X.env X.xe) (hi : GI X F tg iter it) (hg : GG X F tg t) (hb : GSs X F B sb)
    (hs : ∀ x, foldedSetIterable iter X.env x = pure x := by intro _; rfl) : GS X F (.For tg iter B [] pos) (.for_ t it sb) := PS.mono (ps_for hp c.calm hi hg hb hs) fun _ _ _ z => tFor_S z
theorem gs_ret (ha : GE X F a e) : GS X F (.Return (some a) pos) (.ret e) := PS.mono (ps_ret ha) fun _ _ _ z => tRet_S z
theorem gs_retv (i : Nat) {px : Pos} (hN : X.N[i]? = some x := by rfl) (hv : visB X.env.scope x = true := by rfl) (hd : dbgB x = true := by rfl) : GS X F (.Return (some (.Name x px)) pos) (.retv i) :=
  PS.mono (ps_ret (pe_var hN (vis_of hv) (dbg_of hd).1 (dbg_of hd).2)) fun _ _ _ z => tRetv_S z
theorem gs_expr (ha : GE X F a e) (hs : swapsWith a none pos.line X.env = pure false := by rfl) : GS X F (.Expr a pos) (.expr e) := PS.mono (ps_expr ha hs) fun _ _ _ z => tDrop_S z
theorem gs_dead {st : Stmt} : GS X F st .dead := PS.mono ps_never fun D σ H z => by
  obtain ⟨G, O, e, m, s, f, e', m', h1, _⟩ := z
  cases h1
theorem gss_dead {st : Stmt} {rest : List Stmt} : GSs X F (st :: rest) [.dead] := PSs.mono pss_never fun D σ H z => by
  obtain ⟨G, O, e, m, s, f, e', m', h1, _⟩ := z
  cases h1
end
/-! ### a def -/
theorem ctx_of {CX : CXT} {P : Program} {w : World} {K : PySem.W.Frag} {mg : Str → Option Value} {base : Heap} {N : List Str} {qual : Str} {scope : Scope} {f : Addr} {cd : Value} {A : Around} {outer : List Env} {s : Shared} {H : Hp} {E : XK} {k : Nat}
    (nd : N.Nodup) (hf : ∀ x ∈ blts, mg x = none) (hr : Room k (A.deeper (envOfC qual scope s.heap.objs.size f cd))) (hg : (A.deeper (envOfC qual scope s.heap.objs.size f cd)).guards = some []) :
    Ctx (cxOf CX P w K mg base N qual scope f cd A outer s H E).nox := ⟨rfl, nd, hg, by have := hr.un; show (A.deeper (envOfC qual scope s.heap.objs.size f cd)).units + 150 < cLine; omega, hf⟩
end Fb

namespace Fb
open PySem PySem.Spec PyProof.Rows L2
theorem PSs_ex {X : Cx} {α : Type} {st : List Stmt} {t : α → TS} (h : ∀ a, PSs X st (t a)) : PSs X st (fun D σ H => ∃ a, t a D σ H) := ⟨fun pins s σ H D I ⟨a, q⟩ => (h a).run pins s σ H D I q⟩
section
variable {P : Program} {w : World} {K : PySem.W.Frag} {mg : Str → Option Value} {base : Heap} {x qual : Str} {params : Arguments} {body : List Stmt} {scope : Scope} {dvs : List V} {kws : List (Str × V)} {f : Addr} {fd : FuncData}
/-- the law's def -/
theorem fg_law {CX : CXT} {N : List Str} {p : Str} {k i : Nat} {e : Ex} {rest : List Sm} {st : Stmt} {sts : List Stmt} (D : FunD K x qual params body scope dvs kws f fd) (S : FnScope N [p] scope) (hb : body = st :: sts)
    (h1 : ∀ (cdv : Value) (A : Around) (outer : List Env) (s : Shared) (H : Hp) (E : XK), Room k (A.deeper (envOfC qual scope s.heap.objs.size f cdv)) → (A.deeper (envOfC qual scope s.heap.objs.size f cdv)).guards = some [] →
      GS (cxOf CX P w K mg base N qual scope f cdv A outer s H E).nox [] st (.asg i e))
    (h2 : ∀ (cdv : Value) (A : Around) (outer : List Env) (s : Shared) (H : Hp) (E : XK), Room k (A.deeper (envOfC qual scope s.heap.objs.size f cdv)) → (A.deeper (envOfC qual scope s.heap.objs.size f cdv)).guards = some [] →
      ∀ F : List Addr, GSs (cxOf CX P w K mg base N qual scope f cdv A outer s H E).nox F sts rest) : FG P w K mg base CX (k + 1) f fd [p] (spLaw K N.length i e rest) := by
  subst hb
  have hN : 1 ≤ N.length := by have := congrArg List.length S.pre; rw [List.length_take, List.length_singleton] at this; omega
  refine ⟨fun vs H Q E h => ?_, fun A outer s H args us vs Q E hr hg e0 hb r h => ?_⟩
  · obtain ⟨a, ns, s, rfl, _⟩ := h
    rfl
  · obtain ⟨oc, od, dV, kV, doc, pm, an, cdv, ct, osl, rfl, lk, hcd, _, _⟩ := D.ex
    have hl : vs.length = 1 := by
      obtain ⟨a, ns, s, rfl, _⟩ := h
      rfl
    exact body_at lk hcd S hl hr e0 hb r (PSs.nox (pss_cons (h1 cdv A outer s H E (hr.deeper _) hg) (PSs_ex fun a => h2 cdv A outer s H E (hr.deeper _) hg [a]))) (law_body hN h)
end
/-! ### facts by names -/
def Fct (K : PySem.W.Frag) (mg : Str → Option Value) (x : Str) (st : Stmt) : Prop := ∃ f fd, FunD K x x (defArgs st) (defBody st) (defScope st) [] [] f fd ∧ mg x = some (.ref f)
def OkF (P : Program) (w : World) (K : PySem.W.Frag) (mg : Str → Option Value) (base : Heap) (k : Nat) (x : Str) (st : Stmt) (ps : List Str) (g : Fn) : Prop :=
  ∃ f fd, FunD K x x (defArgs st) (defBody st) (defScope st) [] [] f fd ∧ mg x = some (.ref f) ∧ Binds K fd ps [] ∧ FG P w K mg base CX0 k f fd ps (spD K ps.length g)
abbrev dOf (x : Str) (st : Stmt) : He.DefD := ⟨(x, none), x, x, defArgs st, defBody st, defScope st, [], []⟩
theorem fct_of {K : PySem.W.Frag} {h : Heap} {mg : Str → Option Value} {fa : List He.Fa} {fn : List He.DefD} (X : K.In h) (G : h.Ns mainGlobals mg) (c : He.SaysD fa fn K) (i j : Nat) {x : Str} {st : Stmt} (h1 : fn[i]? = some (dOf x st)) (h2 : fa[j]? = some (.glo x)) : Fct K mg x st := by
  obtain ⟨fd, F⟩ := c.def_ i h1
  exact ⟨_, fd, F, He.glo_ok X G (c.fact j h2)⟩
end Fb

namespace Fb
open PySem PySem.Spec PyProof.Rows L2
section
variable {J : L2.It} {n : Nat} {Gd : Hp → Prop} {Y : Nat → Hp → V → Hp → Prop}
theorem dc_it (w : Walk J n Gd Y) {g : TG} {tt : TT} {tk tv : TE} {vs : List Nat} {σ : L2.St} {H1 : Hp} {D : Addr} {Qd : Hp → Prop} (Pv : Nat → Hp → Prop) (h0 : Pv 0 (upd H1 D (.dK []))) (hG : ∀ i H, i ≤ n → Pv i H → Gd H)
    (hs : ∀ i x H H', i < n → Pv i H → Y i H x H' → g x (L2.wipe σ vs) H' fun σ2 H2 => L2.wipe σ2 vs = L2.wipe σ vs ∧ tt σ2 H2 fun b H3 =>
      if b = true then tk σ2 H3 fun y H4 => tv σ2 H4 fun z H5 => ∃ kvs k, y = kV k ∧ H5 D = some (.dK kvs) ∧ kvs.length < sizeLine ∧ Pv (i + 1) (upd H5 D (.dK (putK kvs k z))) else Pv (i + 1) H3) (hd : ∀ H, Pv n H → Qd H) :
    ∃ W : Nat → Nat → Hp → Prop, (∃ m, W 0 m (upd H1 D (.dK []))) ∧ ∀ i m H, W i m H →
      (J.stop i H ∧ Qd H) ∨ (J.go i H ∧ ∃ Nx : Hp → Prop, (∀ H', Nx H' → ∃ m', m' < m ∧ W (i + 1) m' H') ∧ ∀ x H', J.yld i H x H' → g x (L2.wipe σ vs) H' fun σ2 H2 => L2.wipe σ2 vs = L2.wipe σ vs ∧ tt σ2 H2 fun b H3 =>
        if b = true then tk σ2 H3 fun y H4 => tv σ2 H4 fun z H5 => ∃ kvs k, y = kV k ∧ H5 D = some (.dK kvs) ∧ kvs.length < sizeLine ∧ Nx (upd H5 D (.dK (putK kvs k z))) else Nx H3) := by
  refine ⟨fun i m H => m = n - i ∧ i ≤ n ∧ Pv i H, ⟨n, by simp, Nat.zero_le _, h0⟩, ?_⟩
  rintro i m H ⟨rfl, hi, p⟩
  have q := hG i H hi p
  by_cases hlt : i < n
  · exact .inr ⟨w.goes i H hlt q, Pv (i + 1), fun H' p' => ⟨n - (i + 1), by omega, rfl, hlt, p'⟩, fun x H' y => hs i x H H' hlt p (w.yields i H x H' hlt q y)⟩
  · have e : i = n := by omega
    subst e
    exact .inl ⟨w.stops H q, hd H p⟩
end
section
variable {X : Cx} {F : List Addr} {K : PySem.W.Frag} {G O O' : Own} {σ : L2.St} {H H' : Hp} {e : List Slot} {m : Mu}
theorem tDc_D {x : M (List PyData)} {t : Tg} {c : Option Ex} {kk y : M Val} {vs : List Nat} {Q : VK} (ht : ∀ j ∈ t.at, j ∈ vs)
    (h : tD K F (x.bind fun ds => dcAll vs (fun d => (asg t d).bind fun _ => (evC c).bind fun b => if b then kk.bind fun kv => kv.data.bind fun k => y.bind fun v => v.data.bind fun r => M.pure (some (k, r)) else M.pure none) ds) σ H Q) :
    tDc (tI K F x) (tG K F t) (tC? K F c) (tD K F kk) (tD K F y) vs σ H Q := by
  obtain ⟨G, O, e, m, h⟩ := h
  obtain ⟨ds, h⟩ := At.bind (R := JRep K F) h
  refine (h.mono fun J H1 q => ?_).tr
  obtain ⟨O1, e1, m1, g, ⟨Gd, Y, wk⟩, s1, v, e2, m2, h1, h2⟩ := q
  intro D nD
  generalize hbody : (fun d => (asg t d).bind fun _ => (evC c).bind fun b => if b then kk.bind fun kv => kv.data.bind fun k => y.bind fun v => v.data.bind fun r => M.pure (some (k, r)) else M.pure none : PyData → M (Option (PyData × PyData))) = body at h1
  unfold dcAll at h1
  dsimp only at h1
  cases no : vs.any fun i => isOwn (e1.getD i .unset) with
  | true => rw [no, if_pos rfl] at h1; cases h1
  | false =>
    rw [no, if_neg Bool.false_ne_true] at h1
    cases hr : dcGo vs body [] ds ⟨e1, m1⟩ with
    | exc a b => rw [hr] at h1; cases h1
    | stuck => rw [hr] at h1; cases h1
    | ok r =>
      obtain ⟨rs, ⟨e3, m3⟩⟩ := r
      rw [hr] at h1
      dsimp only at h1
      by_cases hz : ds.length ≤ SZ
      · rw [if_pos hz] at h1
        cases h1
        have ng : ¬ G D := fun z => s1.new nD (s1.go D z)
        have nf : D ∉ F := fun z => ng (s1.fg D z)
        have sw := (s1.watch (o := .dK []) nD).wipe vs
        have g0 : Grow F G O1 H1 (plus O1 D) (upd H1 D (.dK [])) := .new nD
        refine dc_it wk.walk (fun i H' => ∃ O' e' m' acc as, H' D = some (.dK acc) ∧ acc.length ≤ i ∧ RepKV K O' H' acc as ∧ Sim K F (plus G D) O' (L2.wipe σ vs) H' (wipeS e' vs) m' ∧ Grow F G O1 H1 O' H' ∧ dcGo vs body as (ds.drop i) ⟨e', m'⟩ = .ok (rs, ⟨e3, m2⟩))
          ⟨_, e1, m1, [], [], upd_same, Nat.le_refl _, .nil, sw, g0, hr⟩ ?_ ?_ ?_
        · rintro i H' _ ⟨O', e', m', acc, as, _, _, _, _, g', _⟩
          exact wk.stands O' H' g'
        · rintro i xv H' H2 hi ⟨O', e', m', acc, as, hD, hl, ra, s', g', hg⟩ yv
          obtain ⟨d, hd, kp, rx⟩ := wk.gives i O' H' xv H2 hi g' s'.live yv
          have ed : ds.drop i = d :: ds.drop (i + 1) := by
            rw [List.drop_eq_getElem_cons hi]
            congr 1
            rw [List.getElem?_eq_getElem hi] at hd
            exact Option.some.inj hd
          rw [ed] at hg
          unfold dcGo at hg
          obtain ⟨_, sW, hW, hg⟩ := bind_ok hg
          cases hW
          obtain ⟨r1, ⟨e5, m5⟩, hb, hg⟩ := bind_ok hg
          rw [← hbody] at hb
          obtain ⟨_, ⟨e7, m7⟩, ha, hb⟩ := bind_ok hb
          have s2 := s'.same kp
          have gk : Grow F (plus G D) O' H' O' H2 := .of_same kp
          refine ⟨plus G D, O', wipeS e' vs, m', d, e7, m7, s2, rx, ha, fun σ2 s3 p => ⟨wipe_part ht p, ?_⟩⟩
          have rest1 : ∀ (b : Bool) (O3 : Own) (H3 : Hp) (e8 : List Slot) (m8 : Mu), Grow F (plus G D) O' H2 O3 H3 → Sim K F (plus G D) O3 σ2 H3 e8 m8 → (if b then kk.bind fun kv => kv.data.bind fun k => y.bind fun v => v.data.bind fun r => M.pure (some (k, r)) else M.pure none) ⟨e8, m8⟩ = .ok (r1, ⟨e5, m5⟩) →
              if b = true then tD K F kk σ2 H3 fun yk H4 => tD K F y σ2 H4 fun yv H5 => ∃ kvs k, yk = kV k ∧ H5 D = some (.dK kvs) ∧ kvs.length < sizeLine ∧ ∃ O' e' m' acc2 as, (upd H5 D (.dK (putK kvs k yv))) D = some (.dK acc2) ∧ acc2.length ≤ i + 1 ∧ RepKV K O' (upd H5 D (.dK (putK kvs k yv))) acc2 as ∧ Sim K F (plus G D) O' (L2.wipe σ vs) (upd H5 D (.dK (putK kvs k yv))) (wipeS e' vs) m' ∧ Grow F G O1 H1 O' (upd H5 D (.dK (putK kvs k yv))) ∧ dcGo vs body as (ds.drop (i + 1)) ⟨e', m'⟩ = .ok (rs, ⟨e3, m2⟩)
              else ∃ O' e' m' acc2 as, H3 D = some (.dK acc2) ∧ acc2.length ≤ i + 1 ∧ RepKV K O' H3 acc2 as ∧ Sim K F (plus G D) O' (L2.wipe σ vs) H3 (wipeS e' vs) m' ∧ Grow F G O1 H1 O' H3 ∧ dcGo vs body as (ds.drop (i + 1)) ⟨e', m'⟩ = .ok (rs, ⟨e3, m2⟩) := fun b O3 H3 e8 m8 g3 s8 hy => by
            have gD : Grow F (plus G D) O' H' O3 H3 := gk.trans g3 s'.fo
            have hD3 : H3 D = some (.dK acc) := gD.keep D _ hD nf (.inr (.inr rfl))
            cases b with
            | false =>
              refine iteF ?_
              cases hy
              refine ⟨O3, e5, m5, acc, as, hD3, Nat.le_succ_of_le hl, ra.stays (gD.stays s'.fo), ?_, g'.out gD nD s1.fo, hg⟩
              have := s8.wipe vs
              rw [wipe_part ht p] at this
              exact this
            | true =>
              refine iteT ?_
              obtain ⟨v, ⟨e9, m9⟩, hv, hy⟩ := bind_ok hy
              refine ⟨plus G D, O3, e8, m8, s8, v, e9, m9, hv, fun yk H4 O4 g4 s9 rv => ?_⟩
              have gD4 : Grow F (plus G D) O' H' O4 H4 := gD.trans g4 s'.fo
              obtain ⟨dk, s10, hdk, hy⟩ := bind_ok hy
              obtain ⟨O5, g5, s11, rrk, hdd⟩ := VRep.data s9 rv ⟨s10, hdk⟩
              rw [hdd] at hdk
              cases hdk
              have gD5 : Grow F (plus G D) O' H' O5 H4 := gD4.trans g5 s'.fo
              obtain ⟨v2, ⟨e12, m12⟩, hv2, hy⟩ := bind_ok hy
              refine ⟨plus G D, O5, e9, m9, s11, v2, e12, m12, hv2, fun yv H6 O6 g6 s12 rv2 => ?_⟩
              have gD6 : Grow F (plus G D) O' H' O6 H6 := gD5.trans g6 s'.fo
              obtain ⟨dv, s13, hdv, hy⟩ := bind_ok hy
              obtain ⟨O7, g7, s14, rr, hdd⟩ := VRep.data s12 rv2 ⟨s13, hdv⟩
              rw [hdd] at hdv
              cases hdv
              cases hy
              have gD7 : Grow F (plus G D) O' H' O7 H6 := gD6.trans g7 s'.fo
              have hD6 : H6 D = some (.dK acc) := gD6.keep D _ hD nf (.inr (.inr rfl))
              dsimp only at hg
              by_cases hk : isKey dk = true
              · rw [if_pos hk] at hg
                obtain ⟨ck, rfl⟩ := key_is hk
                have eyk : yk = kV ck := rrk.key
                have od : O7 D := s14.go D (.inr rfl)
                have stm : Stays O7 H6 O7 (upd H6 D (.dK (putK acc ck yv))) := stays_mut od
                refine ⟨acc, ck, eyk, hD6, ?_, O7, e5, m5, putK acc ck yv, dPut as (keyD ck) dv, upd_same, ?_, ?_, ?_, ?_, hg⟩
                · rw [← sz_eq]; omega
                · have := length_putK acc ck yv; omega
                · exact ((ra.stays (gD7.stays s'.fo)).put rr).stays stm
                · have := (s14.wipe vs).watched (o := .dK (putK acc ck yv)) nf
                  rw [wipe_part ht p] at this
                  exact this
                · exact (g'.out gD7 nD s1.fo).outUpd nD
              · rw [if_neg hk] at hg; cases hg
          cases c with
          | none =>
            exact rest1 true O' H2 e7 m7 .refl s3 hb
          | some cc =>
            obtain ⟨b, ⟨e8, m8⟩, hc, hb⟩ := bind_ok hb
            have hc : ((evE cc).bind isTrueV) ⟨e7, m7⟩ = .ok (b, ⟨e8, m8⟩) := hc
            refine ⟨plus G D, O', e7, m7, s3, b, e8, m8, hc, fun w H3 O3 g3 s8 rb => ?_⟩
            obtain rfl : w = b := rb
            exact rest1 w O3 H3 e8 m8 g3 s8 hb
        · rintro H' ⟨O', e', m', acc, as, hD, hl, ra, s', g', hg⟩
          rw [List.drop_length] at hg
          cases hg
          have od : O' D := s'.go D (.inr rfl)
          have sG : Sim K F G O' (L2.wipe σ vs) H' (wipeS e3 vs) m2 := by
            refine ⟨s'.len, fun j z q => ?_, s'.apart, s1.fg, fun a z => s'.go a (.inl z), s'.live, s'.nd, s'.sl, s'.st⟩
            have sl := s'.slot j z q
            cases z with
            | own d => obtain ⟨a, k1, k2, k3, k4⟩ := sl; exact ⟨a, k1, k2, fun z => k3 (.inl z), k4⟩
            | tab w es => obtain ⟨a, k1, k2, k3, k4⟩ := sl; exact ⟨a, k1, k2, fun z => k3 (.inl z), k4⟩
            | _ => exact sl
          have sF := s1.unwipe no g' sG
          refine h2 (.ref D) H' O' g' sF ⟨D, rfl, od, ng, ⟨acc, hD, ra⟩, fun j d' q o z => ?_⟩
          have hl2 : e1.length = e3.length := by
            have := s'.len
            rw [wipeS_length, wipe_length] at this
            rw [s1.len, this]
          rw [merge_get e1 e3 hl2] at q
          by_cases jv : j ∈ vs
          · rw [if_pos jv] at q
            have zz := (List.any_eq_false.mp no) j jv
            rw [List.getD_eq_getElem?_getD, q] at zz
            rcases ownS_ex o with ⟨d, rfl⟩ | ⟨w, es, rfl⟩ <;> exact absurd rfl zz
          · rw [if_neg jv] at q
            obtain ⟨a, k1, _, k3⟩ := (s'.slot j _ (by rw [wipeS_get, if_neg (fun z => jv z.1)]; exact q)).ref o
            rw [wipe_get, if_neg (fun z => jv z.1), z] at k1
            cases k1
            exact k3 (.inr rfl)
      · rw [if_neg hz] at h1; cases h1
end
section
variable {X : Cx} {F : List Addr} {pos p : Pos} {a b : Expr} {e f : Ex} {x : Str}
theorem ge_dc {kx vx tg iter : Expr} {ifs : List Expr} {scope : Scope} (own : List (Str × Nat)) {t : Tg} {it : It} {c? : Option Ex} {vs : List Nat} (c : Ctx X) (hi : GI X F tg iter it)
    (hg : ∀ (s : Shared) (H : Hp) (C : Addr) (cl : List (Str × Addr)) (fp : List Addr), GG (X.blk s H scope (compEnvC scope cl C X.env) fp) F tg t)
    (ht : ∀ (s : Shared) (H : Hp) (C : Addr) (cl : List (Str × Addr)) (fp : List Addr), GC (X.blk s H scope (compEnvC scope cl C X.env) fp) F ifs c?)
    (hk : ∀ (s : Shared) (H : Hp) (C : Addr) (cl : List (Str × Addr)) (fp : List Addr), GE (X.blk s H scope (compEnvC scope cl C X.env) fp) F kx e)
    (he : ∀ (s : Shared) (H : Hp) (C : Addr) (cl : List (Str × Addr)) (fp : List Addr), GE (X.blk s H scope (compEnvC scope cl C X.env) fp) F vx f)
    (ok : blkC X.N X.env.scope scope own = true := by kernel_rfl) (hv : own.map (·.2) = vs := by rfl) (hj : tgIn t vs = true := by rfl) (hs : ∀ x, foldedSetIterable iter X.env x = pure x := by intro _; rfl) :
    GE X F (.DictComp kx vx [⟨tg, iter, ifs, 0⟩] scope pos) (.dc vs e f t it c?) := by
  subst hv
  exact PE.mono (pe_dc c.calm c.nd hi (blkOk_by ok) hg ht hk he hs) fun _ _ _ z => tDc_D (tgIn_of hj) z
/-! {} -/
theorem ge_dnew : GE X F (.Dict [] [] pos) .dnew := PE.mono pe_dnewK fun σ H Q z => by
  obtain ⟨G, O, e, m, h⟩ := z
  exact (At.pureW (v := .uni (.dict [])) h).dct .nil
/-! global constants -/
theorem ge_glI {i : Int} (hm : ∃ t, X.mg x = some (.int i t)) (hg : Gl X x := by rfl) (hd : dbgB x = true := by rfl) : GE X F (.Name x pos) (.num i) := by
  obtain ⟨t, hm⟩ := hm
  exact PE.mono (pe_glob (v := .int i) hg hm ⟨_, rfl⟩ (dbg_of hd).1) fun _ _ _ h => tC_D (fun _ _ => .int i) h
theorem ge_glS {i : Str} (hm : ∃ t, X.mg x = some (.str i t)) (hg : Gl X x := by rfl) (hd : dbgB x = true := by rfl) : GE X F (.Name x pos) (.str i) := by
  obtain ⟨t, hm⟩ := hm
  exact PE.mono (pe_glob (v := .str i) hg hm ⟨_, rfl⟩ (dbg_of hd).1) fun _ _ _ h => tC_D (fun _ _ => .str i) h
/-! chained comparisons -/
theorem tChain_D {K : PySem.W.Frag} {xo yo zo : M Opd} {o o' : O2} {σ : L2.St} {H : Hp} {Q : VK}
    (h : tD K F (xo.bind fun x => yo.bind fun y => x.now.bind fun d => y.now.bind fun e => (lift (o.den d e)).bind fun v => (isTrueV v).bind fun t => if t then zo.bind fun z => y.now.bind fun e => z.now.bind fun g => lift (o'.den e g) else M.pure (.dat (.bool false))) σ H Q) :
    tChain (R2D K F o) (R2D K F o') (tO K F xo) (tO K F yo) (tO K F zo) σ H Q := by
  obtain ⟨G, O, e, m, h⟩ := h
  obtain ⟨a, h⟩ := At.bind (R := ORep K) h
  refine (h.mono fun w H1 q => ?_).tr
  obtain ⟨O1, e1, m1, g, r, h⟩ := q
  obtain ⟨b, h⟩ := At.bind (R := ORep K) h
  have s1 := h.sim
  refine (h.mono fun w2 H2 q => ?_).tr
  obtain ⟨O2, e2, m2, g2, r2, h⟩ := q
  have s2 := h.sim
  have r1' := ORep.grow (e' := e2) s1 g2 r
  obtain ⟨b1, s1', hb⟩ := h.inv
  obtain ⟨d, sd, hd, hb⟩ := bind_ok hb
  obtain ⟨rfl, cd⟩ := ORep.now s2 r1' hd
  have h := At.same (a := d) h fun b s' z => by rw [hd] at z; cases z; exact ⟨rfl, rfl⟩
  obtain ⟨de, se, he, hb⟩ := bind_ok hb
  obtain ⟨rfl, ce⟩ := ORep.now s2 r2 he
  have h := At.same (a := de) h fun b s' z => by rw [he] at z; cases z; exact ⟨rfl, rfl⟩
  obtain ⟨v, sv, hv, hb⟩ := bind_ok hb
  have hv2 : o.den d de = some v ∧ sv = ⟨e2, m2⟩ := by
    cases q : o.den d de with
    | none => rw [q] at hv; cases hv
    | some v' => rw [q] at hv; cases hv; exact ⟨rfl, rfl⟩
  obtain ⟨hv2, rfl⟩ := hv2
  have h := At.same (a := v) h fun b s' z => by rw [hv2] at z; cases z; exact ⟨rfl, rfl⟩
  obtain ⟨t, st, htt, hb⟩ := bind_ok hb
  obtain ⟨rfl, rfl⟩ : v = .dat (.bool t) ∧ st = ⟨e2, m2⟩ := by
    cases v with
    | dat d =>
      cases d with
      | bool b => cases htt; exact ⟨rfl, rfl⟩
      | _ => cases htt
    | _ => cases htt
  have h := At.same (a := t) h fun b s' z => by cases z; exact ⟨rfl, rfl⟩
  refine ⟨G, O2, σ, e2, m2, d, de, .dat (.bool t), cd, ce, hv2, s2, fun w3 H3 O3 g3 s3 r3 => ?_⟩
  obtain rfl : w3 = .bl t := by
    have r3 : Rep K O3 H3 w3 (.bool t) := r3
    cases r3; rfl
  refine ⟨t, rfl, ?_⟩
  have r2' := ORep.grow (e' := e2) s2 g3 r2
  obtain ⟨s, bb, e', m', h1, h2⟩ := h
  have h3 : At K F (VRep K F) G O3 σ H3 e2 m2 (if t then zo.bind fun z => b.now.bind fun e => z.now.bind fun g => lift (o'.den e g) else M.pure (.dat (.bool false))) Q := ⟨s3, bb, e', m', h1, fun w H' O' g' s' r' => h2 w H' O' (g3.trans g' s2.fo) s' r'⟩
  cases t with
  | false => exact iteF (At.pure h3 (.bl false))
  | true =>
    refine iteT ?_
    have h : At K F (VRep K F) G O3 σ H3 e2 m2 (zo.bind fun z => b.now.bind fun e => z.now.bind fun g => lift (o'.den e g)) Q := h3
    obtain ⟨c, h⟩ := At.bind (R := ORep K) h
    refine (h.mono fun w4 H4 q => ?_).tr
    obtain ⟨O4, e4, m4, g4, r4, h⟩ := q
    have s4 := h.sim
    have r2'' := ORep.grow (e' := e4) s3 g4 r2'
    obtain ⟨b1, s1', hb⟩ := h.inv
    obtain ⟨d5, sd, hd5, hb⟩ := bind_ok hb
    obtain ⟨rfl, cd5⟩ := ORep.now s4 r2'' hd5
    have h := At.same (a := d5) h fun b s' z => by rw [hd5] at z; cases z; exact ⟨rfl, rfl⟩
    obtain ⟨de6, se, he6, hb⟩ := bind_ok hb
    obtain ⟨rfl, ce6⟩ := ORep.now s4 r4 he6
    have h := At.same (a := de6) h fun b s' z => by rw [he6] at z; cases z; exact ⟨rfl, rfl⟩
    obtain ⟨v, hv, wt⟩ := At.wants (v := .dat .none) h
    exact ⟨G, O4, σ, e4, m4, d5, de6, v, cd5, ce6, hv, wt⟩
theorem ge_chn {op op' : CmpOp} {o o' : O2} {cc : Expr} {g : Ex} (ho : OpR X (compareOp op) (R2D X.K F o)) (ho' : OpR X (compareOp op') (R2D X.K F o')) (ha : GO X F a e) (hb : GO X F b f) (hc : GO X F cc g) (hm : lastMarks [op, op'] [b, cc] = false := by with_unfolding_all rfl) :
    GE X F (.Compare a [op, op'] [b, cc] pos) (.chn o o' e f g) := PE.mono (pe_chain ho ho' ha hb hc hm) fun _ _ _ h => tChain_D h
theorem gt_chn {op op' : CmpOp} {o o' : O2} {cc : Expr} {g : Ex} (ho : OpR X (compareOp op) (R2D X.K F o)) (ho' : OpR X (compareOp op') (R2D X.K F o')) (ha : GO X F a e) (hb : GO X F b f) (hc : GO X F cc g) (hm : lastMarks [op, op'] [b, cc] = false := by with_unfolding_all rfl) :
    GT X F (.Compare a [op, op'] [b, cc] pos) (.chn o o' e f g) := PT.mono (pt_chain ho ho' ha hb hc hm) fun σ H Q h => by
  have h := tT_D h
  exact tChain_D h
end
end Fb

namespace Fb
open PySem PySem.Spec PyProof.Rows L2
section
variable {X : Cx} {F : List Addr} {K : PySem.W.Frag} {G O O' : Own} {σ : L2.St} {H H' : Hp} {e : List Slot} {m : Mu}
theorem Cont.isD {v : V} {es : List (PyData × PyData)} (h : Cont K O H v (.dict es)) : ∃ a, v = .ref a ∧ IsD H a := by
  obtain ⟨a, ks, rfl, h, _⟩ := h.dct
  exact ⟨a, rfl, .inl ⟨ks, .inl h⟩⟩
theorem recv_get {d : PyData} (h : O2.recv .get d = true) : ∃ es, d = .dict es := by cases d <;> first | exact ⟨_, rfl⟩ | cases h
theorem recv_index {d : PyData} (h : O2.recv .index d = true) : ∃ es, d = .list es := by cases d <;> first | exact ⟨_, rfl⟩ | cases h
theorem recv_count {d : PyData} (h : O2.recv .count d = true) : ∃ es, d = .list es := by cases d <;> first | exact ⟨_, rfl⟩ | cases h
theorem At.recv {γ δ : Type} {R : Rel γ δ} {o : O2} {d : PyData} {f : Unit → M γ} {Q : δ → Hp → Prop} (h : At K F R G O σ H e m ((recvM o d).bind f) Q) : o.recv d = true ∧ At K F R G O σ H e m (f ()) Q := by
  by_cases c : o.recv d = true
  · refine ⟨c, At.same (a := ()) h fun b s' z => ?_⟩
    unfold recvM at z
    rw [if_pos c] at z
    cases z
    exact ⟨rfl, rfl⟩
  · obtain ⟨_, b, e', m', h1, _⟩ := h
    obtain ⟨a', s1, h3, _⟩ := bind_ok h1
    unfold recvM at h3
    rw [if_neg c] at h3
    cases h3
/-- a method of one argument: what its receiver is, then the operation -/
theorem tMt_D {xo yo : M Opd} {o : O2} {Q : VK} (h : tD K F (xo.bind fun x => x.now.bind fun d0 => (recvM o d0).bind fun _ => yo.bind fun y => x.now.bind fun d => y.now.bind fun e => lift (o.den d e)) σ H Q) :
    tO K F xo σ H fun w H1 => ∃ O1 d0, Cont K O1 H1 w d0 ∧ o.recv d0 = true ∧ tO K F yo σ H1 fun w2 H2 => R2D K F o w w2 H2 Q := by
  obtain ⟨G, O, e, m, h⟩ := h
  obtain ⟨a, h⟩ := At.bind (R := ORep K) h
  refine (h.mono fun w H1 q => ?_).tr
  obtain ⟨O1, e1, m1, g, r, h⟩ := q
  have s1 := h.sim
  obtain ⟨b1, s1', hb⟩ := h.inv
  obtain ⟨d, sd, hd, hb⟩ := bind_ok hb
  obtain ⟨rfl, cd⟩ := ORep.now s1 r hd
  have h := At.same (a := d) h fun b s' z => by rw [hd] at z; cases z; exact ⟨rfl, rfl⟩
  obtain ⟨hrc, h⟩ := At.recv h
  refine ⟨O1, d, cd, hrc, ?_⟩
  obtain ⟨b, h⟩ := At.bind (R := ORep K) h
  refine (h.mono fun w2 H2 q => ?_).tr
  obtain ⟨O2, e2, m2, g2, r2, h⟩ := q
  have s2 := h.sim
  have r1' := ORep.grow (e' := e2) s1 g2 r
  obtain ⟨b1, s1', hb⟩ := h.inv
  obtain ⟨d, sd, hd, hb⟩ := bind_ok hb
  obtain ⟨rfl, cd⟩ := ORep.now s2 r1' hd
  have h := At.same (a := d) h fun b s' z => by rw [hd] at z; cases z; exact ⟨rfl, rfl⟩
  obtain ⟨de, se, he, hb⟩ := bind_ok hb
  obtain ⟨rfl, ce⟩ := ORep.now s2 r2 he
  have h := At.same (a := de) h fun b s' z => by rw [he] at z; cases z; exact ⟨rfl, rfl⟩
  obtain ⟨v, hv, wt⟩ := At.wants (v := .dat .none) h
  exact ⟨G, O2, σ, e2, m2, d, de, v, cd, ce, hv, wt⟩
theorem den_get {d k : PyData} {v : Val} (h : O2.den .get d k = some v) : ∃ es, d = .dict es ∧ isKey k = true ∧ v = .dat ((dGet es k).getD .none) := by
  cases d with
  | dict es =>
    have h : (if isKey k = true then some (Val.dat ((dGet es k).getD .none)) else none) = some v := h
    obtain ⟨h1, h2⟩ := some_ite h
    exact ⟨es, rfl, h1, h2.symm⟩
  | _ => cases h
theorem RepO.getD {o : Option V} {d : Option PyData} {z : V} {dz : PyData} (h : RepO K O H o d) (hz : Rep K O H z dz) : Rep K O H (o.getD z) (d.getD dz) := by
  cases o <;> cases d <;> first | exact hz | exact h | exact h.elim
theorem tGet1_D {xo yo : M Opd} {Q : VK} (h : tD K F (xo.bind fun x => x.now.bind fun d0 => (recvM .get d0).bind fun _ => yo.bind fun y => x.now.bind fun d => y.now.bind fun e => lift (O2.den .get d e)) σ H Q) : tDGet1 (tO K F xo) (tO K F yo) σ H Q := by
  have h := tMt_D h
  refine tR_mono h fun w H1 q => ?_
  obtain ⟨O1, d0, cd, hrc, h⟩ := q
  obtain ⟨es, rfl⟩ := recv_get hrc
  obtain ⟨a, rfl, hD⟩ := cd.isD
  refine ⟨a, rfl, hD, tR_mono h fun w2 H2 q => ?_⟩
  obtain ⟨G, O2, σ2, e2, m2, dx, dy, v, cx, cy, hv, wt⟩ := q
  obtain ⟨es, rfl, hk, rfl⟩ := den_get hv
  obtain ⟨c, rfl⟩ := key_is hk
  obtain ⟨a', ks, e1, ha, r⟩ := cx.dct
  cases e1
  have rl := r.look c
  exact ⟨valV ks c, by rw [cy.key]; exact DGet.k ha, wt.dat (rl.getD .non)⟩
theorem tGet2_D {xo yo : M Opd} {zo : M Val} {Q : VK} (h : tD K F (xo.bind fun x => x.now.bind fun d0 => (recvM .get d0).bind fun _ => yo.bind fun y => zo.bind fun v => v.data.bind fun z => x.now.bind fun d => y.now.bind fun k => lift (get2D d k z)) σ H Q) : tDGet2 (tO K F xo) (tO K F yo) (tD K F zo) σ H Q := by
  obtain ⟨G, O, e, m, h⟩ := h
  obtain ⟨a, h⟩ := At.bind (R := ORep K) h
  refine (h.mono fun w H1 q => ?_).tr
  obtain ⟨O1, e1, m1, g, r, h⟩ := q
  have s1 := h.sim
  obtain ⟨b1, s1', hb⟩ := h.inv
  obtain ⟨d, sd, hd, hb⟩ := bind_ok hb
  obtain ⟨rfl, cd⟩ := ORep.now s1 r hd
  have h := At.same (a := d) h fun b s' z => by rw [hd] at z; cases z; exact ⟨rfl, rfl⟩
  obtain ⟨hrc, h⟩ := At.recv h
  obtain ⟨es, rfl⟩ := recv_get hrc
  obtain ⟨p, rfl, hD⟩ := cd.isD
  refine ⟨p, rfl, hD, ?_⟩
  obtain ⟨b, h⟩ := At.bind (R := ORep K) h
  refine (h.mono fun w2 H2 q => ?_).tr
  obtain ⟨O2, e2, m2, g2, r2, h⟩ := q
  have s2 := h.sim
  have r1' := ORep.grow (e' := e2) s1 g2 r
  obtain ⟨c, h⟩ := At.bind (R := VRep K F) h
  refine (h.mono fun w3 H3 q => ?_).tr
  obtain ⟨O3, e3, m3, g3, r3, h⟩ := q
  have s3 := h.sim
  obtain ⟨dz, O4, g4, rz, h⟩ := At.data h r3
  have s4 := h.sim
  have r1'' := ORep.grow (e' := e3) s3 g4 (ORep.grow (e' := e3) s2 g3 r1')
  have r2'' := ORep.grow (e' := e3) s3 g4 (ORep.grow (e' := e3) s2 g3 r2)
  obtain ⟨b1, s1', hb⟩ := h.inv
  obtain ⟨d, sd, hd, hb⟩ := bind_ok hb
  obtain ⟨rfl, cd⟩ := ORep.now s4 r1'' hd
  have h := At.same (a := d) h fun b s' z => by rw [hd] at z; cases z; exact ⟨rfl, rfl⟩
  obtain ⟨de, se, he, hb⟩ := bind_ok hb
  obtain ⟨rfl, ce⟩ := ORep.now s4 r2'' he
  have h := At.same (a := de) h fun b s' z => by rw [he] at z; cases z; exact ⟨rfl, rfl⟩
  obtain ⟨v, hv, wt⟩ := At.wants (v := .dat .none) h
  cases d with
  | dict es =>
    obtain ⟨hk, rfl⟩ := some_ite (show (if isKey de = true then some (Val.dat ((dGet es de).getD dz)) else none) = some v from hv)
    obtain ⟨c, rfl⟩ := key_is hk
    obtain ⟨a', ks, e1, ha, r⟩ := cd.dct
    cases e1
    have rl := r.look c
    exact ⟨valV ks c, by rw [ce.key]; exact DGet.k ha, wt.dat (rl.getD rz)⟩
  | _ => cases hv
/-! list.index -/
theorem find_facts {x : PyData} : ∀ {ds : List PyData} {j : Nat}, findD x ds = some j → ∃ z, ds[j]? = some z ∧ PyData.eqv z x = true ∧ ∀ (m : Nat) (z' : PyData), m < j → ds[m]? = some z' → PyData.eqv z' x = false
  | [], j, h => by cases h
  | y :: r, j, h => by
    unfold findD at h
    by_cases c : PyData.eqv y x = true
    · rw [if_pos c] at h
      cases h
      exact ⟨y, rfl, c, fun m z' hm => absurd hm (Nat.not_lt_zero _)⟩
    · rw [if_neg c] at h
      obtain ⟨i, hi, rfl⟩ := Option.map_eq_some_iff.mp h
      obtain ⟨z, h1, h2, h3⟩ := find_facts hi
      refine ⟨z, by simpa using h1, h2, fun m z' hm hz => ?_⟩
      cases m with
      | zero => simp at hz; subst hz; exact Bool.eq_false_iff.mpr c
      | succ m => exact h3 m z' (by omega) (by simpa using hz)
theorem mt_idx (hu : X.A.units + 65 < cLine) : MtR X "list.index" (fun x xs H Q => ∃ y, xs = [y] ∧ R2D X.K F .index x y H Q) := by
  intro pins s σ H x xs v us Q I rx rs h
  refine mt_indexD hu pins s σ H x xs v us Q I rx rs ?_
  obtain ⟨y, rfl, G, O, σ, e, m, dx, dy, v, cx, cy, hd, wt⟩ := h
  cases dx with
  | list a =>
    have hd : (if (SeqAt.shaped (.list a) && SeqAt.shaped dy) = true then (findD dy a).map (fun i => Val.dat (.int (i : Nat))) else none) = some v := by cases dy <;> exact hd
    by_cases hc : (SeqAt.shaped (.list a) && SeqAt.shaped dy) = true
    · rw [if_pos hc] at hd
      obtain ⟨j, hj, rfl⟩ := Option.map_eq_some_iff.mp hd
      obtain ⟨h1, h2⟩ := Bool.and_eq_true_iff.mp hc
      obtain ⟨p, _, rfl, _, _⟩ := cx.lst
      obtain ⟨z, z1, z2, z3⟩ := find_facts hj
      exact ⟨p, y, dy, a, j, z, rfl, rfl, cx.dp (SeqAt.canLay_of_shaped h1), cy.dp (SeqAt.canLay_of_shaped h2), h1, h2, z1, z2, z3, wt.dat (.int _)⟩
    · rw [if_neg hc] at hd; cases hd
  | _ => cases hd
theorem tIdx_D {xo yo : M Opd} {Q : VK} (h : tD K F (xo.bind fun x => x.now.bind fun d0 => (recvM .index d0).bind fun _ => yo.bind fun y => x.now.bind fun d => y.now.bind fun e => lift (O2.den .index d e)) σ H Q) : tBM K "list" (fun x xs H Q => ∃ y, xs = [y] ∧ R2D K F .index x y H Q) (tO K F xo) (tCons (tO K F yo) tNil) σ H Q := by
  have h := tMt_D h
  refine tR_mono h fun w H1 q => ?_
  obtain ⟨O1, d0, cd, hrc, h⟩ := q
  obtain ⟨es, rfl⟩ := recv_index hrc
  obtain ⟨p, ys, rfl, hp, rp⟩ := cd.lst
  refine ⟨.inl ⟨rfl, _, hp⟩, tR_mono h fun w2 H2 q => ?_⟩
  exact ⟨w2, rfl, q⟩
/-! d[k] = e, d a dict that nobody else holds -/
theorem Sim.mutateD {i : Nat} {d : PyData} {a : Addr} {xs : List (Key × V)} {ds : List (PyData × PyData)} (s : Sim K F G O σ H e m) (h : e[i]? = some (.own d)) (ha : σ[i]? = some (some (.ref a))) (r : RepKV K O H xs ds) :
    Sim K F G O σ (upd H a (.dK xs)) (e.set i (.own (.dict ds))) m ∧ Grow F G O H O (upd H a (.dK xs)) := by
  obtain ⟨a', h1, h2, h3, h4⟩ := s.slot i _ h
  rw [ha] at h1
  cases h1
  have hi : i < e.length := (List.getElem?_eq_some_iff.mp h).1
  have st : Stays O H O (upd H a (.dK xs)) := stays_mut h2
  refine ⟨⟨by rw [List.length_set]; exact s.len, fun j x q => ?_, fun j j' d1 d2 b q1 q2 o1 o2 z1 z2 => ?_, s.fg, s.go, fun b z => ?_, s.nd, s.sl, fun n b kvs q1 q2 => ?_⟩, grow_mut h2 h3⟩
  · rw [set_get] at q
    by_cases ij : i = j
    · subst ij
      rw [if_pos rfl, if_pos hi] at q
      cases q
      exact ⟨a, ha, h2, h3, xs, upd_same, r.stays st⟩
    · rw [if_neg ij] at q
      have sl := s.slot j x q
      cases x with
      | unset => trivial
      | val d => obtain ⟨y, k1, k2⟩ := sl; exact ⟨y, k1, k2.stays st⟩
      | own d2 =>
        obtain ⟨b, k1, k2, k3, k4⟩ := sl
        have ne : b ≠ a := fun z => by subst z; exact ij (s.apart i j (.own d) (.own d2) b h q rfl rfl ha k1)
        refine ⟨b, k1, k2, k3, ?_⟩
        cases d2 with
        | list ds => obtain ⟨ys, k4, k5⟩ := k4; exact ⟨ys, by rw [upd_ne ne]; exact k4, k5.stays st⟩
        | dict ds => obtain ⟨ys, k4, k5⟩ := k4; exact ⟨ys, by rw [upd_ne ne]; exact k4, k5.stays st⟩
        | _ => exact k4.elim
      | sto n => exact sl
      | tab w es =>
        obtain ⟨b, k1, k2, k3, k4⟩ := sl
        have ne : b ≠ a := fun z => by subst z; exact ij (s.apart i j (.own d) (.tab w es) b h q rfl rfl ha k1)
        exact ⟨b, k1, k2, k3, k4.to st fun o q => by rw [upd_ne ne]; exact q⟩
  · have own : ∀ (j : Nat) (x : Slot), (e.set i (.own (.dict ds)))[j]? = some x → ownS x = true → ∃ y, e[j]? = some y ∧ ownS y = true := fun j x q o => by
      rw [set_get] at q
      by_cases ij : i = j
      · subst ij; exact ⟨_, h, rfl⟩
      · rw [if_neg ij] at q; exact ⟨_, q, o⟩
    obtain ⟨_, w1, p1⟩ := own j d1 q1 o1
    obtain ⟨_, w2, p2⟩ := own j' d2 q2 o2
    exact s.apart j j' _ _ b w1 w2 p1 p2 z1 z2
  · by_cases z2 : b = a
    · subst z2; exact ⟨_, upd_same⟩
    · obtain ⟨u, q⟩ := s.live b z
      exact ⟨u, by rw [upd_ne z2]; exact q⟩
  · obtain ⟨ks, k1, k2⟩ := s.st n b kvs q1 q2
    have ne : b ≠ a := fun z => h3 (z ▸ s.fg b (List.mem_of_getElem? q1))
    exact ⟨ks, by rw [upd_ne ne]; exact k1, k2.stays st⟩
theorem tDset_S {x y : M Val} {i : Nat} {D : Ends} (h : tS K F (x.bind fun v => v.data.bind fun d => (dictChk i).bind fun _ => y.bind fun kv => kv.data.bind fun k => (dputM i k d).bind fun _ => M.pure .nx) D σ H) : sDPut (tVar i) (tD K F y) (tD K F x) D σ H := by
  obtain ⟨G, O, e, m, h⟩ := h
  obtain ⟨v, _, h⟩ := AtS.bind (R := VRep K F) h
  refine (h.mono fun w H1 q => ?_).tr
  obtain ⟨O1, e1, m1, g, r, h⟩ := q
  obtain ⟨d, O2, g2, rd, h⟩ := AtS.data h r
  obtain ⟨s2, fl, e', m', h1, h2⟩ := h
  obtain ⟨_, sc, hc, h1⟩ := bind_ok h1
  unfold dictChk at hc
  dsimp only at hc
  cases q : e1[i]? with
  | none => rw [q] at hc; cases hc
  | some sl0 =>
    rw [q] at hc
    cases sl0 with
    | own dd =>
      cases dd with
      | dict es =>
        cases hc
        obtain ⟨a, k1, k2, k3, k4⟩ := s2.slot i _ q
        refine ⟨.ref a, k1, ?_⟩
        obtain ⟨kv, sk, hk, h1⟩ := bind_ok h1
        obtain ⟨e3, m3⟩ := sk
        refine ⟨G, O2, e1, m1, s2, kv, e3, m3, hk, fun wk H3 O3 g3 s3 rk => ?_⟩
        obtain ⟨dk, s5, hdk, h1⟩ := bind_ok h1
        obtain ⟨O4, g4, s4, rrk, hdd⟩ := VRep.data s3 rk ⟨s5, hdk⟩
        rw [hdd] at hdk
        cases hdk
        obtain ⟨_, s6, hp, h1⟩ := bind_ok h1
        cases h1
        unfold dputM at hp
        dsimp only at hp
        cases q3 : e3[i]? with
        | none => rw [q3] at hp; cases hp
        | some sl3 =>
          rw [q3] at hp
          cases sl3 with
          | own dd3 =>
            cases dd3 with
            | dict es3 =>
              dsimp only at hp
              by_cases hc3 : isKey dk = true ∧ es3.length < SZ
              · rw [if_pos hc3] at hp
                cases hp
                obtain ⟨c, rfl⟩ := key_is hc3.1
                obtain ⟨a', j1, j2, j3, ks, j4, j5⟩ := s4.slot i _ q3
                rw [k1] at j1
                cases j1
                have rdv : Rep K O4 H3 w d := (rd.stays (g3.stays s2.fo)).stays (g4.stays s3.fo)
                obtain ⟨s7, g7⟩ := s4.mutateD q3 k1 (j5.put (c := c) rdv)
                refine ⟨a, _, rfl, by rw [rrk.key]; exact DPut.k j4 (by rw [j5.length, ← sz_eq]; exact hc3.2), ?_⟩
                exact h2 σ _ O4 (g3.trans (g4.trans g7 s3.fo) s2.fo) s7
              · rw [if_neg hc3] at hp; cases hp
            | _ => cases hp
          | _ => cases hp
      | _ => cases hc
    | _ => cases hc
/-! while -/
theorem tWhl_S {x : M Val} {b : M Flow} {n : Nat} {D : Ends} (h : tS K F (whlGo (x.bind isTrueV) b n) D σ H) : tWhile (tT K F x) (tS K F b) D σ H := by
  refine ⟨fun n σ H => tS K F (whlGo (x.bind isTrueV) b n) D σ H, ⟨n, h⟩, ?_⟩
  rintro n σ H ⟨G, O, e, m, s, f, e', m', h1, h2⟩
  cases n with
  | zero => cases h1
  | succ n =>
    unfold whlGo at h1
    obtain ⟨t, ⟨e1, m1⟩, hc, h1⟩ := bind_ok h1
    refine ⟨G, O, e, m, s, t, e1, m1, hc, fun w H1 O1 g s1 rb => ?_⟩
    obtain rfl : w = t := rb
    cases w with
    | false =>
      refine iteF ?_
      cases h1
      exact h2 σ H1 O1 g s1
    | true =>
      refine iteT ⟨fun σ' H' => tS K F (whlGo (x.bind isTrueV) b n) D σ' H', fun σ' H' q => ⟨n, Nat.lt_succ_self n, q⟩, ?_⟩
      obtain ⟨f1, ⟨e2, m2⟩, hb, h1⟩ := bind_ok h1
      refine ⟨G, O1, e1, m1, s1, f1, e2, m2, hb, fun σ3 H3 O3 g3 s3 => ?_⟩
      have gt : Grow F G O H O3 H3 := g.trans g3 s.fo
      cases f1 with
      | nx => exact ⟨G, O3, e2, m2, s3, f, e', m', h1, fun σ4 H4 O4 g4 s4 => h2 σ4 H4 O4 (gt.trans g4 s.fo) s4⟩
      | cnt => exact ⟨G, O3, e2, m2, s3, f, e', m', h1, fun σ4 H4 O4 g4 s4 => h2 σ4 H4 O4 (gt.trans g4 s.fo) s4⟩
      | brk => cases h1; exact h2 σ3 H3 O3 gt s3
      | ret v => cases h1; exact h2 σ3 H3 O3 gt s3
/-! max, min of a list of ints -/
theorem foldmax_mem (l : List Int) : ∀ x, l.foldl (fun m y => if y > m then y else m) x ∈ x :: l ∧ ∀ y ∈ x :: l, y ≤ l.foldl (fun m y => if y > m then y else m) x := by
  induction l with
  | nil => intro x; exact ⟨List.mem_cons_self, fun y hy => by rw [List.mem_singleton] at hy; subst hy; exact Int.le_refl _⟩
  | cons a t ih =>
    intro x
    rw [List.foldl_cons]
    obtain ⟨h1, h2⟩ := ih (if a > x then a else x)
    refine ⟨?_, fun y hy => ?_⟩
    · rcases List.mem_cons.mp h1 with h | h
      · rw [h]; split <;> simp
      · exact List.mem_cons_of_mem _ (List.mem_cons_of_mem _ h)
    · have hx := h2 _ List.mem_cons_self
      have hm : x ≤ (if a > x then a else x) ∧ a ≤ (if a > x then a else x) := by split <;> omega
      rcases List.mem_cons.mp hy with rfl | hy
      · omega
      · rcases List.mem_cons.mp hy with rfl | hy
        · omega
        · exact h2 y (List.mem_cons_of_mem _ hy)
theorem foldmin_mem (l : List Int) : ∀ x, l.foldl (fun m y => if y < m then y else m) x ∈ x :: l ∧ ∀ y ∈ x :: l, l.foldl (fun m y => if y < m then y else m) x ≤ y := by
  induction l with
  | nil => intro x; exact ⟨List.mem_cons_self, fun y hy => by rw [List.mem_singleton] at hy; subst hy; exact Int.le_refl _⟩
  | cons a t ih =>
    intro x
    rw [List.foldl_cons]
    obtain ⟨h1, h2⟩ := ih (if a < x then a else x)
    refine ⟨?_, fun y hy => ?_⟩
    · rcases List.mem_cons.mp h1 with h | h
      · rw [h]; split <;> simp
      · exact List.mem_cons_of_mem _ (List.mem_cons_of_mem _ h)
    · have hx := h2 _ List.mem_cons_self
      have hm : (if a < x then a else x) ≤ x ∧ (if a < x then a else x) ≤ a := by split <;> omega
      rcases List.mem_cons.mp hy with rfl | hy
      · omega
      · rcases List.mem_cons.mp hy with rfl | hy
        · omega
        · exact h2 y (List.mem_cons_of_mem _ hy)
theorem cr_maxl (hc : X.calm = true) : CallR X (.builtin "max") (C1D X.K F .maxl) := by
  refine CallR.imp (cr_max hc) fun xs H Q h => ?_
  obtain ⟨x, rfl, G, O, σ, e, m, d, v, cx, hd, wt⟩ := h
  cases d with
  | list a =>
    obtain ⟨l, h1, h2⟩ := Option.bind_eq_some_iff.mp (show (ints? a).bind _ = some v from hd)
    obtain ⟨p, ys, rfl, hp, rp⟩ := cx.lst
    rw [ints_rep rp h1] at hp
    cases l with
    | nil => cases h2
    | cons i r =>
      cases h2
      refine ⟨p, i :: r, rfl, hp, Nat.succ_pos _, fun mm hm hu => ?_⟩
      obtain ⟨f1, f2⟩ := foldmax_mem r i
      have e : mm = r.foldl (fun m y => if y > m then y else m) i := Int.le_antisymm (f2 mm hm) (hu _ f1)
      rw [e]
      exact wt.dat (.int _)
  | _ => cases hd
theorem canLay_mem : ∀ {ds : List PyData} {d : PyData}, PyData.canLayAll0 ds = true → d ∈ ds → d.canLay0 = true
  | e :: r, d, h, hm => by
    obtain ⟨h1, h2⟩ := hd_cons h
    rcases List.mem_cons.mp hm with rfl | hm
    · exact h1
    · exact canLay_mem h2 hm
theorem minD_mem (x : PyData) (xs : List PyData) : PySem.W.minD x xs ∈ x :: xs := by
  unfold PySem.W.minD
  induction xs generalizing x with
  | nil => exact List.mem_cons_self
  | cons y r ih =>
    rw [List.foldl_cons]
    rcases List.mem_cons.mp (ih (if PySem.W.dataLt y x = true then y else x)) with h | h
    · rw [h]
      split
      · exact List.mem_cons_of_mem _ List.mem_cons_self
      · exact List.mem_cons_self
    · exact List.mem_cons_of_mem _ (List.mem_cons_of_mem _ h)
theorem cr_minl (hc : X.calm = true) (hu : X.A.units + 100 < cLine) : CallR X (.builtin "min") (C1D X.K F .minl) := by
  intro pins s σ H xs us Q I r h
  obtain ⟨x, rfl, G, O, σ', e, m, d, v, cx, hd, wt⟩ := h
  cases d with
  | list a =>
    cases a with
    | nil => cases hd
    | cons d0 ds =>
      obtain ⟨hcd, rfl⟩ := some_ite (show (if _ then some (Val.dat (PySem.W.minD d0 ds)) else none) = some v from hd)
      simp only [Bool.and_eq_true, List.all_eq_true] at hcd
      obtain ⟨⟨h1, h2⟩, sh⟩ := hcd
      obtain ⟨p, ys, rfl, hp, rp⟩ := cx.lst
      rw [Vals.ref1 r]
      obtain ⟨its, rv, pl, hz⟩ := I.list hp
      have cl : PyData.canLayAll0 (d0 :: ds) = true := by simpa [PyData.canLay0] using SeqAt.canLay_of_shaped sh
      obtain ⟨as, ra⟩ := Dp.readsAll I (d0 :: ds) _ its (rp.dp cl) rv
      have al : PySem.W.AlikeAll (d0 :: ds) := ⟨h1, fun z hz => by have q := h2 z hz; intro e; subst e; cases q⟩
      have q2 := SeqAt.depth_of_shaped sh
      simp only [PyData.depth] at q2
      refine PySem.W.min_list_data (A := X.A) (I.ok.hd hc) pl.isList (by simpa using ra) al (by omega) fun i v h' tk bs hv hR hk => ?_
      have hv' : its[i]? = some v := by simpa using hv
      have hlen := rv.length
      have hi : i < its.length := (List.getElem?_eq_some_iff.mp hv').1
      obtain ⟨u, e1, r1⟩ := rv.get (List.getElem?_eq_getElem (show i < ys.length by omega))
      rw [hv'] at e1
      cases e1
      obtain ⟨dd, e2, r2⟩ := rp.get (List.getElem?_eq_getElem (show i < ys.length by omega))
      have hm := List.mem_of_getElem? e2
      have cl1 : dd.canLay0 = true := by
        have := SeqAt.canLay_of_shaped sh
        exact canLay_mem cl hm
      obtain ⟨as2, ra2⟩ := Dp.reads I _ _ _ (r2.dp cl1) r1
      have ed : PySem.W.minD d0 ds = dd := PySem.W.alike_unique _ _ v _ _ (h1 _ (minD_mem d0 ds) _ hm) hR (PyProof.Rows.Reads.keeps hk ra2)
      exact ⟨_, H, I.kept hk, r1, wt.dat (by rw [ed]; exact r2)⟩
  | _ => cases hd
end
section
variable {X : Cx} {F : List Addr} {pos p ap : Pos} {a b : Expr} {e f g : Ex} {x : Str}
theorem gs_whl {cx : Expr} {B : List Stmt} {ce : Ex} {sb : List Sm} (hp : PassesOwn (model X.prog X.w) X.A X.env X.xe) (hc : GT X F cx ce) (hb : GSs X F B sb) : GS X F (.While cx B [] pos) (.whl ce sb) :=
  PS.mono (ps_while hp hc hb) fun _ _ _ z => tWhl_S z
theorem gs_brk : GS X F (.Break pos) .brk := PS.mono ps_break fun D σ H z => by
  obtain ⟨G, O, e, m, h⟩ := z
  exact h.pure
theorem gs_cnt : GS X F (.Continue pos) .cnt := PS.mono ps_continue fun D σ H z => by
  obtain ⟨G, O, e, m, h⟩ := z
  exact h.pure
theorem gs_dset (i : Nat) {kx : Expr} {ke : Ex} {px ps : Pos} (c : Ctx X) (ha : GE X F a e) (hk : GE X F kx ke) (hN : X.N[i]? = some x := by rfl) (hv : visB X.env.scope x = true := by rfl) (hd : dbgB x = true := by rfl)
    (hs : swapsWith a (some (.Subscript (.Name x px) kx ps)) pos.line X.env = pure false := by rfl) : GS X F (.Assign [.Subscript (.Name x px) kx ps] a pos) (.dset i ke e) :=
  PS.mono (ps_dput (by have := c.un; omega) (pe_var hN (vis_of hv) (dbg_of hd).1 (dbg_of hd).2) hk ha hs) fun _ _ _ z => tDset_S z
theorem ge_get1 (c : Ctx X) (ha : GO X F a e) (hb : GO X F b f) (hm : M1 X a "get" ap b pos := by exact ⟨rfl, rfl, rfl, rfl⟩) : GE X F (.Call (.Attribute a "get" ap) [b] [] pos) (.mt .get e f) :=
  PE.mono (pe_dget1 (by have := c.un; omega) ha hb hm) fun _ _ _ z => tGet1_D z
theorem ge_get2 {cc : Expr} (c : Ctx X) (ha : GO X F a e) (hb : GO X F b f) (hc : GE X F cc g) (hm : M2 X a "get" ap b cc pos := by exact ⟨rfl, rfl, rfl, rfl⟩) : GE X F (.Call (.Attribute a "get" ap) [b, cc] [] pos) (.get2 e f g) :=
  PE.mono (pe_dget2 (by have := c.un; omega) ha hb hc hm) fun _ _ _ z => tGet2_D z
theorem ge_index (c : Ctx X) (ha : GO X F a e) (hb : GO X F b f)
    (hbase : attributeBase a "index" X.env (eval a X.env) = eval a X.env := by rfl)
    (hfew : ((backTo pos (starEach [b] X.env)).all (fun x => !x.1) && (backToKw pos (keywordEach [] X.env)).all (fun x => x.1.isSome)
      && decide (([b] : List Expr).length + ([] : List Keyword).length + (if ([] : List Keyword).isEmpty then 0 else 1) < 30)) = true := by rfl)
    (hline : (ap.endLine == pos.line) = true := by rfl) (hs : starEach [b] X.env = (false, eval b X.env) :: starEach [] X.env := by rfl) (hplain : (backTo pos (starEach [] X.env)).any (·.1) = false := by rfl) :
    GE X F (.Call (.Attribute a "index" ap) [b] [] pos) (.mt .index e f) :=
  PE.mono (pe_bm PySem.F.plainAttrs_list PySem.F.slot_list_index PySem.F.type_list_index (mt_idx (by have := c.un; omega)) ha (pa_cons hb pa_nil hs) hbase hfew hline hs hplain) fun _ _ _ z => tIdx_D z
theorem ge_maxl (c : Ctx X) (ha : GO X F a e) (hg : Gl X "max" := by rfl) (hs : ∀ env, starEach [a] env = (false, eval a env) :: starEach [] env := by intro _; rfl) : GE X F (.Call (.Name "max" p) [a] [] pos) (.o1 .maxl e) :=
  ge_B1 c (cr_maxl c.calm) (by decide +kernel) (by decide +kernel) (by decide +kernel) (by decide +kernel) hg ha hs
theorem ge_minl (c : Ctx X) (ha : GO X F a e) (hg : Gl X "min" := by rfl) (hs : ∀ env, starEach [a] env = (false, eval a env) :: starEach [] env := by intro _; rfl) : GE X F (.Call (.Name "min" p) [a] [] pos) (.o1 .minl e) :=
  ge_B1 c (cr_minl c.calm (by have := c.un; omega)) (by decide +kernel) (by decide +kernel) (by decide +kernel) (by decide +kernel) hg ha hs
theorem ge_glT {at_ : Addr} {vs : List V} {ds : List PyData} (hm : X.mg x = some (.ref at_)) (hq : ∀ H, SqT X.K H at_ vs) (hr : ∀ O H, RepAll X.K O H vs ds) (hg : Gl X x := by rfl) (hd : dbgB x = true := by rfl) : GE X F (.Name x pos) (.gtup ds) :=
  PE.mono (pe_glob (v := .ref at_) hg hm rfl (dbg_of hd).1) fun _ _ _ h => tC_D (fun O H => .tup (.inr (hq Nil)) (hr O H)) h
end
end Fb

namespace Fb
open PySem PySem.Spec PyProof.Rows L2
/-! ### defaults -/
section
variable {K : PySem.W.Frag} {x qual : Str} {params : Arguments} {body : List Stmt} {scope : Scope} {dvs : List V} {kws : List (Str × V)} {f : Addr} {fd : FuncData}
theorem kbnD_of {ps ks : List Str} {n : Nat} (D : FunD K x qual params body scope dvs kws f fd) (hd : dvs ≠ []) (ix : List Nat)
    (h : ∀ (T : Addr) (kV doc pm : Value) (an : Option Addr) (cdv ct : Value) (us its ws : List Value), us.length = n → its.length = dvs.length → ws.length = ks.length →
      ∃ k, bindArgs (PySem.W.fnOf x qual params body scope (.ref T) kV doc pm an cdv ct) ⟨us, ks.zip ws⟩ = seqItems? (.ref T) >>= k ∧ k (some its.toArray) = pure (ps.zip (permL ix (us ++ its ++ ws)))) :
    ∃ its : List Value, KBn K fd ps n ks (fun us ws => permL ix (us ++ its ++ ws)) (fun vs zs => permL ix (vs ++ dvs ++ zs)) := by
  obtain ⟨oc, od, dV, kV, doc, pm, an, cdv, ct, osl, rfl, lk, hcd, hD, hK⟩ := D.ex
  rcases hD with ⟨e, _⟩ | ⟨_, T, o, its, m, rfl, lT, oT, rT⟩
  · exact absurd e hd
  · refine ⟨its, ⟨fun s us ws X l1 l2 => ?_, fun r1 r2 => vals_perm ((r1.append rT).append r2) ix⟩⟩
    obtain ⟨k, e1, e2⟩ := h T kV doc pm an cdv ct us its ws l1 rT.length.symm l2
    refine BindsTo.of_looks fun M => ?_
    rw [e1]
    exact looks_items X lT oT (.of_pure e2)
end
section
variable {X : Cx} {CX : CXT} {k n : Nat} {f : Addr} {fd : FuncData} {ps ks : List Str} {sp : Sp} {E : XK} {x : Str} {p pos : Pos} {e : Expr} {es : List Expr} {t : TA} {dvs : List V} {ds : List Value}
theorem pe_callgD (F : FG X.prog X.w X.K X.mg X.base CX k f fd ps sp) (hr : Room k X.A) (hgd : X.A.guards = some []) (hg : Gl X x) (hm : X.mg x = some (.ref f)) (hk : PySem.W.keepIn X.K (.ref f) = true) (hb : Binds X.K fd ps ds) (hd : Vals dvs ds) (hx : Passes CX X E)
    (ha : PA X (e :: es) t) (hdb : (x == ("__debug__" : Str)) = false := by decide) (he : starEach (e :: es) X.env = (false, eval e X.env) :: starEach es X.env := by rfl) (hpl : (backTo pos (starEach es X.env)).any (·.1) = false := by rfl) :
    PE X (.Call (.Name x p) (e :: es) [] pos) (tCall sp dvs E t) := by
  constructor
  intro pins s σ H Q I h
  refine wpAny_Call_Name_kw (ld_glob I hg hm ?_ hdb)
  refine PySem.W.callWith_K (h₀ := X.base) I.ok.mod.kin hk (thn (ha.run pos pins s σ H _ I h) fun us s1 ⟨vs, H1, I1, r, q⟩ => ⟨I1.kIn, ?_⟩) he hpl
  have r2 : Vals (vs ++ dvs) (us ++ ds) := r.append hd
  have hl : (us ++ ds).length = ps.length := by rw [← r2.length]; exact F.len _ _ _ _ q
  have hb' := hb s1 us I1.kIn hl
  refine wpAny_call (codeAny_mono (goG F hr hgd hx I1 hb' r2 q) fun r s' hq => ?_)
  match r, hq with
  | .error e, hq => exact hq
  | .ok (.ret u), hq => exact hq
  | .ok .next, hq => exact hq.elim
  | .ok .brk, hq => exact hq.elim
  | .ok .cont, hq => exact hq.elim
end
section
variable {X : Cx} {F : List Addr} {K : PySem.W.Frag} {G O O' : Own} {σ : L2.St} {H H' : Hp} {m : Mu}
theorem asRep_dat : ∀ {vs : List V} {ds : List PyData}, RepAll K O H vs ds → AsRep K F O H vs (ds.map .dat)
  | _, _, .nil => trivial
  | _, _, .cons h r => ⟨h, asRep_dat r⟩
theorem tCallD_D {g : Fn} {es : List Ex} {E : XK} {Q : VK} {dvs : List V} {dds : List PyData} (hd : ∀ O H, RepAll K O H dvs dds) (h : tD K F ((evVs es).bind fun vs => (evVs []).bind fun ws => callFn (fun xs mu => g (xs ++ dds.map .dat) mu) (vs ++ ws)) σ H Q) :
    tCall (spD K (es.length + dvs.length) g) dvs E (tVs K F (evVs es)) σ H Q := by
  obtain ⟨G, O, e, m, h⟩ := h
  obtain ⟨vs, ⟨s1, hl⟩, h⟩ := At.bind2 (R := VsRep K F) h
  refine (h.mono fun ws H1 q => ?_).tr
  obtain ⟨O1, e1, m1, g1, r, h⟩ := q
  have r : AsRep K F O1 H1 ws vs := r
  have h := At.same (a := []) h fun b s' z => by
    unfold evVs at z
    cases z
    exact ⟨rfl, rfl⟩
  rw [List.append_nil] at h
  have h2 : At K F (VRep K F) G O1 σ H1 e1 m1 (callFn g (vs ++ dds.map .dat)) Q := h
  have q := At.call h2 (ws := ws ++ dvs) (r.append (asRep_dat (hd O1 H1))) E
  rw [List.length_append, r.length, evVs_length hl] at q
  exact q
end
section
variable {X : Cx} {F : List Addr} {pos p : Pos} {a b : Expr} {e f : Ex} {k : Nat} {fa : Addr} {fd : FuncData} {ps ks : List Str} {x : Str}
theorem ge_callD {as : List Expr} {es : List Ex} {g : Fn} {dvs : List V} {dds : List PyData} (c : Ctx X) (Fg : FG X.prog X.w X.K X.mg X.base CX0 k fa fd ps (spD X.K ps.length g)) (hr : Room k X.A) (hm : X.mg x = some (.ref fa)) (hk : PySem.W.keepIn X.K (.ref fa) = true) (hb : ∃ ds, Vals dvs ds ∧ Binds X.K fd ps ds)
    (hd : ∀ O H, RepAll X.K O H dvs dds) (ha : GVs X F (a :: as) (e :: es)) (hl : decide (ps.length = (e :: es).length + dvs.length) = true := by rfl) (hg : Gl X x := by rfl) (hdb : dbgB x = true := by rfl) (he : ∀ env, starEach (a :: as) env = (false, eval a env) :: starEach as env := by intro _; rfl) (hpl : (backTo pos (starEach as X.env)).any (·.1) = false := by rfl) :
    GE X F (.Call (.Name x p) (a :: as) [] pos) (.call x (fun xs mu => g (xs ++ dds.map .dat) mu) (e :: es) [] []) := by
  have hl' := of_decide_eq_true hl
  rw [hl'] at Fg
  obtain ⟨ds, h1, h2⟩ := hb
  exact PE.mono (pe_callgD Fg hr c.gd hg hm hk h2 h1 pass0 ha (dbg_of hdb).1 (he _) hpl) fun _ _ _ z => tCallD_D (E := E0) hd z
def insD (n : Nat) (dds : List PyData) (xs : List Val) : List Val := xs.take n ++ dds.map .dat ++ xs.drop n
theorem tCallPD_D {K : PySem.W.Frag} {g : Fn} {es gs : List Ex} {E : XK} {Q : VK} {σ : L2.St} {H : Hp} {ix : List Nat} {np : Nat} {dvs : List V} {dds : List PyData} (hd : ∀ O H, RepAll K O H dvs dds) (hi : ix.length = np) (hb : (ix.all fun i => decide (i < es.length + dvs.length + gs.length)) = true)
    (h : tD K F ((evVs es).bind fun vs => (evVs gs).bind fun ws => callFn (fun xs mu => g (permL ix (insD es.length dds xs)) mu) (vs ++ ws)) σ H Q) :
    tCallN es.length gs.length (spD K np g) (fun vs zs => permL ix (vs ++ dvs ++ zs)) E (tVs K F (evVs es)) (tVs K F (evVs gs)) σ H Q := by
  obtain ⟨G, O, e, m, h⟩ := h
  obtain ⟨vs, ⟨s1, hl⟩, h⟩ := At.bind2 (R := VsRep K F) h
  refine (h.mono fun ws H1 q => ?_).tr
  obtain ⟨O1, e1, m1, g1, r, h⟩ := q
  have r : AsRep K F O1 H1 ws vs := r
  have s1 := h.sim
  obtain ⟨us, ⟨s2, hl2⟩, h⟩ := At.bind2 (R := VsRep K F) h
  refine (h.mono fun zs H2 q => ?_).tr
  obtain ⟨O2, e2, m2, g2, r2, h⟩ := q
  have r2 : AsRep K F O2 H2 zs us := r2
  have r' : AsRep K F O2 H2 ws vs := r.stays (g2.stays s1.fo)
  have l1 : ws.length = es.length := by rw [r.length, evVs_length hl]
  have l2 : zs.length = gs.length := by rw [r2.length, evVs_length hl2]
  have l3 : vs.length = es.length := evVs_length hl
  refine ⟨l1, l2, ?_⟩
  have ei : insD es.length dds (vs ++ us) = vs ++ dds.map .dat ++ us := by
    unfold insD
    rw [← l3, List.take_left, List.drop_left]
  have h2 : At K F (VRep K F) G O2 σ H2 e2 m2 (callFn g (permL ix (vs ++ dds.map .dat ++ us))) Q := by
    rw [← ei]
    exact h
  have ra : AsRep K F O2 H2 (permL ix (ws ++ dvs ++ zs)) (permL ix (vs ++ dds.map .dat ++ us)) := ((r'.append (asRep_dat (hd O2 H2))).append r2).perm ix
  have q := At.call h2 ra E
  have hlen : (permL ix (ws ++ dvs ++ zs)).length = np := by
    rw [permL_length, hi]
    intro i hm
    rw [List.length_append, List.length_append, l1, l2]
    exact of_decide_eq_true (List.all_eq_true.mp hb i hm)
  rw [hlen] at q
  exact q
theorem ge_callKD {kws : List Keyword} {gs : List Ex} {g : Fn} {dvs : List V} {dds : List PyData} (ix : List Nat) (c : Ctx X) (Fg : FG X.prog X.w X.K X.mg X.base CX0 k fa fd ps (spD X.K ps.length g)) (hr : Room k X.A) (hm : X.mg x = some (.ref fa)) (hk : PySem.W.keepIn X.K (.ref fa) = true)
    (hb : ∃ its : List Value, KBn X.K fd ps 0 ks (fun us ws => permL ix (us ++ its ++ ws)) (fun vs zs => permL ix (vs ++ dvs ++ zs))) (hd : ∀ O H, RepAll X.K O H dvs dds) (ha : GKs X F kws gs) (hl : decide (ix.length = ps.length) = true := by rfl) (hl2 : decide (ks.length = gs.length) = true := by rfl) (hix : (ix.all fun i => decide (i < 0 + dvs.length + gs.length)) = true := by rfl)
    (hg : Gl X x := by rfl) (hdb : dbgB x = true := by rfl) (hall : (backToKw pos (keywordEach kws X.env)).all (·.1.isSome) = true := by rfl) (hks : (backToKw pos (keywordEach kws X.env)).filterMap (·.1) = ks := by rfl)
    (hpl : (backToKw pos (keywordEach kws X.env)).any (·.1.isNone) = false := by rfl) (hne : kws.isEmpty = false := by rfl) :
    GE X F (.Call (.Name x p) [] kws pos) (.call x (fun xs mu => g (permL ix (insD 0 dds xs)) mu) [] ks gs) := by
  have hl' := of_decide_eq_true hl
  have h2 := of_decide_eq_true hl2
  obtain ⟨its, hb⟩ := hb
  refine PE.mono (pe_callgK Fg hr c.gd hg hm hk hb pass0 ha hall hks (dbg_of hdb).1 hpl hne) fun _ _ _ z => ?_
  rw [h2]
  have q := tCallPD_D (es := []) (E := E0) (ix := ix) hd hl' (by simpa using hix) z
  exact tNil_Vs q
theorem ge_callND {as : List Expr} {es : List Ex} {kws : List Keyword} {gs : List Ex} {g : Fn} {n : Nat} {dvs : List V} {dds : List PyData} (ix : List Nat) (c : Ctx X) (Fg : FG X.prog X.w X.K X.mg X.base CX0 k fa fd ps (spD X.K ps.length g)) (hr : Room k X.A) (hm : X.mg x = some (.ref fa)) (hk : PySem.W.keepIn X.K (.ref fa) = true)
    (hb : ∃ its : List Value, KBn X.K fd ps n ks (fun us ws => permL ix (us ++ its ++ ws)) (fun vs zs => permL ix (vs ++ dvs ++ zs))) (hd : ∀ O H, RepAll X.K O H dvs dds) (ha : GVs X F (a :: as) (e :: es)) (hk2 : GKs X F kws gs) (hl : decide (ix.length = ps.length) = true := by rfl) (hln : decide (n = (e :: es).length) = true := by rfl) (hl2 : decide (ks.length = gs.length) = true := by rfl)
    (hix : (ix.all fun i => decide (i < (e :: es).length + dvs.length + gs.length)) = true := by rfl)
    (hg : Gl X x := by rfl) (hdb : dbgB x = true := by rfl) (hall : (backToKw pos (keywordEach kws X.env)).all (·.1.isSome) = true := by rfl) (hks : (backToKw pos (keywordEach kws X.env)).filterMap (·.1) = ks := by rfl)
    (he : ∀ env, starEach (a :: as) env = (false, eval a env) :: starEach as env := by intro _; rfl)
    (hpl : ((backTo pos (starEach (a :: as) X.env)).any (·.1) || (backToKw pos (keywordEach kws X.env)).any (·.1.isNone)) = false := by rfl) :
    GE X F (.Call (.Name x p) (a :: as) kws pos) (.call x (fun xs mu => g (permL ix (insD n dds xs)) mu) (e :: es) ks gs) := by
  have hl' := of_decide_eq_true hl
  have h2 := of_decide_eq_true hl2
  have h4 := of_decide_eq_true hln
  subst h4
  obtain ⟨its, hb⟩ := hb
  refine PE.mono (pe_callgN Fg hr c.gd hg hm hk hb pass0 ha hk2 hall hks (dbg_of hdb).1 (he _) hpl) fun _ _ _ z => ?_
  rw [h2]
  exact tCallPD_D (E := E0) (ix := ix) hd hl' hix z
end
/-! ### facts by names: a global's name, the def's own -/
def FctG (K : PySem.W.Frag) (mg : Str → Option Value) (g x : Str) (st : Stmt) (dvs : List V) : Prop := ∃ f fd, FunD K x x (defArgs st) (defBody st) (defScope st) dvs [] f fd ∧ mg g = some (.ref f)
def OkG (P : Program) (w : World) (K : PySem.W.Frag) (mg : Str → Option Value) (base : Heap) (k : Nat) (g x : Str) (st : Stmt) (dvs : List V) (ps : List Str) (fn : Fn) : Prop :=
  ∃ f fd, FunD K x x (defArgs st) (defBody st) (defScope st) dvs [] f fd ∧ mg g = some (.ref f) ∧ FG P w K mg base CX0 k f fd ps (spD K ps.length fn)
abbrev dOfG (g x : Str) (st : Stmt) (dfl : List He.Dv) : He.DefD := ⟨(g, none), x, x, defArgs st, defBody st, defScope st, dfl, []⟩
/-! the head with tables of a module's tuples -/
abbrev Tb : Type := Str × List He.Dv
def obsX (fa : List He.Fa) (tb : List Tb) (fn : List He.DefD) (K : PySem.W.Frag) : He.AlD := ((fa.all fun f => f.ok K) && (tb.all fun t => He.tupB K t.1 t.2) && fn.all fun d => d.ok K, fn.map fun d => He.fnW K d.at_)
def SaysX (fa : List He.Fa) (tb : List Tb) (fn : List He.DefD) (K : PySem.W.Frag) : Prop := obsX fa tb fn K = He.valD fn
def obsXG (n : Nat) (fa : List He.Fa) (tb : List Tb) (fn : List He.DefD) (g : Addr → Option Obj) : He.AlD := obsX fa tb fn (He.frG g (He.asD g n))
def hookX (n : Nat) (fa : List He.Fa) (tb : List Tb) (fn : List He.DefD) : PySem.W.Hook where
  α := He.AlD
  obs := fun s => obsXG n fa tb fn s.heap.get?
  val := fun _ => He.valD fn
  says := fun _ h => ∃ K : PySem.W.Frag, K.In h ∧ SaysX fa tb fn K
  of := fun _ _ e => ⟨_, He.frG_in, e⟩
  keeps := fun _ _ _ ⟨K, hK, c⟩ k => ⟨K, PySem.W.Frag.In.keeps hK k, c⟩
theorem obsXG_eq {n : Nat} {fa : List He.Fa} {tb : List Tb} {fn : List He.DefD} {g : Addr → Option Obj} {s : Shared} (h : ∀ a, g a = s.heap.get? a) : obsXG n fa tb fn g = (hookX n fa tb fn).obs s := by
  have e : g = s.heap.get? := funext h
  rw [e] <;> rfl
theorem SaysX.says {fa : List He.Fa} {tb : List Tb} {fn : List He.DefD} {K : PySem.W.Frag} (c : SaysX fa tb fn K) : He.SaysD fa fn K := by
  have c1 : ((fa.all fun f => f.ok K) && (tb.all fun t => He.tupB K t.1 t.2) && fn.all fun d => d.ok K) = true := congrArg (fun z : He.AlD => z.1) c
  have c2 : (fn.map fun d => He.fnW K d.at_) = fn.map He.DefD.val := congrArg (fun z : He.AlD => z.2) c
  simp only [Bool.and_eq_true] at c1
  unfold He.SaysD He.obsD He.valD
  rw [c2, c1.1.1, c1.2]
  rfl
theorem SaysX.tab {fa : List He.Fa} {tb : List Tb} {fn : List He.DefD} {K : PySem.W.Frag} (c : SaysX fa tb fn K) (i : Nat) {x : Str} {vs : List He.Dv} (h : tb[i]? = some (x, vs) := by rfl) : He.tupB K x vs = true := by
  have c1 : ((fa.all fun f => f.ok K) && (tb.all fun t => He.tupB K t.1 t.2) && fn.all fun d => d.ok K) = true := congrArg (fun z : He.AlD => z.1) c
  simp only [Bool.and_eq_true] at c1
  exact List.all_eq_true.mp c1.1.2 (x, vs) (List.mem_of_getElem? h)
theorem fctG_of {K : PySem.W.Frag} {h : Heap} {mg : Str → Option Value} {fa : List He.Fa} {fn : List He.DefD} (X : K.In h) (G : h.Ns mainGlobals mg) (c : He.SaysD fa fn K) (i j : Nat) {g x : Str} {st : Stmt} {dfl : List He.Dv} (h1 : fn[i]? = some (dOfG g x st dfl)) (h2 : fa[j]? = some (.glo g)) : FctG K mg g x st (dfl.map (He.Dv.v K)) := by
  obtain ⟨fd, F⟩ := c.def_ i h1
  exact ⟨_, fd, F, He.glo_ok X G (c.fact j h2)⟩
def TabOk (K : PySem.W.Frag) (mg : Str → Option Value) (x : Str) (vs : List V) (ds : List PyData) : Prop := ∃ a, mg x = some (.ref a) ∧ (∀ H, SqT K H a vs) ∧ ∀ O H, RepAll K O H vs ds
theorem ge_glTab {X : Cx} {F : List Addr} {pos : Pos} {x : Str} {vs : List V} {ds : List PyData} (h : TabOk X.K X.mg x vs ds) (hg : Gl X x := by rfl) (hd : dbgB x = true := by rfl) : GE X F (.Name x pos) (.gtup ds) := by
  obtain ⟨a, h1, h2, h3⟩ := h
  exact ge_glT h1 h2 h3 hg hd
end Fb

namespace Fb
open PySem PySem.Spec PyProof.Rows L2
section
variable {X : Cx} {F : List Addr} {K : PySem.W.Frag} {G O O' O2 : Own} {σ : L2.St} {H H' : Hp} {e : List Slot} {m : Mu}
mutual
theorem Rep.pure (hb : ∀ b xs, Rd H b (.tup xs) → ¬ O b → ¬ O' b) : ∀ {v : V} {d : PyData}, Rep K O H v d → pureD d = true → Rep K O' H v d
  | _, _, .non, _ => .non
  | _, _, .bl b, _ => .bl b
  | _, _, .int i, _ => .int i
  | _, _, .str x, _ => .str x
  | _, _, .lst h r, c => by cases c
  | _, _, .tup h r, c => .tup (h.elim (fun h => .inl ⟨hb _ _ h.2 h.1, h.2⟩) .inr) (RepAll.pure hb r c)
  | _, _, .dic n h r, c => by cases c
theorem RepAll.pure (hb : ∀ b xs, Rd H b (.tup xs) → ¬ O b → ¬ O' b) : ∀ {vs : List V} {ds : List PyData}, RepAll K O H vs ds → pureAll ds = true → RepAll K O' H vs ds
  | _, _, .nil, _ => .nil
  | _, _, .cons h r, c => .cons (Rep.pure hb h (Bool.and_eq_true_iff.mp c).1) (RepAll.pure hb r (Bool.and_eq_true_iff.mp c).2)
end
theorem RepKV.pure (hb : ∀ b xs, Rd H b (.tup xs) → ¬ O b → ¬ O' b) : ∀ {vs : List (Key × V)} {ds : List (PyData × PyData)}, RepKV K O H vs ds → pureKV ds = true → RepKV K O' H vs ds
  | _, _, .nil, _ => .nil
  | _, _, .cons q h r, c => .cons q (Rep.pure hb h (Bool.and_eq_true_iff.mp c).1) (RepKV.pure hb r (Bool.and_eq_true_iff.mp c).2)
/-- the addresses that names own -/
def Held (σ : L2.St) (e : List Slot) : Own := fun a => ∃ (i : Nat) (d : PyData), e[i]? = some (Slot.own d) ∧ σ[i]? = some (some (V.ref a))
theorem stays_less {P : Own} : Stays O H (fun a => O a ∧ ¬ P a) H := fun a o h n => ⟨h, fun z => n z.1⟩
theorem ro_get {i : Nat} {x : Slot} (h : (e.map roS)[i]? = some x) : ∃ y, e[i]? = some y ∧ roS y = x := by
  rw [List.getElem?_map] at h
  exact Option.map_eq_some_iff.mp h
theorem Sim.ro (s : Sim K F G O σ H e m) : Sim K [] (fun a => O a ∧ ¬ Held σ e a) (fun a => O a ∧ ¬ Held σ e a) σ H (e.map roS) [] := by
  refine ⟨by rw [List.length_map]; exact s.len, fun i x h => ?_, fun i j d d2 a h1 => ?_, fun a h => (by cases h), fun a h => h, fun a h => s.live a h.1, List.nodup_nil, rfl, fun n a kvs h => by cases h⟩
  · obtain ⟨y, hy, rfl⟩ := ro_get h
    have sl := s.slot i y hy
    cases y with
    | unset => trivial
    | val d => obtain ⟨z, h1, h2⟩ := sl; exact ⟨z, h1, h2.stays stays_less⟩
    | sto n => trivial
    | tab w es => trivial
    | own d =>
      obtain ⟨a, h1, h2, h3, h4⟩ := sl
      have na : ¬ (O a ∧ ¬ Held σ e a) := fun z => z.2 ⟨i, d, hy, h1⟩
      refine ⟨.ref a, h1, ?_⟩
      cases d with
      | list ds => obtain ⟨xs, k1, k2⟩ := h4; exact .lst (.inl ⟨na, .inl k1⟩) (k2.stays stays_less)
      | dict es => obtain ⟨xs, k1, k2⟩ := h4; exact .dic na k1 (k2.stays stays_less)
      | _ => exact h4.elim
  · intro _ o1
    obtain ⟨y, hy, e1⟩ := ro_get h1
    subst e1
    cases y <;> cases o1
/-- an expression that changes nothing and whose value holds no list of a name's own -/
theorem tPur_D {x : M Val} {Q : VK} (h : tD K F (purM x) σ H Q) : tD K [] x σ H Q := by
  obtain ⟨G, O, e, m, s, a, e', m', h1, h2⟩ := h
  unfold purM at h1
  dsimp only at h1
  cases q : x ⟨e.map roS, []⟩ with
  | exc c fs => rw [q] at h1; cases h1
  | stuck => rw [q] at h1; cases h1
  | ok r =>
    obtain ⟨v, ⟨e1, m1⟩⟩ := r
    rw [q] at h1
    dsimp only at h1
    by_cases hp : pureV v = true
    · rw [if_pos hp] at h1
      cases h1
      refine ⟨_, _, _, _, s.ro, a, e1, m1, q, fun w H' O' g s' r' => ?_⟩
      have kp : ∀ b o, H b = some o → H' b = some o := fun b o hb => g.keep b o hb (by intro z; cases z) (by
        by_cases c : O b ∧ ¬ Held σ e b
        · exact .inr c
        · exact .inl c)
      have ow : ∀ b, O' b → O b ∨ H b = none := fun b hb => (g.own b hb).elim (fun z => .inl z.1) .inr
      have st : Stays O H (fun b => O b ∨ O' b) H' := fun b o hb n => ⟨kp b o hb, fun z => z.elim n fun z => (ow b z).elim n fun z => by rw [hb] at z; cases z⟩
      have held : ∀ b, Held σ e b → ∃ o, H b = some o ∧ (∀ xs, o ≠ .tup xs) ∧ ∀ o' xs, o ≠ .frz o' (.tup xs) := fun b ⟨i, d, z1, z2⟩ => by
        obtain ⟨a, k1, _, _, k4⟩ := s.slot i _ z1
        rw [z2] at k1
        cases k1
        cases d with
        | list ds => obtain ⟨xs, k1, _⟩ := k4; exact ⟨_, k1, (fun _ z => by cases z), (fun _ _ z => by cases z)⟩
        | dict es => obtain ⟨xs, k1, _⟩ := k4; exact ⟨_, k1, (fun _ z => by cases z), (fun _ _ z => by cases z)⟩
        | _ => exact k4.elim
      have nt : ∀ b xs, Rd H' b (.tup xs) → ¬ O' b → ¬ (O b ∨ O' b) := fun b xs hb n z => by
        rcases z with z | z
        · by_cases c : Held σ e b
          · obtain ⟨o, k1, k2, k3⟩ := held b c
            have k1 := kp b o k1
            rcases hb with hb | ⟨o', hb⟩
            · rw [k1] at hb; cases hb; exact k2 _ rfl
            · rw [k1] at hb; cases hb; exact k3 _ _ rfl
          · exact n (s'.go b ⟨z, c⟩)
        · exact n z
      have g2 : Grow F G O H (fun b => O b ∨ O' b) H' := ⟨fun b o hb _ _ => kp b o hb, fun b z => z.elim .inl (ow b)⟩
      have s2 : Sim K F G (fun b => O b ∨ O' b) σ H' e m := by
        refine ⟨s.len, fun i y hy => ?_, s.apart, s.fg, fun b hb => .inl (s.go b hb), fun b hb => ?_, s.nd, s.sl, fun n b kvs q1 q2 => ?_⟩
        · have sl := s.slot i y hy
          cases y with
          | unset => trivial
          | val d => obtain ⟨z, k1, k2⟩ := sl; exact ⟨z, k1, k2.stays st⟩
          | own d =>
            obtain ⟨b, k1, k2, k3, k4⟩ := sl
            refine ⟨b, k1, .inl k2, k3, ?_⟩
            cases d with
            | list ds => obtain ⟨xs, k4, k5⟩ := k4; exact ⟨xs, kp _ _ k4, k5.stays st⟩
            | dict es => obtain ⟨xs, k4, k5⟩ := k4; exact ⟨xs, kp _ _ k4, k5.stays st⟩
            | _ => exact k4.elim
          | sto n => exact sl
          | tab w es =>
            obtain ⟨b, k1, k2, k3, k4⟩ := sl
            exact ⟨b, k1, .inl k2, k3, k4.to st fun o q => kp _ _ q⟩
        · rcases hb with hb | hb
          · obtain ⟨o, k⟩ := s.live b hb; exact ⟨o, kp b o k⟩
          · exact s'.live b hb
        · obtain ⟨ks, k1, k2⟩ := s.st n b kvs q1 q2
          exact ⟨ks, kp _ _ k1, k2.stays st⟩
      refine h2 w H' _ g2 s2 ?_
      have fresh : ∀ b, O' b → ¬ (O b ∧ ¬ Held σ e b) → H b = none := fun b k1 k2 => (g.own b k1).elim (fun z => absurd z k2) id
      have own : ∀ (b : Addr), H b = none → ¬ G b ∧ ∀ (i : Nat) (x : Slot), e[i]? = some x → ownS x = true → σ[i]? ≠ some (some (.ref b)) := fun b hb => ⟨fun z => s.new hb (s.go b z), s.notOwn hb⟩
      cases a with
      | dat d => exact Rep.pure nt r' hp
      | sto n => cases hp
      | tab w es => cases hp
      | uni d =>
        obtain ⟨b, rfl, k1, k2, k3, _⟩ := r'
        have nb := fresh b k1 k2
        obtain ⟨n1, n2⟩ := own b nb
        refine ⟨b, rfl, .inr k1, n1, ?_, n2⟩
        cases d with
        | list ds => obtain ⟨xs, k4, k5⟩ := k3; exact ⟨xs, k4, RepAll.pure nt k5 hp⟩
        | dict es => obtain ⟨xs, k4, k5⟩ := k3; exact ⟨xs, k4, RepKV.pure nt k5 hp⟩
        | _ => exact k3.elim
    · rw [if_neg hp] at h1; cases h1
theorem ge_pur {a : Expr} {x : Ex} (h : GE X [] a x) : GE X F a (.pur x) := PE.mono h fun _ _ _ z => tPur_D z
end
section
variable {X : Cx} {F : List Addr} {pos p : Pos} {a b : Expr} {e f : Ex} {x : Str}
theorem gs_asgLcP {elt tg iter : Expr} {ifs : List Expr} {scope : Scope} (i : Nat) (own : List (Str × Nat)) {px lp : Pos} {t : Tg} {it : It} {c? : Option Ex} {vs : List Nat} (c : Ctx X) (hi : GI X [] tg iter it)
    (hg : ∀ (s : Shared) (H : Hp) (C : Addr) (cl : List (Str × Addr)) (fp : List Addr), GG (X.blk s H scope (compEnvC scope cl C X.env) fp) [] tg t)
    (ht : ∀ (s : Shared) (H : Hp) (C : Addr) (cl : List (Str × Addr)) (fp : List Addr), GC (X.blk s H scope (compEnvC scope cl C X.env) fp) [] ifs c?)
    (he : ∀ (s : Shared) (H : Hp) (C : Addr) (cl : List (Str × Addr)) (fp : List Addr), GE (X.blk s H scope (compEnvC scope cl C X.env) fp) [] elt e)
    (hy : X.N[i]? = some x := by rfl) (hyl : X.env.scope.names.lookup x = some .local := by rfl) (hsw : swapsWith (.ListComp elt [⟨tg, iter, ifs, 0⟩] scope lp) (some (.Name x px)) pos.line X.env = pure true := by rfl)
    (ok : blkC X.N X.env.scope scope own = true := by kernel_rfl) (hv : own.map (·.2) = vs := by rfl) (hj : tgIn t vs = true := by rfl) (hs : ∀ x, foldedSetIterable iter X.env x = pure x := by intro _; rfl) :
    GS X F (.Assign [.Name x px] (.ListComp elt [⟨tg, iter, ifs, 0⟩] scope lp) pos) (.asg i (.pur (.lc vs e t it c?))) := by
  subst hv
  refine PS.mono (ps_setLc (g := tG X.K [] t) (tt := tC? X.K [] c?) (te := tD X.K [] (evE e)) c.calm c.nd hy hyl hsw hi (blkOk_by ok) hg ht he hs) fun D σ H z => ?_
  have z' := tAsg_S z
  exact tLc_D (tgIn_of hj) (tPur_D z')
end
end Fb

namespace Fb
open PySem PySem.Spec PyProof.Rows L2
section
variable {X : Cx} {F : List Addr} {K : PySem.W.Frag} {G O O' O2 : Own} {σ : L2.St} {H H' : Hp} {e : List Slot} {m : Mu}
theorem rep_flat {xs : List V} {ds : List PyData} (r : RepAll K O H xs ds) (n : Nat) : RepAll K O H (List.replicate n xs).flatten (List.replicate n ds).flatten := by
  induction n with
  | zero => exact .nil
  | succ n ih => rw [List.replicate_succ, List.replicate_succ, List.flatten_cons, List.flatten_cons]; exact r.append ih
theorem Grow.watched {p : Addr} {o : HO} (g : Grow F (plus G p) (plus O p) (upd H p o) O' H') (np : H p = none) : Grow F G O H O' H' :=
  ⟨fun a u q nf c => g.keep a u (upd_keeps np a u q) nf (c.elim (fun c => .inl fun z => z.elim c (ne_of_none q np)) fun c => .inr (.inl c)), fun a z => (g.own a z).elim (fun z => z.elim .inl fun z => .inr (by rw [z]; exact np)) fun z => by
    by_cases c : a = p
    · exact .inr (by rw [c]; exact np)
    · rw [upd_ne c] at z; exact .inr z⟩
theorem tRep_D {es : List Ex} {x : M Val} {Q : VK} (hz : es.length ≤ 1000) (h : tD K F ((evEs es).bind fun ds => x.bind fun v => (intV v).bind fun k => repM ds k) σ H Q) : tOp rRep (tLst (tDs K F (evEs es))) (tD K F x) σ H Q := by
  obtain ⟨G, O, e, m, h⟩ := h
  obtain ⟨ds, ⟨s1, hl⟩, h⟩ := At.bind2 (R := DsRep K) h
  refine (h.mono fun ws H1 q => ?_).tr
  obtain ⟨O1, e1, m1, g, r, s1, v, e', m', h1, h2⟩ := q
  have r : RepAll K O1 H1 ws ds := r
  have lw : ws.length ≤ 1000 := by rw [r.length, evEs_length hl]; exact hz
  refine ⟨by rw [sizeLine_eq]; omega, fun p np => ?_⟩
  obtain ⟨w, ⟨e2, m2⟩, hx, h1⟩ := bind_ok h1
  obtain ⟨k, s3, hk, h1⟩ := bind_ok h1
  have nf : p ∉ F := fun z => s1.new np (s1.fo p z)
  refine ⟨plus G p, plus O1 p, e1, m1, s1.watch (o := .lst ws) np, w, e2, m2, hx, fun w2 H2 O2 g2 s2 rv => ?_⟩
  obtain ⟨rfl, rfl⟩ := VRep.int rv hk
  have hp : H2 p = some (.lst ws) := g2.keep p _ upd_same nf (.inr (.inr rfl))
  unfold repM at h1
  by_cases c : -(2 ^ 63) ≤ k ∧ k < 2 ^ 63 ∧ ds.length * k.toNat ≤ SZ
  · rw [if_pos c] at h1
    cases h1
    have s2u : Sim K F G O2 σ H2 e' m' := s2.unguard s1.fg
    have gw : Grow F G O1 H1 O2 H2 := Grow.watched g2 np
    have r2 : RepAll K O2 H2 ws ds := r.stays (gw.stays s1.fo)
    have wt : Wants K F G O2 σ H2 e' m' (.uni (.list (List.replicate k.toNat ds).flatten)) Q := ⟨s2u, fun w H' O' g' s' r' => h2 w H' O' (gw.trans g' s1.fo) s' r'⟩
    exact ⟨p, k, ws, rfl, rfl, hp, c.1, c.2.1, by rw [r.length, ← sz_eq]; exact c.2.2, wt.lst (rep_flat r2 _)⟩
  · rw [if_neg c] at h1; cases h1
theorem tTupS_D {es : List Ex} {x : M Val} {Q : VK} (h : tD K F (x.bind fun v => v.data.bind fun d => (lift (seq? d)).bind fun xs => (evEs es).bind fun ds => if xs.length + ds.length ≤ SZ then M.pure (.dat (.tuple (xs ++ ds))) else M.stuck) σ H Q) : tTup (StX.tStar K (tD K F x) (tDs K F (evEs es))) σ H Q := by
  obtain ⟨G, O, e, m, h⟩ := h
  obtain ⟨v, h⟩ := At.bind (R := VRep K F) h
  refine (h.mono fun w H1 q => ?_).tr
  obtain ⟨O1, e1, m1, g, r, h⟩ := q
  obtain ⟨d, O2, g2, rd, h⟩ := At.data h r
  obtain ⟨b1, s1', hb⟩ := h.inv
  obtain ⟨xs, sd, hd, hb⟩ := bind_ok hb
  have hd2 : seq? d = some xs ∧ sd = ⟨e1, m1⟩ := by
    cases q : seq? d with
    | none => rw [q] at hd; cases hd
    | some v' => rw [q] at hd; cases hd; exact ⟨rfl, rfl⟩
  obtain ⟨hd2, rfl⟩ := hd2
  have h := At.same (a := xs) h fun b s' z => by rw [hd2] at z; cases z; exact ⟨rfl, rfl⟩
  have key : ∃ p vs, w = .ref p ∧ (SqT K H1 p vs ∨ SqL K H1 p vs) ∧ RepAll K O2 H1 vs xs := by
    cases d with
    | list ds => cases hd2; obtain ⟨p, vs, rfl, h1, h2⟩ := (Cont.lst (.inl rd) : _); exact ⟨p, vs, rfl, .inr h1, h2⟩
    | tuple ds => cases hd2; obtain ⟨p, vs, rfl, h1, h2⟩ := (Cont.tup (.inl rd) : _); exact ⟨p, vs, rfl, .inl h1, h2⟩
    | _ => cases hd2
  obtain ⟨p, vs, rfl, hq, rr⟩ := key
  refine ⟨p, vs, rfl, hq, ?_⟩
  have s2 := h.sim
  obtain ⟨ds, h⟩ := At.bind (R := DsRep K) h
  refine (h.mono fun ws H2 q => ?_).tr
  obtain ⟨O3, e3, m3, g3, r3, h⟩ := q
  have r3 : RepAll K O3 H2 ws ds := r3
  have rr3 : RepAll K O3 H2 vs xs := rr.stays (g3.stays s2.fo)
  by_cases c : xs.length + ds.length ≤ SZ
  · rw [if_pos c] at h
    refine ⟨by rw [List.length_append, rr3.length, r3.length, ← sz_eq]; exact c, ?_⟩
    exact (At.pureW (v := .dat (.tuple (xs ++ ds))) h).tup (rr3.append r3)
  · rw [if_neg c] at h
    obtain ⟨_, _, _, _, h1, _⟩ := h
    cases h1
theorem or_isB : OpR X (compareOp .Is) (R2D X.K F .isB) := by
  refine OpR.imp op_is_bl fun x y H Q h => ?_
  obtain ⟨G, O, σ, e, m, dx, dy, v, cx, cy, hd, wt⟩ := h
  cases dx with
  | bool a =>
    cases dy with
    | bool b => cases hd; exact ⟨a, b, cx.bl, cy.bl, wt.dat (.bl _)⟩
    | _ => cases hd
  | _ => cases hd
theorem tAug_S {x : M Val} {i : Nat} {D : Ends} (h : tS K F ((intS i).bind fun a => x.bind fun v => (intV v).bind fun b => (augM i a b).bind fun _ => M.pure .nx) D σ H) : tAug i (tD K F x) (ipI fun i j => i + j) D σ H := by
  obtain ⟨G, O, e, m, s, f, e', m', h1, h2⟩ := h
  obtain ⟨a, s1, ha, h1⟩ := bind_ok h1
  unfold intS at ha
  dsimp only at ha
  cases q : e[i]? with
  | none => rw [q] at ha; cases ha
  | some sl =>
    rw [q] at ha
    cases sl with
    | val d =>
      cases d with
      | int z =>
        cases ha
        obtain ⟨y, k1, k2⟩ := s.slot i _ q
        cases k2
        refine ⟨_, k1, ?_⟩
        obtain ⟨v, ⟨e2, m2⟩, hv, h1⟩ := bind_ok h1
        refine ⟨G, O, e, m, s, v, e2, m2, hv, fun w H2 O2 g2 s2 rv => ?_⟩
        obtain ⟨b, s3, hb, h1⟩ := bind_ok h1
        obtain ⟨rfl, rfl⟩ := VRep.int rv hb
        cases h1
        refine ⟨_, _, rfl, rfl, ?_⟩
        exact h2 _ H2 O2 g2 (s2.putD (.int _))
      | _ => cases ha
    | _ => cases ha
end
section
variable {X : Cx} {F : List Addr} {pos p : Pos} {a b : Expr} {e f : Ex} {x : Str}
theorem ge_rep {as : List Expr} {es : List Ex} {lp : Pos} (h : GDs X F as es) (hb : GE X F b f) (hz : decide (es.length ≤ 1000) = true := by rfl) : GE X F (.BinOp (.List as lp) .Mult b pos) (.rep es f) :=
  PE.mono (pe_op op_rep (pe_lst h) hb) fun _ _ _ z => tRep_D (of_decide_eq_true hz) z
theorem ge_tupS {as : List Expr} {es : List Ex} {k : Nat} {sp : Pos} (ha : GE X F a e) (h : GDs X F as es) (hs : starEach (.Starred a sp :: as) X.env = (true, eval a X.env) :: starEach as X.env := by rfl) : GE X F (.Tuple (.Starred a sp :: as) k pos) (.tupS e es) :=
  PE.mono (pe_tup (StX.pa_star ha h hs)) fun _ _ _ z => tTupS_D z
theorem ge_isB (ha : GO X F a e) (hb : GO X F b f) : GE X F (.Compare a [.Is] [b] pos) (.o2 .isB e f) := ge_cmp or_isB ha hb (nomark _)
theorem gt_isB (ha : GO X F a e) (hb : GO X F b f) : GT X F (.Compare a [.Is] [b] pos) (.o2 .isB e f) := gt_cmp or_isB ha hb (nomark _)
theorem gs_aug (i : Nat) {px : Pos} (c : Ctx X) (ha : GE X F a e) (hi : X.N[i]? = some x := by rfl) (hx : locB X x = true := by rfl) : GS X F (.AugAssign (.Name x px) .Add a pos) (.aug i e) :=
  PS.mono (ps_aug c.nd hi (loc_of hx).1 ha ip_add (loc_of hx).2) fun _ _ _ z => tAug_S z
end
end Fb

namespace Fb
open PySem PySem.Spec PyProof.Rows L2
section
variable {X : Cx} {F : List Addr} {K : PySem.W.Frag} {G O O' O2 : Own} {σ : L2.St} {H H' : Hp} {e : List Slot} {m : Mu}
/-! range(a, b, -1) -/
theorem rgN_length (a b : Int) : (rgN a b).length = (a - b).toNat := by
  unfold rgN
  rw [List.length_map, List.length_range]
theorem walk_rngd (a b : Int) : WalkOk K F G O H (Itc a (-1) (a - b).toNat) (rgN a b) (fun _ => True) (YFn fun i => .int (a + (i : Nat) * (-1))) := by
  refine ⟨by rw [rgN_length]; exact walk_rangeC, fun _ _ _ => trivial, fun i O1 H1 x H2 hi g lv y => ?_⟩
  obtain ⟨rfl, rfl⟩ := y
  rw [rgN_length] at hi
  refine ⟨.int (a + (i : Nat) * (-1)), ?_, fun _ _ q => q, .int _⟩
  unfold rgN
  rw [List.getElem?_map, List.getElem?_range hi]
  rfl
theorem iRngd_D {x y : Ex} {R : L2.It → Hp → Prop} (h : tI K F (evIt (.rngd x y)) σ H R) : iRng3 (tCons (tD K F (evE x)) (tCons (tD K F (evE y)) (tCons (tUn (rU fun i => .int (-i)) (tC (.int 1))) tNil))) σ H R := by
  rw [evIt] at h
  obtain ⟨G, O, e, m, h⟩ := h
  obtain ⟨b, h⟩ := At.int h
  refine (h.mono fun w H1 q => ?_).tr
  obtain ⟨rfl, O1, e1, m1, g, h⟩ := q
  obtain ⟨c, h⟩ := At.int h
  refine (h.mono fun w H2 q => ?_).tr
  obtain ⟨rfl, O2, e2, m2, g2, h⟩ := q
  obtain ⟨h1, h⟩ := h.guard
  obtain ⟨r1, r2, r3, r4, r5⟩ := rgOk_of h1
  exact ⟨1, rfl, b, c, -1, (b - c).toNat, rfl, RgC.neg r3 r4 r1 r2, At.pure (w := Itc b (-1) (b - c).toNat) h ⟨_, _, walk_rngd b c⟩⟩
theorem or_notB : OpR X (compareOp .IsNot) (R2D X.K F .notB) := by
  refine OpR.imp op_isnot_bl fun x y H Q h => ?_
  obtain ⟨G, O, σ, e, m, dx, dy, v, cx, cy, hd, wt⟩ := h
  cases dx with
  | bool a =>
    cases dy with
    | bool b => cases hd; exact ⟨a, b, cx.bl, cy.bl, wt.dat (.bl _)⟩
    | _ => cases hd
  | _ => cases hd
end
section
variable {X : Cx} {F : List Addr} {pos p : Pos} {a b : Expr} {e f : Ex} {x : Str}
theorem ge_notB (ha : GO X F a e) (hb : GO X F b f) : GE X F (.Compare a [.IsNot] [b] pos) (.o2 .notB e f) := ge_cmp or_notB ha hb (nomark _)
theorem gt_notB (ha : GO X F a e) (hb : GO X F b f) : GT X F (.Compare a [.IsNot] [b] pos) (.o2 .notB e f) := gt_cmp or_notB ha hb (nomark _)
theorem gi_rngd {tg : Expr} {k : Nat} {p1 p2 : Pos} (c : Ctx X) (ha : GE X F a e) (hb : GE X F b f) (hg : Gl X "range" := by rfl)
    (hs : starEach [a, b, .UnaryOp .USub (.Constant (.int 1) k p1) p2] X.env = (false, eval a X.env) :: starEach [b, .UnaryOp .USub (.Constant (.int 1) k p1) p2] X.env := by rfl)
    (hs2 : starEach [b, .UnaryOp .USub (.Constant (.int 1) k p1) p2] X.env = (false, eval b X.env) :: starEach [.UnaryOp .USub (.Constant (.int 1) k p1) p2] X.env := by rfl)
    (hs3 : ∀ env, starEach [.UnaryOp .USub (.Constant (.int 1) k p1) p2] env = (false, eval (.UnaryOp .USub (.Constant (.int 1) k p1) p2) env) :: starEach [] env := by intro _; rfl)
    (hpl : (backTo pos (starEach [b, .UnaryOp .USub (.Constant (.int 1) k p1) p2] X.env)).any (·.1) = false := by rfl) :
    GI X F tg (.Call (.Name "range" p) [a, b, .UnaryOp .USub (.Constant (.int 1) k p1) p2] [] pos) (.rngd e f) :=
  PI_mono (pi_range3 hg (c.free _ (by decide +kernel)) (pa_cons ha (pa_cons hb (pa1 (pe_un un_neg pe_int) hs3) hs2) hs) hs hpl) fun _ _ _ z => iRngd_D z
/-! a[:i:-1] -/
theorem sld_bounds (n : Nat) (i : Int) (h : 0 ≤ i) : sliceBounds none (some i) (some (-1)) n = ((n : Int) - 1, min i ((n : Int) - 1), -1) := by
  unfold sliceBounds
  have h1 : ¬ ((-1 : Int) > 0) := by decide
  have h2 : ¬ i < 0 := by omega
  simp only [Option.getD_some, h1, if_false, h2]
  congr 2
  have : -1 ≤ min i ((n : Int) - 1) := by omega
  omega
end
end Fb

namespace Fb
open PySem PySem.Spec PyProof.Rows L2
/-! a[:i:-1] of a list -/
theorem sld_range (n i : Nat) : sliceRange ((n : Int) - 1) (min (i : Int) ((n : Int) - 1)) (-1) = (List.range (n - (i + 1))).map fun k => n - 1 - k := by
  unfold sliceRange
  have h1 : ¬ ((-1 : Int) > 0) := by decide
  by_cases h : i + 1 < n
  · have hm : min (i : Int) ((n : Int) - 1) = i := by omega
    have hg : (n : Int) - 1 > (i : Int) := by omega
    have e : ((n : Int) - 1 - (i : Int) - -1 - 1) / (- -1) = ((n - (i + 1) : Nat) : Int) := by
      rw [show (- -1 : Int) = 1 by decide, Int.ediv_one]
      omega
    simp only [h1, if_false, hm, hg, if_true, e, Int.toNat_natCast]
    apply List.map_congr_left
    intro k hk
    have := List.mem_range.mp hk
    omega
  · have hm : min (i : Int) ((n : Int) - 1) = (n : Int) - 1 := by omega
    have hz : n - (i + 1) = 0 := by omega
    rw [hm, hz]
    simp
theorem pick_down {α : Type} (xs : Array α) (i : Nat) : ((List.range (xs.size - (i + 1))).map fun k => xs.size - 1 - k).filterMap (xs[·]?) = (xs.toList.drop (i + 1)).reverse := by
  have e : (List.range (xs.size - (i + 1))).map (fun k => xs.size - 1 - k) = ((List.range (xs.size - (i + 1))).map ((i + 1) + ·)).reverse := by
    apply List.ext_getElem
    · simp
    · intro t h1 h2
      have h1 : t < xs.size - (i + 1) := by simpa using h1
      rw [List.getElem_map, List.getElem_reverse, List.getElem_map]
      simp only [List.getElem_range, List.length_map, List.length_range]
      omega
  rw [e, List.filterMap_reverse, PySem.pick_run, List.take_of_length_le (by rw [List.length_drop, Array.length_toList]; exact Nat.le_refl _)]
theorem pick_sld (items : Array Value) (i : Nat) : slicePick items none (some (i : Int)) (some (-1)) = (items.toList.drop (i + 1)).reverse.toArray := by
  unfold slicePick
  rw [sld_bounds _ _ (by omega)]
  show ((sliceRange ((items.size : Int) - 1) (min (i : Int) ((items.size : Int) - 1)) (-1)).filterMap (items[·]?)).toArray = _
  rw [sld_range, pick_down]
section
variable {X : Cx} {F : List Addr} {K : PySem.W.Frag} {G O O' : Own} {σ : L2.St} {H H' : Hp} {e : List Slot} {m : Mu}
def RSd (K : PySem.W.Frag) (F : List Addr) : V → Option Int → Hp → VK → Prop := fun x i H Q => ∃ G O σ e m d v j, i = some j ∧ Cont K O H x d ∧ sldD d j = some v ∧ Wants K F G O σ H e m v Q
theorem pe_sld {a h : Expr} {te : TE} {th : TO} {k : Nat} {p1 p2 p3 pos : Pos} (he : PE X a te) (hh : PO X (some h) th) : PE X (.Subscript a (.Slice none (some h) (some (.UnaryOp .USub (.Constant (.int 1) k p1) p2)) p3) pos) (fun σ H Q => te σ H fun x H1 => th σ H1 fun o H2 => RSd X.K F x o H2 Q) := by
  refine ⟨fun pins s σ H Q I hq => ?_⟩
  refine Subscript_ (thn (he.run pins s σ H _ I hq) fun v s1 ⟨x, H1, I1, r1, q1⟩ => ?_)
  have st : PO X (some (.UnaryOp .USub (.Constant (.int 1) k p1) p2)) (tPart (tUn (rU fun i => .int (-i)) (tC (.int 1)))) := po_some (pe_un un_neg pe_int)
  refine wpAny_Slice (thn (po_none.run pins s1 σ H1 (fun o H2 => o = none ∧ H2 = H1) I1 ⟨rfl, rfl⟩) fun vl s2 ⟨l, H2, I2, pl, el, e2⟩ => ?_)
  subst el e2
  refine thn (hh.run pins s2 σ H2 _ I2 q1) fun vu s3 ⟨u, H3, I3, pu, q3⟩ => ?_
  refine thn (st.run pins s3 σ H3 (fun o H4 => o = some (-1) ∧ H4 = H3) I3 ⟨1, rfl, -1, rfl, rfl, rfl⟩) fun vs s4 ⟨o, H4, I4, ps, eo, e4⟩ => ?_
  subst eo e4
  obtain ⟨G, O, σ', e, m, d, v', j, rfl, cx, hd, wt⟩ := q3
  have I5 : Inv X pins σ H4 { s4 with heap := s4.heap.push { cls := .type "slice", data := .fields #[vl, vu, vs] } } := I4.kept (t' := s4.toks) fun b ob q => Heap.get?_push_of_some _ q
  have nl : vl = .none := by cases pl; rfl
  subst nl
  cases d with
  | list ds =>
    obtain ⟨b, xs, rfl, hx, rx⟩ := cx.lst
    have hd : (if 0 ≤ j then some (Val.uni (.list (ds.drop (j.toNat + 1)).reverse)) else none) = some v' := hd
    by_cases hj : 0 ≤ j
    · rw [if_pos hj] at hd
      cases hd
      obtain ⟨i, rfl⟩ : ∃ i : Nat, j = (i : Nat) := ⟨j.toNat, by omega⟩
      rw [Int.toNat_natCast] at wt
      cases r1
      obtain ⟨its, r, ht, hz⟩ := I5.list hx
      have hl := r.length
      show wpAny (model X.prog X.w) X.A (subscriptTail a (.Slice none (some h) (some (.UnaryOp .USub (.Constant (.int 1) k p1) p2)) p3) (.ref b) (.ref s4.heap.objs.size)) (EP X pins σ Q) X.xe _
      refine tail_any (ops := [.ref b, .ref s4.heap.objs.size]) ht.isList.typeIs (PySem.slot_list_getitem.lookup) ?_ (by with_unfolding_all rfl)
      refine wpAny_getItem_list_slice ht.isList (Heap.IsSliceOf.new _ .none vu vs) .none pu ps (by decide) ?_ (by rw [List.size_toArray]; omega)
      rw [pick_sld]
      refine ⟨.ref _, _, I5.laid (t' := s4.toks) (o := .lst (xs.drop (i + 1)).reverse) (fun b ob q => Heap.get?_push_of_some _ q) (Nat.le_refl _) ?_, rfl, wt.lst (rx.drop _).reverse _ (I5.hok.fresh (Nat.le_refl _))⟩
      exact ⟨by rw [List.length_reverse, List.length_drop]; omega, _, 0, (r.drop _).reverse, Heap.get?_push_size _ rfl⟩
    · rw [if_neg hj] at hd
      cases hd
  | _ => cases hd
theorem tSld_D {x : M Opd} {y : M Val} {Q : VK} (hh : tD K F (x.bind fun x => y.bind fun v => (intV v).bind fun i => x.now.bind fun d => lift (sldD d i)) σ H Q) : tO K F x σ H fun w H1 => tPart (tD K F y) σ H1 fun o H2 => RSd K F w o H2 Q := by
  obtain ⟨G, O, e, m, hh⟩ := hh
  obtain ⟨a, hh⟩ := At.bind (R := ORep K) hh
  refine (hh.mono fun w H1 q => ?_).tr
  obtain ⟨O1, e1, m1, g, r, hh⟩ := q
  have s1 := hh.sim
  obtain ⟨j, hh⟩ := At.int hh
  refine (hh.mono fun w2 H2 q => ?_).tr
  obtain ⟨rfl, O2, e2, m2, g2, hh⟩ := q
  have s2 := hh.sim
  have r1' := ORep.grow (e' := e2) s1 g2 r
  obtain ⟨b1, s1', hb⟩ := hh.inv
  obtain ⟨d, sd, hd, hb⟩ := bind_ok hb
  obtain ⟨rfl, cd⟩ := ORep.now s2 r1' hd
  have hh := At.same (a := d) hh fun b s' z => by rw [hd] at z; cases z; exact ⟨rfl, rfl⟩
  obtain ⟨v, hv, wt⟩ := At.wants (v := .dat .none) hh
  exact ⟨j, rfl, G, O2, σ, e2, m2, d, v, j, rfl, cd, hv, wt⟩
end
section
variable {X : Cx} {F : List Addr} {pos p : Pos} {a b : Expr} {e f : Ex} {x : Str}
theorem ge_sld {k : Nat} {p1 p2 p3 : Pos} (ha : GO X F a e) (hb : GE X F b f) : GE X F (.Subscript a (.Slice none (some b) (some (.UnaryOp .USub (.Constant (.int 1) k p1) p2)) p3) pos) (.sld e f) :=
  PE.mono (pe_sld ha (po_some hb)) fun _ _ _ z => tSld_D (by rw [evE] at z; exact z)
end
end Fb

/-! tables: what stands in the heap -/
namespace Fb
open PySem PySem.Spec PyProof.Rows L2
mutual
theorem nk_data : ∀ {d : PyData} {k : NestedKey}, nk? d = some k → d = k.data
  | .none, k, h => by cases h; rfl
  | .int i, k, h => by cases h; rfl
  | .str x, k, h => by cases h; rfl
  | .tuple ds, k, h => by
    obtain ⟨ks, h1, rfl⟩ := Option.map_eq_some_iff.mp (show (nks? ds).map NestedKey.tup = some k from h)
    show PyData.tuple ds = .tuple (NestedKey.datas ks)
    rw [← nks_data h1]
  | .bool _, _, h => by cases h
  | .list _, _, h => by cases h
  | .dict _, _, h => by cases h
theorem nks_data : ∀ {ds : List PyData} {ks : List NestedKey}, nks? ds = some ks → ds = NestedKey.datas ks
  | [], ks, h => by cases h; rfl
  | d :: ds, ks, h => by
    obtain ⟨k, h1, h2⟩ := Option.bind_eq_some_iff.mp (show (nk? d).bind _ = some ks from h)
    obtain ⟨ks', h3, rfl⟩ := Option.map_eq_some_iff.mp h2
    show d :: ds = k.data :: NestedKey.datas ks'
    rw [← nk_data h1, ← nks_data h3]
end
theorem isTK_key {d : PyData} (h : isTK d = true) : ∃ ks, d = (NestedKey.tup ks).data ∧ (NestedKey.tup ks).depth ≤ 8 := by
  cases d with
  | tuple ds =>
    unfold isTK at h
    dsimp only at h
    split at h
    · rename_i k hk
      have e := nk_data hk
      obtain ⟨ks, h1, rfl⟩ := Option.map_eq_some_iff.mp (show (nks? ds).map NestedKey.tup = some k from hk)
      exact ⟨ks, e, of_decide_eq_true h⟩
    · cases h
  | _ => cases h
theorem nat_beq_int (a b : Int) : (a == b) = decide (a = b) := rfl
mutual
theorem eqv_data : ∀ a b : NestedKey, PyData.eqv a.data b.data = NestedKey.beq a b
  | .none, .none => rfl
  | .none, .num _ => rfl
  | .none, .text _ => rfl
  | .none, .tup _ => rfl
  | .num _, .none => rfl
  | .num a, .num b => by
    show (a == b) = decide (a = b)
    by_cases h : a = b
    · subst h; simp
    · rw [decide_eq_false h, beq_eq_false_iff_ne.mpr h]
  | .num _, .text _ => rfl
  | .num _, .tup _ => rfl
  | .text _, .none => rfl
  | .text _, .num _ => rfl
  | .text a, .text b => by
    show (a == b) = decide (a = b)
    by_cases h : a = b
    · subst h; simp
    · rw [decide_eq_false h, beq_eq_false_iff_ne.mpr h]
  | .text _, .tup _ => rfl
  | .tup _, .none => rfl
  | .tup _, .num _ => rfl
  | .tup _, .text _ => rfl
  | .tup as, .tup bs => eqvs_data as bs
theorem eqvs_data : ∀ as bs : List NestedKey, PyData.eqvAll (NestedKey.datas as) (NestedKey.datas bs) = NestedKey.beqAll as bs
  | [], [] => rfl
  | [], _ :: _ => rfl
  | _ :: _, [] => rfl
  | a :: as, b :: bs => by
    show (PyData.eqv a.data b.data && PyData.eqvAll (NestedKey.datas as) (NestedKey.datas bs)) = (NestedKey.beq a b && NestedKey.beqAll as bs)
    rw [eqv_data a b, eqvs_data as bs]
end
theorem eqv_key (a b : NestedKey) : PyData.eqv a.data b.data = decide (a = b) := by rw [eqv_data, NestedKey.decide_eq]
section
variable {X : Cx} {pins : List (Addr × Obj)} {σ : L2.St} {H : Hp} {s : Shared} {O : Own}
mutual
theorem nk_is (I : Inv X pins σ H s) : ∀ (k : NestedKey) (v : V) (u : Value), Rep X.K O H v k.data → RelV v u → NestedIs s.heap k u
  | .none, _, _, h, r => by
    have h : Rep X.K O H _ .none := h
    cases h; cases r; exact .none
  | .num i, _, _, h, r => by
    have h : Rep X.K O H _ (.int i) := h
    cases h; obtain ⟨t, rfl⟩ := r; exact .int i t
  | .text x, _, _, h, r => by
    have h : Rep X.K O H _ (.str x) := h
    cases h; obtain ⟨t, rfl⟩ := r; exact .text x t
  | .tup ks, _, _, h, r => by
    have h : Rep X.K O H _ (.tuple (NestedKey.datas ks)) := h
    cases h with
    | tup ht hr =>
      cases r
      obtain ⟨its, rv, ⟨o, ho, hc, n, hd⟩, _⟩ := I.tuple ht.sq
      exact .tup ho hc hd (nks_is I ks _ its hr rv)
theorem nks_is (I : Inv X pins σ H s) : ∀ (ks : List NestedKey) (vs : List V) (us : List Value), RepAll X.K O H vs (NestedKey.datas ks) → Vals vs us → NestedAll s.heap ks us
  | [], _, _, h, r => by
    have h : RepAll X.K O H _ [] := h
    cases h; cases r; exact .nil
  | k :: ks, _, _, h, r => by
    have h : RepAll X.K O H _ (k.data :: NestedKey.datas ks) := h
    cases h with
    | cons h1 h2 =>
      cases r with
      | cons r1 r2 => exact .cons (nk_is I k _ _ h1 r1) (nks_is I ks _ _ h2 r2)
end
theorem RepN.keys {K : PySem.W.Frag} {O : Own} {H : Hp} : ∀ {xs : List (NestedKey × Addr × Value)} {es : List (PyData × PyData)}, RepN K O H xs es → ∀ x ∈ xs, x.1.depth ≤ 8 ∧ Rep K O H (.ref x.2.1) x.1.data
  | _, _, .nil, x, hx => by cases hx
  | _, _, .cons h1 h2 h3 h4 h5 h6, x, hx => by
    rcases List.mem_cons.mp hx with rfl | hx
    · subst h1; exact ⟨h2, h3⟩
    · exact h6.keys x hx
theorem RepN.length {K : PySem.W.Frag} {O : Own} {H : Hp} : ∀ {xs : List (NestedKey × Addr × Value)} {es : List (PyData × PyData)}, RepN K O H xs es → xs.length = es.length
  | _, _, .nil => rfl
  | _, _, .cons _ _ _ _ _ h6 => congrArg (· + 1) h6.length
def RepU (K : PySem.W.Frag) (O : Own) (H : Hp) : Option (Addr × Value) → Option PyData → Prop
  | none, none => True
  | some p, some c => ∃ v, RelV v p.2 ∧ Rep K O H v c
  | _, _ => False
theorem RepN.look {K : PySem.W.Frag} {O : Own} {H : Hp} (k : NestedKey) : ∀ {xs : List (NestedKey × Addr × Value)} {es : List (PyData × PyData)}, RepN K O H xs es → RepU K O H (atKey xs k) (tGet es k.data)
  | _, _, .nil => trivial
  | (k', b, u) :: xs, (c, d) :: es, .cons h1 h2 h3 h4 h5 h6 => by
    subst h1
    unfold atKey tGet
    rw [List.find?_cons, List.find?_cons, eqv_key]
    by_cases z : k' = k
    · simp only [z, decide_true]
      exact ⟨_, h4, h5⟩
    · simp only [z, decide_false]
      exact RepN.look k h6
theorem RepU.is {K : PySem.W.Frag} {O : Own} {H : Hp} {p : Option (Addr × Value)} {c : Option PyData} (h : RepU K O H p c) : p.isSome = c.isSome := by
  cases p <;> cases c <;> first | rfl | exact h.elim
theorem RepN.any {K : PySem.W.Frag} {O : Own} {H : Hp} (k : NestedKey) : ∀ {xs : List (NestedKey × Addr × Value)} {es : List (PyData × PyData)}, RepN K O H xs es → (es.any fun p => PyData.eqv p.1 k.data) = (atKey xs k).isSome
  | _, _, .nil => rfl
  | (k', b, u) :: xs, (c, d) :: es, .cons h1 h2 h3 h4 h5 h6 => by
    subst h1
    have ih := RepN.any k h6
    unfold atKey at ih ⊢
    rw [List.any_cons, List.find?_cons, eqv_key]
    by_cases z : k' = k
    · simp only [z, decide_true, Bool.true_or, Option.map_some, Option.isSome_some]
    · simp only [z, decide_false, Bool.false_or]
      exact ih
theorem RepN.repl {K : PySem.W.Frag} {O : Own} {H : Hp} (k : NestedKey) {v : V} {u : Value} {d : PyData} (rv : RelV v u) (hv : Rep K O H v d) : ∀ {xs : List (NestedKey × Addr × Value)} {es : List (PyData × PyData)}, RepN K O H xs es → RepN K O H (xs.map (putAt k u)) (es.map fun p => if PyData.eqv p.1 k.data = true then (p.1, d) else p)
  | _, _, .nil => .nil
  | (k', b, u') :: xs, (c, d') :: es, .cons h1 h2 h3 h4 h5 h6 => by
    subst h1
    rw [List.map_cons, List.map_cons, eqv_key]
    unfold putAt
    by_cases z : k' = k
    · rw [if_pos z, if_pos (decide_eq_true z)]
      exact .cons rfl h2 h3 rv hv (RepN.repl k rv hv h6)
    · rw [if_neg z, if_neg (by rw [decide_eq_false z]; exact Bool.false_ne_true)]
      exact .cons rfl h2 h3 h4 h5 (RepN.repl k rv hv h6)
theorem RepN.append {K : PySem.W.Frag} {O : Own} {H : Hp} : ∀ {xs ys : List (NestedKey × Addr × Value)} {es fs : List (PyData × PyData)}, RepN K O H xs es → RepN K O H ys fs → RepN K O H (xs ++ ys) (es ++ fs)
  | _, _, _, _, .nil, q => q
  | _, _, _, _, .cons h1 h2 h3 h4 h5 h6, q => .cons h1 h2 h3 h4 h5 (h6.append q)
theorem RepN.put {K : PySem.W.Frag} {O : Own} {H : Hp} {k : NestedKey} {b : Addr} {v : V} {u : Value} {d : PyData} {xs : List (NestedKey × Addr × Value)} {es : List (PyData × PyData)} (r : RepN K O H xs es) (hk : k.depth ≤ 8) (hb : Rep K O H (.ref b) k.data) (rv : RelV v u) (hv : Rep K O H v d) :
    RepN K O H (storedH xs k b u) (tPut es k.data d) := by
  unfold storedH tPut
  rw [r.any k]
  split
  · exact r.repl k rv hv
  · exact r.append (.cons rfl hk hb rv hv .nil)
theorem stored_length (xs : List (NestedKey × Addr × Value)) (k : NestedKey) (b : Addr) (u : Value) : (storedH xs k b u).length ≤ xs.length + 1 := by
  unfold storedH
  split
  · rw [List.length_map]; omega
  · rw [List.length_append, List.length_cons, List.length_nil]; omega
theorem tab_dict (I : Inv X pins σ H s) {a : Addr} {xs : List (NestedKey × Addr × Value)} {es : List (PyData × PyData)} (h : H a = some (DNO X.w a xs)) (r : RepN X.K O H xs es) : s.heap.DictOfH (nestedKind X.prog X.w) a xs := by
  obtain ⟨o, es', ep, h1, h2, h3, h4, h5⟩ := (show ObjOk X.prog X.w H s.heap a (DNO X.w a xs) from I.hok a _ h).1
  refine ⟨o, es', ep, h1, h2, h3, h4, fun x hx => ?_, h5⟩
  obtain ⟨k1, k2⟩ := r.keys x hx
  exact ⟨nk_is I _ _ _ k2 rfl, k1⟩
theorem Rep.refT {K : PySem.W.Frag} {O : Own} {H : Hp} {v : V} {ks : List NestedKey} (h : Rep K O H v (NestedKey.tup ks).data) : ∃ b, v = .ref b := by
  have h : Rep K O H v (.tuple (NestedKey.datas ks)) := h
  cases h with
  | tup h _ => exact ⟨_, rfl⟩
/-! what is asked of it -/
section
variable {a : Addr} {es : List (PyData × PyData)} {y : V} {u : Value} {d : PyData} {A : Around} {E : Value → Shared → Prop}
theorem room_nk (hu : A.units + 9 < cLine) : (nestedKind X.prog X.w).room A.in1 := by
  show A.in1.units + 8 < cLine
  rw [Around.in1_units]
  omega
theorem tab_getItem {c : PyData} {Q : Value → Shared → Prop} (hu : A.units + 9 < cLine) (I : Inv X pins σ H s) (t : TabAt X.K O H X.w a es) (rk : Rep X.K O H y d) (ry : RelV y u) (hk : isTK d = true) (hg : tGet es d = some c)
    (h : ∀ v w' s', Inv X pins σ H s' → RelV v w' → Rep X.K O H v c → Q w' s') : wpAny (model X.prog X.w) A (getItem (.ref a) u) Q E s := by
  obtain ⟨lo, xs, hz, ha, r⟩ := t
  obtain ⟨ks, rfl, hd⟩ := isTK_key hk
  obtain ⟨b, rfl⟩ := rk.refT
  cases ry
  have look := r.look (NestedKey.tup ks)
  rw [hg] at look
  cases q : atKey xs (NestedKey.tup ks) with
  | none => rw [q] at look; exact look.elim
  | some p =>
    rw [q] at look
    obtain ⟨v, r1, r2⟩ := look
    exact wpAny_getItem_heap (room_nk hu) ⟨nk_is I _ _ _ rk rfl, hd⟩ (tab_dict I ha r) q (h v _ _ (I.tok _) r1 r2)
theorem tab_in {Q : Value → Shared → Prop} (hu : A.units + 9 < cLine) (I : Inv X pins σ H s) (t : TabAt X.K O H X.w a es) (rk : Rep X.K O H y d) (ry : RelV y u) (hk : isTK d = true)
    (h : ∀ s', Inv X pins σ H s' → Q (.bool (tGet es d).isSome) s') : wpAny (model X.prog X.w) A (compareOp .In u (.ref a)) Q E s := by
  obtain ⟨lo, xs, hz, ha, r⟩ := t
  obtain ⟨ks, rfl, hd⟩ := isTK_key hk
  obtain ⟨b, rfl⟩ := rk.refT
  cases ry
  refine wpAny_in_heap (room_nk hu) ⟨nk_is I _ _ _ rk rfl, hd⟩ lo (tab_dict I ha r) ?_
  rw [(r.look (NestedKey.tup ks)).is]
  exact h _ (I.tok _)
theorem tab_notIn {Q : Value → Shared → Prop} (hu : A.units + 9 < cLine) (I : Inv X pins σ H s) (t : TabAt X.K O H X.w a es) (rk : Rep X.K O H y d) (ry : RelV y u) (hk : isTK d = true)
    (h : ∀ s', Inv X pins σ H s' → Q (.bool (!(tGet es d).isSome)) s') : wpAny (model X.prog X.w) A (compareOp .NotIn u (.ref a)) Q E s := by
  obtain ⟨lo, xs, hz, ha, r⟩ := t
  obtain ⟨ks, rfl, hd⟩ := isTK_key hk
  obtain ⟨b, rfl⟩ := rk.refT
  cases ry
  refine wpAny_notIn_heap (room_nk hu) ⟨nk_is I _ _ _ rk rfl, hd⟩ lo (tab_dict I ha r) ?_
  rw [(r.look (NestedKey.tup ks)).is]
  exact h _ (I.tok _)
theorem tab_get2 {c : PyData} {z : V} {r2 : Value} {Q : Value → Shared → Prop} (hu : A.units + 9 < cLine) (I : Inv X pins σ H s) (t : TabAt X.K O H X.w a es) (rk : Rep X.K O H y d) (ry : RelV y u) (hk : isTK d = true) (rc : Rep X.K O H z c) (rz : RelV z r2)
    (h : ∀ v w' s', Inv X pins σ H s' → RelV v w' → Rep X.K O H v ((tGet es d).getD c) → Q w' s') : wpAny (model X.prog X.w) A (call (.builtin "dict.get") [.ref a, u, r2]) Q E s := by
  obtain ⟨lo, xs, hz, ha, r⟩ := t
  obtain ⟨ks, rfl, hd⟩ := isTK_key hk
  obtain ⟨b, rfl⟩ := rk.refT
  cases ry
  have look := r.look (NestedKey.tup ks)
  have dd := tab_dict I ha r
  refine call_meetsIn PySem.F.slot_dict_get dd.typeIs PySem.F.entry_dict_get (PySem.F.args_dict_get_3 _ _ _) (meetsH_dict_get_default (nestedKind X.prog X.w) a b lo r2) ⟨room_nk hu, _, xs, ⟨nk_is I _ _ _ rk rfl, hd⟩, dd, ?_⟩
  cases q : atKey xs (NestedKey.tup ks) with
  | none =>
    rw [q] at look
    cases q2 : tGet es (NestedKey.tup ks).data with
    | none =>
      rw [q2] at h
      exact h z _ _ (I.tok _) rz rc
    | some c' => rw [q2] at look; exact look.elim
  | some p =>
    rw [q] at look
    cases q2 : tGet es (NestedKey.tup ks).data with
    | none => rw [q2] at look; exact look.elim
    | some c' =>
      rw [q2] at look h
      obtain ⟨v, r1, r2⟩ := look
      exact h v _ _ (I.tok _) r1 r2
theorem DNO_new {w : World} {h' : Heap} {xs : List (NestedKey × Addr × Value)} {P : Program} {H' : Hp} (dd : h'.DictOfH (nestedKind P w) a xs) : ObjOk P w H' h' a (DNO w a xs) := by
  obtain ⟨o, es, ep, h1, h2, h3, h4, _, h5⟩ := dd
  exact ⟨⟨o, es, ep, h1, h2, h3, h4, h5⟩, ⟨o, h1⟩, fun g1 g2 ⟨o, es, ep, h1, h2, h3, h4, h5⟩ k => ⟨o, es, ep, k o h1, h2, h3, h4, h5⟩⟩
/-- d[y] = v -/
theorem tab_setItem {v : V} {r2 : Value} {Q : Unit → Shared → Prop} {xs : List (NestedKey × Addr × Value)} (hu : A.units + 9 < cLine) (I : Inv X pins σ H s) (hz : xs.length < sizeLine) (ha : H a = some (DNO X.w a xs)) (r : RepN X.K O H xs es)
    (ry : RelV y u) {ks : List NestedKey} {b : Addr} (hd : (NestedKey.tup ks).depth ≤ 8) (rk : Rep X.K O H (.ref b) (NestedKey.tup ks).data) (hy : y = .ref b) (rv : RelV v r2)
    (h : ∀ s', Inv X pins σ (upd H a (DNO X.w a (storedH xs (NestedKey.tup ks) b r2))) s' → Q () s') : wpAny (model X.prog X.w) A (setItem (.ref a) u r2) Q E s := by
  subst hy
  cases ry
  refine wpAny_setItem_heap (hsz := Nat.le_of_lt hz) (room_nk hu) ⟨nk_is I _ _ _ rk rfl, hd⟩ (tab_dict I ha r) fun h' dd' hs => h _ ?_
  have he : ∃ q, h'.get? a = some q := let ⟨q, _, _, hq, _⟩ := dd'; ⟨q, hq⟩
  exact d_write I (by rw [ha]; exact True.intro) hs he (DNO_new dd')
end
end
end Fb

/-! tables: the nodes -/
namespace Fb
open PySem PySem.Spec PyProof.Rows L2
section
variable {X : Cx} {F : List Addr} {K : PySem.W.Frag} {G O O' : Own} {σ : L2.St} {H H' : Hp} {e : List Slot} {m : Mu} {γ δ : Type}
/-! what is seen of a name that holds a table -/
theorem tabM_ok {i : Nat} {es : List (PyData × PyData)} {s s' : S} (h : tabM i s = .ok (es, s')) : s' = s ∧ ∃ w, s.e[i]? = some (.tab w es) := by
  unfold tabM at h
  cases q : s.e[i]? with
  | none => rw [q] at h; cases h
  | some x =>
    rw [q] at h
    cases x with
    | tab w es' => cases h; exact ⟨rfl, w, rfl⟩
    | _ => cases h
theorem tabW_ok {w : World} {i : Nat} {es : List (PyData × PyData)} {s s' : S} (h : tabW w i s = .ok (es, s')) : s' = s ∧ s.e[i]? = some (.tab w es) := by
  unfold tabW at h
  cases q : s.e[i]? with
  | none => rw [q] at h; cases h
  | some x =>
    rw [q] at h
    cases x with
    | tab w' es' =>
      dsimp only at h
      by_cases c : w' = w
      · rw [if_pos c] at h; cases h; subst c; exact ⟨rfl, rfl⟩
      · rw [if_neg c] at h; cases h
    | _ => cases h
theorem tk_ok {d : PyData} {u : Unit} {s s' : S} (h : tkM d s = .ok (u, s')) : s' = s ∧ isTK d = true := by
  unfold tkM at h
  by_cases c : isTK d = true
  · rw [if_pos c] at h; cases h; exact ⟨rfl, c⟩
  · rw [if_neg c] at h; cases h
theorem At.tab {R : Rel γ δ} {i : Nat} {f : List (PyData × PyData) → M γ} {Q : δ → Hp → Prop} (h : At K F R G O σ H e m ((tabM i).bind f) Q) :
    ∃ w a es, σ[i]? = some (some (.ref a)) ∧ TabAt K O H w a es ∧ At K F R G O σ H e m (f es) Q := by
  obtain ⟨b, s', hb⟩ := h.inv
  obtain ⟨es, s1, h1, _⟩ := bind_ok hb
  obtain ⟨_, w, q⟩ := tabM_ok h1
  obtain ⟨a, k1, _, _, k4⟩ := h.sim.slot i _ q
  refine ⟨w, a, es, k1, k4, At.same (a := es) h fun b s' z => ?_⟩
  rw [h1] at z
  cases z
  obtain ⟨rfl, _⟩ := tabM_ok h1
  exact ⟨rfl, rfl⟩
theorem At.tabw {R : Rel γ δ} {w : World} {i : Nat} {f : List (PyData × PyData) → M γ} {Q : δ → Hp → Prop} (h : At K F R G O σ H e m ((tabW w i).bind f) Q) :
    ∃ a es, σ[i]? = some (some (.ref a)) ∧ TabAt K O H w a es ∧ At K F R G O σ H e m (f es) Q := by
  obtain ⟨b, s', hb⟩ := h.inv
  obtain ⟨es, s1, h1, _⟩ := bind_ok hb
  obtain ⟨_, q⟩ := tabW_ok h1
  obtain ⟨a, k1, _, _, k4⟩ := h.sim.slot i _ q
  refine ⟨a, es, k1, k4, At.same (a := es) h fun b s' z => ?_⟩
  rw [h1] at z
  cases z
  obtain ⟨rfl, _⟩ := tabW_ok h1
  exact ⟨rfl, rfl⟩
theorem At.tk {R : Rel γ δ} {d : PyData} {f : Unit → M γ} {Q : δ → Hp → Prop} (h : At K F R G O σ H e m ((tkM d).bind f) Q) : isTK d = true ∧ At K F R G O σ H e m (f ()) Q := by
  obtain ⟨b, s', hb⟩ := h.inv
  obtain ⟨u, s1, h1, _⟩ := bind_ok hb
  obtain ⟨_, q⟩ := tk_ok h1
  refine ⟨q, At.same (a := ()) h fun b s' z => ?_⟩
  obtain ⟨k1, _⟩ := tk_ok z
  exact ⟨rfl, k1⟩
/-! readings -/
def tTget (K : PySem.W.Frag) (w : World) (td ty : TE) : TE := fun σ H Q => td σ H fun x H1 => ty σ H1 fun y H2 => ∃ O a es d c, x = .ref a ∧ TabAt K O H2 w a es ∧ Rep K O H2 y d ∧ isTK d = true ∧ tGet es d = some c ∧ ∀ v, Rep K O H2 v c → Q v H2
def tTin (K : PySem.W.Frag) (w : World) (neg : Bool) (ty td : TE) : TE := fun σ H Q => ty σ H fun y H1 => td σ H1 fun x H2 => ∃ O a es d, x = .ref a ∧ TabAt K O H2 w a es ∧ Rep K O H2 y d ∧ isTK d = true ∧ Q (.bl (if neg then !(tGet es d).isSome else (tGet es d).isSome)) H2
def tTget2 (K : PySem.W.Frag) (td ty tx : TE) (w : World) : TE := fun σ H Q => td σ H fun x H1 => (∃ O w a es, x = .ref a ∧ TabAt K O H1 w a es) ∧ ty σ H1 fun y H2 => tx σ H2 fun z H3 => ∃ O a es d c, x = .ref a ∧ TabAt K O H3 w a es ∧ Rep K O H3 y d ∧ isTK d = true ∧ Rep K O H3 z c ∧ ∀ v, Rep K O H3 v ((tGet es d).getD c) → Q v H3
theorem tab_raw {pins : List (Addr × Obj)} {s : Shared} {a : Addr} {es : List (PyData × PyData)} {w : World} (I : Inv X pins σ H s) (t : TabAt K O H w a es) : ∃ o es' ep xs, (a == sysModules) = false ∧ H a = some (DNO w a xs) ∧ s.heap.get? a = some o ∧ o.ExactDict ∧ o.data = .dict es' ep ∧ es'.toList = xs.map (entN w) ∧ xs.length ≤ sizeLine ∧ RepN K O H xs es := by
  obtain ⟨lo, xs, hz, ha, r⟩ := t
  obtain ⟨o, es', ep, h1, h2, h3, h4, h5⟩ := (show ObjOk X.prog X.w H s.heap a (DNO w a xs) from I.hok a _ ha).1
  exact ⟨o, es', ep, xs, lo, ha, h1, h2, h3, h4, hz, r⟩
theorem tab_is {pins : List (Addr × Obj)} {s : Shared} {a : Addr} {es : List (PyData × PyData)} {w : World} (I : Inv X pins σ H s) (t : TabAt K O H w a es) : s.TypeIs (.ref a) "dict" ∧ (∀ b, Value.ref a = .ref b → ∃ ob, s.heap.get? b = some ob ∧ ob.dict = none) := by
  obtain ⟨o, es', ep, xs, lo, ha, h1, h2, h3, _⟩ := tab_raw I t
  exact ⟨⟨o, h1, h2.1⟩, fun b q => by cases q; exact ⟨o, h1, h2.2.1⟩⟩
section
variable {o i f : Expr} {pos apos cpos : Pos} {td ty tx : TE}
theorem pe_tget (hu : X.A.units + 9 < cLine) (ho : PE X o td) (hi : PE X i ty) (hs : NoSl i) : PE X (.Subscript o i pos) (tTget X.K X.w td ty) := by
  refine ⟨fun pins s σ H Q I h => ?_⟩
  refine subD_of PySem.F.slot_dict_getitem.lookup hs (thn (ho.run pins s σ H _ I h) fun u s1 ⟨x, H1, I1, rx, q1⟩ => thn (hi.run pins s1 σ H1 _ I1 q1) fun iv s2 ⟨y, H2, I2, ry, O, a, es, d, c, ex, t, rk, hk, hg, q2⟩ => ?_)
  subst ex
  obtain rfl : u = Value.ref a := rx
  exact ⟨(tab_is I2 t).1, tab_getItem hu I2 t rk ry hk hg fun v w' s3 I3 rw' rv => ⟨v, H2, I3, rw', q2 v rv⟩⟩
theorem pc_tin (hu : X.A.units + 9 < cLine) (hi : PE X i ty) (ho : PE X o td) : PC X .In i o (tTin X.K X.w false ty td) := by
  refine ⟨fun pins s σ H Q I h => ?_⟩
  refine thn (hi.run pins s σ H _ I h) fun iv s1 ⟨y, H1, I1, ry, q1⟩ => thn (ho.run pins s1 σ H1 _ I1 q1) fun u s2 ⟨x, H2, I2, rx, O, a, es, d, ex, t, rk, hk, q2⟩ => ?_
  subst ex
  obtain rfl : u = Value.ref a := rx
  exact tab_in hu I2 t rk ry hk fun s3 I3 => ⟨.bl (tGet es d).isSome, H2, I3, rfl, q2⟩
theorem pc_tnin (hu : X.A.units + 9 < cLine) (hi : PE X i ty) (ho : PE X o td) : PC X .NotIn i o (tTin X.K X.w true ty td) := by
  refine ⟨fun pins s σ H Q I h => ?_⟩
  refine thn (hi.run pins s σ H _ I h) fun iv s1 ⟨y, H1, I1, ry, q1⟩ => thn (ho.run pins s1 σ H1 _ I1 q1) fun u s2 ⟨x, H2, I2, rx, O, a, es, d, ex, t, rk, hk, q2⟩ => ?_
  subst ex
  obtain rfl : u = Value.ref a := rx
  exact tab_notIn hu I2 t rk ry hk fun s3 I3 => ⟨.bl (!(tGet es d).isSome), H2, I3, rfl, q2⟩
theorem pe_tget2 (hu : X.A.units + 9 < cLine) (ho : PE X o td) (he : PE X i ty) (hf : PE X f tx) (m : M2 X o "get" apos i f cpos) : PE X (.Call (.Attribute o "get" apos) [i, f] [] cpos) (tTget2 X.K td ty tx X.w) := by
  refine ⟨fun pins s σ H Q I h => ?_⟩
  refine wpAny_Call_method m.base m.few m.line PySem.F.plainAttrs_dict PySem.F.slot_dict_get PySem.F.type_dict_get (thn (ho.run pins s σ H _ I h) fun u s1 ⟨x, H1, I1, rx, ⟨O, w, a, es, ex, t⟩, q1⟩ => ?_)
  subst ex
  obtain rfl : u = Value.ref a := rx
  obtain ⟨t1, t2⟩ := tab_is I1 t
  refine ⟨t1, t2, ?_⟩
  rw [m.trees]
  refine Calls.callWith_builtin rfl (Calls.evalArgs_plain (Calls.spliced_cons (thn (he.run pins s1 σ H1 _ I1 q1) fun iv s2 ⟨y, H2, I2, ry, q2⟩ =>
    Calls.spliced_cons (thn (hf.run pins s2 σ H2 _ I2 q2) fun fv s3 ⟨z, H3, I3, rz, O3, a3, es3, d, c, ex3, t3, rk, hk, rc, q3⟩ => Calls.spliced_nil ?_))))
  cases ex3
  exact tab_get2 hu I3 t3 rk ry hk rc rz fun v w' s4 I4 rw' rv => ⟨v, H3, I4, rw', q3 v rv⟩
end
/-! from the evaluator -/
theorem TabAt.grow {w : World} {a : Addr} {es : List (PyData × PyData)} (st : Stays O H O' H') (k : ∀ o, H a = some o → H' a = some o) (h : TabAt K O H w a es) : TabAt K O' H' w a es := h.to st k
theorem tTget_D {x : M Val} {w : World} {i : Nat} {Q : VK} (h : tD K F ((tabM i).bind fun _ => x.bind fun v => v.data.bind fun d => (tkM d).bind fun _ => (tabW w i).bind fun es => lift ((tGet es d).map .dat)) σ H Q) : tTget K w (tVar i) (tD K F x) σ H Q := by
  obtain ⟨G, O, e, m, h⟩ := h
  obtain ⟨w0, a, es0, k1, k2, h⟩ := At.tab h
  refine ⟨_, k1, ?_⟩
  obtain ⟨v, h⟩ := At.bind (R := VRep K F) h
  refine (h.mono fun y H1 q => ?_).tr
  obtain ⟨O1, e1, m1, g, r, h⟩ := q
  obtain ⟨d, O2, g2, rd, h⟩ := At.data h r
  obtain ⟨hk, h⟩ := At.tk h
  obtain ⟨a', es, j1, j2, h⟩ := At.tabw h
  rw [k1] at j1
  cases j1
  obtain ⟨v, hv, wt⟩ := At.wants (v := .dat .none) h
  obtain ⟨c, hc, rfl⟩ := Option.map_eq_some_iff.mp hv
  exact ⟨O2, a, es, d, c, rfl, j2, rd, hk, hc, fun z rz => wt.dat rz⟩
theorem tTgetd_D {x y : M Val} {w : World} {i : Nat} {Q : VK} (h : tD K F ((tabM i).bind fun _ => x.bind fun v => v.data.bind fun d => (tkM d).bind fun _ => y.bind fun y => y.data.bind fun c => (tabW w i).bind fun es => M.pure (.dat ((tGet es d).getD c))) σ H Q) : tTget2 K (tVar i) (tD K F x) (tD K F y) w σ H Q := by
  obtain ⟨G, O, e, m, h⟩ := h
  obtain ⟨w0, a, es0, k1, k2, h⟩ := At.tab h
  refine ⟨_, k1, ⟨O, w0, a, es0, rfl, k2⟩, ?_⟩
  obtain ⟨v, h⟩ := At.bind (R := VRep K F) h
  refine (h.mono fun yv H1 q => ?_).tr
  obtain ⟨O1, e1, m1, g, r, h⟩ := q
  obtain ⟨d, O2, g2, rd, h⟩ := At.data h r
  obtain ⟨hk, h⟩ := At.tk h
  have s2 := h.sim
  obtain ⟨v2, h⟩ := At.bind (R := VRep K F) h
  refine (h.mono fun zv H3 q => ?_).tr
  obtain ⟨O3, e3, m3, g3, r3, h⟩ := q
  have s3 := h.sim
  obtain ⟨c, O4, g4, rc, h⟩ := At.data h r3
  obtain ⟨a', es, j1, j2, h⟩ := At.tabw h
  rw [k1] at j1
  cases j1
  have rd' : Rep K O4 H3 yv d := (rd.stays (g3.stays s2.fo)).stays (g4.stays s3.fo)
  exact ⟨O4, a, es, d, c, rfl, j2, rd', hk, rc, fun z rz => (At.pureW (v := .dat _) h).dat rz⟩
theorem tTin_D {x : M Val} {w : World} {neg : Bool} {i : Nat} {Q : VK} (h : tD K F (x.bind fun v => v.data.bind fun d => (tkM d).bind fun _ => (tabW w i).bind fun es => M.pure (.dat (.bool (if neg then !(tGet es d).isSome else (tGet es d).isSome)))) σ H Q) : tTin K w neg (tD K F x) (tVar i) σ H Q := by
  obtain ⟨G, O, e, m, h⟩ := h
  obtain ⟨v, h⟩ := At.bind (R := VRep K F) h
  refine (h.mono fun yv H1 q => ?_).tr
  obtain ⟨O1, e1, m1, g, r, h⟩ := q
  obtain ⟨d, O2, g2, rd, h⟩ := At.data h r
  obtain ⟨hk, h⟩ := At.tk h
  obtain ⟨a, es, j1, j2, h⟩ := At.tabw h
  exact ⟨_, j1, O2, a, es, d, rfl, j2, rd, hk, (At.pureW (v := .dat _) h).dat (.bl _)⟩
/-! a table's content is changed -/
theorem Sim.mutateT {i : Nat} {w : World} {es0 es : List (PyData × PyData)} {a : Addr} {xs : List (NestedKey × Addr × Value)} (s : Sim K F G O σ H e m) (h : e[i]? = some (.tab w es0)) (ha : σ[i]? = some (some (.ref a))) (hz : xs.length ≤ sizeLine) (r : RepN K O H xs es) :
    Sim K F G O σ (upd H a (DNO w a xs)) (e.set i (.tab w es)) m ∧ Grow F G O H O (upd H a (DNO w a xs)) := by
  obtain ⟨a', h1, h2, h3, h4⟩ := s.slot i _ h
  rw [ha] at h1
  cases h1
  have hi : i < e.length := (List.getElem?_eq_some_iff.mp h).1
  have st : Stays O H O (upd H a (DNO w a xs)) := stays_mut h2
  refine ⟨⟨by rw [List.length_set]; exact s.len, fun j x q => ?_, fun j j' d1 d2 b q1 q2 o1 o2 z1 z2 => ?_, s.fg, s.go, fun b z => ?_, s.nd, s.sl, fun n b kvs q1 q2 => ?_⟩, grow_mut h2 h3⟩
  · rw [set_get] at q
    by_cases ij : i = j
    · subst ij
      rw [if_pos rfl, if_pos hi] at q
      cases q
      exact ⟨a, ha, h2, h3, h4.1, xs, hz, upd_same, r.stays st⟩
    · rw [if_neg ij] at q
      have sl := s.slot j x q
      cases x with
      | unset => trivial
      | val d => obtain ⟨y, k1, k2⟩ := sl; exact ⟨y, k1, k2.stays st⟩
      | own d2 =>
        obtain ⟨b, k1, k2, k3, k4⟩ := sl
        have ne : b ≠ a := fun z => by subst z; exact ij (s.apart i j (.tab w es0) (.own d2) b h q rfl rfl ha k1)
        exact ⟨b, k1, k2, k3, k4.stays st fun o q => by rw [upd_ne ne]; exact q⟩
      | sto n => exact sl
      | tab w2 es2 =>
        obtain ⟨b, k1, k2, k3, k4⟩ := sl
        have ne : b ≠ a := fun z => by subst z; exact ij (s.apart i j (.tab w es0) (.tab w2 es2) b h q rfl rfl ha k1)
        exact ⟨b, k1, k2, k3, k4.to st fun o q => by rw [upd_ne ne]; exact q⟩
  · have own : ∀ (j : Nat) (x : Slot), (e.set i (.tab w es))[j]? = some x → ownS x = true → ∃ y, e[j]? = some y ∧ ownS y = true := fun j x q o => by
      rw [set_get] at q
      by_cases ij : i = j
      · subst ij; exact ⟨_, h, rfl⟩
      · rw [if_neg ij] at q; exact ⟨_, q, o⟩
    obtain ⟨_, w1, p1⟩ := own j d1 q1 o1
    obtain ⟨_, w2, p2⟩ := own j' d2 q2 o2
    exact s.apart j j' _ _ b w1 w2 p1 p2 z1 z2
  · by_cases z2 : b = a
    · subst z2; exact ⟨_, upd_same⟩
    · obtain ⟨u, q⟩ := s.live b z
      exact ⟨u, by rw [upd_ne z2]; exact q⟩
  · obtain ⟨ks, k1, k2⟩ := s.st n b kvs q1 q2
    have ne : b ≠ a := fun z => h3 (z ▸ s.fg b (List.mem_of_getElem? q1))
    exact ⟨ks, by rw [upd_ne ne]; exact k1, k2.stays st⟩
def sTput (K : PySem.W.Frag) (w : World) (td ty tv : TE) : TS := fun D σ H => tv σ H fun v H1 => td σ H1 fun x H2 => ty σ H2 fun y H3 => ∃ O a es xs ks b, x = .ref a ∧ H3 a = some (DNO w a xs) ∧ RepN K O H3 xs es ∧ xs.length < sizeLine ∧
  y = .ref b ∧ Rep K O H3 (.ref b) (NestedKey.tup ks).data ∧ (NestedKey.tup ks).depth ≤ 8 ∧ ∀ r2, RelV v r2 → D.nx σ (upd H3 a (DNO w a (storedH xs (NestedKey.tup ks) b r2)))
theorem ps_tput {o i value : Expr} {pos pos' : Pos} {td ty tv : TE} (hu : X.A.units + 9 < cLine) (ho : PE X o td) (hi : PE X i ty) (hv : PE X value tv) (hs : swapsWith value (some (.Subscript o i pos')) pos.line X.env = pure false) :
    PS X (.Assign [.Subscript o i pos'] value pos) (sTput X.K X.w td ty tv) := by
  refine ⟨fun pins s σ H D I h => ?_⟩
  refine wpAny_Assign_Subscript (thn (hv.run pins s σ H _ I h) fun r s1 ⟨v, H1, I1, rv, q1⟩ => thn (ho.run pins s1 σ H1 _ I1 q1) fun u s2 ⟨x, H2, I2, rx, q2⟩ => thn (hi.run pins s2 σ H2 _ I2 q2) fun iv s3 ⟨y, H3, I3, ry, O, a, es, xs, ks, b, ex, ha, rn, hz, ey, rk, hd, q3⟩ => ?_) hs
  subst ex
  obtain rfl : u = Value.ref a := rx
  exact tab_setItem hu I3 hz ha rn ry hd rk ey rv fun s4 I4 => ⟨σ, _, I4, q3 _ rv⟩
theorem tTset_S {x y : M Val} {w : World} {i : Nat} {D : Ends} (h : tS K F (x.bind fun v => v.data.bind fun c => (tabM i).bind fun _ => y.bind fun kv => kv.data.bind fun d => (tkM d).bind fun _ => (tputM w i d c).bind fun _ => M.pure .nx) D σ H) : sTput K w (tVar i) (tD K F y) (tD K F x) D σ H := by
  obtain ⟨G, O, e, m, h⟩ := h
  obtain ⟨v, _, h⟩ := AtS.bind (R := VRep K F) h
  refine (h.mono fun wv H1 q => ?_).tr
  obtain ⟨O1, e1, m1, g, r, h⟩ := q
  obtain ⟨c, O2, g2, rc, h⟩ := AtS.data h r
  obtain ⟨s2, fl, e', m', h1, h2⟩ := h
  obtain ⟨es0, st, ht, h1⟩ := bind_ok h1
  obtain ⟨rfl, w0, q0⟩ := tabM_ok ht
  obtain ⟨a, k1, k2, k3, k4⟩ := s2.slot i _ q0
  refine ⟨.ref a, k1, ?_⟩
  obtain ⟨kv, ⟨e3, m3⟩, hk, h1⟩ := bind_ok h1
  refine ⟨G, O2, e1, m1, s2, kv, e3, m3, hk, fun wk H3 O3 g3 s3 rk => ?_⟩
  obtain ⟨dk, s5, hdk, h1⟩ := bind_ok h1
  obtain ⟨O4, g4, s4, rrk, hdd⟩ := VRep.data s3 rk ⟨s5, hdk⟩
  rw [hdd] at hdk
  cases hdk
  obtain ⟨u, s6, htk, h1⟩ := bind_ok h1
  obtain ⟨rfl, tk⟩ := tk_ok htk
  obtain ⟨_, s7, hp, h1⟩ := bind_ok h1
  cases h1
  unfold tputM at hp
  dsimp only at hp
  cases q3 : e3[i]? with
  | none => rw [q3] at hp; cases hp
  | some sl3 =>
    rw [q3] at hp
    cases sl3 with
    | tab w' es3 =>
      dsimp only at hp
      by_cases hc3 : w' = w ∧ es3.length < SZ
      · rw [if_pos hc3] at hp
        cases hp
        obtain ⟨rfl, hl⟩ := hc3
        obtain ⟨a', j1, j2, j3, lo, xs, hz, ha, rn⟩ := s4.slot i _ q3
        rw [k1] at j1
        cases j1
        obtain ⟨ks, rfl, hd⟩ := isTK_key tk
        obtain ⟨b, rfl⟩ := rrk.refT
        have rdv : Rep K O4 H3 wv c := (rc.stays (g3.stays s2.fo)).stays (g4.stays s3.fo)
        have lx : xs.length < sizeLine := by rw [rn.length, ← sz_eq]; exact hl
        refine ⟨O4, a, es3, xs, ks, b, rfl, ha, rn, lx, rfl, rrk, hd, fun r2 rv => ?_⟩
        obtain ⟨s8, g8⟩ := s4.mutateT q3 k1 (Nat.le_trans (stored_length _ _ _ _) lx) (rn.put hd rrk rv rdv)
        exact h2 σ _ O4 (g3.trans (g4.trans g8 s3.fo) s2.fo) s8
      · rw [if_neg hc3] at hp; cases hp
    | _ => cases hp
/-! a new table; a table moved -/
def tTnew (w : World) : TE := fun _ H Q => ∀ p, H p = none → (p == sysModules) = false → Q (.ref p) (upd H p (DNO w p []))
theorem pe_tnew {pos : Pos} : PE X (.Dict [] [] pos) (tTnew X.w) := ⟨fun pins s σ H Q I h =>
  wpAny_Dict_empty ⟨.ref s.heap.objs.size, _, I.laid (a := s.heap.objs.size) (o := DNO X.w s.heap.objs.size []) (t' := s.toks) (fun _ _ q => Heap.get?_push_of_some _ q) (Nat.le_refl _) (DNO_new (P := X.prog) (Heap.DictOfH.new s.heap)), rfl, h _ (I.hok.fresh (Nat.le_refl _)) (beq_eq_false_iff_ne.mpr (Ne.symm (Nat.ne_of_lt I.big)))⟩⟩
theorem tTnew_D {w : World} {Q : VK} (h : tD K F (M.pure (.tab w [])) σ H Q) : tTnew w σ H Q := by
  obtain ⟨G, O, e, m, h⟩ := h
  have wt := At.pureW h
  intro p np lo
  refine wt.2 _ _ _ (.new np) (wt.1.newOwn np) ⟨p, rfl, .inr rfl, fun z => wt.1.new np (wt.1.go p z), ⟨lo, [], Nat.zero_le _, upd_same, .nil⟩, wt.1.notOwn np⟩
theorem tTmv_D {i : Nat} {Q : VK} (h : tD K F (tmvM i) σ H Q) : tVar i σ H Q := by
  obtain ⟨G, O, e, m, s, a, e', m', h1, h2⟩ := h
  unfold tmvM at h1
  dsimp only at h1
  cases q : e[i]? with
  | none => rw [q] at h1; cases h1
  | some x =>
    rw [q] at h1
    cases x with
    | tab w es =>
      cases h1
      obtain ⟨a, k1, k2, k3, k4⟩ := s.slot i _ q
      have s' : Sim K F G O σ H (e.set i .unset) m := by
        refine ⟨by rw [List.length_set]; exact s.len, fun j y z => ?_, fun j j' d1 d2 b z1 z2 o1 o2 => ?_, s.fg, s.go, s.live, s.nd, s.sl, s.st⟩
        · rw [set_get] at z
          split at z
          · split at z
            · cases z; trivial
            · cases z
          · exact s.slot j y z
        · rw [set_get] at z1 z2
          split at z1
          · split at z1
            · cases z1; cases o1
            · cases z1
          · split at z2
            · split at z2
              · cases z2; cases o2
              · cases z2
            · exact s.apart j j' d1 d2 b z1 z2 o1 o2
      refine ⟨_, k1, h2 _ H O .refl s' ⟨a, rfl, k2, k3, k4, fun j d2 z o zz => ?_⟩⟩
      rw [set_get] at z
      split at z
      · split at z
        · cases z; cases o
        · cases z
      · rename_i ne
        exact ne (s.apart i j (.tab w es) d2 a q z rfl o k1 zz)
    | _ => cases h1
end
section
variable {X : Cx} {F : List Addr} {pos p ap px ps : Pos} {a b : Expr} {e f g ke : Ex} {x : Str} {kx : Expr}
theorem ge_tget (i : Nat) (c : Ctx X) (hk : GE X F kx ke) (hN : X.N[i]? = some x := by rfl) (hv : visB X.env.scope x = true := by rfl) (hd : dbgB x = true := by rfl) (hs : NoSl kx := by intro _ _; rfl) : GE X F (.Subscript (.Name x px) kx pos) (.tget X.w i ke) :=
  PE.mono (pe_tget (by have := c.un; omega) (pe_var hN (vis_of hv) (dbg_of hd).1 (dbg_of hd).2) hk hs) fun _ _ _ z => tTget_D z
theorem ge_tgetd (i : Nat) (c : Ctx X) (hk : GE X F kx ke) (hf : GE X F b f) (hN : X.N[i]? = some x := by rfl) (hv : visB X.env.scope x = true := by rfl) (hd : dbgB x = true := by rfl) (hm : M2 X (.Name x px) "get" ap kx b pos := by exact ⟨rfl, rfl, rfl, rfl⟩) :
    GE X F (.Call (.Attribute (.Name x px) "get" ap) [kx, b] [] pos) (.tgetd X.w i ke f) :=
  PE.mono (pe_tget2 (by have := c.un; omega) (pe_var hN (vis_of hv) (dbg_of hd).1 (dbg_of hd).2) hk hf hm) fun _ _ _ z => tTgetd_D z
theorem ge_tin (i : Nat) (c : Ctx X) (hk : GE X F kx ke) (hN : X.N[i]? = some x := by rfl) (hv : visB X.env.scope x = true := by rfl) (hd : dbgB x = true := by rfl) (hm : behindInMarks .In (.Name x px) = false := by rfl) : GE X F (.Compare kx [.In] [.Name x px] pos) (.tin X.w false i ke) :=
  PE.mono (pe_cmp (pc_tin (by have := c.un; omega) hk (pe_var hN (vis_of hv) (dbg_of hd).1 (dbg_of hd).2)) hm) fun _ _ _ z => tTin_D z
theorem ge_tnin (i : Nat) (c : Ctx X) (hk : GE X F kx ke) (hN : X.N[i]? = some x := by rfl) (hv : visB X.env.scope x = true := by rfl) (hd : dbgB x = true := by rfl) (hm : behindInMarks .NotIn (.Name x px) = false := by rfl) : GE X F (.Compare kx [.NotIn] [.Name x px] pos) (.tin X.w true i ke) :=
  PE.mono (pe_cmp (pc_tnin (by have := c.un; omega) hk (pe_var hN (vis_of hv) (dbg_of hd).1 (dbg_of hd).2)) hm) fun _ _ _ z => tTin_D z
theorem gt_tin (i : Nat) (c : Ctx X) (hk : GE X F kx ke) (hN : X.N[i]? = some x := by rfl) (hv : visB X.env.scope x = true := by rfl) (hd : dbgB x = true := by rfl) (hm : behindInMarks .In (.Name x px) = false := by rfl) : GT X F (.Compare kx [.In] [.Name x px] pos) (.tin X.w false i ke) :=
  PT.mono (pt_cmp (pc_tin (by have := c.un; omega) hk (pe_var hN (vis_of hv) (dbg_of hd).1 (dbg_of hd).2)) hm) fun _ _ _ z => tR_mono (tT_D z) (fun _ _ z => z) |> tTin_D
theorem gt_tnin (i : Nat) (c : Ctx X) (hk : GE X F kx ke) (hN : X.N[i]? = some x := by rfl) (hv : visB X.env.scope x = true := by rfl) (hd : dbgB x = true := by rfl) (hm : behindInMarks .NotIn (.Name x px) = false := by rfl) : GT X F (.Compare kx [.NotIn] [.Name x px] pos) (.tin X.w true i ke) :=
  PT.mono (pt_cmp (pc_tnin (by have := c.un; omega) hk (pe_var hN (vis_of hv) (dbg_of hd).1 (dbg_of hd).2)) hm) fun _ _ _ z => tR_mono (tT_D z) (fun _ _ z => z) |> tTin_D
theorem gs_tset (i : Nat) (c : Ctx X) (ha : GE X F a e) (hk : GE X F kx ke) (hN : X.N[i]? = some x := by rfl) (hv : visB X.env.scope x = true := by rfl) (hd : dbgB x = true := by rfl)
    (hs : swapsWith a (some (.Subscript (.Name x px) kx ps)) pos.line X.env = pure false := by rfl) : GS X F (.Assign [.Subscript (.Name x px) kx ps] a pos) (.tset X.w i ke e) :=
  PS.mono (ps_tput (by have := c.un; omega) (pe_var hN (vis_of hv) (dbg_of hd).1 (dbg_of hd).2) hk ha hs) fun _ _ _ z => tTset_S z
theorem ge_tmt : GE X F (.Dict [] [] pos) (.tmt X.w) := PE.mono pe_tnew fun _ _ _ z => tTnew_D z
theorem ge_tmv (i : Nat) (hN : X.N[i]? = some x := by rfl) (hv : visB X.env.scope x = true := by rfl) (hd : dbgB x = true := by rfl) : GE X F (.Name x pos) (.tmv i) :=
  PE.mono (pe_var hN (vis_of hv) (dbg_of hd).1 (dbg_of hd).2) fun _ _ _ z => tTmv_D z
end
end Fb

/-! tables: their keys, their values, in order -/
namespace Fb
open PySem PySem.Spec PyProof.Rows L2
section
variable {prog : Program} {w : World} {r d : Addr} {es : Array DictEntry} {ep : Nat}
theorem kdl_valuesRaw : PySem.W.KdlSrc prog w "dict_values" r d es.size (fun i v => ∃ hi : i < es.size, v = es[i].val) (fun h => h.IsValuesView r d ∧ h.DictRaw d es ep) where
  type := fun _ hm => hm.1.typeIs
  there := fun _ hm => ⟨let ⟨_, ho, _⟩ := hm.1; Heap.lt_size ho, let ⟨_, ho, _⟩ := hm.2; Heap.lt_size ho⟩
  keep := fun _ _ hm hk => ⟨let ⟨o, ho, x⟩ := hm.1; ⟨o, hk r (.inl rfl) o ho, x⟩, hm.2.at fun o e => hk d (.inr rfl) o e⟩
  notList := by decide
  notTuple := by decide
  hint := fun _ _ _ _ hm hq => PySem.W.kdl_hint_values hm.1.typeIs hq
  iter := fun _ s hh hm => ⟨_, _, (fun _ _ hq => wpAny_pyIter_values_raw hm.1 hm.2 hq), Walks.rawValues hh _ d (Nat.ne_of_lt (let ⟨_, ho, _⟩ := hm.2; Heap.lt_size ho)) es ep, ⟨⟨_, Heap.get?_push_size _ rfl, rfl, rfl⟩, hm.2.at fun o e => Heap.get?_push_of_some _ e⟩⟩
end
section
variable {X : Cx} {F : List Addr} {K : PySem.W.Frag} {G O O' : Own} {σ : L2.St} {H H' : Hp} {e : List Slot} {m : Mu}
/-- what the items of a walk are -/
theorem vals_items {xs : List (NestedKey × Addr × Value)} {es : List (PyData × PyData)} (r : RepN K O H xs es) : RepAll K O H (xs.map fun x => V.ref x.2.1) (es.map (·.1)) := by
  induction r with
  | nil => exact .nil
  | cons h1 h2 h3 h4 h5 h6 ih => exact .cons h3 ih
theorem vals_vals {xs : List (NestedKey × Addr × Value)} {es : List (PyData × PyData)} (r : RepN K O H xs es) : ∃ vs : List V, RepAll K O H vs (es.map (·.2)) ∧ Vals vs (xs.map fun x => x.2.2) := by
  induction r with
  | nil => exact ⟨[], .nil, .nil⟩
  | cons h1 h2 h3 h4 h5 h6 ih => obtain ⟨vs, a, b⟩ := ih; exact ⟨_ :: vs, .cons h5 a, .cons h4 b⟩
theorem refs_vals (xs : List (NestedKey × Addr × Value)) : Vals (xs.map fun x => V.ref x.2.1) (xs.map fun x => Value.ref x.2.1) := by
  induction xs with
  | nil => exact .nil
  | cons x xs ih => exact .cons rfl ih
theorem ent_size {w : World} {es : Array DictEntry} {xs : List (NestedKey × Addr × Value)} (h : es.toList = xs.map (entN w)) : es.size = xs.length := by
  rw [← Array.length_toList, h, List.length_map]
theorem ent_at {w : World} {es : Array DictEntry} {xs : List (NestedKey × Addr × Value)} (h : es.toList = xs.map (entN w)) (j : Nat) : es[j]? = (xs[j]?).map (entN w) := by
  rw [← Array.getElem?_toList, h, List.getElem?_map]
theorem keys_eq {w : World} {es : Array DictEntry} {xs : List (NestedKey × Addr × Value)} (h : es.toList = xs.map (entN w)) {acc : List Value} (hl : acc.length = es.size) (hp : ∀ (j : Nat) v, acc[j]? = some v → ∃ en : DictEntry, es[j]? = some en ∧ v = en.key) : acc = xs.map fun x => Value.ref x.2.1 := by
  have l1 := ent_size h
  apply List.ext_getElem?
  intro j
  rw [List.getElem?_map]
  cases hj : acc[j]? with
  | none =>
    have h1 := List.getElem?_eq_none_iff.mp hj
    rw [List.getElem?_eq_none (by omega)]
    rfl
  | some v =>
    obtain ⟨en, h1, rfl⟩ := hp j v hj
    rw [ent_at h] at h1
    obtain ⟨x, hx, rfl⟩ := Option.map_eq_some_iff.mp h1
    rw [hx]
    rfl
theorem vals_eq {w : World} {es : Array DictEntry} {xs : List (NestedKey × Addr × Value)} (h : es.toList = xs.map (entN w)) {acc : List Value} (hl : acc.length = es.size) (hp : ∀ (j : Nat) v, acc[j]? = some v → ∃ hi : j < es.size, v = es[j].val) : acc = xs.map fun x => x.2.2 := by
  have l1 := ent_size h
  apply List.ext_getElem?
  intro j
  rw [List.getElem?_map]
  cases hj : acc[j]? with
  | none =>
    have h1 := List.getElem?_eq_none_iff.mp hj
    rw [List.getElem?_eq_none (by omega)]
    rfl
  | some v =>
    obtain ⟨hi, rfl⟩ := hp j v hj
    have h1 := ent_at h j
    rw [Array.getElem?_eq_getElem hi] at h1
    obtain ⟨x, hx, e1⟩ := Option.map_eq_some_iff.mp h1.symm
    rw [hx, ← e1]
    rfl
/-- list(t) -/
theorem call_list_tab (hc : X.calm = true) : CallR X (.type "list") (fun xs H Q => ∃ O w a es, xs = [V.ref a] ∧ TabAt X.K O H w a es ∧ ∀ p bs, H p = none → RepAll X.K O H bs (es.map (·.1)) → Q (.ref p) (upd H p (.lst bs))) := by
  intro pins s σ H xs us Q I r h
  obtain ⟨O, w, a, es, rfl, t, q⟩ := h
  obtain ⟨u, rfl, rx⟩ := r.one
  cases rx
  obtain ⟨o, es', ep, xs, lo, ha, h1, h2, h3, h4, hz, rn⟩ := tab_raw I t
  have l1 := ent_size h4
  refine PySem.W.kdl_call (kdl_raw lo h2 h3) (I.ok.hd hc) h1 (by omega) fun h' tk acc' c' kp e it => ?_
  have ea := keys_eq h4 (acc := acc'.toList) (by rw [Array.length_toList]; exact it.1) fun j v e => it.2 j v (by rw [← Array.getElem?_toList]; exact e)
  have rk := vals_items rn
  refine ⟨.ref s.heap.objs.size, _, I.laid (t' := tk) (o := .lst (xs.map fun x => V.ref x.2.1)) kp (Nat.le_refl _) ?_, rfl, q _ _ (I.hok.fresh (Nat.le_refl _)) rk⟩
  exact ⟨by rw [List.length_map]; exact hz, acc'.toList, c', by rw [ea]; exact refs_vals xs, by rw [Array.toArray_toList]; exact e⟩
/-- t.values() -/
def VwO (p d : Addr) : HO := .ext fun h => h.IsValuesView p d
theorem vw_new {P : Program} {w : World} {H : Hp} (h : Heap) (d : Addr) : ObjOk P w H (h.push { cls := .type "dict_values", data := .fields #[.ref d] }) h.objs.size (VwO h.objs.size d) := by
  refine ⟨⟨_, Heap.get?_push_size _ rfl, rfl, rfl⟩, ⟨_, Heap.get?_push_size _ rfl⟩, fun h1 h2 ⟨o, ho, a, b⟩ k => ⟨o, k o ho, a, b⟩⟩
def tVals (K : PySem.W.Frag) (td : TE) : TE := fun σ H Q => td σ H fun x H1 => ∃ O w a es, x = .ref a ∧ TabAt K O H1 w a es ∧ ∀ p, H1 p = none → Q (.ref p) (upd H1 p (VwO p a))
theorem pe_vals {o : Expr} {apos cpos : Pos} {td : TE} (he : PE X o td) (hbase : attributeBase o "values" X.env (eval o X.env) = eval o X.env := by rfl) (hline : (apos.endLine == cpos.line) = true := by rfl) : PE X (.Call (.Attribute o "values" apos) [] [] cpos) (tVals X.K td) := by
  refine ⟨fun pins s σ H Q I h => ?_⟩
  refine wpAny_Call_method (T := "dict") (id := "dict.values") hbase rfl hline F.plainAttrs_dict F.slot_dict_values F.type_dict_values (thn (he.run pins s σ H _ I h) fun u s1 ⟨x, H1, I1, rx, O, w, a, es, ex, t, q⟩ => ?_)
  subst ex
  obtain rfl : u = Value.ref a := rx
  obtain ⟨o, es', ep, xs, lo, ha, h1, h2, h3, h4, hz, rn⟩ := tab_raw I1 t
  obtain ⟨t1, t2⟩ := tab_is I1 t
  refine ⟨t1, t2, ?_⟩
  have I2 := I1.laid (a := s1.heap.objs.size) (o := VwO s1.heap.objs.size a) (t' := s1.toks) (fun _ _ q => Heap.get?_push_of_some _ q) (Nat.le_refl _) (vw_new s1.heap a)
  show wpAny _ _ (callWith cpos (.builtin "dict.values") [.ref a] [] []) _ X.xe s1
  exact method_meetsIn F.slot_dict_values F.entry_dict_values rfl (PySem.evalArgs_none ⟨rfl, t1, F.args_dict_values_1 _, _, meets_dict_values_raw a lo, ⟨es', ep, o, h1, h2, h3⟩, ⟨.ref s1.heap.objs.size, _, I2, rfl, q _ (I1.hok.fresh (Nat.le_refl _))⟩⟩)
theorem call_list_vw (hc : X.calm = true) : CallR X (.type "list") (fun xs H Q => ∃ O w a v es, xs = [V.ref v] ∧ H v = some (VwO v a) ∧ TabAt X.K O H w a es ∧ ∀ p bs, H p = none → RepAll X.K O H bs (es.map (·.2)) → Q (.ref p) (upd H p (.lst bs))) := by
  intro pins s σ H xs us Q I r h
  obtain ⟨O, w, a, v, es, rfl, hv, t, q⟩ := h
  obtain ⟨u, rfl, rx⟩ := r.one
  cases rx
  obtain ⟨o, es', ep, xs, lo, ha, h1, h2, h3, h4, hz, rn⟩ := tab_raw I t
  have hw : s.heap.IsValuesView v a := (show ObjOk X.prog X.w H s.heap v (VwO v a) from I.hok v _ hv).1
  have l1 := ent_size h4
  refine PySem.W.kdl_call (kdl_valuesRaw (ep := ep)) (I.ok.hd hc) ⟨hw, o, h1, h2, h3⟩ (by omega) fun h' tk acc' c' kp e it => ?_
  have ea := vals_eq h4 (acc := acc'.toList) (by rw [Array.length_toList]; exact it.1) fun j v e => it.2 j v (by rw [← Array.getElem?_toList]; exact e)
  obtain ⟨vs, rv, rl⟩ := vals_vals rn
  refine ⟨.ref s.heap.objs.size, _, I.laid (t' := tk) (o := .lst vs) kp (Nat.le_refl _) ?_, rfl, q _ _ (I.hok.fresh (Nat.le_refl _)) rv⟩
  have hlen : vs.length ≤ sizeLine := by rw [rv.length, List.length_map, ← rn.length]; exact hz
  exact ⟨hlen, acc'.toList, c', by rw [ea]; exact rl, by rw [Array.toArray_toList]; exact e⟩
/-- sorted(t) -/
theorem sort_tab {w : World} {a : Addr} {es : List (PyData × PyData)} {l : List PyData} {pins : List (Addr × Obj)} {s : Shared} {Q : VK} {E : Value → Shared → Prop} (hc : X.calm = true)
    (hu : X.A.units + 100 < cLine) (I : Inv X pins σ H s) (t : TabAt X.K O H w a es) (hs : sort? (es.map (·.1)) = some l)
    (h : ∀ zs p, RepAll X.K O H zs l → H p = none → Q (.ref p) (upd H p (.lst zs))) :
    wpAny (model X.prog X.w) X.A (call (.builtin "sorted") [.ref a]) (EP X pins σ Q) E s := by
  obtain ⟨o, es', ep, xs, lo, ha, h1, h2, h3, h4, hz0, rn⟩ := tab_raw I t
  have l1 := ent_size h4
  obtain ⟨al, so, sh, hz, rfl⟩ := sort_facts hs
  have rp := vals_items rn
  have rv := refs_vals xs
  generalize hys : (xs.map fun x => V.ref x.2.1) = ys at rp rv
  generalize hds : es.map (·.1) = ds at *
  have hlen : ys.length = ds.length := rp.length
  have cl : PyData.canLayAll0 ds = true := by simpa [PyData.canLay0] using SeqAt.canLay_of_shaped sh
  refine Calls.call_function_entry kind_sorted plain_sorted entry_sorted (args_sorted1 _) ?_
  unfold Builtin.«sorted»
  refine wpAny_bind (m := checkCount "sorted" 1 1 _) (wpAny_pure ?_)
  refine wpAny_bind (PySem.W.kdu_collect (A := X.A.in1) (kdl_raw lo h2 h3) (I.ok.hd hc) h1 (by omega) fun h' tk acc keep it => ?_)
  have ea := keys_eq h4 (acc := acc.toList) (by rw [Array.length_toList]; exact it.1) fun j v e => it.2 j v (by rw [← Array.getElem?_toList]; exact e)
  rw [ea]
  generalize hits : (xs.map fun x => Value.ref x.2.1) = its at *
  have hz1 : its.length ≤ sizeLine := by rw [← rv.length, hlen]; exact hz
  refine wpAny_bind (wpAny_newList ?_ (by simpa using hz1))
  have I1 : Inv X pins σ H { s with heap := h', toks := tk } := I.kept (t' := tk) keep
  have hoL : (h'.push (seqObj "list" its.toArray 0)).get? h'.objs.size = some (seqObj "list" its.toArray 0) := Heap.get?_push_size _ rfl
  have kp : ∀ b ob, h'.get? b = some ob → (h'.push (seqObj "list" its.toArray 0)).get? b = some ob := fun b ob q => Heap.get?_push_of_some _ q
  have er := each_reads (a := h'.objs.size) I1 kp (fun ob q => absurd (Heap.lt_size q) (Nat.lt_irrefl _)) rv rp cl
  have dp : ∀ b, b ∈ ds → X.A.in1.units + 1 + b.depth < cLine := fun b hb => by
    have q := depth_all hb
    have q2 := SeqAt.depth_of_shaped sh
    simp only [PyData.depth] at q2
    show X.A.units + 1 + 1 + b.depth < cLine
    omega
  have e1 : ds.map (fun d => d) = ds := List.map_id' ds
  refine wpAny_bind (wpAny_holding (PySem.W.list_sort_data (enc := fun d => d) (bs := ds) (s := { s with heap := h'.push (seqObj "list" its.toArray 0), toks := tk }) hoL (vals_each rv rp) er (by rw [e1]; exact al) (by rw [e1]; exact so) hz dp fun out hl eo => ?_))
  obtain ⟨zs, hv, hr⟩ := each_vals eo
  obtain ⟨k, ha⟩ := sortedHeap_at (out := out.toArray) hoL
  refine wpAny_pure ⟨_, rfl, ?_⟩
  have nf : H h'.objs.size = none := I1.hok.fresh (Nat.le_refl _)
  refine ⟨.ref h'.objs.size, upd H h'.objs.size (.lst zs), I1.laid (t' := tk) (fun b ob q => ?_) (Nat.le_refl _) ⟨?_, out, k, hv, ha⟩, rfl, h zs _ hr nf⟩
  · have hlt := Heap.lt_size q
    refine (sortedHeap_old (Nat.ne_of_lt hlt) ?_).trans (kp b ob q)
    exact Nat.lt_of_lt_of_le hlt (by rw [show (h'.push (seqObj "list" its.toArray 0)).objs.size = h'.objs.size + 1 from Heap.size_push ..]; exact Nat.le_succ _)
  · rw [hv.length, hl]; exact hz
theorem call_sorted_tab (hc : X.calm = true) (hu : X.A.units + 100 < cLine) : CallR X (.builtin "sorted") (fun xs H Q => ∃ O w a es l, xs = [V.ref a] ∧ TabAt X.K O H w a es ∧ sort? (es.map (·.1)) = some l ∧ ∀ zs p, RepAll X.K O H zs l → H p = none → Q (.ref p) (upd H p (.lst zs))) := by
  intro pins s σ H xs us Q I r h
  obtain ⟨O, w, a, es, l, rfl, t, hs, q⟩ := h
  obtain ⟨u, rfl, rx⟩ := r.one
  cases rx
  exact sort_tab hc hu I t hs q
end
end Fb

/-! tables: list(t), list(t.values()), sorted(t), {k: v} -/
namespace Fb
open PySem PySem.Spec PyProof.Rows L2
section
variable {X : Cx} {F : List Addr} {K : PySem.W.Frag} {G O O' : Own} {σ : L2.St} {H H' : Hp} {e : List Slot} {m : Mu}
theorem tTab_D {i : Nat} {f : List (PyData × PyData) → M Val} {Q : VK} (h : tD K F ((tabM i).bind f) σ H Q) : ∃ G O e m w a es, σ[i]? = some (some (.ref a)) ∧ TabAt K O H w a es ∧ At K F (VRep K F) G O σ H e m (f es) Q := by
  obtain ⟨G, O, e, m, h⟩ := h
  obtain ⟨w, a, es, k1, k2, h⟩ := At.tab h
  exact ⟨G, O, e, m, w, a, es, k1, k2, h⟩
theorem tKeys_D {i : Nat} {Q : VK} (h : tD K F ((tabM i).bind fun es => M.pure (.uni (.list (es.map (·.1))))) σ H Q) :
    tCB (fun xs H Q => ∃ O w a es, xs = [V.ref a] ∧ TabAt K O H w a es ∧ ∀ p bs, H p = none → RepAll K O H bs (es.map (·.1)) → Q (.ref p) (upd H p (.lst bs))) (tCons (tVar i) tNil) σ H Q := by
  obtain ⟨G, O, e, m, w, a, es, k1, k2, h⟩ := tTab_D h
  have wt := At.pureW h
  exact ⟨_, k1, O, w, a, es, rfl, k2, fun p bs np r => wt.lst r p np⟩
theorem tSrtT_D {i : Nat} {Q : VK} (h : tD K F ((tabM i).bind fun es => lift ((sort? (es.map (·.1))).map fun l => .uni (.list l))) σ H Q) :
    tCB (fun xs H Q => ∃ O w a es l, xs = [V.ref a] ∧ TabAt K O H w a es ∧ sort? (es.map (·.1)) = some l ∧ ∀ zs p, RepAll K O H zs l → H p = none → Q (.ref p) (upd H p (.lst zs))) (tCons (tVar i) tNil) σ H Q := by
  obtain ⟨G, O, e, m, w, a, es, k1, k2, h⟩ := tTab_D h
  obtain ⟨v, hv, wt⟩ := At.wants (v := .dat .none) h
  obtain ⟨l, hl, rfl⟩ := Option.map_eq_some_iff.mp hv
  exact ⟨_, k1, O, w, a, es, l, rfl, k2, hl, fun zs p r np => wt.lst r p np⟩
/-- wanted at a state, wanted at one that keeps all -/
theorem Wants.later {v : Val} {Q : VK} (h : Wants K F G O σ H e m v Q) (k : ∀ a o, H a = some o → H' a = some o) : Wants K F G O σ H' e m v Q :=
  ⟨h.1.same k, fun w H2 O2 g s r => h.2 w H2 O2 ((Grow.of_same k).trans g h.1.fo) s r⟩
theorem tValsT_D {i : Nat} {Q : VK} (h : tD K F ((tabM i).bind fun es => M.pure (.uni (.list (es.map (·.2))))) σ H Q) :
    tCB (fun xs H Q => ∃ O w a v es, xs = [V.ref v] ∧ H v = some (VwO v a) ∧ TabAt K O H w a es ∧ ∀ p bs, H p = none → RepAll K O H bs (es.map (·.2)) → Q (.ref p) (upd H p (.lst bs))) (tCons (tVals K (tVar i)) tNil) σ H Q := by
  obtain ⟨G, O, e, m, w, a, es, k1, k2, h⟩ := tTab_D h
  have wt := At.pureW h
  refine ⟨_, k1, O, w, a, es, rfl, k2, fun v nv => ?_⟩
  have k := upd_keeps (o := VwO v a) nv
  exact ⟨O, w, a, v, es, rfl, upd_same, k2.same k, fun p bs np r => (wt.later k).lst r p np⟩
/-! {k: v} -/
theorem carriesN {P : Program} {w : World} {h : Heap} {k : NestedKey} {b : Addr} {u : Value} (hk : NestedIs h k (.ref b)) (hd : k.depth ≤ 8) : CarriesH (nestedKind P w) h [(.ref b, u)] [(k, b, u)] := ⟨rfl, rfl, ⟨hk, hd⟩, True.intro⟩
def tTone (K : PySem.W.Frag) (w : World) (tk tv : TE) : TE := fun σ H Q => ∀ p, H p = none → (p == sysModules) = false → tk σ (upd H p (DNO w p [])) fun y H1 => tv σ H1 fun v H2 => H2 p = some (DNO w p []) ∧ ∃ O ks b, y = .ref b ∧ Rep K O H2 (.ref b) (NestedKey.tup ks).data ∧ (NestedKey.tup ks).depth ≤ 8 ∧
  ∀ u, RelV v u → Q (.ref p) (upd H2 p (DNO w p [(NestedKey.tup ks, b, u)]))
theorem pe_tone {kx vx : Expr} {pos : Pos} {tk tv : TE} (hu : X.A.units + 9 < cLine) (hk : PE X kx tk) (hv : PE X vx tv) : PE X (.Dict [some kx] [vx] pos) (tTone X.K X.w tk tv) := by
  refine ⟨fun pins s σ H Q I q => ?_⟩
  have hn := I.hok.fresh (Nat.le_refl s.heap.objs.size)
  have I1 := I.laid (a := s.heap.objs.size) (o := DNO X.w s.heap.objs.size []) (h' := s.heap.push { cls := .type "dict", data := .dict #[] }) (t' := s.toks) (fun _ _ q => Heap.get?_push_of_some _ q) (Nat.le_refl _) (DNO_new (P := X.prog) (Heap.DictOfH.new s.heap))
  have q := q _ hn (beq_eq_false_iff_ne.mpr (Ne.symm (Nat.ne_of_lt I.big)))
  have hlen := pairTrees_length [some kx] [vx] X.env pos rfl rfl
  have h0 : pairTrees [some kx] [vx] X.env pos ≠ [] := fun z => by rw [z] at hlen; cases hlen
  rw [arm_eval_Dict, zip_pairTrees [some kx] [vx] X.env pos rfl rfl, dictDisplay_pairs _ h0 (by rw [hlen]; exact (by decide : 1 < 17))]
  refine wpAny_bind (wpAny_standAt (wpAny_bind (wpAny_subDictH (knd := nestedKind X.prog X.w) (Q := fun d s' => wpAny (model X.prog X.w) X.A (pure (Value.ref d)) (EP X pins σ Q) X.xe s') (by show X.A.units + 8 < cLine; omega) (by rw [hlen]; exact (by decide : 1 ≤ 15)) ?_)))
  refine pairTrees_cons_walk (thn (hk.run pins _ σ _ _ I1 q) fun kv s1 ⟨y, H1, I2, ry, q1⟩ => thn (hv.run pins s1 σ H1 _ I2 q1) fun vv s2 ⟨v, H2, I3, rv, hp, O, ks, b, ey, rk, hd, q2⟩ => pairTrees_nil_walk ?_)
  subst ey
  cases ry
  have dd := tab_dict (es := []) (O := O) I3 hp .nil
  refine ⟨_, carriesN (nk_is I3 _ _ _ rk rfl) hd, dd, fun h' tk dd' hs => wpAny_pure ?_⟩
  have he : ∃ q, h'.get? s.heap.objs.size = some q := let ⟨q, _, _, hq, _⟩ := dd'; ⟨q, hq⟩
  exact ⟨.ref s.heap.objs.size, _, d_write (t' := tk) I3 (by rw [hp]; exact True.intro) hs he (DNO_new (P := X.prog) (xs := [(NestedKey.tup ks, b, vv)]) dd'), rfl, q2 vv rv⟩
theorem tTone_D {x y : M Val} {w : World} {Q : VK} (h : tD K F (x.bind fun v => v.data.bind fun d => (tkM d).bind fun _ => y.bind fun u => u.data.bind fun c => M.pure (.tab w [(d, c)])) σ H Q) : tTone K w (tD K F x) (tD K F y) σ H Q := by
  obtain ⟨G, O, e, m, h⟩ := h
  have s0 := h.sim
  intro p np lo
  obtain ⟨_, a, e', m', h1, h2⟩ := h
  obtain ⟨v, ⟨e1, m1⟩, hx, h1⟩ := bind_ok h1
  have nf : p ∉ F := fun z => s0.new np (s0.fo p z)
  refine ⟨plus G p, plus O p, e, m, s0.watch (o := DNO w p []) np, v, e1, m1, hx, fun yv H1 O1 g1 s1 r1 => ?_⟩
  obtain ⟨d, s2, hd, h1⟩ := bind_ok h1
  obtain ⟨O2, g2, s2', rd, hdd⟩ := VRep.data s1 r1 ⟨s2, hd⟩
  rw [hdd] at hd
  cases hd
  obtain ⟨_, s3, hk, h1⟩ := bind_ok h1
  obtain ⟨rfl, tk⟩ := tk_ok hk
  obtain ⟨u, ⟨e3, m3⟩, hy, h1⟩ := bind_ok h1
  have gp : ∀ a, a ∈ F → plus G p a := s1.fg
  refine ⟨plus G p, O2, e1, m1, s2', u, e3, m3, hy, fun uv H2 O3 g3 s3 r3 => ?_⟩
  obtain ⟨c, s4, hc, h1⟩ := bind_ok h1
  obtain ⟨O4, g4, s4', rc, hcc⟩ := VRep.data s3 r3 ⟨s4, hc⟩
  rw [hcc] at hc
  cases hc
  cases h1
  have s0w := s0.watch (o := DNO w p []) np
  have g24 : Grow F (plus G p) (plus O p) (upd H p (DNO w p [])) O4 H2 := g1.trans (g2.trans (g3.trans g4 s2'.fo) s1.fo) s0w.fo
  have hp : H2 p = some (DNO w p []) := g24.keep p _ upd_same nf (.inr (.inr rfl))
  obtain ⟨ks, rfl, hdp⟩ := isTK_key tk
  obtain ⟨b, rfl⟩ := rd.refT
  have rk : Rep K O4 H2 (.ref b) (NestedKey.tup ks).data := (rd.stays (g3.stays s2'.fo)).stays (g4.stays s3.fo)
  refine ⟨hp, O4, ks, b, rfl, rk, hdp, fun uu ru => ?_⟩
  have op : O4 p := s4'.go p (.inr rfl)
  have st : Stays O4 H2 O4 (upd H2 p (DNO w p [(NestedKey.tup ks, b, uu)])) := stays_mut op
  have gw : Grow F G O H O4 H2 := Grow.watched g24 np
  have s5 : Sim K F G O4 σ (upd H2 p (DNO w p [(NestedKey.tup ks, b, uu)])) e' m' := (s4'.watched nf).unguard s0.fg
  refine h2 _ _ O4 ⟨fun a o q f c => ?_, gw.own⟩ s5 ⟨p, rfl, op, fun z => s0.new np (s0.go p z), ⟨lo, _, by rw [sizeLine_eq]; simp only [List.length_cons, List.length_nil]; omega, upd_same, .cons rfl hdp (rk.stays st) ru (rc.stays st) .nil⟩, fun i x q o z => ?_⟩
  · rw [upd_ne (ne_of_none q np)]
    exact gw.keep a o q f c
  · obtain ⟨b2, z1, _, z3⟩ := (s4'.slot i _ q).ref o
    rw [z] at z1
    cases z1
    exact z3 (.inr rfl)
end
section
variable {X : Cx} {F : List Addr} {pos p ap px ps vp : Pos} {a b : Expr} {e f g ke : Ex} {x : Str} {kx : Expr}
theorem ge_tone (c : Ctx X) (hk : GE X F kx ke) (hv : GE X F a e) : GE X F (.Dict [some kx] [a] pos) (.tone X.w ke e) :=
  PE.mono (pe_tone (by have := c.un; omega) hk hv) fun _ _ _ z => tTone_D z
theorem ge_tkeys (i : Nat) (c : Ctx X) (hN : X.N[i]? = some x := by rfl) (hv : visB X.env.scope x = true := by rfl) (hd : dbgB x = true := by rfl) (hg : Gl X "list" := by rfl) (hs : ∀ env, starEach [Expr.Name x px] env = (false, eval (.Name x px) env) :: starEach [] env := by intro _; rfl) :
    GE X F (.Call (.Name "list" p) [.Name x px] [] pos) (.tkeys i) :=
  PE.mono (pe_callTy (call_list_tab c.calm) hg (c.free _ (by decide +kernel)) (by decide +kernel) (pa1 (pe_var hN (vis_of hv) (dbg_of hd).1 (dbg_of hd).2) hs) (by decide +kernel) (by decide +kernel) (hs _) rfl) fun _ _ _ z => tKeys_D z
theorem ge_tsrt (i : Nat) (c : Ctx X) (hN : X.N[i]? = some x := by rfl) (hv : visB X.env.scope x = true := by rfl) (hd : dbgB x = true := by rfl) (hg : Gl X "sorted" := by rfl) (hs : ∀ env, starEach [Expr.Name x px] env = (false, eval (.Name x px) env) :: starEach [] env := by intro _; rfl) :
    GE X F (.Call (.Name "sorted" p) [.Name x px] [] pos) (.tsrt i) :=
  PE.mono (pe_callB (call_sorted_tab c.calm (by have := c.un; omega)) hg (c.free _ (by decide +kernel)) (by decide +kernel) (pa1 (pe_var hN (vis_of hv) (dbg_of hd).1 (dbg_of hd).2) hs) (by decide +kernel) (by decide +kernel) (hs _) rfl) fun _ _ _ z => tSrtT_D z
theorem ge_tvals (i : Nat) (c : Ctx X) (hN : X.N[i]? = some x := by rfl) (hv : visB X.env.scope x = true := by rfl) (hd : dbgB x = true := by rfl) (hg : Gl X "list" := by rfl)
    (hbase : attributeBase (.Name x px) "values" X.env (eval (.Name x px) X.env) = eval (.Name x px) X.env := by rfl) (hline : (ap.endLine == vp.line) = true := by rfl)
    (hs : ∀ env, starEach [Expr.Call (.Attribute (.Name x px) "values" ap) [] [] vp] env = (false, eval (.Call (.Attribute (.Name x px) "values" ap) [] [] vp) env) :: starEach [] env := by intro _; rfl) :
    GE X F (.Call (.Name "list" p) [.Call (.Attribute (.Name x px) "values" ap) [] [] vp] [] pos) (.tvals i) :=
  PE.mono (pe_callTy (call_list_vw c.calm) hg (c.free _ (by decide +kernel)) (by decide +kernel) (pa1 (pe_vals (pe_var hN (vis_of hv) (dbg_of hd).1 (dbg_of hd).2) hbase hline) hs) (by decide +kernel) (by decide +kernel) (hs _) rfl) fun _ _ _ z => tValsT_D z
end
end Fb

/-! tables: for k, v in t.items() (the table's last use) -/
namespace Fb
open PySem PySem.Spec PyProof.Rows L2
def ItiN (d : Addr) (o : Obj) (w : World) (xs : List (NestedKey × Addr × Value)) (vs : List V) : L2.It :=
  ⟨fun i H => H d = some (.frz o (DNO w d xs)) ∧ i < xs.length, fun i H x H' => ∃ T y v, xs[i]? = some y ∧ vs[i]? = some v ∧ x = .ref T ∧ H T = none ∧ H' = upd H T (.tup [.ref y.2.1, v]), fun i H => H d = some (.frz o (DNO w d xs)) ∧ xs.length ≤ i⟩
section
variable {X : Cx} {pins : List (Addr × Obj)} {σ : L2.St} {H : Hp} {s : Shared} {d : Addr} {o : Obj} {w : World} {xs : List (NestedKey × Addr × Value)} {vs : List V}
theorem frz_raw (I : Inv X pins σ H s) (h : H d = some (.frz o (DNO w d xs))) : ∃ es ep, s.heap.get? d = some o ∧ o.ExactDict ∧ o.data = .dict es ep ∧ es.toList = xs.map (entN w) := by
  obtain ⟨h1, ⟨o', es, ep, h2, h3, h4, h5, _⟩, _⟩ := (show ObjOk X.prog X.w H s.heap d (.frz o (DNO w d xs)) from I.hok d _ h)
  rw [h1] at h2
  cases h2
  exact ⟨es, ep, h1, h3, h4, h5⟩
theorem turn_itemsN {P : Program} {w' : World} {K : PySem.W.Frag} {elts : List Expr} {kk : Nat} {tpos : Pos} {es : Array DictEntry} {ep : Nat} (it : Addr) (hod : o.data = .dict es ep) (hv : Vals vs (xs.map fun x => x.2.2)) :
    Turn P w' K (.Tuple elts kk tpos) (ItiN d o w xs vs) [it] it (fun i h => ∃ ok ov, IsItemIter h it d i es.size ep ok ov) where
  mem := by simp
  obj := fun i h st b hb => by
    have e : b = it := by simpa using hb
    subst e
    obtain ⟨ok, ov, e⟩ := st
    exact ⟨_, e, fun v z => nomatch z⟩
  keep := fun i h h' st k => let ⟨ok, ov, e⟩ := st; ⟨ok, ov, k it (by simp) _ e⟩
  item := by
    intro X hP hw hK hc i pins s σ H E I hf st hg
    subst hP hw hK
    obtain ⟨hd, hi⟩ := hg
    obtain ⟨es', ep', hgd, hx, hdt, ent⟩ := frz_raw I hd
    obtain ⟨rfl, rfl⟩ := dict_ep hod hdt
    have hsz := ent_size ent
    have hie : i < es'.size := by omega
    obtain ⟨y, hy⟩ : ∃ y, xs[i]? = some y := ⟨xs[i], List.getElem?_eq_getElem hi⟩
    have hen := ent_at ent i
    rw [Array.getElem?_eq_getElem hie, hy] at hen
    have hen : es'[i] = entN w y := Option.some.inj hen
    have hvl : vs.length = xs.length := by have := hv.length; rw [List.length_map] at this; exact this
    obtain ⟨v, hvv⟩ : ∃ v, vs[i]? = some v := ⟨vs[i]'(by omega), List.getElem?_eq_getElem (by omega)⟩
    obtain ⟨u, hu, ru⟩ := hv.get hvv
    rw [List.getElem?_map, hy] at hu
    have hu : y.2.2 = u := Option.some.inj hu
    subst hu
    obtain ⟨ok, ov, he⟩ := st
    have hlt : it < s.heap.objs.size := Heap.lt_size he
    refine wpAny_pyNext_items_item_raw he ⟨o, hgd, hx, hdt⟩ hie fun h' ho hT hz hk => ?_
    refine ⟨_, rfl, wpAny_letOwnedTupleGo_items (s := { s with heap := h' }) ho fun h'' he' sb => ?_⟩
    rw [hen] at hT
    have hT2 : h''.get? s.heap.objs.size = some { cls := .type "tuple", data := .seq #[.ref y.2.1, y.2.2] } := (sb.2 _ (Nat.ne_of_gt hlt)).trans hT
    have new : ObjOk X.prog X.w (upd H s.heap.objs.size (.tup [.ref y.2.1, v])) h'' s.heap.objs.size (.tup [.ref y.2.1, v]) :=
      ⟨by show 2 ≤ sizeLine; decide, [.ref y.2.1, y.2.2], .cons rfl (.cons ru .nil), ⟨_, hT2, rfl, _, rfl⟩⟩
    have I1 : Inv X pins σ (upd H s.heap.objs.size (.tup [.ref y.2.1, v])) { s with heap := h'' } :=
      I.turnedNew (t' := s.toks) (ch := [it]) (fun b ob hb e => (sb.2 b (by simpa using hb)).trans (hk b ob (by simpa using hb) e)) hf (Nat.le_refl _) new
    refine ⟨.ref s.heap.objs.size, _, I1, rfl, ⟨_, y, v, hy, hvv, rfl, I.hok.fresh (Nat.le_refl _), rfl⟩, ⟨_, _, he'⟩, fun b hb => ?_⟩
    have e : b = it := by simpa using hb
    rw [e, upd_ne (Nat.ne_of_lt hlt)]
    exact (hf it (by simp)).1
  done := by
    intro X hP hw hK hc i pins s σ H E I hf st hg
    subst hP hw hK
    obtain ⟨hd, hi⟩ := hg
    obtain ⟨f0, f1, f2, f3, f4, f5⟩ := hf it (by simp)
    obtain ⟨es', ep', hgd, hx, hdt, ent⟩ := frz_raw I hd
    obtain ⟨rfl, rfl⟩ := dict_ep hod hdt
    have hsz := ent_size ent
    obtain ⟨ok, ov, he⟩ := st
    exact wpAny_pyNext_items_end_raw (I.ok.hd hc) he ⟨o, hgd, hx, hdt⟩ (by omega) fun h' eb => ⟨rfl, I.turned (t' := s.toks) (fun b ob hb e => eb b ob hb e) f0 f1 f3 f4 f5⟩
  self := fun A i s Q E st h => let ⟨_, _, e⟩ := st; PySem.W.kcp_self e h
def iItemsN (td : TE) : TI := fun σ H R => td σ H fun x H1 => ∃ d o w xs vs, x = .ref d ∧ (d == sysModules) = false ∧ H1 d = some (.frz o (DNO w d xs)) ∧ Vals vs (xs.map fun x => x.2.2) ∧ R (ItiN d o w xs vs) H1
theorem pi_itemsN {elts : List Expr} {kk : Nat} {tpos apos cpos : Pos} {e : Expr} {td : TE} (he : PE X e td) (hbase : attributeBase e "items" X.env (eval e X.env) = eval e X.env := by rfl) (hline : (apos.endLine == cpos.line) = true := by rfl) :
    PI X (.Tuple elts kk tpos) (.Call (.Attribute e "items" apos) [] [] cpos) (iItemsN td) := by
  refine ⟨fun pins s σ H R I h => ?_⟩
  refine wpAny_Call_method (T := "dict") (id := "dict.items") hbase rfl hline F.plainAttrs_dict F.slot_dict_items F.type_dict_items (thn (he.run pins s σ H _ I h) fun u s1 ⟨x, H1, I1, rx, d, o, w, xs, vs, ex, hs, hd, hv, q⟩ => ?_)
  subst ex
  obtain rfl : u = Value.ref d := rx
  obtain ⟨es, ep, hgd, hx, hdt, ent⟩ := frz_raw I1 hd
  refine ⟨⟨o, hgd, hx.1⟩, fun b q => by cases q; exact ⟨o, hgd, hx.2.1⟩, ?_⟩
  have I2 : Inv X pins σ H1 { s1 with heap := s1.heap.push { cls := .type "dict_items", data := .fields #[.ref d] } } := I1.kept (t' := s1.toks) fun b ob q => Heap.get?_push_of_some _ q
  have fin : wpAny (model X.prog X.w) X.A (pyIter (.ref s1.heap.objs.size)) (PIE X pins σ (.Tuple elts kk tpos) R) X.xe { s1 with heap := s1.heap.push { cls := .type "dict_items", data := .fields #[.ref d] } } :=
    wpAny_pyIter_items_raw (d := d) ⟨_, Heap.get?_push_size _ rfl, rfl, rfl⟩ ⟨o, Heap.get?_push_of_some _ hgd, hx, hdt⟩ (pi_one (tk := s1.toks) I2 _ (turn_itemsN _ hdt hv) ⟨_, _, Heap.get?_push_size _ rfl⟩ q)
  show wpAny _ _ (callWith cpos (.builtin "dict.items") [.ref d] [] []) _ X.xe s1
  exact method_meetsIn F.slot_dict_items F.entry_dict_items rfl (PySem.evalArgs_none ⟨rfl, ⟨o, hgd, hx.1⟩, F.args_dict_items_1 _, _, meets_dict_items_raw d hs, ⟨es, ep, o, hgd, hx, hdt⟩, fin⟩)
end
end Fb

/-! tables: the loop over the items -/
namespace Fb
open PySem PySem.Spec PyProof.Rows L2
/-- what a value leans on -/
def isD : HO → Prop
  | .lst _ => True
  | .tup _ => True
  | .dK _ => True
  | .frz _ (.lst _) => True
  | .frz _ (.tup _) => True
  | _ => False
section
variable {X : Cx} {F : List Addr} {K : PySem.W.Frag} {G O O' : Own} {σ : L2.St} {H H' : Hp} {e : List Slot} {m : Mu} {a : Addr} {u : HO}
theorem OL.swap {b : Addr} {xs : List V} (nd : ∀ o, H a = some o → ¬ isD o) (h : OL K O H b xs) : OL K O (upd H a u) b xs := by
  rcases h with ⟨h1, h | ⟨o, h⟩⟩ | h
  · exact .inl ⟨h1, .inl (by rw [upd_ne (fun z => by subst z; exact nd _ h True.intro)]; exact h)⟩
  · exact .inl ⟨h1, .inr ⟨o, by rw [upd_ne (fun z => by subst z; exact nd _ h True.intro)]; exact h⟩⟩
  · exact .inr h
theorem OT.swap {b : Addr} {xs : List V} (nd : ∀ o, H a = some o → ¬ isD o) (h : OT K O H b xs) : OT K O (upd H a u) b xs := by
  rcases h with ⟨h1, h | ⟨o, h⟩⟩ | h
  · exact .inl ⟨h1, .inl (by rw [upd_ne (fun z => by subst z; exact nd _ h True.intro)]; exact h)⟩
  · exact .inl ⟨h1, .inr ⟨o, by rw [upd_ne (fun z => by subst z; exact nd _ h True.intro)]; exact h⟩⟩
  · exact .inr h
mutual
theorem Rep.swap (nd : ∀ o, H a = some o → ¬ isD o) : ∀ {v : V} {d : PyData}, Rep K O H v d → Rep K O (upd H a u) v d
  | _, _, .non => .non
  | _, _, .bl b => .bl b
  | _, _, .int i => .int i
  | _, _, .str x => .str x
  | _, _, .lst h r => .lst (h.swap nd) (r.swap nd)
  | _, _, .tup h r => .tup (h.swap nd) (r.swap nd)
  | _, _, .dic n h r => .dic n (by rw [upd_ne (fun z => by subst z; exact nd _ h True.intro)]; exact h) (r.swap nd)
theorem RepAll.swap (nd : ∀ o, H a = some o → ¬ isD o) : ∀ {vs : List V} {ds : List PyData}, RepAll K O H vs ds → RepAll K O (upd H a u) vs ds
  | _, _, .nil => .nil
  | _, _, .cons h r => .cons (h.swap nd) (r.swap nd)
theorem RepKV.swap (nd : ∀ o, H a = some o → ¬ isD o) : ∀ {vs : List (Key × V)} {ds : List (PyData × PyData)}, RepKV K O H vs ds → RepKV K O (upd H a u) vs ds
  | _, _, .nil => .nil
  | _, _, .cons q h r => .cons q (h.swap nd) (r.swap nd)
end
theorem RepN.swap (nd : ∀ o, H a = some o → ¬ isD o) : ∀ {xs : List (NestedKey × Addr × Value)} {es : List (PyData × PyData)}, RepN K O H xs es → RepN K O (upd H a u) xs es
  | _, _, .nil => .nil
  | _, _, .cons h1 h2 h3 h4 h5 h6 => .cons h1 h2 (h3.swap nd) h4 (h5.swap nd) (h6.swap nd)
theorem OwnAt.swap {b : Addr} {d : PyData} (nd : ∀ o, H a = some o → ¬ isD o) (ne : b ≠ a) (h : OwnAt K O H b d) : OwnAt K O (upd H a u) b d := by
  cases d with
  | list ds => obtain ⟨xs, h, r⟩ := h; exact ⟨xs, by rw [upd_ne ne]; exact h, r.swap nd⟩
  | dict es => obtain ⟨xs, h, r⟩ := h; exact ⟨xs, by rw [upd_ne ne]; exact h, r.swap nd⟩
  | _ => exact h.elim
theorem TabAt.swap {w : World} {b : Addr} {es : List (PyData × PyData)} (nd : ∀ o, H a = some o → ¬ isD o) (ne : b ≠ a) (h : TabAt K O H w b es) : TabAt K O (upd H a u) w b es := by
  obtain ⟨lo, xs, hz, h, r⟩ := h
  exact ⟨lo, xs, hz, by rw [upd_ne ne]; exact h, r.swap nd⟩
/-- a thing that nobody leans on is told otherwise -/
theorem Sim.swap (s : Sim K F G O σ H e m) (na : ¬ O a) (nd : ∀ o, H a = some o → ¬ isD o) : Sim K F G O σ (upd H a u) e m := by
  have ne : ∀ b, O b → b ≠ a := fun b h z => na (z ▸ h)
  refine ⟨s.len, fun i x h => ?_, s.apart, s.fg, s.go, fun b h => ?_, s.nd, s.sl, fun n b kvs h1 h2 => ?_⟩
  · have sl := s.slot i x h
    cases x with
    | unset => trivial
    | val d => obtain ⟨y, h1, h2⟩ := sl; exact ⟨y, h1, h2.swap nd⟩
    | own d => obtain ⟨b, h1, h2, h3, h4⟩ := sl; exact ⟨b, h1, h2, h3, h4.swap nd (ne b h2)⟩
    | sto n => exact sl
    | tab w es => obtain ⟨b, h1, h2, h3, h4⟩ := sl; exact ⟨b, h1, h2, h3, h4.swap nd (ne b h2)⟩
  · obtain ⟨o, q⟩ := s.live b h
    exact ⟨o, by rw [upd_ne (ne b h)]; exact q⟩
  · obtain ⟨ks, h3, h4⟩ := s.st n b kvs h1 h2
    exact ⟨ks, by rw [upd_ne (ne b (s.fo b (List.mem_of_getElem? h1)))]; exact h3, h4.swap nd⟩
theorem VRep.swap {v : V} {x : Val} (na : ¬ O a) (nd : ∀ o, H a = some o → ¬ isD o) (r : VRep K F G O σ H e v x) : VRep K F G O σ (upd H a u) e v x := by
  cases x with
  | dat d => exact Rep.swap nd r
  | sto n => exact r
  | uni d =>
    obtain ⟨b, rfl, h1, h2, h3, h4⟩ := r
    exact ⟨b, rfl, h1, h2, h3.swap nd (fun z => na (z ▸ h1)), h4⟩
  | tab w es =>
    obtain ⟨b, rfl, h1, h2, h3, h4⟩ := r
    exact ⟨b, rfl, h1, h2, h3.swap nd (fun z => na (z ▸ h1)), h4⟩
def lockD (D : Ends) (a : Addr) (l u : HO) : Ends := ⟨fun σ' H' => H' a = some l ∧ D.nx σ' (upd H' a u), fun v H' => H' a = some l ∧ D.rt v (upd H' a u), fun σ' H' => H' a = some l ∧ D.bk σ' (upd H' a u), fun σ' H' => H' a = some l ∧ D.ct σ' (upd H' a u)⟩
theorem AtS.lock {x : M Flow} {D : Ends} {l : HO} (h : AtS K F G O σ H e m x D) (na : ¬ O a) (nf : a ∉ F) (ha : H a = some u) (nu : ¬ isD u) (nl : ¬ isD l) : AtS K F G O σ (upd H a l) e m x (lockD D a l u) := by
  obtain ⟨s, f, e', m', h1, h2⟩ := h
  have nd : ∀ o, H a = some o → ¬ isD o := fun o q => by rw [ha] at q; cases q; exact nu
  refine ⟨s.swap na nd, f, e', m', h1, fun σ' H' O' g s' => ?_⟩
  have hl : H' a = some l := g.keep a l upd_same nf (.inl na)
  have nO' : ¬ O' a := fun z => (g.own a z).elim na fun q => by rw [upd_same] at q; cases q
  have nd' : ∀ o, H' a = some o → ¬ isD o := fun o q => by rw [hl] at q; cases q; exact nl
  have g' : Grow F G O H O' (upd H' a u) := by
    refine ⟨fun b o q f c => ?_, fun b z => (g.own b z).imp id fun q => ?_⟩
    · by_cases z : b = a
      · subst z; rw [ha] at q; cases q; exact upd_same
      · rw [upd_ne z]; exact g.keep b o (by rw [upd_ne z]; exact q) f c
    · by_cases y : b = a
      · subst y; exact absurd z nO'
      · rw [upd_ne y] at q; exact q
  have d := h2 σ' _ O' g' (s'.swap nO' nd')
  cases f with
  | nx => exact ⟨hl, d⟩
  | brk => exact ⟨hl, d⟩
  | cnt => exact ⟨hl, d⟩
  | ret v => exact fun w r => ⟨hl, d w (r.swap nO' nd')⟩
theorem walk_itemsN {d : Addr} {o : Obj} {w : World} {xs : List (NestedKey × Addr × Value)} {vs : List V} : Walk (ItiN d o w xs vs) xs.length (fun H => H d = some (.frz o (DNO w d xs))) (YPair (fun i => xs[i]?.map fun y => V.ref y.2.1) (fun i => vs[i]?)) := by
  refine ⟨fun _ _ hi q => ⟨q, hi⟩, fun _ q => ⟨q, Nat.le_refl _⟩, fun i H x H' _ _ y => ?_⟩
  obtain ⟨T, y, v, h1, h2, h3, h4, h5⟩ := y
  exact ⟨T, .ref y.2.1, v, h3, h4, h5, by simp [h1], h2⟩
theorem walk_itN {d : Addr} {o : Obj} {w : World} {xs : List (NestedKey × Addr × Value)} {vs : List V} {es : List (PyData × PyData)} (hf : ∀ a, a ∈ F → O a) (nO : ¬ O d) (nf : d ∉ F) (hd : H d = some (.frz o (DNO w d xs)))
    (rk : RepAll K O H (xs.map fun x => V.ref x.2.1) (es.map (·.1))) (rv : RepAll K O H vs (es.map (·.2))) :
    WalkOk K F G O H (ItiN d o w xs vs) (es.map fun p => .tuple [p.1, p.2]) (fun H => H d = some (.frz o (DNO w d xs))) (YPair (fun i => xs[i]?.map fun y => V.ref y.2.1) (fun i => vs[i]?)) := by
  have hl : (es.map fun p => PyData.tuple [p.1, p.2]).length = xs.length := by have := rk.length; rw [List.length_map, List.length_map] at this; rw [List.length_map, this]
  refine ⟨by rw [hl]; exact walk_itemsN, fun O1 H1 g => g.keep d _ hd nf (.inl nO), fun i O1 H1 x H2 hi g lv y => ?_⟩
  obtain ⟨T, a, b, rfl, nT, rfl, h1, h2⟩ := y
  have h1' : (xs.map fun x => V.ref x.2.1)[i]? = some a := by rw [List.getElem?_map]; exact h1
  obtain ⟨c, k1, k2⟩ := rk.get h1'
  obtain ⟨d2, k3, k4⟩ := rv.get h2
  rw [List.getElem?_map] at k1 k3
  obtain ⟨p, hp, e1⟩ := Option.map_eq_some_iff.mp k1
  rw [hp] at k3
  cases k3
  subst e1
  exact ⟨_, by rw [List.getElem?_map, hp]; rfl, upd_keeps nT, pair_rep lv nT (k2.stays (g.stays hf)) (k4.stays (g.stays hf))⟩
theorem tItems_S {i : Nat} {t : Tg} {b : M Flow} {D : Ends} (h : tS K F (((tmvM i).bind fun v => tabPairs v).bind fun ds => forGo (fun d => (asg t d).bind fun _ => b) ds) D σ H) : tLock (tFor (iItemsN (tVar i)) (tG K F t) (tS K F b)) D σ H := by
  obtain ⟨G, O, e, m, s, f, e', m', h1, h2⟩ := h
  obtain ⟨ds, s1, h3, h4⟩ := bind_ok h1
  obtain ⟨v, s0, h5, h6⟩ := bind_ok h3
  unfold tmvM at h5
  dsimp only at h5
  cases q : e[i]? with
  | none => rw [q] at h5; cases h5
  | some x =>
    rw [q] at h5
    cases x with
    | tab w es =>
      cases h5
      cases h6
      obtain ⟨a, k1, k2, k3, lo, xs, hz, ha, rn⟩ := s.slot i _ q
      have nf : a ∉ F := fun z => k3 (s.fg a z)
      have s1 : Sim K F G O σ H (e.set i .unset) m := by
        refine ⟨by rw [List.length_set]; exact s.len, fun j y z => ?_, fun j j' d1 d2 b z1 z2 o1 o2 => ?_, s.fg, s.go, s.live, s.nd, s.sl, s.st⟩
        · rw [set_get] at z
          split at z
          · split at z
            · cases z; trivial
            · cases z
          · exact s.slot j y z
        · rw [set_get] at z1 z2
          split at z1
          · split at z1
            · cases z1; cases o1
            · cases z1
          · split at z2
            · split at z2
              · cases z2; cases o2
              · cases z2
            · exact s.apart j j' d1 d2 b z1 z2 o1 o2
      have no : ∀ (j : Nat) (x : Slot), (e.set i .unset)[j]? = some x → ownS x = true → σ[j]? ≠ some (some (.ref a)) := fun j x z o zz => by
        rw [set_get] at z
        split at z
        · split at z
          · cases z; cases o
          · cases z
        · rename_i ne
          exact ne (s.apart i j (.tab w es) x a q z rfl o k1 zz)
      have s2 : Sim K F G (minus O a) σ H (e.set i .unset) m := s1.minus k3 no
      have at0 : AtS K F G (minus O a) σ H (e.set i .unset) m (forGo (fun d => (asg t d).bind fun _ => b) (es.map fun p => .tuple [p.1, p.2])) D :=
        ⟨s2, f, e', m', h4, fun σ' H' O' g s' => h2 σ' H' O' (Grow.minus.trans g s.fo) s'⟩
      refine ⟨a, DNO w a xs, ha, True.intro, fun od => ?_⟩
      have at1 := at0.lock (l := .frz od (DNO w a xs)) (fun z => z.2 rfl) nf ha (fun z => z) (fun z => z)
      obtain ⟨vs, rv, rl⟩ := vals_vals rn
      refine ⟨_, k1, a, od, w, xs, vs, rfl, lo, upd_same, rl, ?_⟩
      have nd : ∀ o, H a = some o → ¬ isD o := fun o q => by rw [ha] at q; cases q; exact fun z => z
      have sL := at1.1
      have wk := walk_itN (K := K) (F := F) (G := G) (O := minus O a) (H := upd H a (.frz od (DNO w a xs))) (d := a) (o := od) (w := w) (vs := vs) (es := es) sL.fo (fun z => z.2 rfl) nf upd_same
        (RepAll.swap nd ((vals_items rn).stays stays_minus)) (RepAll.swap nd (rv.stays stays_minus))
      generalize hO1 : minus O a = O1 at *
      generalize hH1 : upd H a (.frz od (DNO w a xs)) = H1 at *
      generalize hds : (es.map fun p => PyData.tuple [p.1, p.2]) = ds at *
      generalize hD : lockD D a (.frz od (DNO w a xs)) (DNO w a xs) = D1 at at1
      show ∃ W : Nat → Nat → L2.St → Hp → Prop, _
      have hD' : (⟨fun σ' H' => H' a = some (.frz od (DNO w a xs)) ∧ D.nx σ' (upd H' a (DNO w a xs)), fun v H' => H' a = some (.frz od (DNO w a xs)) ∧ D.rt v (upd H' a (DNO w a xs)), fun σ' H' => H' a = some (.frz od (DNO w a xs)) ∧ D.bk σ' (upd H' a (DNO w a xs)), fun σ' H' => H' a = some (.frz od (DNO w a xs)) ∧ D.ct σ' (upd H' a (DNO w a xs))⟩ : Ends) = D1 := hD
      rw [hD']
      refine for_it wk.walk (fun i σ' H' => ∃ O' e' m', Grow F G O1 H1 O' H' ∧ AtS K F G O' σ' H' e' m' (forGo (fun d => (asg t d).bind fun _ => b) (ds.drop i)) D1) ⟨O1, _, m, .refl, at1⟩ ?_ ?_ ?_
      · rintro i σ' H' _ ⟨O', e', m', g', _⟩
        exact wk.stands O' H' g'
      · rintro i x σ' H' H2 hi ⟨O', e', m', g', s', f, e2, m2, h1, h2⟩ y
        obtain ⟨d, hd, kp, rx⟩ := wk.gives i O' H' x H2 hi g' s'.live y
        have ed : ds.drop i = d :: ds.drop (i + 1) := by
          rw [List.drop_eq_getElem_cons hi]
          congr 1
          rw [List.getElem?_eq_getElem hi] at hd
          exact Option.some.inj hd
        rw [ed] at h1
        unfold forGo at h1
        obtain ⟨f1, s3, h3, h4⟩ := bind_ok h1
        obtain ⟨u, ⟨e4, m4⟩, h5, h6⟩ := bind_ok h3
        refine ⟨G, O', e', m', d, e4, m4, s'.same kp, rx, h5, fun σ2 s4 _ => ?_⟩
        obtain ⟨e5, m5⟩ := s3
        refine ⟨G, O', e4, m4, s4, f1, e5, m5, h6, fun σ3 H3 O3 g3 s5 => ?_⟩
        have gk : Grow F G O' H' O3 H3 := (Grow.of_same kp).trans g3 s'.fo
        have gt : Grow F G O1 H1 O3 H3 := g'.trans gk sL.fo
        cases f1 with
        | nx => exact ⟨O3, e5, m5, gt, s5, f, e2, m2, h4, fun σ4 H4 O4 g4 s6 => h2 σ4 H4 O4 (gk.trans g4 s'.fo) s6⟩
        | cnt => exact ⟨O3, e5, m5, gt, s5, f, e2, m2, h4, fun σ4 H4 O4 g4 s6 => h2 σ4 H4 O4 (gk.trans g4 s'.fo) s6⟩
        | brk => cases h4; exact h2 σ3 H3 O3 gk s5
        | ret v => cases h4; exact h2 σ3 H3 O3 gk s5
      · rintro σ' H' ⟨O', e', m', g', h⟩
        rw [List.drop_length] at h
        exact h.pure
    | _ => cases h5
end
section
variable {X : Cx} {F : List Addr} {pos p ap px ps vp : Pos} {x : Str}
theorem gs_titems (i : Nat) {elts : List Expr} {kk : Nat} {tpos : Pos} {B : List Stmt} {t : Tg} {sb : List Sm} (c : Ctx X) (hp : PassesOwn (model X.prog X.w) X.A X.env X.xe) (hg : GG X F (.Tuple elts kk tpos) t) (hb : GSs X F B sb)
    (hN : X.N[i]? = some x := by rfl) (hv : visB X.env.scope x = true := by rfl) (hd : dbgB x = true := by rfl)
    (hbase : attributeBase (.Name x px) "items" X.env (eval (.Name x px) X.env) = eval (.Name x px) X.env := by rfl) (hline : (ap.endLine == vp.line) = true := by rfl)
    (hs : ∀ y, foldedSetIterable (Expr.Call (.Attribute (.Name x px) "items" ap) [] [] vp) X.env y = pure y := by intro _; rfl) :
    GS X F (.For (.Tuple elts kk tpos) (.Call (.Attribute (.Name x px) "items" ap) [] [] vp) B [] pos) (.for_ t (.titems i) sb) :=
  PS.mono (ps_lock (ps_for hp c.calm (pi_itemsN (pe_var hN (vis_of hv) (dbg_of hd).1 (dbg_of hd).2) hbase hline) hg hb hs)) fun _ _ _ z => tItems_S z
end
end Fb

namespace K27
open PySem PySem.Spec PyProof.Rows L2 Fb
def top (i : Nat) : Stmt := PySem.Challenge.pw_firstbrought_k27_orders_counted.main.body.getD i (.Pass ⟨0, 0, 0, 0⟩)
abbrev s_law_all_turns : Stmt := top 30
abbrev s_law_round_plan : Stmt := top 33
abbrev s_law_same : Stmt := top 24
abbrev s_is_name : Stmt := top 9
abbrev s_ranges_of : Stmt := top 12
abbrev s_is_name_of : Stmt := top 13
abbrev s_is_integer : Stmt := top 7
abbrev s_is_number : Stmt := top 8
abbrev s_is_choice_of : Stmt := top 14
abbrev s_can_follow : Stmt := top 16
abbrev s_orders_of : Stmt := top 17
abbrev s_want : Stmt := top 11
abbrev s_how_many_orders : Stmt := top 18
abbrev s_share_of_orders : Stmt := top 19
abbrev s_law_by_hand : Stmt := top 36
abbrev s_law_by_turns : Stmt := top 29
abbrev s_law_draw : Stmt := top 22
abbrev s_law_pick : Stmt := top 23
abbrev s_law_turns : Stmt := top 31
abbrev s_law_chosen : Stmt := top 32
abbrev s_law_feed : Stmt := top 21
abbrev s_law_common : Stmt := top 34
abbrev s_law_is_right : Stmt := top 35
abbrev s_law_editions : Stmt := top 27
abbrev s_law_names : Stmt := top 25
abbrev s_law_range : Stmt := top 26
abbrev s_law_plan : Stmt := top 28
abbrev s_law : Stmt := top 37
noncomputable def b_law_all_turns : List Sm := [.asg 1 (.lst [.tup []]), .for_ (.name 2) (.rng (some (.var 0)) none) [.asg 3 (.lst []), .for_ (.name 4) (.ofE (.var 1)) [.ext 3 (.lc [5] (.o2 .add (.var 4) (.tup [.var 5])) (.name 5) (.rng (some (.var 0)) none) (some (.o2 .nin (.var 5) (.var 4))))], .asg 1 (.o1 .list (.var 3))], .retv 1]
noncomputable def g_law_all_turns : Fn := runFn 6 (b_law_all_turns)
noncomputable def b_law_round_plan : List Sm := [.asg 2 (.lc [4] (.o2 .add (.var 1) (.o2 .idx (.str "abcde") (.var 4))) (.name 4) (.rng (some (.var 0)) none) none), .asg 3 (.lc [4] (.tup [.o2 .idx (.var 2) (.var 4), .o1 .tuple (.o1 .sorted (.lst [.var 4, .o2 .mod (.o1 .int (.o2 .add (.var 4) (.num 1))) (.var 0)])), .str "copy"]) (.name 4) (.rng (some (.var 0)) none) none), .ret (.tup [.tup [.o2 .mul (.tup [.tup []]) (.var 0), .o1 .tuple (.var 3), .tup []], .o1 .tuple (.lc [4] (.tup [.o2 .idx (.var 2) (.var 4), .var 4]) (.name 4) (.rng (some (.var 0)) none) none)])]
noncomputable def g_law_round_plan : Fn := runFn 5 (b_law_round_plan)
noncomputable def b_law_same : List Sm := [.ret (.o2 .eq (.o1 .repr (.var 0)) (.o1 .repr (.var 1)))]
noncomputable def g_law_same : Fn := runFn 2 (b_law_same)
noncomputable def b_is_name : List Sm := [.ife (.or (.not (.isi (.var 0) "str")) (.not (.chn .le .le (.num 1) (.o1 .len (.var 0)) (.num 8)))) [.ret (.bl false)] [], .ret (.o1 .all (.lc [1] (.o2 .inn (.var 1) (.str "abcdefghijklmnopqrstuvwxyz")) (.name 1) (.ofE (.var 0)) none))]
noncomputable def g_is_name : Fn := runFn 2 (b_is_name)
noncomputable def b_ranges_of : List Sm := [.ret (.dc [1, 2, 3] (.var 1) (.var 2) (.tup [.name 1, .name 2, .name 3]) (.ofE (.o2 .idx (.var 0) (.num 1))) none)]
noncomputable def g_ranges_of : Fn := runFn 4 (b_ranges_of)
noncomputable def b_is_name_of : List Sm := [.ret (.and (.call "is_name" g_is_name [.var 1] [] []) (.o2 .inn (.var 1) (.call "ranges_of" g_ranges_of [.var 0] [] [])))]
noncomputable def g_is_name_of : Fn := runFn 2 (b_is_name_of)
noncomputable def b_is_integer : List Sm := [.ret (.and (.isi (.var 0) "int") (.not (.isi (.var 0) "bool")))]
noncomputable def g_is_integer : Fn := runFn 1 (b_is_integer)
noncomputable def b_is_number : List Sm := [.ret (.and (.call "is_integer" g_is_integer [.var 0] [] []) (.o2 .ge (.var 0) (.num 0)))]
noncomputable def g_is_number : Fn := runFn 1 (b_is_number)
noncomputable def b_is_choice_of : List Sm := [.ife (.not (.isi (.var 1) "tuple")) [.ret (.bl false)] [], .par [3, 4] [.call "ranges_of" g_ranges_of [.var 0] [] [], .str ""], .for_ (.name 2) (.ofE (.var 1)) [.ife (.or (.not (.isi (.var 2) "tuple")) (.or (.o2 .ne (.o1 .len (.var 2)) (.num 2)) (.not (.call "is_name_of" g_is_name_of [.var 0, .o2 .idx (.var 2) (.num 0)] [] [])))) [.ret (.bl false)] [], .ife (.or (.o2 .le (.o2 .idx (.var 2) (.num 0)) (.var 4)) (.or (.not (.call "is_number" g_is_number [.o2 .idx (.var 2) (.num 1)] [] [])) (.o2 .nin (.o2 .idx (.var 2) (.num 1)) (.o2 .idx (.var 3) (.o2 .idx (.var 2) (.num 0)))))) [.ret (.bl false)] [], .asg 4 (.o2 .idx (.var 2) (.num 0))], .ret (.bl true)]
noncomputable def g_is_choice_of : Fn := runFn 5 (b_is_choice_of)
noncomputable def b_can_follow : List Sm := [.for_ (.tup [.name 4, .name 5]) (.ofE (.var 1)) [.ife (.and (.o2 .inn (.var 3) (.o2 .idx (.var 0) (.var 4))) (.and (.o2 .ne (.var 3) (.var 5)) (.o2 .nin (.var 5) (.var 2)))) [.ret (.bl false)] []], .ret (.bl true)]
noncomputable def g_can_follow : Fn := runFn 6 (b_can_follow)
noncomputable def b_orders_of (w : World) : List Sm := [.par [4, 5] [.call "ranges_of" g_ranges_of [.var 0] [] [], .lrng false (some (.o1 .len (.o2 .idx (.var 0) (.num 0)))) none], .asg 2 (.tone w (.tup []) (.num 1)), .for_ (.name 3) (.ofE (.var 5)) [.asg 6 (.tmt w), .for_ (.tup [.name 7, .name 8]) (.titems 2) [.for_ (.name 9) (.ofE (.var 5)) [.ife (.and (.o2 .nin (.var 9) (.var 7)) (.call "can_follow" g_can_follow [.var 4, .var 1, .var 7, .var 9] [] [])) [.asg 10 (.o1 .tuple (.o1 .sorted (.o2 .add (.var 7) (.tup [.var 9])))), .tset w 6 (.var 10) (.o2 .add (.tgetd w 6 (.var 10) (.num 0)) (.var 8))] []]], .asg 2 (.tmv 6)], .ret (.o1 .sum (.tvals 2))]
noncomputable def g_orders_of (w : World) : Fn := runFn 11 (b_orders_of w)
noncomputable def b_want : List Sm := [.ife (.not (.var 0)) [.dead] []]
noncomputable def g_want : Fn := runFn 2 (b_want)
noncomputable def b_how_many_orders (w : World) : List Sm := [.expr (.call "want" g_want [.call "is_choice_of" g_is_choice_of [.var 0, .var 1] [] [], .str "choice"] [] []), .ret (.call "orders_of" (g_orders_of w) [.var 0, .var 1] [] [])]
noncomputable def g_how_many_orders (w : World) : Fn := runFn 2 (b_how_many_orders w)
noncomputable def b_share_of_orders (w : World) : List Sm := [.expr (.call "want" g_want [.call "is_choice_of" g_is_choice_of [.var 0, .var 1] [] [], .str "choice"] [] []), .par [2, 3] [.call "orders_of" (g_orders_of w) [.var 0, .var 1] [] [], .call "orders_of" (g_orders_of w) [.var 0, .tup []] [] []], .par [4, 5] [.var 3, .var 2], .whl (.o2 .gt (.var 5) (.num 0)) [.par [4, 5] [.var 5, .o2 .mod (.var 4) (.var 5)]], .ret (.tup [.o2 .fdiv (.var 2) (.var 4), .o2 .fdiv (.var 3) (.var 4)])]
noncomputable def g_share_of_orders (w : World) : Fn := runFn 6 (b_share_of_orders w)
noncomputable def b_law_by_hand (w : World) : List Sm := [.unp (.tup [.name 1, .name 2]) (.call "_law_round_plan" g_law_round_plan [.num 3, .str ""] [] []), .asg 0 (.lst [.call "how_many_orders" (g_how_many_orders w) [.var 1, .var 2] [] [], .call "share_of_orders" (g_share_of_orders w) [.var 1, .var 2] [] [], .call "how_many_orders" (g_how_many_orders w) [.var 1, .slc (.var 2) none (some (.num 2))] [] []]), .asg 0 (.o2 .add (.var 0) (.lst [.call "share_of_orders" (g_share_of_orders w) [.var 1, .slc (.var 2) none (some (.num 2))] [] [], .call "how_many_orders" (g_how_many_orders w) [.var 1, .tup []] [] [], .call "share_of_orders" (g_share_of_orders w) [.var 1, .tup []] [] []])), .ife (.not (.call "_law_same" g_law_same [.var 0, .lst [.num 0, .tup [.num 0, .num 1], .num 1, .tup [.num 1, .num 6], .num 6, .tup [.num 1, .num 1]]] [] [])) [.ret (.bl false)] [], .asg 1 (.tup [.o2 .mul (.tup [.tup []]) (.num 5), .tup [.tup [.str "a", .tup [.num 0, .num 1, .num 2, .num 3, .num 4], .str "copy"], .tup [.str "b", .tup [.num 1, .num 3], .str "copy"]], .tup []]), .asg 0 (.lst [.call "how_many_orders" (g_how_many_orders w) [.var 1, .tup [.tup [.str "a", .num 4]]] [] [], .call "share_of_orders" (g_share_of_orders w) [.var 1, .tup [.tup [.str "a", .num 4]]] [] [], .call "share_of_orders" (g_share_of_orders w) [.var 1, .tup [.tup [.str "b", .num 3]]] [] []]), .asg 0 (.o2 .add (.var 0) (.lst [.call "how_many_orders" (g_how_many_orders w) [.var 1, .tup [.tup [.str "a", .num 2], .tup [.str "b", .num 1]]] [] [], .call "share_of_orders" (g_share_of_orders w) [.var 1, .tup [.tup [.str "a", .num 1], .tup [.str "b", .num 3]]] [] []])), .ife (.not (.call "_law_same" g_law_same [.var 0, .lst [.num 24, .tup [.num 1, .num 5], .tup [.num 1, .num 2], .num 12, .tup [.num 0, .num 1]]] [] [])) [.ret (.bl false)] [], .asg 1 (.tup [.tup [.tup []], .tup [.tup [.str "a", .tup [.num 0], .str "copy"]], .tup []]), .ret (.call "_law_same" g_law_same [.lst [.call "how_many_orders" (g_how_many_orders w) [.var 1, .tup [.tup [.str "a", .num 0]]] [] [], .call "share_of_orders" (g_share_of_orders w) [.var 1, .tup [.tup [.str "a", .num 0]]] [] []], .lst [.num 1, .tup [.num 1, .num 1]]] [] [])]
noncomputable def g_law_by_hand (w : World) : Fn := runFn 3 (b_law_by_hand w)
noncomputable def b_law_by_turns : List Sm := [.ret (.o1 .tuple (.lc [2] (.tup [.o2 .idx (.var 2) (.num 0), .o2 .idx (.lc [3] (.var 3) (.name 3) (.ofE (.var 1)) (some (.o2 .inn (.var 3) (.o2 .idx (.var 2) (.num 1))))) (.num 0)]) (.name 2) (.ofE (.o2 .idx (.var 0) (.num 1))) none))]
noncomputable def g_law_by_turns : Fn := runFn 4 (b_law_by_turns)
noncomputable def b_law_draw : List Sm := [.fset 0 "drawn" (.o2 .add (.fget 0 "drawn") (.num 1)), .ife (.o2 .gt (.fget 0 "left") (.num 0)) [.asg 4 (.o2 .mod (.o1 .int (.fget 0 "left")) (.var 1)), .fset 0 "left" (.o2 .fdiv (.fget 0 "left") (.var 1)), .retv 4] [], .par [5, 6] [.fget 0 "place_in", .fget 0 "cells"], .fset 0 "place_in" (.o2 .add (.var 5) (.num 1)), .asg 2 (.ife (.o2 .ne (.var 6) (.lst [])) (.o2 .idx (.var 6) (.o2 .mod (.o1 .int (.var 5)) (.o1 .len (.var 6)))) (.num 4406)), .ife (.and (.o2 .ge (.var 2) (.o2 .pow (.num 10) (.num 18))) (.o2 .lt (.var 5) (.o1 .len (.var 6)))) [.fset 0 "left" (.o2 .fdiv (.var 2) (.var 1)), .ret (.o2 .mod (.o1 .int (.var 2)) (.var 1))] [], .asg 3 (.o2 .mod (.o1 .int (.o2 .add (.o2 .add (.o2 .mod (.o1 .int (.var 2)) (.num 1999999733)) (.o2 .mul (.num 73617) (.fget 0 "drawn"))) (.num 1052))) (.num 2147483237)), .asg 3 (.o2 .mod (.o1 .int (.o2 .add (.o2 .add (.o2 .mul (.var 3) (.var 3)) (.o2 .mul (.num 21783) (.fget 0 "drawn"))) (.num 393))) (.num 2147483179)), .ret (.o2 .mod (.o1 .int (.o2 .fdiv (.o2 .mod (.o1 .int (.o2 .add (.o2 .add (.o2 .mul (.var 3) (.var 3)) (.o2 .mul (.num 625) (.var 3))) (.num 41))) (.num 2147483171)) (.num 32))) (.var 1))]
noncomputable def g_law_draw : Fn := runFn 7 (b_law_draw)
noncomputable def b_law_pick : List Sm := [.ret (.o2 .idx (.var 1) (.call "_law_draw" g_law_draw [.var 0, .o1 .len (.var 1)] [] []))]
noncomputable def g_law_pick : Fn := runFn 2 (b_law_pick)
noncomputable def b_law_turns : List Sm := [.par [3, 4] [.lrng false (some (.var 1)) none, .lst []], .for_ (.name 2) (.rng (some (.var 1)) none) [.app 4 (.pop 3 (.call "_law_draw" g_law_draw [.var 0, .o1 .len (.var 3)] [] []))], .ret (.o1 .tuple (.var 4))]
noncomputable def g_law_turns : Fn := runFn 5 (b_law_turns)
noncomputable def b_law_chosen : List Sm := [.asg 2 (.call "_law_turns" g_law_turns [.var 0, .o1 .len (.o2 .idx (.var 1) (.num 0))] [] []), .par [3, 4] [.call "_law_draw" g_law_draw [.var 0, .num 4] [] [], .o1 .list (.call "_law_by_turns" g_law_by_turns [.var 1, .var 2] [] [])], .ife (.o2 .gt (.var 3) (.num 1)) [.asg 4 (.lc [5] (.tup [.o2 .idx (.var 5) (.num 0), .call "_law_pick" g_law_pick [.var 0, .o2 .idx (.var 5) (.num 1)] [] []]) (.name 5) (.ofE (.o2 .idx (.var 1) (.num 1))) none)] [], .ife (.o2 .eq (.var 3) (.num 3)) [.asg 4 (.lc [6, 5] (.tup [.o2 .idx (.var 5) (.num 0), .o2 .idx (.o2 .idx (.var 5) (.num 1)) (.o2 .mod (.o1 .int (.var 6)) (.o1 .len (.o2 .idx (.var 5) (.num 1))))]) (.tup [.name 6, .name 5]) (.enu (.o2 .idx (.var 1) (.num 1))) none)] [], .ife (.o2 .eq (.call "_law_draw" g_law_draw [.var 0, .num 3] [] []) (.num 0)) [.asg 4 (.lc [5] (.var 5) (.name 5) (.ofE (.var 4)) (some (.o2 .gt (.call "_law_draw" g_law_draw [.var 0, .num 3] [] []) (.num 0))))] [], .ret (.o1 .tuple (.var 4))]
noncomputable def g_law_chosen : Fn := runFn 7 (b_law_chosen)
noncomputable def b_law_feed : List Sm := [.ret (.dic ["cells", "place_in", "left", "drawn"] [.slc (.var 0) none (some (.num 63)), .num 0, .num 0, .num 0])]
noncomputable def g_law_feed : Fn := runFn 1 (b_law_feed)
noncomputable def b_law_common : List Sm := [.whl (.o2 .gt (.var 0) (.num 0)) [.par [0, 1] [.o2 .mod (.o1 .int (.var 1)) (.var 0), .var 0]], .retv 1]
noncomputable def g_law_common : Fn := runFn 2 (b_law_common)
noncomputable def b_law_is_right (w : World) : List Sm := [.asg 3 (.o1 .len (.lc [6] (.var 6) (.name 6) (.ofE (.var 2)) (some (.o2 .eq (.lc [7] (.var 7) (.name 7) (.ofE (.var 1)) (some (.o2 .nin (.var 7) (.var 6)))) (.lst []))))), .asg 4 (.call "_law_common" g_law_common [.var 3, .o1 .len (.var 2)] [] []), .asg 5 (.lst [.var 3, .tup [.o2 .fdiv (.var 3) (.var 4), .o2 .fdiv (.o1 .len (.var 2)) (.var 4)]]), .ife (.not (.call "_law_same" g_law_same [.lst [.call "how_many_orders" (g_how_many_orders w) [.var 0, .var 1] [] [], .call "share_of_orders" (g_share_of_orders w) [.var 0, .var 1] [] []], .var 5] [] [])) [.ret (.bl false)] [], .ret (.call "_law_same" g_law_same [.lst [.call "how_many_orders" (fun xs mu => (g_how_many_orders w) (permL [1, 0] xs) mu) [] ["choice", "book"] [.var 1, .var 0], .call "share_of_orders" (fun xs mu => (g_share_of_orders w) (permL [1, 0] xs) mu) [] ["choice", "book"] [.var 1, .var 0]], .var 5] [] [])]
noncomputable def g_law_is_right (w : World) : Fn := runFn 8 (b_law_is_right w)
noncomputable def b_law_editions : List Sm := [.asg 2 (.lst []), .for_ (.name 3) (.rng (some (.var 1)) none) [.asg 4 (.lc [5] (.var 5) (.name 5) (.ofE (.lst [.str "color", .str "size"])) (some (.o2 .eq (.call "_law_draw" g_law_draw [.var 0, .num 2] [] []) (.num 0)))), .app 2 (.o1 .tuple (.lc [5] (.tup [.var 5, .call "_law_draw" g_law_draw [.var 0, .num 3] [] []]) (.name 5) (.ofE (.var 4)) none))], .ret (.o1 .tuple (.var 2))]
noncomputable def g_law_editions : Fn := runFn 6 (b_law_editions)
noncomputable def b_law_names : List Sm := [.asg 1 (.lst [.lst [.str "app", .str "plot", .str "shop", .str "tool", .str "zoo"], .lst [.str "a", .str "aa", .str "ab", .str "abcdefgh", .str "b"]]), .asg 1 (.o2 .add (.var 1) (.lst [.lst [.str "z", .str "zy", .str "zyx", .str "zz", .str "zzz"], .lst [.str "order", .str "program", .str "ring", .str "word", .str "x"]])), .ret (.call "_law_pick" g_law_pick [.var 0, .o2 .add (.var 1) (.lst [.lst [.str "always", .str "c", .str "copy", .str "k", .str "kk"]])] [] [])]
noncomputable def g_law_names : Fn := runFn 2 (b_law_names)
noncomputable def b_law_range : List Sm := [.asg 2 (.call "_law_draw" g_law_draw [.var 0, .num 4] [] []), .asg 3 (.call "_law_draw" g_law_draw [.var 0, .var 1] [] []), .ife (.o2 .eq (.var 2) (.num 0)) [.ret (.tup [.var 3])] [], .ife (.o2 .eq (.var 2) (.num 1)) [.ret (.lrng true (some (.var 3)) (some (.o2 .add (.o2 .add (.var 3) (.num 1)) (.call "_law_draw" g_law_draw [.var 0, .o2 .sub (.var 1) (.var 3)] [] []))))] [], .asg 4 (.o1 .tuple (.lc [5] (.var 5) (.name 5) (.rng (some (.var 1)) none) (some (.o2 .eq (.call "_law_draw" g_law_draw [.var 0, .num 2] [] []) (.num 0))))), .ret (.ife (.o2 .ne (.var 4) (.tup [])) (.var 4) (.tup [.var 3]))]
noncomputable def g_law_range : Fn := runFn 6 (b_law_range)
noncomputable def b_law_plan : List Sm := [.par [4, 8] [.call "_law_names" g_law_names [.var 0] [] [], .call "_law_draw" g_law_draw [.var 0, .num 5] [] []], .asg 3 (.o2 .min (.var 1) (.o2 .idx (.lst [.num 3, .num 3, .num 4, .num 5, .num 2, .num 1, .num 3, .num 4]) (.call "_law_draw" g_law_draw [.var 0, .num 8] [] []))), .asg 4 (.slc (.var 4) (some (.call "_law_draw" g_law_draw [.var 0, .o2 .sub (.num 6) (.var 2)] [] [])) none), .asg 5 (.slc (.var 4) none (some (.o2 .idx (.lst [.var 2, .var 2, .o2 .sub (.var 2) (.num 1), .call "_law_draw" g_law_draw [.var 0, .o2 .add (.var 2) (.num 1)] [] []]) (.call "_law_draw" g_law_draw [.var 0, .num 4] [] [])))), .asg 6 (.lst []), .for_ (.tup [.name 9, .name 10]) (.enu (.var 5)) [.asg 11 (.call "_law_range" g_law_range [.var 0, .var 3] [] []), .ife (.o2 .eq (.var 8) (.num 0)) [.asg 11 (.o1 .tuple (.o1 .srtset (.lst [.o2 .mod (.o1 .int (.var 9)) (.var 3), .o2 .mod (.o1 .int (.o2 .add (.var 9) (.num 1))) (.var 3)])))] [], .ife (.o2 .eq (.var 8) (.num 1)) [.asg 11 (.lrng true (some (.o2 .idx (.var 11) (.num 0))) (some (.o2 .add (.o2 .idx (.var 11) (.o1 .neg (.num 1))) (.num 1))))] [], .app 6 (.tup [.var 10, .var 11, .call "_law_pick" g_law_pick [.var 0, .lst [.str "copy", .str "fields", .str "always"]] [] []])], .asg 7 (.lc [12, 13] (.tup [.o2 .idx (.var 12) (.num 0), .o2 .idx (.var 13) (.num 0), .call "_law_pick" g_law_pick [.var 0, .lst [.str "anew", .str "plain"]] [] []]) (.tup [.name 12, .name 13]) (.zip (.var 6) (.slc (.var 6) (some (.num 1)) none)) none), .ret (.tup [.call "_law_editions" g_law_editions [.var 0, .var 3] [] [], .o1 .tuple (.var 6), .o1 .tuple (.slc (.var 7) none (some (.call "_law_draw" g_law_draw [.var 0, .num 3] [] [])))])]
noncomputable def g_law_plan : Fn := runFn 14 (b_law_plan)
noncomputable def e_law : Ex := .call "_law_feed" g_law_feed [.var 0] [] []
noncomputable def b_law (w : World) : List Sm := [.ife (.not (.call "_law_by_hand" (g_law_by_hand w) [] [] [])) [.ret (.bl false)] [], .for_ (.name 2) (.rng (some (.num 3)) none) [.asg 3 (.call "_law_plan" g_law_plan [.var 1, .num 5, .num 5] [] []), .asg 4 (.lc [6] (.call "_law_by_turns" g_law_by_turns [.var 3, .var 6] [] []) (.name 6) (.ofE (.call "_law_all_turns" g_law_all_turns [.o1 .len (.o2 .idx (.var 3) (.num 0))] [] [])) none), .for_ (.name 5) (.rng (some (.num 4)) none) [.ife (.not (.call "_law_is_right" (g_law_is_right w) [.var 3, .call "_law_chosen" g_law_chosen [.var 1, .var 3] [] [], .var 4] [] [])) [.ret (.bl false)] []], .ife (.not (.call "_law_is_right" (g_law_is_right w) [.var 3, .tup [], .var 4] [] [])) [.ret (.bl false)] []], .ret (.bl true)]
structure Al (K : PySem.W.Frag) (mg : Str → Option Value) : Prop where
  F_law_all_turns : FctG K mg "_law_all_turns" "_law_all_turns" s_law_all_turns []
  F_law_round_plan : FctG K mg "_law_round_plan" "_law_round_plan" s_law_round_plan []
  F_law_same : FctG K mg "_law_same" "_law_same" s_law_same []
  F_is_name : FctG K mg "is_name" "is_name" s_is_name []
  F_ranges_of : FctG K mg "ranges_of" "ranges_of" s_ranges_of []
  F_is_name_of : FctG K mg "is_name_of" "is_name_of" s_is_name_of []
  F_is_integer : FctG K mg "is_integer" "is_integer" s_is_integer []
  F_is_number : FctG K mg "is_number" "is_number" s_is_number []
  F_is_choice_of : FctG K mg "is_choice_of" "is_choice_of" s_is_choice_of []
  F_can_follow : FctG K mg "can_follow" "can_follow" s_can_follow []
  F_orders_of : FctG K mg "orders_of" "orders_of" s_orders_of []
  F_want : FctG K mg "want" "want" s_want []
  F_how_many_orders : FctG K mg "how_many_orders" "how_many_orders" s_how_many_orders []
  F_share_of_orders : FctG K mg "share_of_orders" "share_of_orders" s_share_of_orders []
  F_law_by_hand : FctG K mg "_law_by_hand" "_law_by_hand" s_law_by_hand []
  F_law_by_turns : FctG K mg "_law_by_turns" "_law_by_turns" s_law_by_turns []
  F_law_draw : FctG K mg "_law_draw" "_law_draw" s_law_draw []
  F_law_pick : FctG K mg "_law_pick" "_law_pick" s_law_pick []
  F_law_turns : FctG K mg "_law_turns" "_law_turns" s_law_turns []
  F_law_chosen : FctG K mg "_law_chosen" "_law_chosen" s_law_chosen []
  F_law_feed : FctG K mg "_law_feed" "_law_feed" s_law_feed []
  F_law_common : FctG K mg "_law_common" "_law_common" s_law_common []
  F_law_is_right : FctG K mg "_law_is_right" "_law_is_right" s_law_is_right []
  F_law_editions : FctG K mg "_law_editions" "_law_editions" s_law_editions []
  F_law_names : FctG K mg "_law_names" "_law_names" s_law_names []
  F_law_range : FctG K mg "_law_range" "_law_range" s_law_range []
  F_law_plan : FctG K mg "_law_plan" "_law_plan" s_law_plan []
  F_law : FctG K mg "law" "law" s_law []
structure Cs (K : PySem.W.Frag) (mg : Str → Option Value) : Prop where
  C_LOWERCASE : ∃ t, mg "LOWERCASE" = some (.str "abcdefghijklmnopqrstuvwxyz" t)
  C_MOST_LETTERS : ∃ t, mg "MOST_LETTERS" = some (.int 8 t)
section
variable {P : Program} {w : World} {K : PySem.W.Frag} {mg : Str → Option Value} {base : Heap}
theorem sc_law_all_turns : FnScope ["_law_many", "_law_found", "_law_lap", "_law_longer", "_law_one", "_law_k"] ["_law_many"] (defScope s_law_all_turns) := ⟨rfl, rfl, rfl, by decide +kernel, rfl, by decide +kernel, by decide +kernel⟩
theorem ok_law_all_turns (hf : ∀ x ∈ blts, mg x = none) (T : Al K mg) (Cc : Cs K mg) : OkG P w K mg base 1 "_law_all_turns" "_law_all_turns" s_law_all_turns [] ["_law_many"] g_law_all_turns := by
  obtain ⟨f, fd, D, m⟩ := T.F_law_all_turns
  refine ⟨f, fd, D, m, fg_of (CX := CX0) (k := 0) (N := ["_law_many", "_law_found", "_law_lap", "_law_longer", "_law_one", "_law_k"]) (b := b_law_all_turns) D sc_law_all_turns (fun cdv A outer s H E hr hg F => PSs.nox ?_)⟩
  have c : Ctx (cxOf CX0 P w K mg base ["_law_many", "_law_found", "_law_lap", "_law_longer", "_law_one", "_law_k"] "_law_all_turns" (defScope s_law_all_turns) f cdv A outer s H E).nox := ctx_of sc_law_all_turns.nd hf hr hg
  exact gss_cons (gs_asg 1 (c) (ge_lst (gds_cons (ge_tup (gds_nil)) (gds_nil))))
      (gss_cons (gs_for (c) PassesOwn.never (gi_rng1 (c) (ge_var 0)) (gg_name 2 (c)) (gss_cons (gs_asg 3 (c) (ge_lst (gds_nil)))
      (gss_cons (gs_for (c) PassesOwn.never (gi_of (ge_var 1)) (gg_name 4 (c)) (gss_cons (gs_ext 3 (ge_lc [("_law_k", 5)] (c) (gi_rng1 (c) (ge_var 0)) (fun _ _ _ _ _ => gg_name 5 ((c).blk _ _ _ _ _)) (fun _ _ _ _ _ => gc_one (gt_nin ((c).blk _ _ _ _ _) (go_var 5) (go_var 4))) (fun _ _ _ _ _ => ge_add (go_var 4) (go_of (ge_tup (gds_cons (ge_var 5) (gds_nil)))))))
      (gss_nil)))
      (gss_cons (gs_asg 1 (c) (ge_list (c) (go_var 3)))
      (gss_nil)))))
      (gss_cons (gs_retv 1)
      (gss_nil)))
theorem sc_law_round_plan : FnScope ["_law_many", "_law_name_in", "_law_names_here", "_law_rows", "_law_k"] ["_law_many", "_law_name_in"] (defScope s_law_round_plan) := ⟨rfl, rfl, rfl, by decide +kernel, rfl, by decide +kernel, by decide +kernel⟩
theorem ok_law_round_plan (hf : ∀ x ∈ blts, mg x = none) (T : Al K mg) (Cc : Cs K mg) : OkG P w K mg base 1 "_law_round_plan" "_law_round_plan" s_law_round_plan [] ["_law_many", "_law_name_in"] g_law_round_plan := by
  obtain ⟨f, fd, D, m⟩ := T.F_law_round_plan
  refine ⟨f, fd, D, m, fg_of (CX := CX0) (k := 0) (N := ["_law_many", "_law_name_in", "_law_names_here", "_law_rows", "_law_k"]) (b := b_law_round_plan) D sc_law_round_plan (fun cdv A outer s H E hr hg F => PSs.nox ?_)⟩
  have c : Ctx (cxOf CX0 P w K mg base ["_law_many", "_law_name_in", "_law_names_here", "_law_rows", "_law_k"] "_law_round_plan" (defScope s_law_round_plan) f cdv A outer s H E).nox := ctx_of sc_law_round_plan.nd hf hr hg
  exact gss_cons (gs_asg 2 (c) (ge_lc [("_law_k", 4)] (c) (gi_rng1 (c) (ge_var 0)) (fun _ _ _ _ _ => gg_name 4 ((c).blk _ _ _ _ _)) (fun _ _ _ _ _ => gc_none) (fun _ _ _ _ _ => ge_add (go_var 1) (go_of (ge_idx ((c).blk _ _ _ _ _) (go_of (ge_str)) (go_var 4))))))
      (gss_cons (gs_asgLc 3 [("_law_k", 4)] (c) (gi_rng1 (c) (ge_var 0)) (fun _ _ _ _ _ => gg_name 4 ((c).blk _ _ _ _ _)) (fun _ _ _ _ _ => gc_none) (fun _ _ _ _ _ => ge_tup (gds_cons (ge_idx ((c).blk _ _ _ _ _) (go_var 2) (go_var 4)) (gds_cons (ge_tuple ((c).blk _ _ _ _ _) (go_of (ge_sorted ((c).blk _ _ _ _ _) (go_of (ge_lst (gds_cons (ge_var 4) (gds_cons (ge_mod (go_of (ge_int ((c).blk _ _ _ _ _) (go_of (ge_add (go_var 4) (go_of (ge_num)))))) (go_var 0)) (gds_nil)))))))) (gds_cons (ge_str) (gds_nil))))))
      (gss_cons (gs_ret (ge_tup (gds_cons (ge_tup (gds_cons (ge_mul (go_of (ge_tup (gds_cons (ge_tup (gds_nil)) (gds_nil)))) (go_var 0)) (gds_cons (ge_tuple (c) (go_var 3)) (gds_cons (ge_tup (gds_nil)) (gds_nil))))) (gds_cons (ge_tuple (c) (go_of (ge_lc [("_law_k", 4)] (c) (gi_rng1 (c) (ge_var 0)) (fun _ _ _ _ _ => gg_name 4 ((c).blk _ _ _ _ _)) (fun _ _ _ _ _ => gc_none) (fun _ _ _ _ _ => ge_tup (gds_cons (ge_idx ((c).blk _ _ _ _ _) (go_var 2) (go_var 4)) (gds_cons (ge_var 4) (gds_nil))))))) (gds_nil)))))
      (gss_nil)))
theorem sc_law_same : FnScope ["_law_told", "_law_due"] ["_law_told", "_law_due"] (defScope s_law_same) := ⟨rfl, rfl, rfl, by decide +kernel, rfl, by decide +kernel, by decide +kernel⟩
theorem ok_law_same (hf : ∀ x ∈ blts, mg x = none) (T : Al K mg) (Cc : Cs K mg) : OkG P w K mg base 1 "_law_same" "_law_same" s_law_same [] ["_law_told", "_law_due"] g_law_same := by
  obtain ⟨f, fd, D, m⟩ := T.F_law_same
  refine ⟨f, fd, D, m, fg_of (CX := CX0) (k := 0) (N := ["_law_told", "_law_due"]) (b := b_law_same) D sc_law_same (fun cdv A outer s H E hr hg F => PSs.nox ?_)⟩
  have c : Ctx (cxOf CX0 P w K mg base ["_law_told", "_law_due"] "_law_same" (defScope s_law_same) f cdv A outer s H E).nox := ctx_of sc_law_same.nd hf hr hg
  exact gss_cons (gs_ret (ge_eq (c) (go_of (ge_repr (c) (go_var 0))) (go_of (ge_repr (c) (go_var 1)))))
      (gss_nil)
theorem sc_is_name : FnScope ["thing", "sign"] ["thing"] (defScope s_is_name) := ⟨rfl, rfl, rfl, by decide +kernel, rfl, by decide +kernel, by decide +kernel⟩
theorem ok_is_name (hf : ∀ x ∈ blts, mg x = none) (T : Al K mg) (Cc : Cs K mg) : OkG P w K mg base 1 "is_name" "is_name" s_is_name [] ["thing"] g_is_name := by
  obtain ⟨f, fd, D, m⟩ := T.F_is_name
  refine ⟨f, fd, D, m, fg_of (CX := CX0) (k := 0) (N := ["thing", "sign"]) (b := b_is_name) D sc_is_name (fun cdv A outer s H E hr hg F => PSs.nox ?_)⟩
  have c : Ctx (cxOf CX0 P w K mg base ["thing", "sign"] "is_name" (defScope s_is_name) f cdv A outer s H E).nox := ctx_of sc_is_name.nd hf hr hg
  exact gss_cons (gs_if (gt_w (gw_or (gt_not (gt_val (ge_isiStr (c) (go_var 0)))) (gw_or1 (gt_not (gt_chn (or_le) (or_le) (go_of (ge_num)) (go_of (ge_len (c) (go_var 0))) (go_of (ge_glI Cc.C_MOST_LETTERS))))))) (gss_cons (gs_ret (ge_bl))
      (gss_nil)) (gss_nil))
      (gss_cons (gs_ret (ge_all (c) (go_of (ge_lc [("sign", 1)] (c) (gi_of (ge_var 0)) (fun _ _ _ _ _ => gg_name 1 ((c).blk _ _ _ _ _)) (fun _ _ _ _ _ => gc_none) (fun _ _ _ _ _ => ge_in ((c).blk _ _ _ _ _) (go_var 1) (go_of (ge_glS Cc.C_LOWERCASE)))))))
      (gss_nil))
theorem sc_ranges_of : FnScope ["book", "name", "own", "asks"] ["book"] (defScope s_ranges_of) := ⟨rfl, rfl, rfl, by decide +kernel, rfl, by decide +kernel, by decide +kernel⟩
theorem ok_ranges_of (hf : ∀ x ∈ blts, mg x = none) (T : Al K mg) (Cc : Cs K mg) : OkG P w K mg base 1 "ranges_of" "ranges_of" s_ranges_of [] ["book"] g_ranges_of := by
  obtain ⟨f, fd, D, m⟩ := T.F_ranges_of
  refine ⟨f, fd, D, m, fg_of (CX := CX0) (k := 0) (N := ["book", "name", "own", "asks"]) (b := b_ranges_of) D sc_ranges_of (fun cdv A outer s H E hr hg F => PSs.nox ?_)⟩
  have c : Ctx (cxOf CX0 P w K mg base ["book", "name", "own", "asks"] "ranges_of" (defScope s_ranges_of) f cdv A outer s H E).nox := ctx_of sc_ranges_of.nd hf hr hg
  exact gss_cons (gs_ret (ge_dc [("name", 1), ("own", 2), ("asks", 3)] (c) (gi_of (ge_idx (c) (go_var 0) (go_of (ge_num)))) (fun _ _ _ _ _ => gg_tup ((c).blk _ _ _ _ _) (ggs_cons (gg_name 1 ((c).blk _ _ _ _ _)) (ggs_cons (gg_name 2 ((c).blk _ _ _ _ _)) (ggs_cons (gg_name 3 ((c).blk _ _ _ _ _)) (ggs_nil))))) (fun _ _ _ _ _ => gc_none) (fun _ _ _ _ _ => ge_var 1) (fun _ _ _ _ _ => ge_var 2)))
      (gss_nil)
theorem sc_is_name_of : FnScope ["book", "thing"] ["book", "thing"] (defScope s_is_name_of) := ⟨rfl, rfl, rfl, by decide +kernel, rfl, by decide +kernel, by decide +kernel⟩
theorem ok_is_name_of (hf : ∀ x ∈ blts, mg x = none) (T : Al K mg) (Cc : Cs K mg) : OkG P w K mg base 2 "is_name_of" "is_name_of" s_is_name_of [] ["book", "thing"] g_is_name_of := by
  obtain ⟨f, fd, D, m⟩ := T.F_is_name_of
  obtain ⟨f_is_name, fd_is_name, D_is_name, m_is_name, G_is_name⟩ := ok_is_name (P := P) (w := w) (base := base) hf T Cc
  obtain ⟨f_ranges_of, fd_ranges_of, D_ranges_of, m_ranges_of, G_ranges_of⟩ := ok_ranges_of (P := P) (w := w) (base := base) hf T Cc
  refine ⟨f, fd, D, m, fg_of (CX := CX0) (k := 1) (N := ["book", "thing"]) (b := b_is_name_of) D sc_is_name_of (fun cdv A outer s H E hr hg F => PSs.nox ?_)⟩
  have c : Ctx (cxOf CX0 P w K mg base ["book", "thing"] "is_name_of" (defScope s_is_name_of) f cdv A outer s H E).nox := ctx_of sc_is_name_of.nd hf hr hg
  exact gss_cons (gs_ret (ge_and (ge_call (c) G_is_name (hr.mono (by decide)) m_is_name D_is_name.kp (D_is_name.bindsN (fun _ _ _ _ _ _ us hl => match us, hl with | [_], _ => rfl)) (gvs_cons (ge_var 1) (gvs_nil))) (ge_one (ge_in (c) (go_var 1) (go_of (ge_call (c) G_ranges_of (hr.mono (by decide)) m_ranges_of D_ranges_of.kp (D_ranges_of.bindsN (fun _ _ _ _ _ _ us hl => match us, hl with | [_], _ => rfl)) (gvs_cons (ge_var 0) (gvs_nil))))))))
      (gss_nil)
theorem sc_is_integer : FnScope ["thing"] ["thing"] (defScope s_is_integer) := ⟨rfl, rfl, rfl, by decide +kernel, rfl, by decide +kernel, by decide +kernel⟩
theorem ok_is_integer (hf : ∀ x ∈ blts, mg x = none) (T : Al K mg) (Cc : Cs K mg) : OkG P w K mg base 1 "is_integer" "is_integer" s_is_integer [] ["thing"] g_is_integer := by
  obtain ⟨f, fd, D, m⟩ := T.F_is_integer
  refine ⟨f, fd, D, m, fg_of (CX := CX0) (k := 0) (N := ["thing"]) (b := b_is_integer) D sc_is_integer (fun cdv A outer s H E hr hg F => PSs.nox ?_)⟩
  have c : Ctx (cxOf CX0 P w K mg base ["thing"] "is_integer" (defScope s_is_integer) f cdv A outer s H E).nox := ctx_of sc_is_integer.nd hf hr hg
  exact gss_cons (gs_ret (ge_and (ge_isiInt (c) (go_var 0)) (ge_one (ge_not (ge_isiBool (c) (go_var 0))))))
      (gss_nil)
theorem sc_is_number : FnScope ["thing"] ["thing"] (defScope s_is_number) := ⟨rfl, rfl, rfl, by decide +kernel, rfl, by decide +kernel, by decide +kernel⟩
theorem ok_is_number (hf : ∀ x ∈ blts, mg x = none) (T : Al K mg) (Cc : Cs K mg) : OkG P w K mg base 2 "is_number" "is_number" s_is_number [] ["thing"] g_is_number := by
  obtain ⟨f, fd, D, m⟩ := T.F_is_number
  obtain ⟨f_is_integer, fd_is_integer, D_is_integer, m_is_integer, G_is_integer⟩ := ok_is_integer (P := P) (w := w) (base := base) hf T Cc
  refine ⟨f, fd, D, m, fg_of (CX := CX0) (k := 1) (N := ["thing"]) (b := b_is_number) D sc_is_number (fun cdv A outer s H E hr hg F => PSs.nox ?_)⟩
  have c : Ctx (cxOf CX0 P w K mg base ["thing"] "is_number" (defScope s_is_number) f cdv A outer s H E).nox := ctx_of sc_is_number.nd hf hr hg
  exact gss_cons (gs_ret (ge_and (ge_call (c) G_is_integer (hr.mono (by decide)) m_is_integer D_is_integer.kp (D_is_integer.bindsN (fun _ _ _ _ _ _ us hl => match us, hl with | [_], _ => rfl)) (gvs_cons (ge_var 0) (gvs_nil))) (ge_one (ge_ge (go_var 0) (go_of (ge_num))))))
      (gss_nil)
theorem sc_is_choice_of : FnScope ["book", "thing", "pair", "ranges", "before"] ["book", "thing"] (defScope s_is_choice_of) := ⟨rfl, rfl, rfl, by decide +kernel, rfl, by decide +kernel, by decide +kernel⟩
theorem ok_is_choice_of (hf : ∀ x ∈ blts, mg x = none) (T : Al K mg) (Cc : Cs K mg) : OkG P w K mg base 3 "is_choice_of" "is_choice_of" s_is_choice_of [] ["book", "thing"] g_is_choice_of := by
  obtain ⟨f, fd, D, m⟩ := T.F_is_choice_of
  obtain ⟨f_is_name_of, fd_is_name_of, D_is_name_of, m_is_name_of, G_is_name_of⟩ := ok_is_name_of (P := P) (w := w) (base := base) hf T Cc
  obtain ⟨f_is_number, fd_is_number, D_is_number, m_is_number, G_is_number⟩ := ok_is_number (P := P) (w := w) (base := base) hf T Cc
  obtain ⟨f_ranges_of, fd_ranges_of, D_ranges_of, m_ranges_of, G_ranges_of⟩ := ok_ranges_of (P := P) (w := w) (base := base) hf T Cc
  refine ⟨f, fd, D, m, fg_of (CX := CX0) (k := 2) (N := ["book", "thing", "pair", "ranges", "before"]) (b := b_is_choice_of) D sc_is_choice_of (fun cdv A outer s H E hr hg F => PSs.nox ?_)⟩
  have c : Ctx (cxOf CX0 P w K mg base ["book", "thing", "pair", "ranges", "before"] "is_choice_of" (defScope s_is_choice_of) f cdv A outer s H E).nox := ctx_of sc_is_choice_of.nd hf hr hg
  exact gss_cons (gs_if (gt_not (gt_val (ge_isiTup (c) (go_var 1)))) (gss_cons (gs_ret (ge_bl))
      (gss_nil)) (gss_nil))
      (gss_cons (gs_par2 3 4 (c) (gus_cons (ge_call (c) G_ranges_of (hr.mono (by decide)) m_ranges_of D_ranges_of.kp (D_ranges_of.bindsN (fun _ _ _ _ _ _ us hl => match us, hl with | [_], _ => rfl)) (gvs_cons (ge_var 0) (gvs_nil))) (gus_cons (ge_str) (gus_nil))))
      (gss_cons (gs_for (c) PassesOwn.never (gi_of (ge_var 1)) (gg_name 2 (c)) (gss_cons (gs_if (gt_w (gw_or (gt_not (gt_val (ge_isiTup (c) (go_var 2)))) (gw_or (gt_ne (c) (go_of (ge_len (c) (go_var 2))) (go_of (ge_num))) (gw_or1 (gt_not (gt_val (ge_call (c) G_is_name_of (hr.mono (by decide)) m_is_name_of D_is_name_of.kp (D_is_name_of.bindsN (fun _ _ _ _ _ _ us hl => match us, hl with | [_, _], _ => rfl)) (gvs_cons (ge_var 0) (gvs_cons (ge_idx (c) (go_var 2) (go_of (ge_num))) (gvs_nil)))))))))) (gss_cons (gs_ret (ge_bl))
      (gss_nil)) (gss_nil))
      (gss_cons (gs_if (gt_w (gw_or (gt_le (go_of (ge_idx (c) (go_var 2) (go_of (ge_num)))) (go_var 4)) (gw_or (gt_not (gt_val (ge_call (c) G_is_number (hr.mono (by decide)) m_is_number D_is_number.kp (D_is_number.bindsN (fun _ _ _ _ _ _ us hl => match us, hl with | [_], _ => rfl)) (gvs_cons (ge_idx (c) (go_var 2) (go_of (ge_num))) (gvs_nil))))) (gw_or1 (gt_nin (c) (go_of (ge_idx (c) (go_var 2) (go_of (ge_num)))) (go_of (ge_idx (c) (go_var 3) (go_of (ge_idx (c) (go_var 2) (go_of (ge_num))))))))))) (gss_cons (gs_ret (ge_bl))
      (gss_nil)) (gss_nil))
      (gss_cons (gs_asg 4 (c) (ge_idx (c) (go_var 2) (go_of (ge_num))))
      (gss_nil)))))
      (gss_cons (gs_ret (ge_bl))
      (gss_nil))))
theorem sc_can_follow : FnScope ["ranges", "choice", "had", "edition", "name", "own"] ["ranges", "choice", "had", "edition"] (defScope s_can_follow) := ⟨rfl, rfl, rfl, by decide +kernel, rfl, by decide +kernel, by decide +kernel⟩
theorem ok_can_follow (hf : ∀ x ∈ blts, mg x = none) (T : Al K mg) (Cc : Cs K mg) : OkG P w K mg base 1 "can_follow" "can_follow" s_can_follow [] ["ranges", "choice", "had", "edition"] g_can_follow := by
  obtain ⟨f, fd, D, m⟩ := T.F_can_follow
  refine ⟨f, fd, D, m, fg_of (CX := CX0) (k := 0) (N := ["ranges", "choice", "had", "edition", "name", "own"]) (b := b_can_follow) D sc_can_follow (fun cdv A outer s H E hr hg F => PSs.nox ?_)⟩
  have c : Ctx (cxOf CX0 P w K mg base ["ranges", "choice", "had", "edition", "name", "own"] "can_follow" (defScope s_can_follow) f cdv A outer s H E).nox := ctx_of sc_can_follow.nd hf hr hg
  exact gss_cons (gs_for (c) PassesOwn.never (gi_of (ge_var 1)) (gg_tup (c) (ggs_cons (gg_name 4 (c)) (ggs_cons (gg_name 5 (c)) (ggs_nil)))) (gss_cons (gs_if (gt_w (gw_and (gt_in (c) (go_var 3) (go_of (ge_idx (c) (go_var 0) (go_var 4)))) (gw_and (gt_ne (c) (go_var 3) (go_var 5)) (gw_and1 (gt_nin (c) (go_var 5) (go_var 2)))))) (gss_cons (gs_ret (ge_bl))
      (gss_nil)) (gss_nil))
      (gss_nil)))
      (gss_cons (gs_ret (ge_bl))
      (gss_nil))
theorem sc_orders_of : FnScope ["book", "choice", "table", "step", "ranges", "everything", "later", "had", "many", "edition", "key"] ["book", "choice"] (defScope s_orders_of) := ⟨rfl, rfl, rfl, by decide +kernel, rfl, by decide +kernel, by decide +kernel⟩
theorem ok_orders_of (hf : ∀ x ∈ blts, mg x = none) (T : Al K mg) (Cc : Cs K mg) : OkG P w K mg base 2 "orders_of" "orders_of" s_orders_of [] ["book", "choice"] (g_orders_of w) := by
  obtain ⟨f, fd, D, m⟩ := T.F_orders_of
  obtain ⟨f_can_follow, fd_can_follow, D_can_follow, m_can_follow, G_can_follow⟩ := ok_can_follow (P := P) (w := w) (base := base) hf T Cc
  obtain ⟨f_ranges_of, fd_ranges_of, D_ranges_of, m_ranges_of, G_ranges_of⟩ := ok_ranges_of (P := P) (w := w) (base := base) hf T Cc
  refine ⟨f, fd, D, m, fg_of (CX := CX0) (k := 1) (N := ["book", "choice", "table", "step", "ranges", "everything", "later", "had", "many", "edition", "key"]) (b := b_orders_of w) D sc_orders_of (fun cdv A outer s H E hr hg F => PSs.nox ?_)⟩
  have c : Ctx (cxOf CX0 P w K mg base ["book", "choice", "table", "step", "ranges", "everything", "later", "had", "many", "edition", "key"] "orders_of" (defScope s_orders_of) f cdv A outer s H E).nox := ctx_of sc_orders_of.nd hf hr hg
  exact gss_cons (gs_par2 4 5 (c) (gus_cons (ge_call (c) G_ranges_of (hr.mono (by decide)) m_ranges_of D_ranges_of.kp (D_ranges_of.bindsN (fun _ _ _ _ _ _ us hl => match us, hl with | [_], _ => rfl)) (gvs_cons (ge_var 0) (gvs_nil))) (gus_cons (ge_lstRg1 (c) (ge_len (c) (go_of (ge_idx (c) (go_var 0) (go_of (ge_num)))))) (gus_nil))))
      (gss_cons (gs_asg 2 (c) (ge_tone (c) (ge_tup (gds_nil)) (ge_num)))
      (gss_cons (gs_for (c) PassesOwn.never (gi_of (ge_var 5)) (gg_name 3 (c)) (gss_cons (gs_asg 6 (c) (ge_tmt))
      (gss_cons (gs_titems 2 (c) PassesOwn.never (gg_tup (c) (ggs_cons (gg_name 7 (c)) (ggs_cons (gg_name 8 (c)) (ggs_nil)))) (gss_cons (gs_for (c) PassesOwn.never (gi_of (ge_var 5)) (gg_name 9 (c)) (gss_cons (gs_if (gt_w (gw_and (gt_nin (c) (go_var 9) (go_var 7)) (gw_and1 (gt_val (ge_call (c) G_can_follow (hr.mono (by decide)) m_can_follow D_can_follow.kp (D_can_follow.bindsN (fun _ _ _ _ _ _ us hl => match us, hl with | [_, _, _, _], _ => rfl)) (gvs_cons (ge_var 4) (gvs_cons (ge_var 1) (gvs_cons (ge_var 7) (gvs_cons (ge_var 9) (gvs_nil)))))))))) (gss_cons (gs_asg 10 (c) (ge_tuple (c) (go_of (ge_sorted (c) (go_of (ge_add (go_var 7) (go_of (ge_tup (gds_cons (ge_var 9) (gds_nil))))))))))
      (gss_cons (gs_tset 6 (c) (ge_add (go_of (ge_tgetd 6 (c) (ge_var 10) (ge_num))) (go_var 8)) (ge_var 10))
      (gss_nil))) (gss_nil))
      (gss_nil)))
      (gss_nil)))
      (gss_cons (gs_asg 2 (c) (ge_tmv 6))
      (gss_nil)))))
      (gss_cons (gs_ret (ge_sum (c) (go_of (ge_tvals 2 (c)))))
      (gss_nil))))
theorem sc_want : FnScope ["is_right", "word"] ["is_right", "word"] (defScope s_want) := ⟨rfl, rfl, rfl, by decide +kernel, rfl, by decide +kernel, by decide +kernel⟩
theorem ok_want (hf : ∀ x ∈ blts, mg x = none) (T : Al K mg) (Cc : Cs K mg) : OkG P w K mg base 1 "want" "want" s_want [] ["is_right", "word"] g_want := by
  obtain ⟨f, fd, D, m⟩ := T.F_want
  refine ⟨f, fd, D, m, fg_of (CX := CX0) (k := 0) (N := ["is_right", "word"]) (b := b_want) D sc_want (fun cdv A outer s H E hr hg F => PSs.nox ?_)⟩
  have c : Ctx (cxOf CX0 P w K mg base ["is_right", "word"] "want" (defScope s_want) f cdv A outer s H E).nox := ctx_of sc_want.nd hf hr hg
  exact gss_cons (gs_if (gt_not (gt_val (ge_var 0))) (gss_cons (gs_dead)
      (gss_nil)) (gss_nil))
      (gss_nil)
theorem sc_how_many_orders : FnScope ["book", "choice"] ["book", "choice"] (defScope s_how_many_orders) := ⟨rfl, rfl, rfl, by decide +kernel, rfl, by decide +kernel, by decide +kernel⟩
theorem ok_how_many_orders (hf : ∀ x ∈ blts, mg x = none) (T : Al K mg) (Cc : Cs K mg) : OkG P w K mg base 4 "how_many_orders" "how_many_orders" s_how_many_orders [] ["book", "choice"] (g_how_many_orders w) := by
  obtain ⟨f, fd, D, m⟩ := T.F_how_many_orders
  obtain ⟨f_is_choice_of, fd_is_choice_of, D_is_choice_of, m_is_choice_of, G_is_choice_of⟩ := ok_is_choice_of (P := P) (w := w) (base := base) hf T Cc
  obtain ⟨f_orders_of, fd_orders_of, D_orders_of, m_orders_of, G_orders_of⟩ := ok_orders_of (P := P) (w := w) (base := base) hf T Cc
  obtain ⟨f_want, fd_want, D_want, m_want, G_want⟩ := ok_want (P := P) (w := w) (base := base) hf T Cc
  refine ⟨f, fd, D, m, fg_of (CX := CX0) (k := 3) (N := ["book", "choice"]) (b := b_how_many_orders w) D sc_how_many_orders (fun cdv A outer s H E hr hg F => PSs.nox ?_)⟩
  have c : Ctx (cxOf CX0 P w K mg base ["book", "choice"] "how_many_orders" (defScope s_how_many_orders) f cdv A outer s H E).nox := ctx_of sc_how_many_orders.nd hf hr hg
  exact gss_cons (gs_expr (ge_call (c) G_want (hr.mono (by decide)) m_want D_want.kp (D_want.bindsN (fun _ _ _ _ _ _ us hl => match us, hl with | [_, _], _ => rfl)) (gvs_cons (ge_call (c) G_is_choice_of (hr.mono (by decide)) m_is_choice_of D_is_choice_of.kp (D_is_choice_of.bindsN (fun _ _ _ _ _ _ us hl => match us, hl with | [_, _], _ => rfl)) (gvs_cons (ge_var 0) (gvs_cons (ge_var 1) (gvs_nil)))) (gvs_cons (ge_str) (gvs_nil)))))
      (gss_cons (gs_ret (ge_call (c) G_orders_of (hr.mono (by decide)) m_orders_of D_orders_of.kp (D_orders_of.bindsN (fun _ _ _ _ _ _ us hl => match us, hl with | [_, _], _ => rfl)) (gvs_cons (ge_var 0) (gvs_cons (ge_var 1) (gvs_nil)))))
      (gss_nil))
theorem sc_share_of_orders : FnScope ["book", "choice", "many", "every", "one", "other"] ["book", "choice"] (defScope s_share_of_orders) := ⟨rfl, rfl, rfl, by decide +kernel, rfl, by decide +kernel, by decide +kernel⟩
theorem ok_share_of_orders (hf : ∀ x ∈ blts, mg x = none) (T : Al K mg) (Cc : Cs K mg) : OkG P w K mg base 4 "share_of_orders" "share_of_orders" s_share_of_orders [] ["book", "choice"] (g_share_of_orders w) := by
  obtain ⟨f, fd, D, m⟩ := T.F_share_of_orders
  obtain ⟨f_is_choice_of, fd_is_choice_of, D_is_choice_of, m_is_choice_of, G_is_choice_of⟩ := ok_is_choice_of (P := P) (w := w) (base := base) hf T Cc
  obtain ⟨f_orders_of, fd_orders_of, D_orders_of, m_orders_of, G_orders_of⟩ := ok_orders_of (P := P) (w := w) (base := base) hf T Cc
  obtain ⟨f_want, fd_want, D_want, m_want, G_want⟩ := ok_want (P := P) (w := w) (base := base) hf T Cc
  refine ⟨f, fd, D, m, fg_of (CX := CX0) (k := 3) (N := ["book", "choice", "many", "every", "one", "other"]) (b := b_share_of_orders w) D sc_share_of_orders (fun cdv A outer s H E hr hg F => PSs.nox ?_)⟩
  have c : Ctx (cxOf CX0 P w K mg base ["book", "choice", "many", "every", "one", "other"] "share_of_orders" (defScope s_share_of_orders) f cdv A outer s H E).nox := ctx_of sc_share_of_orders.nd hf hr hg
  exact gss_cons (gs_expr (ge_call (c) G_want (hr.mono (by decide)) m_want D_want.kp (D_want.bindsN (fun _ _ _ _ _ _ us hl => match us, hl with | [_, _], _ => rfl)) (gvs_cons (ge_call (c) G_is_choice_of (hr.mono (by decide)) m_is_choice_of D_is_choice_of.kp (D_is_choice_of.bindsN (fun _ _ _ _ _ _ us hl => match us, hl with | [_, _], _ => rfl)) (gvs_cons (ge_var 0) (gvs_cons (ge_var 1) (gvs_nil)))) (gvs_cons (ge_str) (gvs_nil)))))
      (gss_cons (gs_par2 2 3 (c) (gus_cons (ge_call (c) G_orders_of (hr.mono (by decide)) m_orders_of D_orders_of.kp (D_orders_of.bindsN (fun _ _ _ _ _ _ us hl => match us, hl with | [_, _], _ => rfl)) (gvs_cons (ge_var 0) (gvs_cons (ge_var 1) (gvs_nil)))) (gus_cons (ge_call (c) G_orders_of (hr.mono (by decide)) m_orders_of D_orders_of.kp (D_orders_of.bindsN (fun _ _ _ _ _ _ us hl => match us, hl with | [_, _], _ => rfl)) (gvs_cons (ge_var 0) (gvs_cons (ge_tup (gds_nil)) (gvs_nil)))) (gus_nil))))
      (gss_cons (gs_par2 4 5 (c) (gus_cons (ge_var 3) (gus_cons (ge_var 2) (gus_nil))))
      (gss_cons (gs_whl PassesOwn.never (gt_gt (go_var 5) (go_of (ge_num))) (gss_cons (gs_par2 4 5 (c) (gus_cons (ge_var 5) (gus_cons (ge_mod (go_var 4) (go_var 5)) (gus_nil))))
      (gss_nil)))
      (gss_cons (gs_ret (ge_tup (gds_cons (ge_fdiv (go_var 2) (go_var 4)) (gds_cons (ge_fdiv (go_var 3) (go_var 4)) (gds_nil)))))
      (gss_nil)))))
theorem sc_law_by_hand : FnScope ["_law_told", "_law_plan_here", "_law_some"] [] (defScope s_law_by_hand) := ⟨rfl, rfl, rfl, by decide +kernel, rfl, by decide +kernel, by decide +kernel⟩
theorem ok_law_by_hand (hf : ∀ x ∈ blts, mg x = none) (T : Al K mg) (Cc : Cs K mg) : OkG P w K mg base 5 "_law_by_hand" "_law_by_hand" s_law_by_hand [] [] (g_law_by_hand w) := by
  obtain ⟨f, fd, D, m⟩ := T.F_law_by_hand
  obtain ⟨f_law_round_plan, fd_law_round_plan, D_law_round_plan, m_law_round_plan, G_law_round_plan⟩ := ok_law_round_plan (P := P) (w := w) (base := base) hf T Cc
  obtain ⟨f_law_same, fd_law_same, D_law_same, m_law_same, G_law_same⟩ := ok_law_same (P := P) (w := w) (base := base) hf T Cc
  obtain ⟨f_how_many_orders, fd_how_many_orders, D_how_many_orders, m_how_many_orders, G_how_many_orders⟩ := ok_how_many_orders (P := P) (w := w) (base := base) hf T Cc
  obtain ⟨f_share_of_orders, fd_share_of_orders, D_share_of_orders, m_share_of_orders, G_share_of_orders⟩ := ok_share_of_orders (P := P) (w := w) (base := base) hf T Cc
  refine ⟨f, fd, D, m, fg_of (CX := CX0) (k := 4) (N := ["_law_told", "_law_plan_here", "_law_some"]) (b := b_law_by_hand w) D sc_law_by_hand (fun cdv A outer s H E hr hg F => PSs.nox ?_)⟩
  have c : Ctx (cxOf CX0 P w K mg base ["_law_told", "_law_plan_here", "_law_some"] "_law_by_hand" (defScope s_law_by_hand) f cdv A outer s H E).nox := ctx_of sc_law_by_hand.nd hf hr hg
  exact gss_cons (gs_unp (ge_call (c) G_law_round_plan (hr.mono (by decide)) m_law_round_plan D_law_round_plan.kp (D_law_round_plan.bindsN (fun _ _ _ _ _ _ us hl => match us, hl with | [_, _], _ => rfl)) (gvs_cons (ge_num) (gvs_cons (ge_str) (gvs_nil)))) (gg_tup (c) (ggs_cons (gg_name 1 (c)) (ggs_cons (gg_name 2 (c)) (ggs_nil)))))
      (gss_cons (gs_asg 0 (c) (ge_lst (gds_cons (ge_call (c) G_how_many_orders (hr.mono (by decide)) m_how_many_orders D_how_many_orders.kp (D_how_many_orders.bindsN (fun _ _ _ _ _ _ us hl => match us, hl with | [_, _], _ => rfl)) (gvs_cons (ge_var 1) (gvs_cons (ge_var 2) (gvs_nil)))) (gds_cons (ge_call (c) G_share_of_orders (hr.mono (by decide)) m_share_of_orders D_share_of_orders.kp (D_share_of_orders.bindsN (fun _ _ _ _ _ _ us hl => match us, hl with | [_, _], _ => rfl)) (gvs_cons (ge_var 1) (gvs_cons (ge_var 2) (gvs_nil)))) (gds_cons (ge_call (c) G_how_many_orders (hr.mono (by decide)) m_how_many_orders D_how_many_orders.kp (D_how_many_orders.bindsN (fun _ _ _ _ _ _ us hl => match us, hl with | [_, _], _ => rfl)) (gvs_cons (ge_var 1) (gvs_cons (ge_slc (go_var 2) (gp_none) (gp_some (ge_num))) (gvs_nil)))) (gds_nil))))))
      (gss_cons (gs_asg 0 (c) (ge_add (go_var 0) (go_of (ge_lst (gds_cons (ge_call (c) G_share_of_orders (hr.mono (by decide)) m_share_of_orders D_share_of_orders.kp (D_share_of_orders.bindsN (fun _ _ _ _ _ _ us hl => match us, hl with | [_, _], _ => rfl)) (gvs_cons (ge_var 1) (gvs_cons (ge_slc (go_var 2) (gp_none) (gp_some (ge_num))) (gvs_nil)))) (gds_cons (ge_call (c) G_how_many_orders (hr.mono (by decide)) m_how_many_orders D_how_many_orders.kp (D_how_many_orders.bindsN (fun _ _ _ _ _ _ us hl => match us, hl with | [_, _], _ => rfl)) (gvs_cons (ge_var 1) (gvs_cons (ge_tup (gds_nil)) (gvs_nil)))) (gds_cons (ge_call (c) G_share_of_orders (hr.mono (by decide)) m_share_of_orders D_share_of_orders.kp (D_share_of_orders.bindsN (fun _ _ _ _ _ _ us hl => match us, hl with | [_, _], _ => rfl)) (gvs_cons (ge_var 1) (gvs_cons (ge_tup (gds_nil)) (gvs_nil)))) (gds_nil))))))))
      (gss_cons (gs_if (gt_not (gt_val (ge_call (c) G_law_same (hr.mono (by decide)) m_law_same D_law_same.kp (D_law_same.bindsN (fun _ _ _ _ _ _ us hl => match us, hl with | [_, _], _ => rfl)) (gvs_cons (ge_var 0) (gvs_cons (ge_lst (gds_cons (ge_num) (gds_cons (ge_tup (gds_cons (ge_num) (gds_cons (ge_num) (gds_nil)))) (gds_cons (ge_num) (gds_cons (ge_tup (gds_cons (ge_num) (gds_cons (ge_num) (gds_nil)))) (gds_cons (ge_num) (gds_cons (ge_tup (gds_cons (ge_num) (gds_cons (ge_num) (gds_nil)))) (gds_nil)))))))) (gvs_nil)))))) (gss_cons (gs_ret (ge_bl))
      (gss_nil)) (gss_nil))
      (gss_cons (gs_asg 1 (c) (ge_tup (gds_cons (ge_mul (go_of (ge_tup (gds_cons (ge_tup (gds_nil)) (gds_nil)))) (go_of (ge_num))) (gds_cons (ge_tup (gds_cons (ge_tup (gds_cons (ge_str) (gds_cons (ge_tup (gds_cons (ge_num) (gds_cons (ge_num) (gds_cons (ge_num) (gds_cons (ge_num) (gds_cons (ge_num) (gds_nil))))))) (gds_cons (ge_str) (gds_nil))))) (gds_cons (ge_tup (gds_cons (ge_str) (gds_cons (ge_tup (gds_cons (ge_num) (gds_cons (ge_num) (gds_nil)))) (gds_cons (ge_str) (gds_nil))))) (gds_nil)))) (gds_cons (ge_tup (gds_nil)) (gds_nil))))))
      (gss_cons (gs_asg 0 (c) (ge_lst (gds_cons (ge_call (c) G_how_many_orders (hr.mono (by decide)) m_how_many_orders D_how_many_orders.kp (D_how_many_orders.bindsN (fun _ _ _ _ _ _ us hl => match us, hl with | [_, _], _ => rfl)) (gvs_cons (ge_var 1) (gvs_cons (ge_tup (gds_cons (ge_tup (gds_cons (ge_str) (gds_cons (ge_num) (gds_nil)))) (gds_nil))) (gvs_nil)))) (gds_cons (ge_call (c) G_share_of_orders (hr.mono (by decide)) m_share_of_orders D_share_of_orders.kp (D_share_of_orders.bindsN (fun _ _ _ _ _ _ us hl => match us, hl with | [_, _], _ => rfl)) (gvs_cons (ge_var 1) (gvs_cons (ge_tup (gds_cons (ge_tup (gds_cons (ge_str) (gds_cons (ge_num) (gds_nil)))) (gds_nil))) (gvs_nil)))) (gds_cons (ge_call (c) G_share_of_orders (hr.mono (by decide)) m_share_of_orders D_share_of_orders.kp (D_share_of_orders.bindsN (fun _ _ _ _ _ _ us hl => match us, hl with | [_, _], _ => rfl)) (gvs_cons (ge_var 1) (gvs_cons (ge_tup (gds_cons (ge_tup (gds_cons (ge_str) (gds_cons (ge_num) (gds_nil)))) (gds_nil))) (gvs_nil)))) (gds_nil))))))
      (gss_cons (gs_asg 0 (c) (ge_add (go_var 0) (go_of (ge_lst (gds_cons (ge_call (c) G_how_many_orders (hr.mono (by decide)) m_how_many_orders D_how_many_orders.kp (D_how_many_orders.bindsN (fun _ _ _ _ _ _ us hl => match us, hl with | [_, _], _ => rfl)) (gvs_cons (ge_var 1) (gvs_cons (ge_tup (gds_cons (ge_tup (gds_cons (ge_str) (gds_cons (ge_num) (gds_nil)))) (gds_cons (ge_tup (gds_cons (ge_str) (gds_cons (ge_num) (gds_nil)))) (gds_nil)))) (gvs_nil)))) (gds_cons (ge_call (c) G_share_of_orders (hr.mono (by decide)) m_share_of_orders D_share_of_orders.kp (D_share_of_orders.bindsN (fun _ _ _ _ _ _ us hl => match us, hl with | [_, _], _ => rfl)) (gvs_cons (ge_var 1) (gvs_cons (ge_tup (gds_cons (ge_tup (gds_cons (ge_str) (gds_cons (ge_num) (gds_nil)))) (gds_cons (ge_tup (gds_cons (ge_str) (gds_cons (ge_num) (gds_nil)))) (gds_nil)))) (gvs_nil)))) (gds_nil)))))))
      (gss_cons (gs_if (gt_not (gt_val (ge_call (c) G_law_same (hr.mono (by decide)) m_law_same D_law_same.kp (D_law_same.bindsN (fun _ _ _ _ _ _ us hl => match us, hl with | [_, _], _ => rfl)) (gvs_cons (ge_var 0) (gvs_cons (ge_lst (gds_cons (ge_num) (gds_cons (ge_tup (gds_cons (ge_num) (gds_cons (ge_num) (gds_nil)))) (gds_cons (ge_tup (gds_cons (ge_num) (gds_cons (ge_num) (gds_nil)))) (gds_cons (ge_num) (gds_cons (ge_tup (gds_cons (ge_num) (gds_cons (ge_num) (gds_nil)))) (gds_nil))))))) (gvs_nil)))))) (gss_cons (gs_ret (ge_bl))
      (gss_nil)) (gss_nil))
      (gss_cons (gs_asg 1 (c) (ge_tup (gds_cons (ge_tup (gds_cons (ge_tup (gds_nil)) (gds_nil))) (gds_cons (ge_tup (gds_cons (ge_tup (gds_cons (ge_str) (gds_cons (ge_tup (gds_cons (ge_num) (gds_nil))) (gds_cons (ge_str) (gds_nil))))) (gds_nil))) (gds_cons (ge_tup (gds_nil)) (gds_nil))))))
      (gss_cons (gs_ret (ge_call (c) G_law_same (hr.mono (by decide)) m_law_same D_law_same.kp (D_law_same.bindsN (fun _ _ _ _ _ _ us hl => match us, hl with | [_, _], _ => rfl)) (gvs_cons (ge_lst (gds_cons (ge_call (c) G_how_many_orders (hr.mono (by decide)) m_how_many_orders D_how_many_orders.kp (D_how_many_orders.bindsN (fun _ _ _ _ _ _ us hl => match us, hl with | [_, _], _ => rfl)) (gvs_cons (ge_var 1) (gvs_cons (ge_tup (gds_cons (ge_tup (gds_cons (ge_str) (gds_cons (ge_num) (gds_nil)))) (gds_nil))) (gvs_nil)))) (gds_cons (ge_call (c) G_share_of_orders (hr.mono (by decide)) m_share_of_orders D_share_of_orders.kp (D_share_of_orders.bindsN (fun _ _ _ _ _ _ us hl => match us, hl with | [_, _], _ => rfl)) (gvs_cons (ge_var 1) (gvs_cons (ge_tup (gds_cons (ge_tup (gds_cons (ge_str) (gds_cons (ge_num) (gds_nil)))) (gds_nil))) (gvs_nil)))) (gds_nil)))) (gvs_cons (ge_lst (gds_cons (ge_num) (gds_cons (ge_tup (gds_cons (ge_num) (gds_cons (ge_num) (gds_nil)))) (gds_nil)))) (gvs_nil)))))
      (gss_nil))))))))))
theorem sc_law_by_turns : FnScope ["_law_plan_here", "_law_turns_here", "_law_one", "_law_k"] ["_law_plan_here", "_law_turns_here"] (defScope s_law_by_turns) := ⟨rfl, rfl, rfl, by decide +kernel, rfl, by decide +kernel, by decide +kernel⟩
theorem ok_law_by_turns (hf : ∀ x ∈ blts, mg x = none) (T : Al K mg) (Cc : Cs K mg) : OkG P w K mg base 1 "_law_by_turns" "_law_by_turns" s_law_by_turns [] ["_law_plan_here", "_law_turns_here"] g_law_by_turns := by
  obtain ⟨f, fd, D, m⟩ := T.F_law_by_turns
  refine ⟨f, fd, D, m, fg_of (CX := CX0) (k := 0) (N := ["_law_plan_here", "_law_turns_here", "_law_one", "_law_k"]) (b := b_law_by_turns) D sc_law_by_turns (fun cdv A outer s H E hr hg F => PSs.nox ?_)⟩
  have c : Ctx (cxOf CX0 P w K mg base ["_law_plan_here", "_law_turns_here", "_law_one", "_law_k"] "_law_by_turns" (defScope s_law_by_turns) f cdv A outer s H E).nox := ctx_of sc_law_by_turns.nd hf hr hg
  exact gss_cons (gs_ret (ge_tuple (c) (go_of (ge_lc [("_law_one", 2)] (c) (gi_of (ge_idx (c) (go_var 0) (go_of (ge_num)))) (fun _ _ _ _ _ => gg_name 2 ((c).blk _ _ _ _ _)) (fun _ _ _ _ _ => gc_none) (fun _ _ _ _ _ => ge_tup (gds_cons (ge_idx ((c).blk _ _ _ _ _) (go_var 2) (go_of (ge_num))) (gds_cons (ge_idx ((c).blk _ _ _ _ _) (go_of (ge_lc [("_law_k", 3)] ((c).blk _ _ _ _ _) (gi_of (ge_var 1)) (fun _ _ _ _ _ => gg_name 3 (((c).blk _ _ _ _ _).blk _ _ _ _ _)) (fun _ _ _ _ _ => gc_one (gt_in (((c).blk _ _ _ _ _).blk _ _ _ _ _) (go_var 3) (go_of (ge_idx (((c).blk _ _ _ _ _).blk _ _ _ _ _) (go_var 2) (go_of (ge_num)))))) (fun _ _ _ _ _ => ge_var 3))) (go_of (ge_num))) (gds_nil))))))))
      (gss_nil)
theorem sc_law_draw : FnScope ["_law_feed_here", "_law_wide", "_law_cell", "_law_mixed", "_law_figure", "_law_spot", "_law_cells"] ["_law_feed_here", "_law_wide"] (defScope s_law_draw) := ⟨rfl, rfl, rfl, by decide +kernel, rfl, by decide +kernel, by decide +kernel⟩
theorem ok_law_draw (hf : ∀ x ∈ blts, mg x = none) (T : Al K mg) (Cc : Cs K mg) : OkG P w K mg base 1 "_law_draw" "_law_draw" s_law_draw [] ["_law_feed_here", "_law_wide"] g_law_draw := by
  obtain ⟨f, fd, D, m⟩ := T.F_law_draw
  refine ⟨f, fd, D, m, fg_of (CX := CX0) (k := 0) (N := ["_law_feed_here", "_law_wide", "_law_cell", "_law_mixed", "_law_figure", "_law_spot", "_law_cells"]) (b := b_law_draw) D sc_law_draw (fun cdv A outer s H E hr hg F => PSs.nox ?_)⟩
  have c : Ctx (cxOf CX0 P w K mg base ["_law_feed_here", "_law_wide", "_law_cell", "_law_mixed", "_law_figure", "_law_spot", "_law_cells"] "_law_draw" (defScope s_law_draw) f cdv A outer s H E).nox := ctx_of sc_law_draw.nd hf hr hg
  exact gss_cons (gs_fset 0 (c) (ge_add (go_of (ge_get 0 (c))) (go_of (ge_num))))
      (gss_cons (gs_if (gt_gt (go_of (ge_get 0 (c))) (go_of (ge_num))) (gss_cons (gs_asg 4 (c) (ge_mod (go_of (ge_int (c) (go_of (ge_get 0 (c))))) (go_var 1)))
      (gss_cons (gs_fset 0 (c) (ge_fdiv (go_of (ge_get 0 (c))) (go_var 1)))
      (gss_cons (gs_retv 4)
      (gss_nil)))) (gss_nil))
      (gss_cons (gs_par2 5 6 (c) (gus_cons (ge_get 0 (c)) (gus_cons (ge_get 0 (c)) (gus_nil))))
      (gss_cons (gs_fset 0 (c) (ge_add (go_var 5) (go_of (ge_num))))
      (gss_cons (gs_asg 2 (c) (ge_ife (gt_ne (c) (go_var 6) (go_of (ge_lst (gds_nil)))) (ge_idx (c) (go_var 6) (go_of (ge_mod (go_of (ge_int (c) (go_var 5))) (go_of (ge_len (c) (go_var 6)))))) (ge_num)))
      (gss_cons (gs_if (gt_w (gw_and (gt_ge (go_var 2) (go_of (ge_pow (go_of (ge_num)) (go_of (ge_num))))) (gw_and1 (gt_lt (go_var 5) (go_of (ge_len (c) (go_var 6))))))) (gss_cons (gs_fset 0 (c) (ge_fdiv (go_var 2) (go_var 1)))
      (gss_cons (gs_ret (ge_mod (go_of (ge_int (c) (go_var 2))) (go_var 1)))
      (gss_nil))) (gss_nil))
      (gss_cons (gs_asg 3 (c) (ge_mod (go_of (ge_int (c) (go_of (ge_add (go_of (ge_add (go_of (ge_mod (go_of (ge_int (c) (go_var 2))) (go_of (ge_num)))) (go_of (ge_mul (go_of (ge_num)) (go_of (ge_get 0 (c))))))) (go_of (ge_num)))))) (go_of (ge_num))))
      (gss_cons (gs_asg 3 (c) (ge_mod (go_of (ge_int (c) (go_of (ge_add (go_of (ge_add (go_of (ge_mul (go_var 3) (go_var 3))) (go_of (ge_mul (go_of (ge_num)) (go_of (ge_get 0 (c))))))) (go_of (ge_num)))))) (go_of (ge_num))))
      (gss_cons (gs_ret (ge_mod (go_of (ge_int (c) (go_of (ge_fdiv (go_of (ge_mod (go_of (ge_int (c) (go_of (ge_add (go_of (ge_add (go_of (ge_mul (go_var 3) (go_var 3))) (go_of (ge_mul (go_of (ge_num)) (go_var 3))))) (go_of (ge_num)))))) (go_of (ge_num)))) (go_of (ge_num)))))) (go_var 1)))
      (gss_nil)))))))))
theorem sc_law_pick : FnScope ["_law_feed_here", "_law_some"] ["_law_feed_here", "_law_some"] (defScope s_law_pick) := ⟨rfl, rfl, rfl, by decide +kernel, rfl, by decide +kernel, by decide +kernel⟩
theorem ok_law_pick (hf : ∀ x ∈ blts, mg x = none) (T : Al K mg) (Cc : Cs K mg) : OkG P w K mg base 2 "_law_pick" "_law_pick" s_law_pick [] ["_law_feed_here", "_law_some"] g_law_pick := by
  obtain ⟨f, fd, D, m⟩ := T.F_law_pick
  obtain ⟨f_law_draw, fd_law_draw, D_law_draw, m_law_draw, G_law_draw⟩ := ok_law_draw (P := P) (w := w) (base := base) hf T Cc
  refine ⟨f, fd, D, m, fg_of (CX := CX0) (k := 1) (N := ["_law_feed_here", "_law_some"]) (b := b_law_pick) D sc_law_pick (fun cdv A outer s H E hr hg F => PSs.nox ?_)⟩
  have c : Ctx (cxOf CX0 P w K mg base ["_law_feed_here", "_law_some"] "_law_pick" (defScope s_law_pick) f cdv A outer s H E).nox := ctx_of sc_law_pick.nd hf hr hg
  exact gss_cons (gs_ret (ge_idx (c) (go_var 1) (go_of (ge_call (c) G_law_draw (hr.mono (by decide)) m_law_draw D_law_draw.kp (D_law_draw.bindsN (fun _ _ _ _ _ _ us hl => match us, hl with | [_, _], _ => rfl)) (gvs_cons (ge_var 0) (gvs_cons (ge_len (c) (go_var 1)) (gvs_nil)))))))
      (gss_nil)
theorem sc_law_turns : FnScope ["_law_feed_here", "_law_many", "_law_lap", "_law_left", "_law_found"] ["_law_feed_here", "_law_many"] (defScope s_law_turns) := ⟨rfl, rfl, rfl, by decide +kernel, rfl, by decide +kernel, by decide +kernel⟩
theorem ok_law_turns (hf : ∀ x ∈ blts, mg x = none) (T : Al K mg) (Cc : Cs K mg) : OkG P w K mg base 2 "_law_turns" "_law_turns" s_law_turns [] ["_law_feed_here", "_law_many"] g_law_turns := by
  obtain ⟨f, fd, D, m⟩ := T.F_law_turns
  obtain ⟨f_law_draw, fd_law_draw, D_law_draw, m_law_draw, G_law_draw⟩ := ok_law_draw (P := P) (w := w) (base := base) hf T Cc
  refine ⟨f, fd, D, m, fg_of (CX := CX0) (k := 1) (N := ["_law_feed_here", "_law_many", "_law_lap", "_law_left", "_law_found"]) (b := b_law_turns) D sc_law_turns (fun cdv A outer s H E hr hg F => PSs.nox ?_)⟩
  have c : Ctx (cxOf CX0 P w K mg base ["_law_feed_here", "_law_many", "_law_lap", "_law_left", "_law_found"] "_law_turns" (defScope s_law_turns) f cdv A outer s H E).nox := ctx_of sc_law_turns.nd hf hr hg
  exact gss_cons (gs_par2 3 4 (c) (gus_cons (ge_lstRg1 (c) (ge_var 1)) (gus_cons (ge_lst (gds_nil)) (gus_nil))))
      (gss_cons (gs_for (c) PassesOwn.never (gi_rng1 (c) (ge_var 1)) (gg_name 2 (c)) (gss_cons (gs_app 4 (ge_pop 3 (ge_call (c) G_law_draw (hr.mono (by decide)) m_law_draw D_law_draw.kp (D_law_draw.bindsN (fun _ _ _ _ _ _ us hl => match us, hl with | [_, _], _ => rfl)) (gvs_cons (ge_var 0) (gvs_cons (ge_len (c) (go_var 3)) (gvs_nil))))))
      (gss_nil)))
      (gss_cons (gs_ret (ge_tuple (c) (go_var 4)))
      (gss_nil)))
theorem sc_law_chosen : FnScope ["_law_feed_here", "_law_plan_here", "_law_turns_here", "_law_way", "_law_found", "_law_one", "_law_k"] ["_law_feed_here", "_law_plan_here"] (defScope s_law_chosen) := ⟨rfl, rfl, rfl, by decide +kernel, rfl, by decide +kernel, by decide +kernel⟩
theorem ok_law_chosen (hf : ∀ x ∈ blts, mg x = none) (T : Al K mg) (Cc : Cs K mg) : OkG P w K mg base 3 "_law_chosen" "_law_chosen" s_law_chosen [] ["_law_feed_here", "_law_plan_here"] g_law_chosen := by
  obtain ⟨f, fd, D, m⟩ := T.F_law_chosen
  obtain ⟨f_law_by_turns, fd_law_by_turns, D_law_by_turns, m_law_by_turns, G_law_by_turns⟩ := ok_law_by_turns (P := P) (w := w) (base := base) hf T Cc
  obtain ⟨f_law_draw, fd_law_draw, D_law_draw, m_law_draw, G_law_draw⟩ := ok_law_draw (P := P) (w := w) (base := base) hf T Cc
  obtain ⟨f_law_pick, fd_law_pick, D_law_pick, m_law_pick, G_law_pick⟩ := ok_law_pick (P := P) (w := w) (base := base) hf T Cc
  obtain ⟨f_law_turns, fd_law_turns, D_law_turns, m_law_turns, G_law_turns⟩ := ok_law_turns (P := P) (w := w) (base := base) hf T Cc
  refine ⟨f, fd, D, m, fg_of (CX := CX0) (k := 2) (N := ["_law_feed_here", "_law_plan_here", "_law_turns_here", "_law_way", "_law_found", "_law_one", "_law_k"]) (b := b_law_chosen) D sc_law_chosen (fun cdv A outer s H E hr hg F => PSs.nox ?_)⟩
  have c : Ctx (cxOf CX0 P w K mg base ["_law_feed_here", "_law_plan_here", "_law_turns_here", "_law_way", "_law_found", "_law_one", "_law_k"] "_law_chosen" (defScope s_law_chosen) f cdv A outer s H E).nox := ctx_of sc_law_chosen.nd hf hr hg
  exact gss_cons (gs_asg 2 (c) (ge_call (c) G_law_turns (hr.mono (by decide)) m_law_turns D_law_turns.kp (D_law_turns.bindsN (fun _ _ _ _ _ _ us hl => match us, hl with | [_, _], _ => rfl)) (gvs_cons (ge_var 0) (gvs_cons (ge_len (c) (go_of (ge_idx (c) (go_var 1) (go_of (ge_num))))) (gvs_nil)))))
      (gss_cons (gs_par2 3 4 (c) (gus_cons (ge_call (c) G_law_draw (hr.mono (by decide)) m_law_draw D_law_draw.kp (D_law_draw.bindsN (fun _ _ _ _ _ _ us hl => match us, hl with | [_, _], _ => rfl)) (gvs_cons (ge_var 0) (gvs_cons (ge_num) (gvs_nil)))) (gus_cons (ge_list (c) (go_of (ge_call (c) G_law_by_turns (hr.mono (by decide)) m_law_by_turns D_law_by_turns.kp (D_law_by_turns.bindsN (fun _ _ _ _ _ _ us hl => match us, hl with | [_, _], _ => rfl)) (gvs_cons (ge_var 1) (gvs_cons (ge_var 2) (gvs_nil)))))) (gus_nil))))
      (gss_cons (gs_if (gt_gt (go_var 3) (go_of (ge_num))) (gss_cons (gs_asgLc 4 [("_law_one", 5)] (c) (gi_of (ge_idx (c) (go_var 1) (go_of (ge_num)))) (fun _ _ _ _ _ => gg_name 5 ((c).blk _ _ _ _ _)) (fun _ _ _ _ _ => gc_none) (fun _ _ _ _ _ => ge_tup (gds_cons (ge_idx ((c).blk _ _ _ _ _) (go_var 5) (go_of (ge_num))) (gds_cons (ge_call ((c).blk _ _ _ _ _) G_law_pick (hr.mono (by decide)) m_law_pick D_law_pick.kp (D_law_pick.bindsN (fun _ _ _ _ _ _ us hl => match us, hl with | [_, _], _ => rfl)) (gvs_cons (ge_var 0) (gvs_cons (ge_idx ((c).blk _ _ _ _ _) (go_var 5) (go_of (ge_num))) (gvs_nil)))) (gds_nil)))))
      (gss_nil)) (gss_nil))
      (gss_cons (gs_if (gt_eq (c) (go_var 3) (go_of (ge_num))) (gss_cons (gs_asgLc 4 [("_law_k", 6), ("_law_one", 5)] (c) (gi_enu (c) (ge_idx (c) (go_var 1) (go_of (ge_num)))) (fun _ _ _ _ _ => gg_tup ((c).blk _ _ _ _ _) (ggs_cons (gg_name 6 ((c).blk _ _ _ _ _)) (ggs_cons (gg_name 5 ((c).blk _ _ _ _ _)) (ggs_nil)))) (fun _ _ _ _ _ => gc_none) (fun _ _ _ _ _ => ge_tup (gds_cons (ge_idx ((c).blk _ _ _ _ _) (go_var 5) (go_of (ge_num))) (gds_cons (ge_idx ((c).blk _ _ _ _ _) (go_of (ge_idx ((c).blk _ _ _ _ _) (go_var 5) (go_of (ge_num)))) (go_of (ge_mod (go_of (ge_int ((c).blk _ _ _ _ _) (go_var 6))) (go_of (ge_len ((c).blk _ _ _ _ _) (go_of (ge_idx ((c).blk _ _ _ _ _) (go_var 5) (go_of (ge_num))))))))) (gds_nil)))))
      (gss_nil)) (gss_nil))
      (gss_cons (gs_if (gt_eq (c) (go_of (ge_call (c) G_law_draw (hr.mono (by decide)) m_law_draw D_law_draw.kp (D_law_draw.bindsN (fun _ _ _ _ _ _ us hl => match us, hl with | [_, _], _ => rfl)) (gvs_cons (ge_var 0) (gvs_cons (ge_num) (gvs_nil))))) (go_of (ge_num))) (gss_cons (gs_asgLc 4 [("_law_one", 5)] (c) (gi_of (ge_var 4)) (fun _ _ _ _ _ => gg_name 5 ((c).blk _ _ _ _ _)) (fun _ _ _ _ _ => gc_one (gt_gt (go_of (ge_call ((c).blk _ _ _ _ _) G_law_draw (hr.mono (by decide)) m_law_draw D_law_draw.kp (D_law_draw.bindsN (fun _ _ _ _ _ _ us hl => match us, hl with | [_, _], _ => rfl)) (gvs_cons (ge_var 0) (gvs_cons (ge_num) (gvs_nil))))) (go_of (ge_num)))) (fun _ _ _ _ _ => ge_var 5))
      (gss_nil)) (gss_nil))
      (gss_cons (gs_ret (ge_tuple (c) (go_var 4)))
      (gss_nil))))))
theorem sc_law_feed : FnScope ["_law_script"] ["_law_script"] (defScope s_law_feed) := ⟨rfl, rfl, rfl, by decide +kernel, rfl, by decide +kernel, by decide +kernel⟩
theorem ok_law_feed (hf : ∀ x ∈ blts, mg x = none) (T : Al K mg) (Cc : Cs K mg) : OkG P w K mg base 1 "_law_feed" "_law_feed" s_law_feed [] ["_law_script"] g_law_feed := by
  obtain ⟨f, fd, D, m⟩ := T.F_law_feed
  refine ⟨f, fd, D, m, fg_of (CX := CX0) (k := 0) (N := ["_law_script"]) (b := b_law_feed) D sc_law_feed (fun cdv A outer s H E hr hg F => PSs.nox ?_)⟩
  have c : Ctx (cxOf CX0 P w K mg base ["_law_script"] "_law_feed" (defScope s_law_feed) f cdv A outer s H E).nox := ctx_of sc_law_feed.nd hf hr hg
  exact gss_cons (gs_ret (ge_dic (gps_cons (ge_slc (go_var 0) (gp_none) (gp_some (ge_num))) (gps_cons (ge_num) (gps_cons (ge_num) (gps_cons (ge_num) (gps_nil)))))))
      (gss_nil)
theorem sc_law_common : FnScope ["_law_one", "_law_two"] ["_law_one", "_law_two"] (defScope s_law_common) := ⟨rfl, rfl, rfl, by decide +kernel, rfl, by decide +kernel, by decide +kernel⟩
theorem ok_law_common (hf : ∀ x ∈ blts, mg x = none) (T : Al K mg) (Cc : Cs K mg) : OkG P w K mg base 1 "_law_common" "_law_common" s_law_common [] ["_law_one", "_law_two"] g_law_common := by
  obtain ⟨f, fd, D, m⟩ := T.F_law_common
  refine ⟨f, fd, D, m, fg_of (CX := CX0) (k := 0) (N := ["_law_one", "_law_two"]) (b := b_law_common) D sc_law_common (fun cdv A outer s H E hr hg F => PSs.nox ?_)⟩
  have c : Ctx (cxOf CX0 P w K mg base ["_law_one", "_law_two"] "_law_common" (defScope s_law_common) f cdv A outer s H E).nox := ctx_of sc_law_common.nd hf hr hg
  exact gss_cons (gs_whl PassesOwn.never (gt_gt (go_var 0) (go_of (ge_num))) (gss_cons (gs_par2 0 1 (c) (gus_cons (ge_mod (go_of (ge_int (c) (go_var 1))) (go_var 0)) (gus_cons (ge_var 0) (gus_nil))))
      (gss_nil)))
      (gss_cons (gs_retv 1)
      (gss_nil))
theorem sc_law_is_right : FnScope ["_law_plan_here", "_law_some", "_law_every", "_law_many", "_law_common_here", "_law_due", "_law_got", "_law_one"] ["_law_plan_here", "_law_some", "_law_every"] (defScope s_law_is_right) := ⟨rfl, rfl, rfl, by decide +kernel, rfl, by decide +kernel, by decide +kernel⟩
theorem ok_law_is_right (hf : ∀ x ∈ blts, mg x = none) (T : Al K mg) (Cc : Cs K mg) : OkG P w K mg base 5 "_law_is_right" "_law_is_right" s_law_is_right [] ["_law_plan_here", "_law_some", "_law_every"] (g_law_is_right w) := by
  obtain ⟨f, fd, D, m⟩ := T.F_law_is_right
  obtain ⟨f_law_common, fd_law_common, D_law_common, m_law_common, G_law_common⟩ := ok_law_common (P := P) (w := w) (base := base) hf T Cc
  obtain ⟨f_law_same, fd_law_same, D_law_same, m_law_same, G_law_same⟩ := ok_law_same (P := P) (w := w) (base := base) hf T Cc
  obtain ⟨f_how_many_orders, fd_how_many_orders, D_how_many_orders, m_how_many_orders, G_how_many_orders⟩ := ok_how_many_orders (P := P) (w := w) (base := base) hf T Cc
  obtain ⟨f_share_of_orders, fd_share_of_orders, D_share_of_orders, m_share_of_orders, G_share_of_orders⟩ := ok_share_of_orders (P := P) (w := w) (base := base) hf T Cc
  refine ⟨f, fd, D, m, fg_of (CX := CX0) (k := 4) (N := ["_law_plan_here", "_law_some", "_law_every", "_law_many", "_law_common_here", "_law_due", "_law_got", "_law_one"]) (b := b_law_is_right w) D sc_law_is_right (fun cdv A outer s H E hr hg F => PSs.nox ?_)⟩
  have c : Ctx (cxOf CX0 P w K mg base ["_law_plan_here", "_law_some", "_law_every", "_law_many", "_law_common_here", "_law_due", "_law_got", "_law_one"] "_law_is_right" (defScope s_law_is_right) f cdv A outer s H E).nox := ctx_of sc_law_is_right.nd hf hr hg
  exact gss_cons (gs_asg 3 (c) (ge_len (c) (go_of (ge_lc [("_law_got", 6)] (c) (gi_of (ge_var 2)) (fun _ _ _ _ _ => gg_name 6 ((c).blk _ _ _ _ _)) (fun _ _ _ _ _ => gc_one (gt_eq ((c).blk _ _ _ _ _) (go_of (ge_lc [("_law_one", 7)] ((c).blk _ _ _ _ _) (gi_of (ge_var 1)) (fun _ _ _ _ _ => gg_name 7 (((c).blk _ _ _ _ _).blk _ _ _ _ _)) (fun _ _ _ _ _ => gc_one (gt_nin (((c).blk _ _ _ _ _).blk _ _ _ _ _) (go_var 7) (go_var 6))) (fun _ _ _ _ _ => ge_var 7))) (go_of (ge_lst (gds_nil))))) (fun _ _ _ _ _ => ge_var 6)))))
      (gss_cons (gs_asg 4 (c) (ge_call (c) G_law_common (hr.mono (by decide)) m_law_common D_law_common.kp (D_law_common.bindsN (fun _ _ _ _ _ _ us hl => match us, hl with | [_, _], _ => rfl)) (gvs_cons (ge_var 3) (gvs_cons (ge_len (c) (go_var 2)) (gvs_nil)))))
      (gss_cons (gs_asg 5 (c) (ge_lst (gds_cons (ge_var 3) (gds_cons (ge_tup (gds_cons (ge_fdiv (go_var 3) (go_var 4)) (gds_cons (ge_fdiv (go_of (ge_len (c) (go_var 2))) (go_var 4)) (gds_nil)))) (gds_nil)))))
      (gss_cons (gs_if (gt_not (gt_val (ge_call (c) G_law_same (hr.mono (by decide)) m_law_same D_law_same.kp (D_law_same.bindsN (fun _ _ _ _ _ _ us hl => match us, hl with | [_, _], _ => rfl)) (gvs_cons (ge_lst (gds_cons (ge_call (c) G_how_many_orders (hr.mono (by decide)) m_how_many_orders D_how_many_orders.kp (D_how_many_orders.bindsN (fun _ _ _ _ _ _ us hl => match us, hl with | [_, _], _ => rfl)) (gvs_cons (ge_var 0) (gvs_cons (ge_var 1) (gvs_nil)))) (gds_cons (ge_call (c) G_share_of_orders (hr.mono (by decide)) m_share_of_orders D_share_of_orders.kp (D_share_of_orders.bindsN (fun _ _ _ _ _ _ us hl => match us, hl with | [_, _], _ => rfl)) (gvs_cons (ge_var 0) (gvs_cons (ge_var 1) (gvs_nil)))) (gds_nil)))) (gvs_cons (ge_var 5) (gvs_nil)))))) (gss_cons (gs_ret (ge_bl))
      (gss_nil)) (gss_nil))
      (gss_cons (gs_ret (ge_call (c) G_law_same (hr.mono (by decide)) m_law_same D_law_same.kp (D_law_same.bindsN (fun _ _ _ _ _ _ us hl => match us, hl with | [_, _], _ => rfl)) (gvs_cons (ge_lst (gds_cons (ge_callK [1, 0] (c) G_how_many_orders (hr.mono (by decide)) m_how_many_orders D_how_many_orders.kp (kbn_of (ks := ["choice", "book"]) (n := 0) D_how_many_orders [1, 0] (fun _ _ _ _ _ _ us ws h1 h2 => match us, ws, h1, h2 with | [], [_, _], _, _ => rfl)) (gks_cons (ge_var 1) (gks_cons (ge_var 0) (gks_nil)))) (gds_cons (ge_callK [1, 0] (c) G_share_of_orders (hr.mono (by decide)) m_share_of_orders D_share_of_orders.kp (kbn_of (ks := ["choice", "book"]) (n := 0) D_share_of_orders [1, 0] (fun _ _ _ _ _ _ us ws h1 h2 => match us, ws, h1, h2 with | [], [_, _], _, _ => rfl)) (gks_cons (ge_var 1) (gks_cons (ge_var 0) (gks_nil)))) (gds_nil)))) (gvs_cons (ge_var 5) (gvs_nil)))))
      (gss_nil)))))
theorem sc_law_editions : FnScope ["_law_feed_here", "_law_many", "_law_found", "_law_lap", "_law_fields", "_law_one"] ["_law_feed_here", "_law_many"] (defScope s_law_editions) := ⟨rfl, rfl, rfl, by decide +kernel, rfl, by decide +kernel, by decide +kernel⟩
theorem ok_law_editions (hf : ∀ x ∈ blts, mg x = none) (T : Al K mg) (Cc : Cs K mg) : OkG P w K mg base 2 "_law_editions" "_law_editions" s_law_editions [] ["_law_feed_here", "_law_many"] g_law_editions := by
  obtain ⟨f, fd, D, m⟩ := T.F_law_editions
  obtain ⟨f_law_draw, fd_law_draw, D_law_draw, m_law_draw, G_law_draw⟩ := ok_law_draw (P := P) (w := w) (base := base) hf T Cc
  refine ⟨f, fd, D, m, fg_of (CX := CX0) (k := 1) (N := ["_law_feed_here", "_law_many", "_law_found", "_law_lap", "_law_fields", "_law_one"]) (b := b_law_editions) D sc_law_editions (fun cdv A outer s H E hr hg F => PSs.nox ?_)⟩
  have c : Ctx (cxOf CX0 P w K mg base ["_law_feed_here", "_law_many", "_law_found", "_law_lap", "_law_fields", "_law_one"] "_law_editions" (defScope s_law_editions) f cdv A outer s H E).nox := ctx_of sc_law_editions.nd hf hr hg
  exact gss_cons (gs_asg 2 (c) (ge_lst (gds_nil)))
      (gss_cons (gs_for (c) PassesOwn.never (gi_rng1 (c) (ge_var 1)) (gg_name 3 (c)) (gss_cons (gs_asgLc 4 [("_law_one", 5)] (c) (gi_of (ge_lst (gds_cons (ge_str) (gds_cons (ge_str) (gds_nil))))) (fun _ _ _ _ _ => gg_name 5 ((c).blk _ _ _ _ _)) (fun _ _ _ _ _ => gc_one (gt_eq ((c).blk _ _ _ _ _) (go_of (ge_call ((c).blk _ _ _ _ _) G_law_draw (hr.mono (by decide)) m_law_draw D_law_draw.kp (D_law_draw.bindsN (fun _ _ _ _ _ _ us hl => match us, hl with | [_, _], _ => rfl)) (gvs_cons (ge_var 0) (gvs_cons (ge_num) (gvs_nil))))) (go_of (ge_num)))) (fun _ _ _ _ _ => ge_var 5))
      (gss_cons (gs_app 2 (ge_tuple (c) (go_of (ge_lc [("_law_one", 5)] (c) (gi_of (ge_var 4)) (fun _ _ _ _ _ => gg_name 5 ((c).blk _ _ _ _ _)) (fun _ _ _ _ _ => gc_none) (fun _ _ _ _ _ => ge_tup (gds_cons (ge_var 5) (gds_cons (ge_call ((c).blk _ _ _ _ _) G_law_draw (hr.mono (by decide)) m_law_draw D_law_draw.kp (D_law_draw.bindsN (fun _ _ _ _ _ _ us hl => match us, hl with | [_, _], _ => rfl)) (gvs_cons (ge_var 0) (gvs_cons (ge_num) (gvs_nil)))) (gds_nil))))))))
      (gss_nil))))
      (gss_cons (gs_ret (ge_tuple (c) (go_var 2)))
      (gss_nil)))
theorem sc_law_names : FnScope ["_law_feed_here", "_law_pools"] ["_law_feed_here"] (defScope s_law_names) := ⟨rfl, rfl, rfl, by decide +kernel, rfl, by decide +kernel, by decide +kernel⟩
theorem ok_law_names (hf : ∀ x ∈ blts, mg x = none) (T : Al K mg) (Cc : Cs K mg) : OkG P w K mg base 3 "_law_names" "_law_names" s_law_names [] ["_law_feed_here"] g_law_names := by
  obtain ⟨f, fd, D, m⟩ := T.F_law_names
  obtain ⟨f_law_pick, fd_law_pick, D_law_pick, m_law_pick, G_law_pick⟩ := ok_law_pick (P := P) (w := w) (base := base) hf T Cc
  refine ⟨f, fd, D, m, fg_of (CX := CX0) (k := 2) (N := ["_law_feed_here", "_law_pools"]) (b := b_law_names) D sc_law_names (fun cdv A outer s H E hr hg F => PSs.nox ?_)⟩
  have c : Ctx (cxOf CX0 P w K mg base ["_law_feed_here", "_law_pools"] "_law_names" (defScope s_law_names) f cdv A outer s H E).nox := ctx_of sc_law_names.nd hf hr hg
  exact gss_cons (gs_asg 1 (c) (ge_lst (gds_cons (ge_lst (gds_cons (ge_str) (gds_cons (ge_str) (gds_cons (ge_str) (gds_cons (ge_str) (gds_cons (ge_str) (gds_nil))))))) (gds_cons (ge_lst (gds_cons (ge_str) (gds_cons (ge_str) (gds_cons (ge_str) (gds_cons (ge_str) (gds_cons (ge_str) (gds_nil))))))) (gds_nil)))))
      (gss_cons (gs_asg 1 (c) (ge_add (go_var 1) (go_of (ge_lst (gds_cons (ge_lst (gds_cons (ge_str) (gds_cons (ge_str) (gds_cons (ge_str) (gds_cons (ge_str) (gds_cons (ge_str) (gds_nil))))))) (gds_cons (ge_lst (gds_cons (ge_str) (gds_cons (ge_str) (gds_cons (ge_str) (gds_cons (ge_str) (gds_cons (ge_str) (gds_nil))))))) (gds_nil)))))))
      (gss_cons (gs_ret (ge_call (c) G_law_pick (hr.mono (by decide)) m_law_pick D_law_pick.kp (D_law_pick.bindsN (fun _ _ _ _ _ _ us hl => match us, hl with | [_, _], _ => rfl)) (gvs_cons (ge_var 0) (gvs_cons (ge_add (go_var 1) (go_of (ge_lst (gds_cons (ge_lst (gds_cons (ge_str) (gds_cons (ge_str) (gds_cons (ge_str) (gds_cons (ge_str) (gds_cons (ge_str) (gds_nil))))))) (gds_nil))))) (gvs_nil)))))
      (gss_nil)))
theorem sc_law_range : FnScope ["_law_feed_here", "_law_many", "_law_way", "_law_low", "_law_some", "_law_k"] ["_law_feed_here", "_law_many"] (defScope s_law_range) := ⟨rfl, rfl, rfl, by decide +kernel, rfl, by decide +kernel, by decide +kernel⟩
theorem ok_law_range (hf : ∀ x ∈ blts, mg x = none) (T : Al K mg) (Cc : Cs K mg) : OkG P w K mg base 2 "_law_range" "_law_range" s_law_range [] ["_law_feed_here", "_law_many"] g_law_range := by
  obtain ⟨f, fd, D, m⟩ := T.F_law_range
  obtain ⟨f_law_draw, fd_law_draw, D_law_draw, m_law_draw, G_law_draw⟩ := ok_law_draw (P := P) (w := w) (base := base) hf T Cc
  refine ⟨f, fd, D, m, fg_of (CX := CX0) (k := 1) (N := ["_law_feed_here", "_law_many", "_law_way", "_law_low", "_law_some", "_law_k"]) (b := b_law_range) D sc_law_range (fun cdv A outer s H E hr hg F => PSs.nox ?_)⟩
  have c : Ctx (cxOf CX0 P w K mg base ["_law_feed_here", "_law_many", "_law_way", "_law_low", "_law_some", "_law_k"] "_law_range" (defScope s_law_range) f cdv A outer s H E).nox := ctx_of sc_law_range.nd hf hr hg
  exact gss_cons (gs_asg 2 (c) (ge_call (c) G_law_draw (hr.mono (by decide)) m_law_draw D_law_draw.kp (D_law_draw.bindsN (fun _ _ _ _ _ _ us hl => match us, hl with | [_, _], _ => rfl)) (gvs_cons (ge_var 0) (gvs_cons (ge_num) (gvs_nil)))))
      (gss_cons (gs_asg 3 (c) (ge_call (c) G_law_draw (hr.mono (by decide)) m_law_draw D_law_draw.kp (D_law_draw.bindsN (fun _ _ _ _ _ _ us hl => match us, hl with | [_, _], _ => rfl)) (gvs_cons (ge_var 0) (gvs_cons (ge_var 1) (gvs_nil)))))
      (gss_cons (gs_if (gt_eq (c) (go_var 2) (go_of (ge_num))) (gss_cons (gs_ret (ge_tup (gds_cons (ge_var 3) (gds_nil))))
      (gss_nil)) (gss_nil))
      (gss_cons (gs_if (gt_eq (c) (go_var 2) (go_of (ge_num))) (gss_cons (gs_ret (ge_tupRg2 (c) (ge_var 3) (ge_add (go_of (ge_add (go_var 3) (go_of (ge_num)))) (go_of (ge_call (c) G_law_draw (hr.mono (by decide)) m_law_draw D_law_draw.kp (D_law_draw.bindsN (fun _ _ _ _ _ _ us hl => match us, hl with | [_, _], _ => rfl)) (gvs_cons (ge_var 0) (gvs_cons (ge_sub (go_var 1) (go_var 3)) (gvs_nil))))))))
      (gss_nil)) (gss_nil))
      (gss_cons (gs_asg 4 (c) (ge_tuple (c) (go_of (ge_lc [("_law_k", 5)] (c) (gi_rng1 (c) (ge_var 1)) (fun _ _ _ _ _ => gg_name 5 ((c).blk _ _ _ _ _)) (fun _ _ _ _ _ => gc_one (gt_eq ((c).blk _ _ _ _ _) (go_of (ge_call ((c).blk _ _ _ _ _) G_law_draw (hr.mono (by decide)) m_law_draw D_law_draw.kp (D_law_draw.bindsN (fun _ _ _ _ _ _ us hl => match us, hl with | [_, _], _ => rfl)) (gvs_cons (ge_var 0) (gvs_cons (ge_num) (gvs_nil))))) (go_of (ge_num)))) (fun _ _ _ _ _ => ge_var 5)))))
      (gss_cons (gs_ret (ge_ife (gt_ne (c) (go_var 4) (go_of (ge_tup (gds_nil)))) (ge_var 4) (ge_tup (gds_cons (ge_var 3) (gds_nil)))))
      (gss_nil))))))
theorem sc_law_plan : FnScope ["_law_feed_here", "_law_most", "_law_rooms", "_law_many", "_law_names_here", "_law_kept", "_law_rows", "_law_ends", "_law_way", "_law_k", "_law_label", "_law_own", "_law_one", "_law_two"] ["_law_feed_here", "_law_most", "_law_rooms"] (defScope s_law_plan) := ⟨rfl, rfl, rfl, by decide +kernel, rfl, by decide +kernel, by decide +kernel⟩
theorem ok_law_plan (hf : ∀ x ∈ blts, mg x = none) (T : Al K mg) (Cc : Cs K mg) : OkG P w K mg base 4 "_law_plan" "_law_plan" s_law_plan [] ["_law_feed_here", "_law_most", "_law_rooms"] g_law_plan := by
  obtain ⟨f, fd, D, m⟩ := T.F_law_plan
  obtain ⟨f_law_draw, fd_law_draw, D_law_draw, m_law_draw, G_law_draw⟩ := ok_law_draw (P := P) (w := w) (base := base) hf T Cc
  obtain ⟨f_law_editions, fd_law_editions, D_law_editions, m_law_editions, G_law_editions⟩ := ok_law_editions (P := P) (w := w) (base := base) hf T Cc
  obtain ⟨f_law_names, fd_law_names, D_law_names, m_law_names, G_law_names⟩ := ok_law_names (P := P) (w := w) (base := base) hf T Cc
  obtain ⟨f_law_pick, fd_law_pick, D_law_pick, m_law_pick, G_law_pick⟩ := ok_law_pick (P := P) (w := w) (base := base) hf T Cc
  obtain ⟨f_law_range, fd_law_range, D_law_range, m_law_range, G_law_range⟩ := ok_law_range (P := P) (w := w) (base := base) hf T Cc
  refine ⟨f, fd, D, m, fg_of (CX := CX0) (k := 3) (N := ["_law_feed_here", "_law_most", "_law_rooms", "_law_many", "_law_names_here", "_law_kept", "_law_rows", "_law_ends", "_law_way", "_law_k", "_law_label", "_law_own", "_law_one", "_law_two"]) (b := b_law_plan) D sc_law_plan (fun cdv A outer s H E hr hg F => PSs.nox ?_)⟩
  have c : Ctx (cxOf CX0 P w K mg base ["_law_feed_here", "_law_most", "_law_rooms", "_law_many", "_law_names_here", "_law_kept", "_law_rows", "_law_ends", "_law_way", "_law_k", "_law_label", "_law_own", "_law_one", "_law_two"] "_law_plan" (defScope s_law_plan) f cdv A outer s H E).nox := ctx_of sc_law_plan.nd hf hr hg
  exact gss_cons (gs_par2 4 8 (c) (gus_cons (ge_call (c) G_law_names (hr.mono (by decide)) m_law_names D_law_names.kp (D_law_names.bindsN (fun _ _ _ _ _ _ us hl => match us, hl with | [_], _ => rfl)) (gvs_cons (ge_var 0) (gvs_nil))) (gus_cons (ge_call (c) G_law_draw (hr.mono (by decide)) m_law_draw D_law_draw.kp (D_law_draw.bindsN (fun _ _ _ _ _ _ us hl => match us, hl with | [_, _], _ => rfl)) (gvs_cons (ge_var 0) (gvs_cons (ge_num) (gvs_nil)))) (gus_nil))))
      (gss_cons (gs_asg 3 (c) (ge_min (c) (go_var 1) (go_of (ge_idx (c) (go_of (ge_lst (gds_cons (ge_num) (gds_cons (ge_num) (gds_cons (ge_num) (gds_cons (ge_num) (gds_cons (ge_num) (gds_cons (ge_num) (gds_cons (ge_num) (gds_cons (ge_num) (gds_nil))))))))))) (go_of (ge_call (c) G_law_draw (hr.mono (by decide)) m_law_draw D_law_draw.kp (D_law_draw.bindsN (fun _ _ _ _ _ _ us hl => match us, hl with | [_, _], _ => rfl)) (gvs_cons (ge_var 0) (gvs_cons (ge_num) (gvs_nil)))))))))
      (gss_cons (gs_asg 4 (c) (ge_slc (go_var 4) (gp_some (ge_call (c) G_law_draw (hr.mono (by decide)) m_law_draw D_law_draw.kp (D_law_draw.bindsN (fun _ _ _ _ _ _ us hl => match us, hl with | [_, _], _ => rfl)) (gvs_cons (ge_var 0) (gvs_cons (ge_sub (go_of (ge_num)) (go_var 2)) (gvs_nil))))) (gp_none)))
      (gss_cons (gs_asg 5 (c) (ge_slc (go_var 4) (gp_none) (gp_some (ge_idx (c) (go_of (ge_lst (gds_cons (ge_var 2) (gds_cons (ge_var 2) (gds_cons (ge_sub (go_var 2) (go_of (ge_num))) (gds_cons (ge_call (c) G_law_draw (hr.mono (by decide)) m_law_draw D_law_draw.kp (D_law_draw.bindsN (fun _ _ _ _ _ _ us hl => match us, hl with | [_, _], _ => rfl)) (gvs_cons (ge_var 0) (gvs_cons (ge_add (go_var 2) (go_of (ge_num))) (gvs_nil)))) (gds_nil))))))) (go_of (ge_call (c) G_law_draw (hr.mono (by decide)) m_law_draw D_law_draw.kp (D_law_draw.bindsN (fun _ _ _ _ _ _ us hl => match us, hl with | [_, _], _ => rfl)) (gvs_cons (ge_var 0) (gvs_cons (ge_num) (gvs_nil)))))))))
      (gss_cons (gs_asg 6 (c) (ge_lst (gds_nil)))
      (gss_cons (gs_for (c) PassesOwn.never (gi_enu (c) (ge_var 5)) (gg_tup (c) (ggs_cons (gg_name 9 (c)) (ggs_cons (gg_name 10 (c)) (ggs_nil)))) (gss_cons (gs_asg 11 (c) (ge_call (c) G_law_range (hr.mono (by decide)) m_law_range D_law_range.kp (D_law_range.bindsN (fun _ _ _ _ _ _ us hl => match us, hl with | [_, _], _ => rfl)) (gvs_cons (ge_var 0) (gvs_cons (ge_var 3) (gvs_nil)))))
      (gss_cons (gs_if (gt_eq (c) (go_var 8) (go_of (ge_num))) (gss_cons (gs_asg 11 (c) (ge_tuple (c) (go_of (ge_srt (c) (go_of (ge_lst (gds_cons (ge_mod (go_of (ge_int (c) (go_var 9))) (go_var 3)) (gds_cons (ge_mod (go_of (ge_int (c) (go_of (ge_add (go_var 9) (go_of (ge_num)))))) (go_var 3)) (gds_nil)))))))))
      (gss_nil)) (gss_nil))
      (gss_cons (gs_if (gt_eq (c) (go_var 8) (go_of (ge_num))) (gss_cons (gs_asg 11 (c) (ge_tupRg2 (c) (ge_idx (c) (go_var 11) (go_of (ge_num))) (ge_add (go_of (ge_idx (c) (go_var 11) (go_of (ge_neg (go_of (ge_num)))))) (go_of (ge_num)))))
      (gss_nil)) (gss_nil))
      (gss_cons (gs_app 6 (ge_tup (gds_cons (ge_var 10) (gds_cons (ge_var 11) (gds_cons (ge_call (c) G_law_pick (hr.mono (by decide)) m_law_pick D_law_pick.kp (D_law_pick.bindsN (fun _ _ _ _ _ _ us hl => match us, hl with | [_, _], _ => rfl)) (gvs_cons (ge_var 0) (gvs_cons (ge_lst (gds_cons (ge_str) (gds_cons (ge_str) (gds_cons (ge_str) (gds_nil))))) (gvs_nil)))) (gds_nil))))))
      (gss_nil))))))
      (gss_cons (gs_asgLc 7 [("_law_one", 12), ("_law_two", 13)] (c) (gi_zip (c) (ge_var 6) (ge_slc (go_var 6) (gp_some (ge_num)) (gp_none))) (fun _ _ _ _ _ => gg_tup ((c).blk _ _ _ _ _) (ggs_cons (gg_name 12 ((c).blk _ _ _ _ _)) (ggs_cons (gg_name 13 ((c).blk _ _ _ _ _)) (ggs_nil)))) (fun _ _ _ _ _ => gc_none) (fun _ _ _ _ _ => ge_tup (gds_cons (ge_idx ((c).blk _ _ _ _ _) (go_var 12) (go_of (ge_num))) (gds_cons (ge_idx ((c).blk _ _ _ _ _) (go_var 13) (go_of (ge_num))) (gds_cons (ge_call ((c).blk _ _ _ _ _) G_law_pick (hr.mono (by decide)) m_law_pick D_law_pick.kp (D_law_pick.bindsN (fun _ _ _ _ _ _ us hl => match us, hl with | [_, _], _ => rfl)) (gvs_cons (ge_var 0) (gvs_cons (ge_lst (gds_cons (ge_str) (gds_cons (ge_str) (gds_nil)))) (gvs_nil)))) (gds_nil))))))
      (gss_cons (gs_ret (ge_tup (gds_cons (ge_call (c) G_law_editions (hr.mono (by decide)) m_law_editions D_law_editions.kp (D_law_editions.bindsN (fun _ _ _ _ _ _ us hl => match us, hl with | [_, _], _ => rfl)) (gvs_cons (ge_var 0) (gvs_cons (ge_var 3) (gvs_nil)))) (gds_cons (ge_tuple (c) (go_var 6)) (gds_cons (ge_tuple (c) (go_of (ge_slc (go_var 7) (gp_none) (gp_some (ge_call (c) G_law_draw (hr.mono (by decide)) m_law_draw D_law_draw.kp (D_law_draw.bindsN (fun _ _ _ _ _ _ us hl => match us, hl with | [_, _], _ => rfl)) (gvs_cons (ge_var 0) (gvs_cons (ge_num) (gvs_nil)))))))) (gds_nil))))))
      (gss_nil))))))))
theorem sc_law : FnScope ["_law_script", "_law_feed_here", "_law_lap", "_law_plan_here", "_law_every", "_law_turn", "_law_turns_here"] ["_law_script"] (defScope s_law) := ⟨rfl, rfl, rfl, by decide +kernel, rfl, by decide +kernel, by decide +kernel⟩
theorem ok_law (hf : ∀ x ∈ blts, mg x = none) (T : Al K mg) (Cc : Cs K mg) : ∃ f fd, mg "law" = some (.ref f) ∧ (∀ (s : Shared) (v : Value), BindsTo s fd ⟨[v], []⟩ [("_law_script", v)]) ∧ ∀ base : Heap, FG P w K mg base CX0 6 f fd ["_law_script"] (spLaw K 7 1 e_law (b_law w)) := by
  obtain ⟨f, fd, D, m⟩ := T.F_law
  refine ⟨f, fd, m, fun s v => FunD.bindsA (ps := ["_law_script"]) D (fun _ _ _ _ _ _ us hl => match us, hl with | [_], _ => rfl) s [v] rfl, fun base => ?_⟩
  obtain ⟨f_law_all_turns, fd_law_all_turns, D_law_all_turns, m_law_all_turns, G_law_all_turns⟩ := ok_law_all_turns (P := P) (w := w) (base := base) hf T Cc
  obtain ⟨f_law_by_hand, fd_law_by_hand, D_law_by_hand, m_law_by_hand, G_law_by_hand⟩ := ok_law_by_hand (P := P) (w := w) (base := base) hf T Cc
  obtain ⟨f_law_by_turns, fd_law_by_turns, D_law_by_turns, m_law_by_turns, G_law_by_turns⟩ := ok_law_by_turns (P := P) (w := w) (base := base) hf T Cc
  obtain ⟨f_law_chosen, fd_law_chosen, D_law_chosen, m_law_chosen, G_law_chosen⟩ := ok_law_chosen (P := P) (w := w) (base := base) hf T Cc
  obtain ⟨f_law_feed, fd_law_feed, D_law_feed, m_law_feed, G_law_feed⟩ := ok_law_feed (P := P) (w := w) (base := base) hf T Cc
  obtain ⟨f_law_is_right, fd_law_is_right, D_law_is_right, m_law_is_right, G_law_is_right⟩ := ok_law_is_right (P := P) (w := w) (base := base) hf T Cc
  obtain ⟨f_law_plan, fd_law_plan, D_law_plan, m_law_plan, G_law_plan⟩ := ok_law_plan (P := P) (w := w) (base := base) hf T Cc
  refine fg_law (CX := CX0) (k := 5) (N := ["_law_script", "_law_feed_here", "_law_lap", "_law_plan_here", "_law_every", "_law_turn", "_law_turns_here"]) (e := e_law) (i := 1) (rest := b_law w) D sc_law rfl (fun cdv A outer s H E hr hg => ?_) (fun cdv A outer s H E hr hg F => ?_)
  · have c : Ctx (cxOf CX0 P w K mg base ["_law_script", "_law_feed_here", "_law_lap", "_law_plan_here", "_law_every", "_law_turn", "_law_turns_here"] "law" (defScope s_law) f cdv A outer s H E).nox := ctx_of sc_law.nd hf hr hg
    exact gs_asg 1 (c) (ge_call (c) G_law_feed (hr.mono (by decide)) m_law_feed D_law_feed.kp (D_law_feed.bindsN (fun _ _ _ _ _ _ us hl => match us, hl with | [_], _ => rfl)) (gvs_cons (ge_var 0) (gvs_nil)))
  · have c : Ctx (cxOf CX0 P w K mg base ["_law_script", "_law_feed_here", "_law_lap", "_law_plan_here", "_law_every", "_law_turn", "_law_turns_here"] "law" (defScope s_law) f cdv A outer s H E).nox := ctx_of sc_law.nd hf hr hg
    exact gss_cons (gs_if (gt_not (gt_val (ge_call0 (c) G_law_by_hand (hr.mono (by decide)) m_law_by_hand D_law_by_hand.kp (D_law_by_hand.bindsN (fun _ _ _ _ _ _ us hl => match us, hl with | [], _ => rfl))))) (gss_cons (gs_ret (ge_bl))
      (gss_nil)) (gss_nil))
      (gss_cons (gs_for (c) PassesOwn.never (gi_rng1 (c) (ge_num)) (gg_name 2 (c)) (gss_cons (gs_asg 3 (c) (ge_call (c) G_law_plan (hr.mono (by decide)) m_law_plan D_law_plan.kp (D_law_plan.bindsN (fun _ _ _ _ _ _ us hl => match us, hl with | [_, _, _], _ => rfl)) (gvs_cons (ge_var 1) (gvs_cons (ge_num) (gvs_cons (ge_num) (gvs_nil))))))
      (gss_cons (gs_asgLc 4 [("_law_turns_here", 6)] (c) (gi_of (ge_call (c) G_law_all_turns (hr.mono (by decide)) m_law_all_turns D_law_all_turns.kp (D_law_all_turns.bindsN (fun _ _ _ _ _ _ us hl => match us, hl with | [_], _ => rfl)) (gvs_cons (ge_len (c) (go_of (ge_idx (c) (go_var 3) (go_of (ge_num))))) (gvs_nil)))) (fun _ _ _ _ _ => gg_name 6 ((c).blk _ _ _ _ _)) (fun _ _ _ _ _ => gc_none) (fun _ _ _ _ _ => ge_call ((c).blk _ _ _ _ _) G_law_by_turns (hr.mono (by decide)) m_law_by_turns D_law_by_turns.kp (D_law_by_turns.bindsN (fun _ _ _ _ _ _ us hl => match us, hl with | [_, _], _ => rfl)) (gvs_cons (ge_var 3) (gvs_cons (ge_var 6) (gvs_nil)))))
      (gss_cons (gs_for (c) PassesOwn.never (gi_rng1 (c) (ge_num)) (gg_name 5 (c)) (gss_cons (gs_if (gt_not (gt_val (ge_call (c) G_law_is_right (hr.mono (by decide)) m_law_is_right D_law_is_right.kp (D_law_is_right.bindsN (fun _ _ _ _ _ _ us hl => match us, hl with | [_, _, _], _ => rfl)) (gvs_cons (ge_var 3) (gvs_cons (ge_call (c) G_law_chosen (hr.mono (by decide)) m_law_chosen D_law_chosen.kp (D_law_chosen.bindsN (fun _ _ _ _ _ _ us hl => match us, hl with | [_, _], _ => rfl)) (gvs_cons (ge_var 1) (gvs_cons (ge_var 3) (gvs_nil)))) (gvs_cons (ge_var 4) (gvs_nil))))))) (gss_cons (gs_ret (ge_bl))
      (gss_nil)) (gss_nil))
      (gss_nil)))
      (gss_cons (gs_if (gt_not (gt_val (ge_call (c) G_law_is_right (hr.mono (by decide)) m_law_is_right D_law_is_right.kp (D_law_is_right.bindsN (fun _ _ _ _ _ _ us hl => match us, hl with | [_, _, _], _ => rfl)) (gvs_cons (ge_var 3) (gvs_cons (ge_tup (gds_nil)) (gvs_cons (ge_var 4) (gvs_nil))))))) (gss_cons (gs_ret (ge_bl))
      (gss_nil)) (gss_nil))
      (gss_nil))))))
      (gss_cons (gs_ret (ge_bl))
      (gss_nil)))
end
def fn : List He.DefD := [dOfG "_law_all_turns" "_law_all_turns" s_law_all_turns [], dOfG "_law_round_plan" "_law_round_plan" s_law_round_plan [], dOfG "_law_same" "_law_same" s_law_same [], dOfG "is_name" "is_name" s_is_name [], dOfG "ranges_of" "ranges_of" s_ranges_of [], dOfG "is_name_of" "is_name_of" s_is_name_of [], dOfG "is_integer" "is_integer" s_is_integer [], dOfG "is_number" "is_number" s_is_number [], dOfG "is_choice_of" "is_choice_of" s_is_choice_of [], dOfG "can_follow" "can_follow" s_can_follow [], dOfG "orders_of" "orders_of" s_orders_of [], dOfG "want" "want" s_want [], dOfG "how_many_orders" "how_many_orders" s_how_many_orders [], dOfG "share_of_orders" "share_of_orders" s_share_of_orders [], dOfG "_law_by_hand" "_law_by_hand" s_law_by_hand [], dOfG "_law_by_turns" "_law_by_turns" s_law_by_turns [], dOfG "_law_draw" "_law_draw" s_law_draw [], dOfG "_law_pick" "_law_pick" s_law_pick [], dOfG "_law_turns" "_law_turns" s_law_turns [], dOfG "_law_chosen" "_law_chosen" s_law_chosen [], dOfG "_law_feed" "_law_feed" s_law_feed [], dOfG "_law_common" "_law_common" s_law_common [], dOfG "_law_is_right" "_law_is_right" s_law_is_right [], dOfG "_law_editions" "_law_editions" s_law_editions [], dOfG "_law_names" "_law_names" s_law_names [], dOfG "_law_range" "_law_range" s_law_range [], dOfG "_law_plan" "_law_plan" s_law_plan [], dOfG "law" "law" s_law []]
def fa : List He.Fa := [.glo "_law_all_turns", .glo "_law_round_plan", .glo "_law_same", .glo "is_name", .glo "ranges_of", .glo "is_name_of", .glo "is_integer", .glo "is_number", .glo "is_choice_of", .glo "can_follow", .glo "orders_of", .glo "want", .glo "how_many_orders", .glo "share_of_orders", .glo "_law_by_hand", .glo "_law_by_turns", .glo "_law_draw", .glo "_law_pick", .glo "_law_turns", .glo "_law_chosen", .glo "_law_feed", .glo "_law_common", .glo "_law_is_right", .glo "_law_editions", .glo "_law_names", .glo "_law_range", .glo "_law_plan", .glo "law", .free "len", .free "tuple", .free "list", .free "sorted", .free "set", .free "int", .free "str", .free "repr", .free "all", .free "any", .free "sum", .free "min", .free "max", .free "range", .free "enumerate", .free "zip", .free "isinstance", .free "bool", .free "dict", .str "LOWERCASE" "abcdefghijklmnopqrstuvwxyz", .int "MOST_LETTERS" 8]
def tb : List Tb := []
abbrev R : PySem.W.OpenRow := PySem.W.OpenLaw.row PySem.Challenge.rw_firstbrought_k27_orders_counted
abbrev hk : PySem.W.Hook := hookX 4 fa tb fn
def ob (s : PySem.W.SharedT) : He.AlD := obsXG 4 fa tb fn (HandSHeadRun.getT s)
theorem ob_eq (s : PySem.W.SharedT) : ob s = hk.obs s.abs := obsXG_eq (HandSHeadRun.getT_eq s)
def loose0 : List Str := ["BringError", "BookError", "NotUsable", "LOWERCASE", "MOST_LETTERS", "is_integer", "is_number", "is_name", "want", "ranges_of", "is_name_of", "is_choice_of", "can_follow", "orders_of", "how_many_orders", "share_of_orders", "_law_feed", "_law_draw", "_law_pick", "_law_same", "_law_names", "_law_range", "_law_editions", "_law_plan", "_law_by_turns"]
def loose1 : List Str := ["_law_all_turns", "_law_turns", "_law_chosen", "_law_round_plan", "_law_common", "_law_is_right", "_law_by_hand"]
def loose : List Str := loose0 ++ loose1
def law_at : Nat := 37
theorem run (w : World) : HandSHeadRun.RunEq R (PySem.W.view R.prog [37]) hk ob 3000 loose w := by
  intro os
  kernel_rfl
theorem all_of {K : PySem.W.Frag} {h : Heap} {mg : Str → Option Value} (X : K.In h) (G : h.Ns mainGlobals mg) (cx : SaysX fa tb fn K) : Al K mg := by
  have c := cx.says
  exact ⟨fctG_of X G c 0 0 rfl rfl, fctG_of X G c 1 1 rfl rfl, fctG_of X G c 2 2 rfl rfl, fctG_of X G c 3 3 rfl rfl, fctG_of X G c 4 4 rfl rfl, fctG_of X G c 5 5 rfl rfl, fctG_of X G c 6 6 rfl rfl, fctG_of X G c 7 7 rfl rfl, fctG_of X G c 8 8 rfl rfl, fctG_of X G c 9 9 rfl rfl, fctG_of X G c 10 10 rfl rfl, fctG_of X G c 11 11 rfl rfl, fctG_of X G c 12 12 rfl rfl, fctG_of X G c 13 13 rfl rfl, fctG_of X G c 14 14 rfl rfl, fctG_of X G c 15 15 rfl rfl, fctG_of X G c 16 16 rfl rfl, fctG_of X G c 17 17 rfl rfl, fctG_of X G c 18 18 rfl rfl, fctG_of X G c 19 19 rfl rfl, fctG_of X G c 20 20 rfl rfl, fctG_of X G c 21 21 rfl rfl, fctG_of X G c 22 22 rfl rfl, fctG_of X G c 23 23 rfl rfl, fctG_of X G c 24 24 rfl rfl, fctG_of X G c 25 25 rfl rfl, fctG_of X G c 26 26 rfl rfl, fctG_of X G c 27 27 rfl rfl⟩
theorem cs_of {K : PySem.W.Frag} {h : Heap} {mg : Str → Option Value} (X : K.In h) (G : h.Ns mainGlobals mg) (cx : SaysX fa tb fn K) : Cs K mg := by
  have c := cx.says
  exact ⟨He.str_ok X G (c.fact 47 rfl), He.int_ok X G (c.fact 48 rfl)⟩
theorem free_of {K : PySem.W.Frag} {h : Heap} {mg : Str → Option Value} (X : K.In h) (G : h.Ns mainGlobals mg) (cx : SaysX fa tb fn K) : ∀ x ∈ blts, mg x = none := by
  have c := cx.says
  unfold blts
  exact (List.forall_mem_cons.mpr ⟨He.free_ok X G (c.fact 28 (f := .free "len") rfl), (List.forall_mem_cons.mpr ⟨He.free_ok X G (c.fact 29 (f := .free "tuple") rfl), (List.forall_mem_cons.mpr ⟨He.free_ok X G (c.fact 30 (f := .free "list") rfl), (List.forall_mem_cons.mpr ⟨He.free_ok X G (c.fact 31 (f := .free "sorted") rfl), (List.forall_mem_cons.mpr ⟨He.free_ok X G (c.fact 32 (f := .free "set") rfl), (List.forall_mem_cons.mpr ⟨He.free_ok X G (c.fact 33 (f := .free "int") rfl), (List.forall_mem_cons.mpr ⟨He.free_ok X G (c.fact 34 (f := .free "str") rfl), (List.forall_mem_cons.mpr ⟨He.free_ok X G (c.fact 35 (f := .free "repr") rfl), (List.forall_mem_cons.mpr ⟨He.free_ok X G (c.fact 36 (f := .free "all") rfl), (List.forall_mem_cons.mpr ⟨He.free_ok X G (c.fact 37 (f := .free "any") rfl), (List.forall_mem_cons.mpr ⟨He.free_ok X G (c.fact 38 (f := .free "sum") rfl), (List.forall_mem_cons.mpr ⟨He.free_ok X G (c.fact 39 (f := .free "min") rfl), (List.forall_mem_cons.mpr ⟨He.free_ok X G (c.fact 40 (f := .free "max") rfl), (List.forall_mem_cons.mpr ⟨He.free_ok X G (c.fact 41 (f := .free "range") rfl), (List.forall_mem_cons.mpr ⟨He.free_ok X G (c.fact 42 (f := .free "enumerate") rfl), (List.forall_mem_cons.mpr ⟨He.free_ok X G (c.fact 43 (f := .free "zip") rfl), (List.forall_mem_cons.mpr ⟨He.free_ok X G (c.fact 44 (f := .free "isinstance") rfl), (List.forall_mem_cons.mpr ⟨He.free_ok X G (c.fact 45 (f := .free "bool") rfl), (List.forall_mem_cons.mpr ⟨He.free_ok X G (c.fact 46 (f := .free "dict") rfl), (fun _ z => nomatch z)⟩)⟩)⟩)⟩)⟩)⟩)⟩)⟩)⟩)⟩)⟩)⟩)⟩)⟩)⟩)⟩)⟩)⟩)⟩)
end K27
section
open PySem PySem.W PySem.Calls PyProof.Rows
theorem K27_holds_of (pure : ∀ (w : World) (ns : List Int), ns.length ≤ 63 → (∀ k ∈ ns, PySem.Builtin.Int.intBits k ≤ 1048576) → ∃ s, Fb.lawGo 7 1 K27.e_law (K27.b_law w) ns = .ok (.ret (.dat (.bool true)), s)) : PySem.Challenge.rw_firstbrought_k27_orders_counted.Holds := by
  w_on; o_law
  refine HandSHeadRun.head_any (r := OpenLaw.row PySem.Challenge.rw_firstbrought_k27_orders_counted) (q := view (OpenLaw.row PySem.Challenge.rw_firstbrought_k27_orders_counted).prog [37]) (H := K27.hk) (ob := K27.ob) (M := 3000) (loose := K27.loose) (d := HandSHeadRun.topDef (OpenLaw.row PySem.Challenge.rw_firstbrought_k27_orders_counted).prog 37) (kwd := []) K27.ob_eq
    (by kernel_rfl) (fun s => by kernel_rfl) K27.run (by kernel_rfl) (by kernel_rfl) (by kernel_rfl) (by rfl) (by first | assumption | decide +kernel) (by decide +kernel) ⟨rfl, rfl, rfl, rfl, rfl, by decide +kernel⟩ ?hw ?hc
  case hw => w_witness2
  case hc =>
    refine Fb.walk_g (l := PySem.Challenge.rw_firstbrought_k27_orders_counted) (n := 63) (k := 6) (x := "_law_script") rfl (by decide) (by kernel_rfl) ⟨rfl, by decide, by decide⟩ ?F
    intro w mg fa h Y G hmg0
    obtain ⟨K, KX, c⟩ := Y
    have hmg : mg ("law" : PySem.Str) = some (.ref fa) := by
      have e : (HandSHeadRun.topDef (OpenLaw.row PySem.Challenge.rw_firstbrought_k27_orders_counted).prog 37).name = ("law" : PySem.Str) := by kernel_rfl
      rw [← e]
      exact hmg0
    have T := K27.all_of KX G c
    have hf := K27.free_of KX G c
    have Cc := K27.cs_of KX G c
    obtain ⟨f0, fd, m0, hb, hF⟩ := K27.ok_law (P := (PySem.Challenge.rw_firstbrought_k27_orders_counted).prog) (w := w) hf T Cc
    have ef := hmg.symm.trans m0
    cases ef
    refine ⟨K, fd, Fb.spLaw K 7 1 K27.e_law (K27.b_law w), KX, hb, fun H a ns hl hbits hS => ?_, fun base _ _ => hF base⟩
    · obtain ⟨s, hs⟩ := pure w ns hl hbits
      exact ⟨a, ns, s, rfl, hS, hs, fun _ => rfl⟩
end

namespace FL
open PySem Fb
noncomputable def b_first_fitting : List Sm := [.for_ (.name 2) (.ofE (.var 0)) [.ife (.o2 .inn (.var 2) (.var 1)) [.retv 2] []], .ret (.non)]
noncomputable def g_first_fitting : Fn := runFn 3 (b_first_fitting)
noncomputable def b_ranges_of : List Sm := [.ret (.dc [1, 2, 3] (.var 1) (.var 2) (.tup [.name 1, .name 2, .name 3]) (.ofE (.o2 .idx (.var 0) (.num 1))) none)]
noncomputable def g_ranges_of : Fn := runFn 4 (b_ranges_of)
noncomputable def b_followed : List Sm := [.asg 2 (.call "ranges_of" g_ranges_of [.var 0] [] []), .par [4, 5] [.lst [], .lst []], .for_ (.name 3) (.ofE (.var 1)) [.asg 6 (.var 3), .ife (.isi (.var 3) "str") [.asg 6 (.pur (.call "first_fitting" g_first_fitting [.var 4, .o2 .idx (.var 2) (.var 3)] [] [])), .asg 6 (.ife (.o2 .isN (.var 6) (.non)) (.o2 .idx (.o2 .idx (.var 2) (.var 3)) (.o1 .neg (.num 1))) (.var 6)), .app 5 (.tup [.var 3, .var 6])] [], .ife (.o2 .nin (.var 6) (.var 4)) [.app 4 (.var 6)] []], .ret (.tup [.var 4, .var 5])]
noncomputable def g_followed : Fn := runFn 7 (b_followed)
noncomputable def b_is_integer : List Sm := [.ret (.and (.isi (.var 0) "int") (.not (.isi (.var 0) "bool")))]
noncomputable def g_is_integer : Fn := runFn 1 (b_is_integer)
noncomputable def b_is_number : List Sm := [.ret (.and (.call "is_integer" g_is_integer [.var 0] [] []) (.o2 .ge (.var 0) (.num 0)))]
noncomputable def g_is_number : Fn := runFn 1 (b_is_number)
noncomputable def b_is_edition_of : List Sm := [.ret (.and (.call "is_number" g_is_number [.var 1] [] []) (.o2 .lt (.var 1) (.o1 .len (.o2 .idx (.var 0) (.num 0)))))]
noncomputable def g_is_edition_of : Fn := runFn 2 (b_is_edition_of)
noncomputable def b_is_name : List Sm := [.ife (.or (.not (.isi (.var 0) "str")) (.not (.chn .le .le (.num 1) (.o1 .len (.var 0)) (.num 8)))) [.ret (.bl false)] [], .ret (.o1 .all (.lc [1] (.o2 .inn (.var 1) (.str "abcdefghijklmnopqrstuvwxyz")) (.name 1) (.ofE (.var 0)) none))]
noncomputable def g_is_name : Fn := runFn 2 (b_is_name)
noncomputable def b_is_name_of : List Sm := [.ret (.and (.call "is_name" g_is_name [.var 1] [] []) (.o2 .inn (.var 1) (.call "ranges_of" g_ranges_of [.var 0] [] [])))]
noncomputable def g_is_name_of : Fn := runFn 2 (b_is_name_of)
noncomputable def b_is_program_of : List Sm := [.ife (.not (.isi (.var 1) "tuple")) [.ret (.bl false)] [], .asg 2 (.lst []), .for_ (.name 3) (.ofE (.var 1)) [.ife (.and (.call "is_name_of" g_is_name_of [.var 0, .var 3] [] []) (.o2 .nin (.var 3) (.var 2))) [.app 2 (.var 3)] [.ife (.not (.call "is_edition_of" g_is_edition_of [.var 0, .var 3] [] [])) [.ret (.bl false)] []]], .ret (.bl true)]
noncomputable def g_is_program_of : Fn := runFn 4 (b_is_program_of)
noncomputable def b_want : List Sm := [.ife (.not (.var 0)) [.dead] []]
noncomputable def g_want : Fn := runFn 2 (b_want)
noncomputable def b_brought : List Sm := [.expr (.call "want" g_want [.call "is_program_of" g_is_program_of [.var 0, .var 1] [] [], .str "program"] [] []), .ret (.o1 .tuple (.o2 .idx (.call "followed" g_followed [.var 0, .var 1] [] []) (.num 0)))]
noncomputable def g_brought : Fn := runFn 2 (b_brought)
noncomputable def b_gets : List Sm := [.expr (.call "want" g_want [.call "is_program_of" g_is_program_of [.var 0, .var 1] [] [], .str "program"] [] []), .ret (.o1 .tuple (.o1 .sorted (.o2 .idx (.call "followed" g_followed [.var 0, .var 1] [] []) (.num 1))))]
noncomputable def g_gets : Fn := runFn 2 (b_gets)
noncomputable def b_given_by : List Sm := [.ret (.o1 .tuple (.lc [2, 3, 4] (.tup [.var 2, .call "first_fitting" g_first_fitting [.var 1, .var 3] [] []]) (.tup [.name 2, .name 3, .name 4]) (.ofE (.o2 .idx (.var 0) (.num 1))) none))]
noncomputable def g_given_by : Fn := runFn 5 (b_given_by)
noncomputable def b_is_order_of : List Sm := [.ife (.or (.not (.isi (.var 1) "tuple")) (.not (.o1 .all (.lc [2] (.call "is_edition_of" g_is_edition_of [.var 0, .var 2] [] []) (.name 2) (.ofE (.var 1)) none)))) [.ret (.bl false)] [], .ret (.o2 .eq (.o1 .sorted (.var 1)) (.lrng false (some (.o1 .len (.o2 .idx (.var 0) (.num 0)))) none))]
noncomputable def g_is_order_of : Fn := runFn 3 (b_is_order_of)
noncomputable def b_gets_by : List Sm := [.expr (.call "want" g_want [.call "is_order_of" g_is_order_of [.var 0, .var 1] [] [], .str "order"] [] []), .ret (.call "given_by" g_given_by [.var 0, .var 1] [] [])]
noncomputable def g_gets_by : Fn := runFn 2 (b_gets_by)
end FL

namespace FA
open PySem Fb
noncomputable def b_law_same : List Sm := [.ret (.o2 .eq (.o1 .repr (.var 0)) (.o1 .repr (.var 1)))]
noncomputable def g_law_same : Fn := runFn 2 (b_law_same)
noncomputable def b_law_editions (gd : Fn) : List Sm := [.asg 2 (.lst []), .for_ (.name 3) (.rng (some (.var 1)) none) [.asg 4 (.lc [5] (.var 5) (.name 5) (.ofE (.lst [.str "color", .str "size"])) (some (.o2 .eq (.call "_law_draw" gd [.var 0, .num 2] [] []) (.num 0)))), .app 2 (.o1 .tuple (.lc [5] (.tup [.var 5, .call "_law_draw" gd [.var 0, .num 3] [] []]) (.name 5) (.ofE (.var 4)) none))], .ret (.o1 .tuple (.var 2))]
noncomputable def g_law_editions (gd : Fn) : Fn := runFn 6 (b_law_editions gd)
noncomputable def b_law_pick (gd : Fn) : List Sm := [.ret (.o2 .idx (.var 1) (.call "_law_draw" gd [.var 0, .o1 .len (.var 1)] [] []))]
noncomputable def g_law_pick (gd : Fn) : Fn := runFn 2 (b_law_pick gd)
noncomputable def b_law_names (gd : Fn) : List Sm := [.asg 1 (.lst [.lst [.str "app", .str "plot", .str "shop", .str "tool", .str "zoo"], .lst [.str "a", .str "aa", .str "ab", .str "abcdefgh", .str "b"]]), .asg 1 (.o2 .add (.var 1) (.lst [.lst [.str "z", .str "zy", .str "zyx", .str "zz", .str "zzz"], .lst [.str "order", .str "program", .str "ring", .str "word", .str "x"]])), .ret (.call "_law_pick" (g_law_pick gd) [.var 0, .o2 .add (.var 1) (.lst [.lst [.str "always", .str "c", .str "copy", .str "k", .str "kk"]])] [] [])]
noncomputable def g_law_names (gd : Fn) : Fn := runFn 2 (b_law_names gd)
noncomputable def b_law_range (gd : Fn) : List Sm := [.asg 2 (.call "_law_draw" gd [.var 0, .num 4] [] []), .asg 3 (.call "_law_draw" gd [.var 0, .var 1] [] []), .ife (.o2 .eq (.var 2) (.num 0)) [.ret (.tup [.var 3])] [], .ife (.o2 .eq (.var 2) (.num 1)) [.ret (.lrng true (some (.var 3)) (some (.o2 .add (.o2 .add (.var 3) (.num 1)) (.call "_law_draw" gd [.var 0, .o2 .sub (.var 1) (.var 3)] [] []))))] [], .asg 4 (.o1 .tuple (.lc [5] (.var 5) (.name 5) (.rng (some (.var 1)) none) (some (.o2 .eq (.call "_law_draw" gd [.var 0, .num 2] [] []) (.num 0))))), .ret (.ife (.o2 .ne (.var 4) (.tup [])) (.var 4) (.tup [.var 3]))]
noncomputable def g_law_range (gd : Fn) : Fn := runFn 6 (b_law_range gd)
noncomputable def b_law_plan (gd : Fn) : List Sm := [.par [4, 8] [.call "_law_names" (g_law_names gd) [.var 0] [] [], .call "_law_draw" gd [.var 0, .num 5] [] []], .asg 3 (.o2 .min (.var 1) (.o2 .idx (.lst [.num 3, .num 3, .num 4, .num 5, .num 2, .num 1, .num 3, .num 4]) (.call "_law_draw" gd [.var 0, .num 8] [] []))), .asg 4 (.slc (.var 4) (some (.call "_law_draw" gd [.var 0, .o2 .sub (.num 6) (.var 2)] [] [])) none), .asg 5 (.slc (.var 4) none (some (.o2 .idx (.lst [.var 2, .var 2, .o2 .sub (.var 2) (.num 1), .call "_law_draw" gd [.var 0, .o2 .add (.var 2) (.num 1)] [] []]) (.call "_law_draw" gd [.var 0, .num 4] [] [])))), .asg 6 (.lst []), .for_ (.tup [.name 9, .name 10]) (.enu (.var 5)) [.asg 11 (.call "_law_range" (g_law_range gd) [.var 0, .var 3] [] []), .ife (.o2 .eq (.var 8) (.num 0)) [.asg 11 (.o1 .tuple (.o1 .srtset (.lst [.o2 .mod (.o1 .int (.var 9)) (.var 3), .o2 .mod (.o1 .int (.o2 .add (.var 9) (.num 1))) (.var 3)])))] [], .ife (.o2 .eq (.var 8) (.num 1)) [.asg 11 (.lrng true (some (.o2 .idx (.var 11) (.num 0))) (some (.o2 .add (.o2 .idx (.var 11) (.o1 .neg (.num 1))) (.num 1))))] [], .app 6 (.tup [.var 10, .var 11, .call "_law_pick" (g_law_pick gd) [.var 0, .lst [.str "copy", .str "fields", .str "always"]] [] []])], .asg 7 (.lc [12, 13] (.tup [.o2 .idx (.var 12) (.num 0), .o2 .idx (.var 13) (.num 0), .call "_law_pick" (g_law_pick gd) [.var 0, .lst [.str "anew", .str "plain"]] [] []]) (.tup [.name 12, .name 13]) (.zip (.var 6) (.slc (.var 6) (some (.num 1)) none)) none), .ret (.tup [.call "_law_editions" (g_law_editions gd) [.var 0, .var 3] [] [], .o1 .tuple (.var 6), .o1 .tuple (.slc (.var 7) none (some (.call "_law_draw" gd [.var 0, .num 3] [] [])))])]
noncomputable def g_law_plan (gd : Fn) : Fn := runFn 14 (b_law_plan gd)
noncomputable def b_law_trip (gd : Fn) : List Sm := [.par [4, 5] [.lc [6] (.o2 .idx (.var 6) (.num 0)) (.name 6) (.ofE (.o2 .idx (.var 1) (.num 1))) none, .lst []], .for_ (.name 3) (.rng (some (.call "_law_draw" gd [.var 0, .o2 .add (.var 2) (.num 1)] [] [])) none) [.ife (.and (.o2 .ne (.var 4) (.lst [])) (.o2 .gt (.call "_law_draw" gd [.var 0, .num 5] [] []) (.num 1))) [.app 5 (.pop 4 (.call "_law_draw" gd [.var 0, .o1 .len (.var 4)] [] []))] [.app 5 (.call "_law_draw" gd [.var 0, .o1 .len (.o2 .idx (.var 1) (.num 0))] [] [])]], .ret (.o1 .tuple (.var 5))]
noncomputable def g_law_trip (gd : Fn) : Fn := runFn 7 (b_law_trip gd)
noncomputable def b_law_turns (gd : Fn) : List Sm := [.par [3, 4] [.lrng false (some (.var 1)) none, .lst []], .for_ (.name 2) (.rng (some (.var 1)) none) [.app 4 (.pop 3 (.call "_law_draw" gd [.var 0, .o1 .len (.var 3)] [] []))], .ret (.o1 .tuple (.var 4))]
noncomputable def g_law_turns (gd : Fn) : Fn := runFn 5 (b_law_turns gd)
noncomputable def b_law_by_turns : List Sm := [.ret (.o1 .tuple (.lc [2] (.tup [.o2 .idx (.var 2) (.num 0), .o2 .idx (.lc [3] (.var 3) (.name 3) (.ofE (.var 1)) (some (.o2 .inn (.var 3) (.o2 .idx (.var 2) (.num 1))))) (.num 0)]) (.name 2) (.ofE (.o2 .idx (.var 0) (.num 1))) none))]
noncomputable def g_law_by_turns : Fn := runFn 4 (b_law_by_turns)
noncomputable def b_law_all_turns : List Sm := [.asg 1 (.lst [.tup []]), .for_ (.name 2) (.rng (some (.var 0)) none) [.asg 3 (.lst []), .for_ (.name 4) (.ofE (.var 1)) [.ext 3 (.lc [5] (.o2 .add (.var 4) (.tup [.var 5])) (.name 5) (.rng (some (.var 0)) none) (some (.o2 .nin (.var 5) (.var 4))))], .asg 1 (.o1 .list (.var 3))], .retv 1]
noncomputable def g_law_all_turns : Fn := runFn 6 (b_law_all_turns)
noncomputable def b_law_ranges : List Sm := [.ret (.o1 .dict (.lc [1] (.tup [.o2 .idx (.var 1) (.num 0), .o2 .idx (.var 1) (.num 1)]) (.name 1) (.ofE (.o2 .idx (.var 0) (.num 1))) none))]
noncomputable def g_law_ranges : Fn := runFn 2 (b_law_ranges)
noncomputable def b_law_run : List Sm := [.par [3, 4, 5] [.lst [], .lst [], .call "_law_ranges" g_law_ranges [.var 0] [] []], .for_ (.name 2) (.ofE (.var 1)) [.ife (.isi (.var 2) "str") [.ife (.o2 .eq (.pur (.lc [6] (.var 6) (.name 6) (.ofE (.var 3)) (some (.o2 .inn (.var 6) (.o2 .idx (.var 5) (.var 2)))))) (.lst [])) [.app 3 (.o2 .idx (.o2 .idx (.var 5) (.var 2)) (.o1 .neg (.num 1)))] [], .app 4 (.tup [.var 2, .o2 .idx (.pur (.lc [6] (.var 6) (.name 6) (.ofE (.var 3)) (some (.o2 .inn (.var 6) (.o2 .idx (.var 5) (.var 2)))))) (.num 0)])] [.ife (.o2 .nin (.var 2) (.var 3)) [.app 3 (.var 2)] []]], .ret (.tup [.o1 .tuple (.var 3), .o1 .tuple (.o1 .sorted (.var 4))])]
noncomputable def g_law_run : Fn := runFn 7 (b_law_run)
end FA

namespace FG
open PySem Fb
noncomputable def b_is_choice_of : List Sm := [.ife (.not (.isi (.var 1) "tuple")) [.ret (.bl false)] [], .par [3, 4] [.call "ranges_of" FL.g_ranges_of [.var 0] [] [], .str ""], .for_ (.name 2) (.ofE (.var 1)) [.ife (.or (.not (.isi (.var 2) "tuple")) (.or (.o2 .ne (.o1 .len (.var 2)) (.num 2)) (.not (.call "is_name_of" FL.g_is_name_of [.var 0, .o2 .idx (.var 2) (.num 0)] [] [])))) [.ret (.bl false)] [], .ife (.or (.o2 .le (.o2 .idx (.var 2) (.num 0)) (.var 4)) (.or (.not (.call "is_number" FL.g_is_number [.o2 .idx (.var 2) (.num 1)] [] [])) (.o2 .nin (.o2 .idx (.var 2) (.num 1)) (.o2 .idx (.var 3) (.o2 .idx (.var 2) (.num 0)))))) [.ret (.bl false)] [], .asg 4 (.o2 .idx (.var 2) (.num 0))], .ret (.bl true)]
noncomputable def g_is_choice_of : Fn := runFn 5 (b_is_choice_of)
noncomputable def b_is_ahead : List Sm := [.ret (.and (.o2 .ne (.o2 .idx (.var 1) (.num 1)) (.o2 .idx (.var 2) (.num 1))) (.o2 .inn (.o2 .idx (.var 2) (.num 1)) (.o2 .idx (.var 0) (.o2 .idx (.var 1) (.num 0)))))]
noncomputable def g_is_ahead : Fn := runFn 3 (b_is_ahead)
noncomputable def b_barred_ones : List Sm := [.ret (.lc [2] (.var 2) (.name 2) (.ofE (.var 1)) (some (.o2 .ne (.lc [3] (.var 3) (.name 3) (.ofE (.var 1)) (some (.call "is_ahead" g_is_ahead [.var 0, .var 3, .var 2] [] []))) (.lst []))))]
noncomputable def g_barred_ones : Fn := runFn 4 (b_barred_ones)
noncomputable def b_ring_of : List Sm := [.asg 2 (.call "ranges_of" FL.g_ranges_of [.var 0] [] []), .par [5, 6] [.o1 .list (.var 1), .call "barred_ones" g_barred_ones [.var 2, .o1 .list (.var 1)] [] []], .whl (.o2 .lt (.o1 .len (.var 6)) (.o1 .len (.var 5))) [.par [5, 6] [.var 6, .call "barred_ones" g_barred_ones [.var 2, .var 6] [] []]], .ife (.o2 .eq (.o1 .len (.var 5)) (.num 0)) [.ret (.non)] [], .asg 3 (.lst [.o2 .idx (.var 5) (.num 0)]), .whl (.o2 .nin (.o2 .idx (.var 3) (.o1 .neg (.num 1))) (.slc (.var 3) none (some (.o1 .neg (.num 1))))) [.app 3 (.o2 .idx (.lc [9] (.var 9) (.name 9) (.ofE (.var 5)) (some (.call "is_ahead" g_is_ahead [.var 2, .var 9, .o2 .idx (.var 3) (.o1 .neg (.num 1))] [] []))) (.num 0))], .asg 4 (.mt .index (.var 3) (.o2 .idx (.var 3) (.o1 .neg (.num 1)))), .ret (.o1 .tuple (.lc [7, 8] (.var 7) (.tup [.name 7, .name 8]) (.ofE (.sld (.var 3) (.var 4))) none))]
noncomputable def g_ring_of : Fn := runFn 10 (b_ring_of)
noncomputable def b_is_possible : List Sm := [.expr (.call "want" FL.g_want [.call "is_choice_of" g_is_choice_of [.var 0, .var 1] [] [], .str "choice"] [] []), .ret (.o2 .isN (.call "ring_of" g_ring_of [.var 0, .var 1] [] []) (.non))]
noncomputable def g_is_possible : Fn := runFn 2 (b_is_possible)
noncomputable def b_ring_in : List Sm := [.expr (.call "want" FL.g_want [.call "is_choice_of" g_is_choice_of [.var 0, .var 1] [] [], .str "choice"] [] []), .ret (.call "ring_of" g_ring_of [.var 0, .var 1] [] [])]
noncomputable def g_ring_in : Fn := runFn 2 (b_ring_in)
noncomputable def b_law_chosen (gd : Fn) : List Sm := [.asg 2 (.call "_law_turns" (FA.g_law_turns gd) [.var 0, .o1 .len (.o2 .idx (.var 1) (.num 0))] [] []), .par [3, 4] [.call "_law_draw" gd [.var 0, .num 4] [] [], .o1 .list (.call "_law_by_turns" FA.g_law_by_turns [.var 1, .var 2] [] [])], .ife (.o2 .gt (.var 3) (.num 1)) [.asg 4 (.lc [5] (.tup [.o2 .idx (.var 5) (.num 0), .call "_law_pick" (FA.g_law_pick gd) [.var 0, .o2 .idx (.var 5) (.num 1)] [] []]) (.name 5) (.ofE (.o2 .idx (.var 1) (.num 1))) none)] [], .ife (.o2 .eq (.var 3) (.num 3)) [.asg 4 (.lc [6, 5] (.tup [.o2 .idx (.var 5) (.num 0), .o2 .idx (.o2 .idx (.var 5) (.num 1)) (.o2 .mod (.o1 .int (.var 6)) (.o1 .len (.o2 .idx (.var 5) (.num 1))))]) (.tup [.name 6, .name 5]) (.enu (.o2 .idx (.var 1) (.num 1))) none)] [], .ife (.o2 .eq (.call "_law_draw" gd [.var 0, .num 3] [] []) (.num 0)) [.asg 4 (.lc [5] (.var 5) (.name 5) (.ofE (.var 4)) (some (.o2 .gt (.call "_law_draw" gd [.var 0, .num 3] [] []) (.num 0))))] [], .ret (.o1 .tuple (.var 4))]
noncomputable def g_law_chosen (gd : Fn) : Fn := runFn 7 (b_law_chosen gd)
end FG

namespace FO
open PySem Fb
noncomputable def b_can_follow : List Sm := [.for_ (.tup [.name 4, .name 5]) (.ofE (.var 1)) [.ife (.and (.o2 .inn (.var 3) (.o2 .idx (.var 0) (.var 4))) (.and (.o2 .ne (.var 3) (.var 5)) (.o2 .nin (.var 5) (.var 2)))) [.ret (.bl false)] []], .ret (.bl true)]
noncomputable def g_can_follow : Fn := runFn 6 (b_can_follow)
noncomputable def b_orders_of (w : World) : List Sm := [.par [4, 5] [.call "ranges_of" FL.g_ranges_of [.var 0] [] [], .lrng false (some (.o1 .len (.o2 .idx (.var 0) (.num 0)))) none], .asg 2 (.tone w (.tup []) (.num 1)), .for_ (.name 3) (.ofE (.var 5)) [.asg 6 (.tmt w), .for_ (.tup [.name 7, .name 8]) (.titems 2) [.for_ (.name 9) (.ofE (.var 5)) [.ife (.and (.o2 .nin (.var 9) (.var 7)) (.call "can_follow" g_can_follow [.var 4, .var 1, .var 7, .var 9] [] [])) [.asg 10 (.o1 .tuple (.o1 .sorted (.o2 .add (.var 7) (.tup [.var 9])))), .tset w 6 (.var 10) (.o2 .add (.tgetd w 6 (.var 10) (.num 0)) (.var 8))] []]], .asg 2 (.tmv 6)], .ret (.o1 .sum (.tvals 2))]
noncomputable def g_orders_of (w : World) : Fn := runFn 11 (b_orders_of w)
noncomputable def b_how_many_orders (w : World) : List Sm := [.expr (.call "want" FL.g_want [.call "is_choice_of" FG.g_is_choice_of [.var 0, .var 1] [] [], .str "choice"] [] []), .ret (.call "orders_of" (g_orders_of w) [.var 0, .var 1] [] [])]
noncomputable def g_how_many_orders (w : World) : Fn := runFn 2 (b_how_many_orders w)
noncomputable def b_share_of_orders (w : World) : List Sm := [.expr (.call "want" FL.g_want [.call "is_choice_of" FG.g_is_choice_of [.var 0, .var 1] [] [], .str "choice"] [] []), .par [2, 3] [.call "orders_of" (g_orders_of w) [.var 0, .var 1] [] [], .call "orders_of" (g_orders_of w) [.var 0, .tup []] [] []], .par [4, 5] [.var 3, .var 2], .whl (.o2 .gt (.var 5) (.num 0)) [.par [4, 5] [.var 5, .o2 .mod (.var 4) (.var 5)]], .ret (.tup [.o2 .fdiv (.var 2) (.var 4), .o2 .fdiv (.var 3) (.var 4)])]
noncomputable def g_share_of_orders (w : World) : Fn := runFn 6 (b_share_of_orders w)
noncomputable def b_law_common : List Sm := [.whl (.o2 .gt (.var 0) (.num 0)) [.par [0, 1] [.o2 .mod (.o1 .int (.var 1)) (.var 0), .var 0]], .retv 1]
noncomputable def g_law_common : Fn := runFn 2 (b_law_common)
end FO

namespace Fb
open PySem
/-! ### what an evaluation ends with -/
def Ok {α : Type} (r : Res α) (Q : α → Prop) : Prop := ∃ a, r = .ok a ∧ Q a
def W {α : Type} (x : M α) (s : S) (Q : α → S → Prop) : Prop := Ok (x s) fun p => Q p.1 p.2
theorem Ok.mono {α : Type} {r : Res α} {Q Q' : α → Prop} (h : Ok r Q) (k : ∀ a, Q a → Q' a) : Ok r Q' := let ⟨a, e, q⟩ := h; ⟨a, e, k a q⟩
theorem W.mono {α : Type} {x : M α} {s : S} {Q Q' : α → S → Prop} (h : W x s Q) (k : ∀ a s, Q a s → Q' a s) : W x s Q' := Ok.mono h fun p q => k p.1 p.2 q
theorem ok_ok {α : Type} {a : α} {Q : α → Prop} : Ok (.ok a) Q ↔ Q a := ⟨fun ⟨b, e, q⟩ => by cases e; exact q, fun q => ⟨a, rfl, q⟩⟩
theorem ok_stuck {α : Type} {Q : α → Prop} : Ok (.stuck : Res α) Q ↔ False := ⟨fun ⟨b, e, q⟩ => (by cases e), fun q => q.elim⟩
theorem ok_exc {α : Type} {Q : α → Prop} {c : Str} {fs : List PyData} : Ok (.exc c fs : Res α) Q ↔ False := ⟨fun ⟨b, e, q⟩ => (by cases e), fun q => q.elim⟩
theorem w_bind {α β : Type} {x : M α} {f : α → M β} {s : S} {Q : β → S → Prop} : W (x.bind f) s Q ↔ W x s fun a s' => W (f a) s' Q := by
  unfold W M.bind
  cases x s with
  | ok p => obtain ⟨a, s'⟩ := p; simp only [ok_ok]
  | exc c fs => simp only [ok_exc]
  | stuck => simp only [ok_stuck]
theorem w_pure {α : Type} {a : α} {s : S} {Q : α → S → Prop} : W (M.pure a) s Q ↔ Q a s := by unfold W M.pure; simp only [ok_ok]
theorem w_stuck {α : Type} {s : S} {Q : α → S → Prop} : W (M.stuck : M α) s Q ↔ False := by unfold W M.stuck; simp only [ok_stuck]
theorem w_ite {α : Type} {c : Prop} [Decidable c] {x y : M α} {s : S} {Q : α → S → Prop} : W (if c then x else y) s Q ↔ if c then W x s Q else W y s Q := by split <;> rfl
theorem w_lift_some {α : Type} {a : α} {s : S} {Q : α → S → Prop} : W (lift (some a)) s Q ↔ Q a s := w_pure
theorem w_lift_none {α : Type} {s : S} {Q : α → S → Prop} : W (lift (none : Option α)) s Q ↔ False := w_stuck
theorem w_lift {α : Type} {r : Option α} {s : S} {Q : α → S → Prop} : W (lift r) s Q ↔ ∃ a, r = some a ∧ Q a s := by
  cases r with
  | none => simp only [w_lift_none, reduceCtorEq, false_and, exists_false]
  | some a => simp only [w_lift_some, Option.some.injEq, exists_eq_left']
theorem w_data_dat {d : PyData} {s : S} {Q : PyData → S → Prop} : W (Val.data (.dat d)) s Q ↔ Q d s := w_pure
theorem w_data_uni {d : PyData} {s : S} {Q : PyData → S → Prop} : W (Val.data (.uni d)) s Q ↔ Q d s := w_pure
theorem w_isTrue {b : Bool} {s : S} {Q : Bool → S → Prop} : W (isTrueV (.dat (.bool b))) s Q ↔ Q b s := w_pure
theorem w_intV {b : Int} {s : S} {Q : Int → S → Prop} : W (intV (.dat (.int b))) s Q ↔ Q b s := w_pure
theorem w_opd_val {d : PyData} {s : S} {Q : PyData → S → Prop} : W (Opd.now (.val d)) s Q ↔ Q d s := w_pure
theorem w_setS {i : Nat} {x : Slot} {s : S} {Q : Unit → S → Prop} : W (setS i x) s Q ↔ Q () ⟨s.e.set i x, s.m⟩ := by unfold W setS; simp only [ok_ok]
/-! names -/
theorem w_rd_val {i : Nat} {d : PyData} {e : List Slot} {m : Mu} {Q : Val → S → Prop} (h : e[i]? = some (.val d)) : W (rdVar i) ⟨e, m⟩ Q ↔ Q (.dat d) ⟨e, m⟩ := by unfold W rdVar; simp only [h, ok_ok]
theorem w_rd_sto {i n : Nat} {e : List Slot} {m : Mu} {Q : Val → S → Prop} (h : e[i]? = some (.sto n)) : W (rdVar i) ⟨e, m⟩ Q ↔ Q (.sto n) ⟨e, m⟩ := by unfold W rdVar; simp only [h, ok_ok]
theorem w_rd_own {i : Nat} {d : PyData} {e : List Slot} {m : Mu} {Q : Val → S → Prop} (h : e[i]? = some (.own d)) : W (rdVar i) ⟨e, m⟩ Q ↔ Q (.dat d) ⟨e.set i (.val d), m⟩ := by unfold W rdVar; simp only [h, ok_ok]
theorem w_rd {i : Nat} {e : List Slot} {m : Mu} {Q : Val → S → Prop} : W (rdVar i) ⟨e, m⟩ Q ↔ (match e[i]? with
    | some (.val d) => Q (.dat d) ⟨e, m⟩
    | some (.own d) => Q (.dat d) ⟨e.set i (.val d), m⟩
    | some (.sto n) => Q (.sto n) ⟨e, m⟩
    | _ => False) := by
  unfold W rdVar
  dsimp only
  cases q : e[i]? with
  | none => simp only [ok_stuck]
  | some x => cases x <;> simp only [ok_ok, ok_stuck]
theorem w_mv {i : Nat} {e : List Slot} {m : Mu} {Q : Val → S → Prop} : W (mvVar i) ⟨e, m⟩ Q ↔ (match e[i]? with
    | some (.val d) => Q (.dat d) ⟨e, m⟩
    | some (.own d) => Q (.uni d) ⟨e.set i .unset, m⟩
    | some (.sto n) => Q (.sto n) ⟨e, m⟩
    | _ => False) := by
  unfold W mvVar
  dsimp only
  cases q : e[i]? with
  | none => simp only [ok_stuck]
  | some x => cases x <;> simp only [ok_ok, ok_stuck]
theorem w_slotOpd {i : Nat} {e : List Slot} {m : Mu} {Q : Opd → S → Prop} : W (slotOpd i) ⟨e, m⟩ Q ↔ (match e[i]? with
    | some (.val _) => Q (.slot i) ⟨e, m⟩
    | some (.own _) => Q (.slot i) ⟨e, m⟩
    | _ => False) := by
  unfold W slotOpd
  dsimp only
  cases q : e[i]? with
  | none => simp only [ok_stuck]
  | some x => cases x <;> simp only [ok_ok, ok_stuck]
theorem w_now {i : Nat} {e : List Slot} {m : Mu} {Q : PyData → S → Prop} : W (Opd.now (.slot i)) ⟨e, m⟩ Q ↔ (match e[i]? with
    | some (.val d) => Q d ⟨e, m⟩
    | some (.own d) => Q d ⟨e, m⟩
    | _ => False) := by
  unfold W Opd.now
  dsimp only
  cases q : e[i]? with
  | none => simp only [ok_stuck]
  | some x => cases x <;> simp only [ok_ok, ok_stuck]
/-! the store -/
theorem w_fget {i : Nat} {k : Str} {e : List Slot} {m : Mu} {Q : Val → S → Prop} : W (fgetM i k) ⟨e, m⟩ Q ↔ (match e[i]? with
    | some (.sto n) => (match m[n]? with
      | some kvs => (match kvs.lookup k with
        | some d => Q (.dat d) ⟨e, m⟩
        | none => False)
      | none => False)
    | _ => False) := by
  unfold W fgetM
  dsimp only
  cases e[i]? with
  | none => simp only [ok_stuck]
  | some x =>
    cases x with
    | sto n =>
      dsimp only
      cases m[n]? with
      | none => simp only [ok_stuck]
      | some kvs =>
        dsimp only
        cases kvs.lookup k with
        | none => simp only [ok_stuck]
        | some d => simp only [ok_ok]
    | _ => simp only [ok_stuck]
theorem w_fset {i : Nat} {k : Str} {d : PyData} {e : List Slot} {m : Mu} {Q : Unit → S → Prop} : W (fsetM i k d) ⟨e, m⟩ Q ↔ (match e[i]? with
    | some (.sto n) => (match m[n]? with
      | some kvs => (match kvs.lookup k with
        | some _ => kvs.length < 1000 ∧ Q () ⟨e, m.set n (putKV k d kvs)⟩
        | none => False)
      | none => False)
    | _ => False) := by
  unfold W fsetM
  dsimp only
  cases e[i]? with
  | none => simp only [ok_stuck]
  | some x =>
    cases x with
    | sto n =>
      dsimp only
      cases m[n]? with
      | none => simp only [ok_stuck]
      | some kvs =>
        dsimp only
        cases kvs.lookup k with
        | none => simp only [ok_stuck]
        | some d => dsimp only; by_cases c : kvs.length < 1000 <;> simp only [c, if_true, if_false, ok_ok, ok_stuck, true_and, false_and]
    | _ => simp only [ok_stuck]
theorem w_own {i : Nat} {e : List Slot} {m : Mu} {Q : Unit → S → Prop} : W (ownChk i) ⟨e, m⟩ Q ↔ (match e[i]? with
    | some (.own (.list _)) => Q () ⟨e, m⟩
    | _ => False) := by
  unfold W ownChk
  dsimp only
  cases e[i]? with
  | none => simp only [ok_stuck]
  | some x =>
    cases x with
    | own d =>
      cases d with
      | list ds => simp only [ok_ok]
      | _ => simp only [ok_stuck]
    | _ => simp only [ok_stuck]
theorem w_uniL {ds : List PyData} {s : S} {Q : List PyData → S → Prop} : W (uniL (.uni (.list ds))) s Q ↔ Q ds s := w_pure
theorem w_app {i : Nat} {d : PyData} {e : List Slot} {m : Mu} {Q : Unit → S → Prop} : W (appM i d) ⟨e, m⟩ Q ↔ (match e[i]? with
    | some (.own (.list ds)) => ds.length < SZ ∧ Q () ⟨e.set i (.own (.list (ds ++ [d]))), m⟩
    | _ => False) := by
  unfold W appM
  dsimp only
  cases e[i]? with
  | none => simp only [ok_stuck]
  | some x =>
    cases x with
    | own d =>
      cases d with
      | list ds => dsimp only; by_cases c : ds.length < SZ <;> simp only [c, if_true, if_false, ok_ok, ok_stuck, true_and, false_and]
      | _ => simp only [ok_stuck]
    | _ => simp only [ok_stuck]
theorem w_ext {i : Nat} {es : List PyData} {e : List Slot} {m : Mu} {Q : Unit → S → Prop} : W (extM i es) ⟨e, m⟩ Q ↔ (match e[i]? with
    | some (.own (.list ds)) => ds.length + es.length ≤ SZ ∧ Q () ⟨e.set i (.own (.list (ds ++ es))), m⟩
    | _ => False) := by
  unfold W extM
  dsimp only
  cases e[i]? with
  | none => simp only [ok_stuck]
  | some x =>
    cases x with
    | own d =>
      cases d with
      | list ds => dsimp only; by_cases c : ds.length + es.length ≤ SZ <;> simp only [c, if_true, if_false, ok_ok, ok_stuck, true_and, false_and]
      | _ => simp only [ok_stuck]
    | _ => simp only [ok_stuck]
/-! calls -/
def CallOk (g : Fn) (vs : List Val) (m : Mu) (Q : Val → Mu → Prop) : Prop := Ok (g vs m) fun p => Q p.1 p.2
theorem w_callFn {g : Fn} {vs : List Val} {e : List Slot} {m : Mu} {Q : Val → S → Prop} : W (callFn g vs) ⟨e, m⟩ Q ↔ CallOk g vs m fun v m' => Q v ⟨e, m'⟩ := by
  unfold W callFn CallOk
  dsimp only
  cases g vs m with
  | ok p => obtain ⟨v, m'⟩ := p; simp only [ok_ok]
  | exc c fs => simp only [ok_exc]
  | stuck => simp only [ok_stuck]
theorem CallOk.mono {g : Fn} {vs : List Val} {m : Mu} {Q Q' : Val → Mu → Prop} (h : CallOk g vs m Q) (k : ∀ v m, Q v m → Q' v m) : CallOk g vs m Q' := Ok.mono h fun p q => k p.1 p.2 q
def Ret (Q : Val → Mu → Prop) : Flow → S → Prop
  | .ret v, s => Q v s.m
  | .nx, s => Q (.dat .none) s.m
  | _, _ => False
theorem run_ok {n : Nat} {b : List Sm} {vs : List Val} {m : Mu} {Q : Val → Mu → Prop} : CallOk (runFn n b) vs m Q ↔ W (evSs b) ⟨vs.map slotOf ++ List.replicate (n - vs.length) .unset, m⟩ (Ret Q) := by
  unfold CallOk runFn W
  cases evSs b ⟨vs.map slotOf ++ List.replicate (n - vs.length) .unset, m⟩ with
  | ok p =>
    obtain ⟨f, s⟩ := p
    cases f <;> simp only [Ret, ok_ok, ok_stuck]
  | exc c fs => simp only [ok_exc]
  | stuck => simp only [ok_stuck]
theorem w_seq {s : Sm} {ss : List Sm} {st : S} {Q : Flow → S → Prop} : W (evSs (s :: ss)) st Q ↔ W (evS s) st fun f s' => match f with
    | .nx => W (evSs ss) s' Q
    | f => Q f s' := by
  rw [evSs, w_bind]
  constructor <;> intro h <;> refine W.mono h fun f s' q => ?_ <;> cases f <;> first | exact q | exact w_pure.mpr q | exact w_pure.mp q
theorem w_nil {st : S} {Q : Flow → S → Prop} : W (evSs []) st Q ↔ Q .nx st := by rw [evSs, w_pure]
/-! tables -/
theorem w_tabM {i : Nat} {e : List Slot} {m : Mu} {Q : List (PyData × PyData) → S → Prop} : W (tabM i) ⟨e, m⟩ Q ↔ (match e[i]? with
    | some (.tab _ es) => Q es ⟨e, m⟩
    | _ => False) := by
  unfold W tabM
  dsimp only
  cases e[i]? with
  | none => simp only [ok_stuck]
  | some x => cases x <;> simp only [ok_ok, ok_stuck]
def tabK (w : World) (o : Option Slot) (Q : List (PyData × PyData) → S → Prop) (s : S) : Prop := match o with
  | some (.tab w' es) => w' = w ∧ Q es s
  | _ => False
theorem tabK_ {w : World} {es : List (PyData × PyData)} {Q : List (PyData × PyData) → S → Prop} {s : S} : tabK w (some (.tab w es)) Q s ↔ Q es s := ⟨fun h => h.2, fun h => ⟨rfl, h⟩⟩
theorem w_tabW {w : World} {i : Nat} {e : List Slot} {m : Mu} {Q : List (PyData × PyData) → S → Prop} : W (tabW w i) ⟨e, m⟩ Q ↔ tabK w e[i]? Q ⟨e, m⟩ := by
  unfold W tabW tabK
  dsimp only
  cases e[i]? with
  | none => simp only [ok_stuck]
  | some x =>
    cases x with
    | tab w' es => dsimp only; by_cases c : w' = w <;> simp only [c, if_true, if_false, ok_ok, ok_stuck, true_and, false_and]
    | _ => simp only [ok_stuck]
def tputK (w : World) (o : Option Slot) (i : Nat) (k v : PyData) (e : List Slot) (m : Mu) (Q : Unit → S → Prop) : Prop := match o with
  | some (.tab w' es) => (w' = w ∧ es.length < SZ) ∧ Q () ⟨e.set i (.tab w (tPut es k v)), m⟩
  | _ => False
theorem tputK_ {w : World} {es : List (PyData × PyData)} {i : Nat} {k v : PyData} {e : List Slot} {m : Mu} {Q : Unit → S → Prop} : tputK w (some (.tab w es)) i k v e m Q ↔ es.length < SZ ∧ Q () ⟨e.set i (.tab w (tPut es k v)), m⟩ := ⟨fun h => ⟨h.1.2, h.2⟩, fun h => ⟨⟨rfl, h.1⟩, h.2⟩⟩
theorem w_tput {w : World} {i : Nat} {k v : PyData} {e : List Slot} {m : Mu} {Q : Unit → S → Prop} : W (tputM w i k v) ⟨e, m⟩ Q ↔ tputK w e[i]? i k v e m Q := by
  unfold W tputM tputK
  dsimp only
  cases e[i]? with
  | none => simp only [ok_stuck]
  | some x =>
    cases x with
    | tab w' es => dsimp only; by_cases c : w' = w ∧ es.length < SZ <;> simp only [c, if_true, if_false, ok_ok, ok_stuck, true_and, false_and]
    | _ => simp only [ok_stuck]
theorem w_tmv {i : Nat} {e : List Slot} {m : Mu} {Q : Val → S → Prop} : W (tmvM i) ⟨e, m⟩ Q ↔ (match e[i]? with
    | some (.tab w es) => Q (.tab w es) ⟨e.set i .unset, m⟩
    | _ => False) := by
  unfold W tmvM
  dsimp only
  cases e[i]? with
  | none => simp only [ok_stuck]
  | some x => cases x <;> simp only [ok_ok, ok_stuck]
theorem w_tk {d : PyData} {s : S} {Q : Unit → S → Prop} : W (tkM d) s Q ↔ isTK d = true ∧ Q () s := by
  unfold tkM
  by_cases c : isTK d = true
  · rw [if_pos c, w_pure]; exact ⟨fun h => ⟨c, h⟩, fun h => h.2⟩
  · rw [if_neg c, w_stuck]; exact ⟨fun h => h.elim, fun h => c h.1⟩
theorem w_tabPairs {w : World} {es : List (PyData × PyData)} {s : S} {Q : List PyData → S → Prop} : W (tabPairs (.tab w es)) s Q ↔ Q (es.map fun p => .tuple [p.1, p.2]) s := w_pure
end Fb

namespace Fb
open PySem
theorem w_lift_ite {α : Type} {c : Prop} [Decidable c] {a : α} {s : S} {Q : α → S → Prop} : W (lift (if c then some a else none)) s Q ↔ c ∧ Q a s := by
  by_cases h : c <;> simp only [h, if_true, if_false, w_lift_some, w_lift_none, true_and, false_and]
theorem w_lift_map {α β : Type} {r : Option α} {f : α → β} {s : S} {Q : β → S → Prop} : W (lift (r.map f)) s Q ↔ W (lift r) s fun a s => Q (f a) s := by
  cases r with
  | none => simp only [Option.map_none, w_lift_none]
  | some a => simp only [Option.map_some, w_lift_some]
/-! one rule a node -/
section
variable {s : S} {Q : Val → S → Prop}
theorem e_num {i : Int} : W (evE (.num i)) s Q ↔ Q (.dat (.int i)) s := by rw [evE, w_pure]
theorem e_str {x : Str} : W (evE (.str x)) s Q ↔ Q (.dat (.str x)) s := by rw [evE, w_pure]
theorem e_bl {x : Bool} : W (evE (.bl x)) s Q ↔ Q (.dat (.bool x)) s := by rw [evE, w_pure]
theorem e_non : W (evE .non) s Q ↔ Q (.dat .none) s := by rw [evE, w_pure]
theorem e_var {i : Nat} : W (evE (.var i)) s Q ↔ W (rdVar i) s Q := by rw [evE]
theorem e_tup {es : List Ex} : W (evE (.tup es)) s Q ↔ W (evEs es) s fun ds s => Q (.dat (.tuple ds)) s := by rw [evE, w_bind]; simp only [w_pure]
theorem e_lst {es : List Ex} : W (evE (.lst es)) s Q ↔ W (evEs es) s fun ds s => Q (.uni (.list ds)) s := by rw [evE, w_bind]; simp only [w_pure]
theorem e_dic {ks : List Str} {es : List Ex} : W (evE (.dic ks es)) s Q ↔ W (evEs es) s fun ds s => Q (.uni (.dict ((ks.map PyData.str).zip ds))) s := by rw [evE, w_bind]; simp only [w_pure]
/-- an operand -/
def WO (e : Ex) (s : S) (Q : Opd → S → Prop) : Prop := W (opd e (evE e)) s Q
theorem o_var {i : Nat} {Q : Opd → S → Prop} : WO (.var i) s Q ↔ W (slotOpd i) s Q := Iff.rfl
theorem o_gen {e : Ex} {Q : Opd → S → Prop} (h : ∀ i, e ≠ .var i) : WO e s Q ↔ W (evE e) s fun v s => W v.data s fun d s => Q (.val d) s := by
  unfold WO opd
  split
  · rename_i i; exact absurd rfl (h i)
  · simp only [w_bind, w_pure]
theorem o_num {i : Int} {Q : Opd → S → Prop} : WO (.num i) s Q ↔ Q (.val (.int i)) s := by rw [o_gen (by intro i h; cases h)]; simp only [e_num, w_data_dat]
theorem o_str {x : Str} {Q : Opd → S → Prop} : WO (.str x) s Q ↔ Q (.val (.str x)) s := by rw [o_gen (by intro i h; cases h)]; simp only [e_str, w_data_dat]
theorem o_bl {x : Bool} {Q : Opd → S → Prop} : WO (.bl x) s Q ↔ Q (.val (.bool x)) s := by rw [o_gen (by intro i h; cases h)]; simp only [e_bl, w_data_dat]
theorem o_non {Q : Opd → S → Prop} : WO .non s Q ↔ Q (.val .none) s := by rw [o_gen (by intro i h; cases h)]; simp only [e_non, w_data_dat]
theorem o_tup {es : List Ex} {Q : Opd → S → Prop} : WO (.tup es) s Q ↔ W (evEs es) s fun ds s => Q (.val (.tuple ds)) s := by rw [o_gen (by intro i h; cases h)]; simp only [e_tup, w_data_dat]
theorem o_lst {es : List Ex} {Q : Opd → S → Prop} : WO (.lst es) s Q ↔ W (evEs es) s fun ds s => Q (.val (.list ds)) s := by rw [o_gen (by intro i h; cases h)]; simp only [e_lst, w_data_uni]
theorem o_o1 {o : O1} {a : Ex} {Q : Opd → S → Prop} : WO (.o1 o a) s Q ↔ W (evE (.o1 o a)) s fun v s => W v.data s fun d s => Q (.val d) s := o_gen (by intro i h; cases h)
theorem o_o2 {o : O2} {a b : Ex} {Q : Opd → S → Prop} : WO (.o2 o a b) s Q ↔ W (evE (.o2 o a b)) s fun v s => W v.data s fun d s => Q (.val d) s := o_gen (by intro i h; cases h)
theorem o_slc {a : Ex} {l h : Option Ex} {Q : Opd → S → Prop} : WO (.slc a l h) s Q ↔ W (evE (.slc a l h)) s fun v s => W v.data s fun d s => Q (.val d) s := o_gen (by intro i h; cases h)
theorem o_rev {a : Ex} {Q : Opd → S → Prop} : WO (.rev a) s Q ↔ W (evE (.rev a)) s fun v s => W v.data s fun d s => Q (.val d) s := o_gen (by intro i h; cases h)
theorem o_not {a : Ex} {Q : Opd → S → Prop} : WO (.not a) s Q ↔ W (evE (.not a)) s fun v s => W v.data s fun d s => Q (.val d) s := o_gen (by intro i h; cases h)
theorem o_and {a b : Ex} {Q : Opd → S → Prop} : WO (.and a b) s Q ↔ W (evE (.and a b)) s fun v s => W v.data s fun d s => Q (.val d) s := o_gen (by intro i h; cases h)
theorem o_or {a b : Ex} {Q : Opd → S → Prop} : WO (.or a b) s Q ↔ W (evE (.or a b)) s fun v s => W v.data s fun d s => Q (.val d) s := o_gen (by intro i h; cases h)
theorem o_ife {c a b : Ex} {Q : Opd → S → Prop} : WO (.ife c a b) s Q ↔ W (evE (.ife c a b)) s fun v s => W v.data s fun d s => Q (.val d) s := o_gen (by intro i h; cases h)
theorem o_isi {a : Ex} {t : String} {Q : Opd → S → Prop} : WO (.isi a t) s Q ↔ W (evE (.isi a t)) s fun v s => W v.data s fun d s => Q (.val d) s := o_gen (by intro i h; cases h)
theorem o_lrng {t : Bool} {a b : Option Ex} {Q : Opd → S → Prop} : WO (.lrng t a b) s Q ↔ W (evE (.lrng t a b)) s fun v s => W v.data s fun d s => Q (.val d) s := o_gen (by intro i h; cases h)
theorem o_call {f : Str} {g : Fn} {es gs : List Ex} {ks : List Str} {Q : Opd → S → Prop} : WO (.call f g es ks gs) s Q ↔ W (evE (.call f g es ks gs)) s fun v s => W v.data s fun d s => Q (.val d) s := o_gen (by intro i h; cases h)
theorem o_lc {vs : List Nat} {e : Ex} {t : Tg} {it : It} {c : Option Ex} {Q : Opd → S → Prop} : WO (.lc vs e t it c) s Q ↔ W (evE (.lc vs e t it c)) s fun v s => W v.data s fun d s => Q (.val d) s := o_gen (by intro i h; cases h)
theorem o_pop {i : Nat} {e : Ex} {Q : Opd → S → Prop} : WO (.pop i e) s Q ↔ W (evE (.pop i e)) s fun v s => W v.data s fun d s => Q (.val d) s := o_gen (by intro i h; cases h)
theorem o_fget {i : Nat} {k : Str} {Q : Opd → S → Prop} : WO (.fget i k) s Q ↔ W (evE (.fget i k)) s fun v s => W v.data s fun d s => Q (.val d) s := o_gen (by intro i h; cases h)
theorem e_o1 {o : O1} {a : Ex} : W (evE (.o1 o a)) s Q ↔ WO a s fun x s => W x.now s fun d s => W (lift (o.den d)) s Q := by rw [evE]; simp only [w_bind, WO]
theorem e_o2 {o : O2} {a b : Ex} : W (evE (.o2 o a b)) s Q ↔ WO a s fun x s => WO b s fun y s => W x.now s fun d s => W y.now s fun e s => W (lift (o.den d e)) s Q := by rw [evE]; simp only [w_bind, WO]
theorem e_slc {a : Ex} {l h : Option Ex} : W (evE (.slc a l h)) s Q ↔ WO a s fun x s => W (evP l) s fun l s => W (evP h) s fun h s => W x.now s fun d s => W (lift (slcD d l h)) s Q := by rw [evE]; simp only [w_bind, WO]
theorem e_rev {a : Ex} : W (evE (.rev a)) s Q ↔ WO a s fun x s => W x.now s fun d s => W (lift (revD d)) s Q := by rw [evE]; simp only [w_bind, WO]
theorem e_sld {a h : Ex} : W (evE (.sld a h)) s Q ↔ WO a s fun x s => W (evE h) s fun v s => W (intV v) s fun i s => W x.now s fun d s => W (lift (sldD d i)) s Q := by rw [evE]; simp only [w_bind, WO]
theorem e_not {a : Ex} : W (evE (.not a)) s Q ↔ W (evE a) s fun v s => W (isTrueV v) s fun b s => Q (.dat (.bool (!b))) s := by rw [evE]; simp only [w_bind, w_pure]
theorem e_and {a b : Ex} : W (evE (.and a b)) s Q ↔ W (evE a) s fun v s => W (isTrueV v) s fun c s => if c = true then W (evE b) s Q else Q (.dat (.bool false)) s := by rw [evE]; simp only [w_bind, w_ite, w_pure]
theorem e_or {a b : Ex} : W (evE (.or a b)) s Q ↔ W (evE a) s fun v s => W (isTrueV v) s fun c s => if c = true then Q (.dat (.bool true)) s else W (evE b) s Q := by rw [evE]; simp only [w_bind, w_ite, w_pure]
theorem e_ife {c a b : Ex} : W (evE (.ife c a b)) s Q ↔ W (evE c) s fun v s => W (isTrueV v) s fun c s => if c = true then W (evE a) s Q else W (evE b) s Q := by rw [evE]; simp only [w_bind, w_ite]
theorem e_isi {a : Ex} {t : String} : W (evE (.isi a t)) s Q ↔ WO a s fun x s => W x.now s fun d s => W (lift (L2.kitB (tyOf d) t)) s fun b s => Q (.dat (.bool b)) s := by rw [evE]; simp only [w_bind, WO, w_lift_map]
theorem e_rg1 {tp : Bool} {a : Ex} : W (evE (.lrng tp (some a) none)) s Q ↔ W (evE a) s fun v s => W (intV v) s fun n s => rgOk 0 n = true ∧ Q (if tp = true then .dat (.tuple (rgD 0 n)) else .uni (.list (rgD 0 n))) s := by
  rw [evE]
  simp only [evP, w_bind, w_pure, Option.isSome_none, Bool.false_eq_true, if_false, Option.getD_some, w_ite, w_stuck]
  constructor <;> intro h <;> refine W.mono h fun v s h => W.mono h fun n s h => ?_
  · split at h
    · exact ⟨by assumption, h⟩
    · exact h.elim
  · rw [if_pos h.1]; exact h.2
theorem e_rg2 {tp : Bool} {a b : Ex} : W (evE (.lrng tp (some a) (some b))) s Q ↔ W (evE a) s fun v s => W (intV v) s fun n s => W (evE b) s fun v s => W (intV v) s fun k s => rgOk n k = true ∧ Q (if tp = true then .dat (.tuple (rgD n k)) else .uni (.list (rgD n k))) s := by
  rw [evE]
  simp only [evP, w_bind, w_pure, Option.isSome_some, if_true, Option.getD_some, w_ite, w_stuck]
  constructor <;> intro h <;> refine W.mono h fun v s h => W.mono h fun n s h => W.mono h fun v s h => W.mono h fun k s h => ?_
  · split at h
    · exact ⟨by assumption, h⟩
    · exact h.elim
  · rw [if_pos h.1]; exact h.2
theorem e_call {f : Str} {g : Fn} {es gs : List Ex} {ks : List Str} : W (evE (.call f g es ks gs)) s Q ↔ W (evVs es) s fun vs s => W (evVs gs) s fun ws s => W (callFn g (vs ++ ws)) s Q := by rw [evE]; simp only [w_bind]
theorem e_pop {i : Nat} {a : Ex} : W (evE (.pop i a)) s Q ↔ W (ownChk i) s fun _ s => W (evE a) s fun v s => W (intV v) s fun k s => W (popAt i k) s Q := by rw [evE]; simp only [w_bind]
theorem e_fget {i : Nat} {k : Str} : W (evE (.fget i k)) s Q ↔ W (fgetM i k) s Q := by rw [evE]
theorem es_nil {Q : List PyData → S → Prop} : W (evEs []) s Q ↔ Q [] s := by rw [evEs, w_pure]
theorem es_cons {e : Ex} {es : List Ex} {Q : List PyData → S → Prop} : W (evEs (e :: es)) s Q ↔ W (evE e) s fun v s => W v.data s fun d s => W (evEs es) s fun ds s => Q (d :: ds) s := by rw [evEs]; simp only [w_bind, w_pure]
theorem vs_nil {Q : List Val → S → Prop} : W (evVs []) s Q ↔ Q [] s := by rw [evVs, w_pure]
theorem vs_cons {e : Ex} {es : List Ex} {Q : List Val → S → Prop} : W (evVs (e :: es)) s Q ↔ W (evE e) s fun v s => W (evVs es) s fun ds s => W (argsM v ds) s Q := by rw [evVs]; simp only [w_bind]
theorem w_args_dat {d : PyData} {vs : List Val} {Q : List Val → S → Prop} : W (argsM (.dat d) vs) s Q ↔ Q (.dat d :: vs) s := w_pure
theorem w_args_uni {d : PyData} {vs : List Val} {Q : List Val → S → Prop} : W (argsM (.uni d) vs) s Q ↔ Q (.dat d :: vs) s := w_pure
theorem w_args_sto {d : Nat} {vs : List Val} {Q : List Val → S → Prop} : W (argsM (.sto d) vs) s Q ↔ Q (.sto d :: vs) s := w_pure
theorem us_nil {Q : List Val → S → Prop} : W (evUs []) s Q ↔ Q [] s := by rw [evUs, w_pure]
theorem us_cons {e : Ex} {es : List Ex} {Q : List Val → S → Prop} : W (evUs (e :: es)) s Q ↔ W (evE e) s fun v s => W (evUs es) s fun ds s => Q (v :: ds) s := by rw [evUs]; simp only [w_bind, w_pure]
theorem p_none {Q : Option Int → S → Prop} : W (evP none) s Q ↔ Q none s := by rw [evP, w_pure]
theorem p_some {e : Ex} {Q : Option Int → S → Prop} : W (evP (some e)) s Q ↔ W (evE e) s fun v s => W (intV v) s fun i s => Q (some i) s := by rw [evP]; simp only [w_bind, w_pure]
theorem c_none {Q : Bool → S → Prop} : W (evC none) s Q ↔ Q true s := by rw [evC, w_pure]
theorem c_some {e : Ex} {Q : Bool → S → Prop} : W (evC (some e)) s Q ↔ W (evE e) s fun v s => W (isTrueV v) s Q := by rw [evC]; simp only [w_bind]
theorem arg_dat {d : PyData} : (Val.dat d).arg = .dat d := rfl
theorem arg_uni {d : PyData} : (Val.uni d).arg = .dat d := rfl
theorem arg_sto {n : Nat} : (Val.sto n).arg = .sto n := rfl
theorem slot_dat {d : PyData} : slotOf (.dat d) = .val d := rfl
theorem slot_uni {d : PyData} : slotOf (.uni d) = .own d := rfl
theorem slot_sto {n : Nat} : slotOf (.sto n) = .sto n := rfl
/-! statements -/
variable {R : Flow → S → Prop}
theorem s_asg {i : Nat} {e : Ex} : W (evS (.asg i e)) s R ↔ W (evE e) s fun v s => R .nx ⟨s.e.set i (slotOf v), s.m⟩ := by rw [evS]; simp only [w_bind, w_setS, w_pure]
theorem s_ret {e : Ex} : W (evS (.ret e)) s R ↔ W (evE e) s fun v s => R (.ret v) s := by rw [evS]; simp only [w_bind, w_pure]
theorem s_retv {i : Nat} : W (evS (.retv i)) s R ↔ W (mvVar i) s fun v s => R (.ret v) s := by rw [evS]; simp only [w_bind, w_pure]
theorem s_expr {e : Ex} : W (evS (.expr e)) s R ↔ W (evE e) s fun v s => R .nx s := by rw [evS]; simp only [w_bind, w_pure]
theorem s_if {c : Ex} {a b : List Sm} : W (evS (.ife c a b)) s R ↔ W (evE c) s fun v s => W (isTrueV v) s fun c s => if c = true then W (evSs a) s R else W (evSs b) s R := by rw [evS]; simp only [w_bind, w_ite]
theorem s_fset {i : Nat} {k : Str} {e : Ex} : W (evS (.fset i k e)) s R ↔ W (evE e) s fun v s => W v.data s fun d s => W (fsetM i k d) s fun _ s => R .nx s := by rw [evS]; simp only [w_bind, w_pure]
theorem s_app {i : Nat} {e : Ex} : W (evS (.app i e)) s R ↔ W (ownChk i) s fun _ s => W (evE e) s fun v s => W v.data s fun d s => W (appM i d) s fun _ s => R .nx s := by rw [evS]; simp only [w_bind, w_pure]
theorem s_ext {i : Nat} {e : Ex} : W (evS (.ext i e)) s R ↔ W (ownChk i) s fun _ s => W (evE e) s fun v s => W (uniL v) s fun d s => W (extM i d) s fun _ s => R .nx s := by rw [evS]; simp only [w_bind, w_pure]
theorem s_par {is : List Nat} {es : List Ex} : W (evS (.par is es)) s R ↔ W (evUs es) s fun vs s => W (parGo is vs) s fun _ s => R .nx s := by rw [evS]; simp only [w_bind, w_pure]
theorem par_nil {Q : Unit → S → Prop} : W (parGo [] []) s Q ↔ Q () s := by rw [parGo, w_pure]
theorem par_cons {i : Nat} {is : List Nat} {v : Val} {vs : List Val} {Q : Unit → S → Prop} : W (parGo (i :: is) (v :: vs)) s Q ↔ W (parGo is vs) ⟨s.e.set i (slotOf v), s.m⟩ Q := by rw [parGo]; simp only [w_bind, w_setS]
theorem s_unp {t : Tg} {e : Ex} : W (evS (.unp t e)) s R ↔ W (evE e) s fun v s => W v.data s fun d s => W (asg t d) s fun _ s => R .nx s := by rw [evS]; simp only [w_bind, w_pure]
theorem s_for {t : Tg} {it : It} {b : List Sm} : W (evS (.for_ t it b)) s R ↔ W (evIt it) s fun ds s => W (forGo (fun d => (asg t d).bind fun _ => evSs b) ds) s R := by rw [evS]; simp only [w_bind]
theorem s_dead : W (evS .dead) s R ↔ False := by rw [evS]; exact w_stuck
theorem a_name {i : Nat} {d : PyData} {Q : Unit → S → Prop} : W (asg (.name i) d) s Q ↔ Q () ⟨s.e.set i (.val d), s.m⟩ := by rw [asg]; exact w_setS
theorem a_tup {ts : List Tg} {ds : List PyData} {Q : Unit → S → Prop} : W (asg (.tup ts) (.tuple ds)) s Q ↔ W (asgs ts ds) s Q := by rw [asg]
theorem a_tupL {ts : List Tg} {ds : List PyData} {Q : Unit → S → Prop} : W (asg (.tup ts) (.list ds)) s Q ↔ W (asgs ts ds) s Q := by rw [asg]
theorem as_nil {Q : Unit → S → Prop} : W (asgs [] []) s Q ↔ Q () s := by rw [asgs]; exact w_pure
theorem as_cons {t : Tg} {ts : List Tg} {d : PyData} {ds : List PyData} {Q : Unit → S → Prop} : W (asgs (t :: ts) (d :: ds)) s Q ↔ W (asg t d) s fun _ s => W (asgs ts ds) s Q := by rw [asgs]; simp only [w_bind]
/-! walks -/
theorem it_of {e : Ex} {Q : List PyData → S → Prop} : W (evIt (.ofE e)) s Q ↔ W (evE e) s fun v s => W v.data s fun d s => W (lift (itemsOf d)) s Q := by rw [evIt]; simp only [w_bind]
theorem it_enu {e : Ex} {Q : List PyData → S → Prop} : W (evIt (.enu e)) s Q ↔ W (evE e) s fun v s => W v.data s fun d s => W (lift (seq? d)) s fun ds s => Q (enumD 0 ds) s := by rw [evIt]; simp only [w_bind, w_pure]
theorem it_zip {a b : Ex} {Q : List PyData → S → Prop} : W (evIt (.zip a b)) s Q ↔ W (evE a) s fun v s => W v.data s fun d s => W (evE b) s fun v s => W v.data s fun e s => W (lift (zip? d e)) s Q := by rw [evIt]; simp only [w_bind]
theorem it_rg1 {a : Ex} {Q : List PyData → S → Prop} : W (evIt (.rng (some a) none)) s Q ↔ W (evE a) s fun v s => W (intV v) s fun n s => rgOk 0 n = true ∧ Q (rgD 0 n) s := by
  rw [evIt]
  simp only [evP, w_bind, w_pure, Option.isSome_none, Bool.false_eq_true, if_false, Option.getD_some, w_ite, w_stuck]
  constructor <;> intro h <;> refine W.mono h fun v s h => W.mono h fun n s h => ?_
  · split at h
    · exact ⟨by assumption, h⟩
    · exact h.elim
  · rw [if_pos h.1]; exact h.2
theorem it_rg2 {a b : Ex} {Q : List PyData → S → Prop} : W (evIt (.rng (some a) (some b))) s Q ↔ W (evE a) s fun v s => W (intV v) s fun n s => W (evE b) s fun v s => W (intV v) s fun k s => rgOk n k = true ∧ Q (rgD n k) s := by
  rw [evIt]
  simp only [evP, w_bind, w_pure, Option.isSome_some, if_true, Option.getD_some, w_ite, w_stuck]
  constructor <;> intro h <;> refine W.mono h fun v s h => W.mono h fun n s h => W.mono h fun v s h => W.mono h fun k s h => ?_
  · split at h
    · exact ⟨by assumption, h⟩
    · exact h.elim
  · rw [if_pos h.1]; exact h.2
theorem it_rgd {a b : Ex} {Q : List PyData → S → Prop} : W (evIt (.rngd a b)) s Q ↔ W (evE a) s fun v s => W (intV v) s fun n s => W (evE b) s fun v s => W (intV v) s fun k s => rgOk k n = true ∧ Q (rgN n k) s := by
  rw [evIt]
  simp only [w_bind, w_pure, w_ite, w_stuck]
  constructor <;> intro h <;> refine W.mono h fun v s h => W.mono h fun n s h => W.mono h fun v s h => W.mono h fun k s h => ?_
  · split at h
    · exact ⟨by assumption, h⟩
    · exact h.elim
  · rw [if_pos h.1]; exact h.2
end
end Fb

namespace Fb
open PySem
/-! what stands behind is left alone -/
/-! operations upon known values -/
section
variable {a b : Int} {xs ys : List PyData} {d e : PyData} {s : S} {Q : Val → S → Prop}
theorem d_add : W (lift (O2.den .add (.int a) (.int b))) s Q ↔ Q (.dat (.int (a + b))) s := w_lift_some
theorem d_addL : W (lift (O2.den .add (.list xs) (.list ys))) s Q ↔ xs.length + ys.length ≤ SZ ∧ Q (.uni (.list (xs ++ ys))) s := w_lift_ite
theorem d_addT : W (lift (O2.den .add (.tuple xs) (.tuple ys))) s Q ↔ xs.length + ys.length ≤ SZ ∧ Q (.dat (.tuple (xs ++ ys))) s := w_lift_ite
theorem d_sub : W (lift (O2.den .sub (.int a) (.int b))) s Q ↔ Q (.dat (.int (a - b))) s := w_lift_some
theorem d_mul : W (lift (O2.den .mul (.int a) (.int b))) s Q ↔ ((-(2 ^ 64) < a ∧ a < 2 ^ 64) ∨ (-(2 ^ 64) < b ∧ b < 2 ^ 64)) ∧ Q (.dat (.int (a * b))) s := w_lift_ite
theorem d_mod : W (lift (O2.den .mod (.int a) (.int b))) s Q ↔ 0 < b ∧ Q (.dat (.int (a % b))) s := w_lift_ite
theorem d_fdiv : W (lift (O2.den .fdiv (.int a) (.int b))) s Q ↔ (0 < b ∧ b < 1073741824) ∧ Q (.dat (.int (a / b))) s := w_lift_ite
theorem d_pow : W (lift (O2.den .pow (.int a) (.int b))) s Q ↔ (0 ≤ b ∧ b ≤ 1000000 ∧ a.natAbs < 2 ^ 64) ∧ Q (.dat (.int (a ^ b.toNat))) s := w_lift_ite
theorem d_eqI : W (lift (O2.den .eq (.int a) (.int b))) s Q ↔ Q (.dat (.bool (decide (a = b)))) s := by
  have e : O2.den .eq (.int a) (.int b) = some (.dat (.bool (a == b))) := rfl
  rw [e, w_lift_some]
  rfl
theorem d_neI : W (lift (O2.den .ne (.int a) (.int b))) s Q ↔ Q (.dat (.bool (!decide (a = b)))) s := by
  have e : O2.den .ne (.int a) (.int b) = some (.dat (.bool (!(a == b)))) := rfl
  rw [e, w_lift_some]
  rfl
theorem d_eqS {x y : Str} : W (lift (O2.den .eq (.str x) (.str y))) s Q ↔ Q (.dat (.bool (decide (x = y)))) s := w_lift_some
theorem d_neS {x y : Str} : W (lift (O2.den .ne (.str x) (.str y))) s Q ↔ Q (.dat (.bool (!decide (x = y)))) s := w_lift_some
theorem d_eqT : W (lift (O2.den .eq (.tuple xs) (.tuple ys))) s Q ↔ (SeqAt.shaped (.tuple xs) && SeqAt.shaped (.tuple ys)) = true ∧ Q (.dat (.bool (PyData.eqv (.tuple xs) (.tuple ys)))) s := w_lift_ite
theorem d_eqL : W (lift (O2.den .eq (.list xs) (.list ys))) s Q ↔ (SeqAt.shaped (.list xs) && SeqAt.shaped (.list ys)) = true ∧ Q (.dat (.bool (PyData.eqv (.list xs) (.list ys)))) s := w_lift_ite
theorem d_neT : W (lift (O2.den .ne (.tuple xs) (.tuple ys))) s Q ↔ (SeqAt.shaped (.tuple xs) && SeqAt.shaped (.tuple ys)) = true ∧ Q (.dat (.bool (!PyData.eqv (.tuple xs) (.tuple ys)))) s := w_lift_ite
theorem d_neL : W (lift (O2.den .ne (.list xs) (.list ys))) s Q ↔ (SeqAt.shaped (.list xs) && SeqAt.shaped (.list ys)) = true ∧ Q (.dat (.bool (!PyData.eqv (.list xs) (.list ys)))) s := w_lift_ite
theorem d_lt : W (lift (O2.den .lt (.int a) (.int b))) s Q ↔ Q (.dat (.bool (decide (a < b)))) s := w_lift_some
theorem d_le : W (lift (O2.den .le (.int a) (.int b))) s Q ↔ Q (.dat (.bool (decide (a ≤ b)))) s := w_lift_some
theorem d_gt : W (lift (O2.den .gt (.int a) (.int b))) s Q ↔ Q (.dat (.bool (decide (b < a)))) s := w_lift_some
theorem d_ge : W (lift (O2.den .ge (.int a) (.int b))) s Q ↔ Q (.dat (.bool (decide (b ≤ a)))) s := w_lift_some
theorem d_inT : W (lift (O2.den .inn d (.tuple ys))) s Q ↔ (SeqAt.shaped d && SeqAt.shaped (.tuple ys)) = true ∧ Q (.dat (.bool (inD d ys))) s := by
  have e : O2.den .inn d (.tuple ys) = (if (SeqAt.shaped d && SeqAt.shaped (.tuple ys)) = true then some (inD d ys) else none).map fun r => .dat (.bool r) := rfl
  rw [e, w_lift_map, w_lift_ite]
theorem d_inL : W (lift (O2.den .inn d (.list ys))) s Q ↔ (SeqAt.shaped d && SeqAt.shaped (.list ys)) = true ∧ Q (.dat (.bool (inD d ys))) s := by
  have e : O2.den .inn d (.list ys) = (if (SeqAt.shaped d && SeqAt.shaped (.list ys)) = true then some (inD d ys) else none).map fun r => .dat (.bool r) := rfl
  rw [e, w_lift_map, w_lift_ite]
theorem d_ninT : W (lift (O2.den .nin d (.tuple ys))) s Q ↔ (SeqAt.shaped d && SeqAt.shaped (.tuple ys)) = true ∧ Q (.dat (.bool (!inD d ys))) s := by
  have e : O2.den .nin d (.tuple ys) = (if (SeqAt.shaped d && SeqAt.shaped (.tuple ys)) = true then some (inD d ys) else none).map fun r => .dat (.bool (!r)) := rfl
  rw [e, w_lift_map, w_lift_ite]
theorem d_ninL : W (lift (O2.den .nin d (.list ys))) s Q ↔ (SeqAt.shaped d && SeqAt.shaped (.list ys)) = true ∧ Q (.dat (.bool (!inD d ys))) s := by
  have e : O2.den .nin d (.list ys) = (if (SeqAt.shaped d && SeqAt.shaped (.list ys)) = true then some (inD d ys) else none).map fun r => .dat (.bool (!r)) := rfl
  rw [e, w_lift_map, w_lift_ite]
theorem d_isN : W (lift (O2.den .isN d .none)) s Q ↔ Q (.dat (.bool (isNone d))) s := by cases d <;> exact w_lift_some
theorem d_notN : W (lift (O2.den .notN d .none)) s Q ↔ Q (.dat (.bool (!isNone d))) s := by cases d <;> exact w_lift_some
theorem d_idxL : W (lift (O2.den .idx (.list xs) (.int a))) s Q ↔ ∃ d, L2.atI xs a = some d ∧ Q (.dat d) s := by
  have e : O2.den .idx (.list xs) (.int a) = (L2.atI xs a).map .dat := rfl
  rw [e, w_lift_map, w_lift]
theorem d_idxT : W (lift (O2.den .idx (.tuple xs) (.int a))) s Q ↔ ∃ d, L2.atI xs a = some d ∧ Q (.dat d) s := by
  have e : O2.den .idx (.tuple xs) (.int a) = (L2.atI xs a).map .dat := rfl
  rw [e, w_lift_map, w_lift]
theorem d_min : W (lift (O2.den .min (.int a) (.int b))) s Q ↔ Q (.dat (.int (if b < a then b else a))) s := w_lift_some
theorem d_max : W (lift (O2.den .max (.int a) (.int b))) s Q ↔ Q (.dat (.int (if b > a then b else a))) s := w_lift_some
theorem d_lenL : W (lift (O1.den .len (.list xs))) s Q ↔ Q (.dat (.int xs.length)) s := w_lift_some
theorem d_lenT : W (lift (O1.den .len (.tuple xs))) s Q ↔ Q (.dat (.int xs.length)) s := w_lift_some
theorem d_tupL : W (lift (O1.den .tuple (.list xs))) s Q ↔ Q (.dat (.tuple xs)) s := w_lift_some
theorem d_tupT : W (lift (O1.den .tuple (.tuple xs))) s Q ↔ Q (.dat (.tuple xs)) s := w_lift_some
theorem d_lstL : W (lift (O1.den .list (.list xs))) s Q ↔ Q (.uni (.list xs)) s := w_lift_some
theorem d_lstT : W (lift (O1.den .list (.tuple xs))) s Q ↔ Q (.uni (.list xs)) s := w_lift_some
theorem d_srtL : W (lift (O1.den .sorted (.list xs))) s Q ↔ ∃ l, sort? xs = some l ∧ Q (.uni (.list l)) s := by
  have e : O1.den .sorted (.list xs) = (sort? xs).map fun l => .uni (.list l) := rfl
  rw [e, w_lift_map, w_lift]
theorem d_srtT : W (lift (O1.den .sorted (.tuple xs))) s Q ↔ ∃ l, sort? xs = some l ∧ Q (.uni (.list l)) s := by
  have e : O1.den .sorted (.tuple xs) = (sort? xs).map fun l => .uni (.list l) := rfl
  rw [e, w_lift_map, w_lift]
theorem d_srtset {l : List Int} : W (lift (O1.den .srtset (.list (ofInts l)))) s Q ↔ l.length < 64 ∧ Q (.uni (.list (ofInts (usort l)))) s := by
  have h : ∀ l : List Int, ints? (ofInts l) = some l := fun l => by
    induction l with
    | nil => rfl
    | cons x t ih => show (ints? (ofInts t)).map (x :: ·) = _; rw [ih]; rfl
  have e : O1.den .srtset (.list (ofInts l)) = if l.length < 64 then some (.uni (.list (ofInts (usort l)))) else none := by
    show (ints? (ofInts l)).bind _ = _
    rw [h]
    rfl
  rw [e, w_lift_ite]
theorem d_int : W (lift (O1.den .int (.int a))) s Q ↔ Q (.dat (.int a)) s := w_lift_some
theorem d_neg : W (lift (O1.den .neg (.int a))) s Q ↔ Q (.dat (.int (-a))) s := w_lift_some
theorem d_repr : W (lift (O1.den .repr d)) s Q ↔ (SeqAt.shaped d && d.showable && decide (d.shown.length ≤ SZ)) = true ∧ Q (.dat (.str d.shown)) s := by
  have e : O1.den .repr d = if (SeqAt.shaped d && d.showable && decide (d.shown.length ≤ SZ)) = true then some (.dat (.str d.shown)) else none := by cases d <;> rfl
  rw [e, w_lift_ite]
theorem d_all : W (lift (O1.den .all (.list xs))) s Q ↔ ∃ l, bools? xs = some l ∧ Q (.dat (.bool (l.all id))) s := by
  have e : O1.den .all (.list xs) = (bools? xs).map fun l => .dat (.bool (l.all id)) := rfl
  rw [e, w_lift_map, w_lift]
theorem d_any : W (lift (O1.den .any (.list xs))) s Q ↔ ∃ l, bools? xs = some l ∧ Q (.dat (.bool (l.any id))) s := by
  have e : O1.den .any (.list xs) = (bools? xs).map fun l => .dat (.bool (l.any id)) := rfl
  rw [e, w_lift_map, w_lift]
theorem d_sum : W (lift (O1.den .sum (.list xs))) s Q ↔ ∃ l, ints? xs = some l ∧ Q (.dat (.int l.sum)) s := by
  have e : O1.den .sum (.list xs) = (ints? xs).map fun l => .dat (.int l.sum) := rfl
  rw [e, w_lift_map, w_lift]
theorem d_slcL {lo hi : Option Int} : W (lift (slcD (.list xs) lo hi)) s Q ↔ Q (.uni (.list (cutD xs lo hi))) s := w_lift_some
theorem d_slcT {lo hi : Option Int} : W (lift (slcD (.tuple xs) lo hi)) s Q ↔ Q (.dat (.tuple (cutD xs lo hi))) s := w_lift_some
theorem d_revL : W (lift (revD (.list xs))) s Q ↔ Q (.uni (.list xs.reverse)) s := w_lift_some
theorem d_revT : W (lift (revD (.tuple xs))) s Q ↔ Q (.dat (.tuple xs.reverse)) s := w_lift_some
theorem d_itL {Q : List PyData → S → Prop} : W (lift (itemsOf (.list xs))) s Q ↔ Q xs s := w_lift_some
theorem d_itT {Q : List PyData → S → Prop} : W (lift (itemsOf (.tuple xs))) s Q ↔ Q xs s := w_lift_some
theorem d_list {Q : List PyData → S → Prop} : W (lift (list? (.list xs))) s Q ↔ Q xs s := w_lift_some
theorem d_zipL {Q : List PyData → S → Prop} : W (lift (zip? (.list xs) (.list ys))) s Q ↔ Q (zipD xs ys) s := w_lift_some
theorem d_zipT {Q : List PyData → S → Prop} : W (lift (zip? (.tuple xs) (.tuple ys))) s Q ↔ Q (zipD xs ys) s := w_lift_some
theorem w_pop {i : Nat} {k : Int} {e : List Slot} {m : Mu} : W (popAt i k) ⟨e, m⟩ Q ↔ (match e[i]? with
    | some (.own (.list ds)) => ∃ j d, seqIndex? k ds.length = some j ∧ ds[j]? = some d ∧ (-(2 ^ 63) ≤ k ∧ k < 2 ^ 63) ∧ Q (.dat d) ⟨e.set i (.own (.list (ds.eraseIdx j))), m⟩
    | _ => False) := by
  unfold W popAt
  dsimp only
  cases e[i]? with
  | none => simp only [ok_stuck]
  | some x =>
    cases x with
    | own d =>
      cases d with
      | list ds =>
        dsimp only
        cases h1 : seqIndex? k ds.length with
        | none => simp only [ok_stuck, reduceCtorEq, false_and, exists_false]
        | some j =>
          dsimp only
          cases h2 : ds[j]? with
          | none =>
            simp only [ok_stuck, Option.some.injEq, false_iff, not_exists, not_and]
            intro j' d e1 e2
            subst e1
            rw [h2] at e2
            cases e2
          | some d =>
            dsimp only
            by_cases c : -(2 ^ 63) ≤ k ∧ k < 2 ^ 63
            · rw [if_pos c, ok_ok]
              constructor
              · intro q; exact ⟨j, d, rfl, h2, c, q⟩
              · rintro ⟨j', d', e1, e2, _, q⟩
                cases e1
                rw [h2] at e2
                cases e2
                exact q
            · rw [if_neg c, ok_stuck]
              constructor
              · intro q; exact q.elim
              · rintro ⟨_, _, _, _, c', _⟩; exact c c'
      | _ => simp only [ok_stuck]
    | _ => simp only [ok_stuck]
end
/-! ### loops and comprehensions -/
/-- a loop by its invariant: I holds of the number of turns done -/
theorem for_inv {body : PyData → M Flow} {R : Flow → S → Prop} (I : Nat → S → Prop) : ∀ (ds : List PyData) (n : Nat) (s : S), I n s →
    (∀ (i : Nat) (d : PyData) (s : S), ds[i]? = some d → I (n + i) s → W (body d) s fun f s' => match f with
      | .nx => I (n + i + 1) s'
      | .cnt => I (n + i + 1) s'
      | .brk => R .nx s'
      | .ret v => R (.ret v) s') → (∀ s, I (n + ds.length) s → R .nx s) → W (forGo body ds) s R
  | [], n, s, h, _, hr => by rw [forGo, w_pure]; exact hr s h
  | d :: ds, n, s, h, hb, hr => by
    rw [forGo, w_bind]
    refine W.mono (hb 0 d s rfl h) fun f s' q => ?_
    have go : ∀ s', I (n + 1) s' → W (forGo body ds) s' R := fun s' q => for_inv I ds (n + 1) s' q (fun i d' s h1 h2 => by
      have := hb (i + 1) d' s (by simpa using h1) (by rw [← Nat.add_assoc, Nat.add_right_comm]; exact h2)
      refine W.mono this fun f s' q => ?_
      have e : n + (i + 1) + 1 = n + 1 + i + 1 := by omega
      cases f <;> first | exact q | (rw [e] at q; exact q)) fun s h => hr s (by rw [List.length_cons]; rw [show n + (ds.length + 1) = n + 1 + ds.length by omega]; exact h)
    cases f with
    | nx => exact go s' q
    | cnt => exact go s' q
    | brk => exact w_pure.mpr q
    | ret v => exact w_pure.mpr q
/-- a comprehension whose turns leave the names outside alone: P of the store, R of what a turn yields -/
theorem lc_go {own : List Nat} {body : PyData → M (Option PyData)} {e0 : List Slot} (P : Mu → Prop) (T : PyData → Option PyData → Prop) : ∀ (ds : List PyData) (e : List Slot) (m : Mu), wipeS e own = e0 → P m →
    (∀ d ∈ ds, ∀ m, P m → W (body d) ⟨e0, m⟩ fun r s => P s.m ∧ wipeS s.e own = e0 ∧ T d r) →
    W (lcGo own body ds) ⟨e, m⟩ fun rs s => P s.m ∧ wipeS s.e own = e0 ∧ ∃ os : List (Option PyData), rs = os.filterMap id ∧ os.length = ds.length ∧ ∀ (i : Nat) (d : PyData), ds[i]? = some d → ∃ o, os[i]? = some o ∧ T d o
  | [], e, m, he, hp, _ => by
    rw [lcGo, w_pure]
    exact ⟨hp, he, [], rfl, rfl, fun i d h => by simp at h⟩
  | d :: ds, e, m, he, hp, hb => by
    rw [lcGo, w_bind]
    have h0 : W (wipeM own) ⟨e, m⟩ fun _ s => s = ⟨e0, m⟩ := by
      unfold W wipeM
      rw [ok_ok]
      show (⟨wipeS e own, m⟩ : S) = _
      rw [he]
    refine W.mono h0 fun _ s es => ?_
    subst es
    rw [w_bind]
    refine W.mono (hb d List.mem_cons_self m hp) fun r s q => ?_
    obtain ⟨q1, q2, q3⟩ := q
    rw [w_bind]
    obtain ⟨e1, m1⟩ := s
    refine W.mono (lc_go P T ds e1 m1 q2 q1 fun d hd => hb d (List.mem_cons_of_mem _ hd)) fun rs s q => ?_
    obtain ⟨z1, z2, os, z3, z4, z5⟩ := q
    rw [w_pure]
    refine ⟨z1, z2, r :: os, ?_, by rw [List.length_cons, List.length_cons, z4], fun i d' h => ?_⟩
    · subst z3
      cases r <;> rfl
    · cases i with
      | zero => simp at h; subst h; exact ⟨r, rfl, q3⟩
      | succ i => simp at h; simpa using z5 i d' h
theorem merge_self {own : List Nat} {e e' : List Slot} (h : wipeS e' own = wipeS e own) : merge e e' own = e := by
  have hg : ∀ (e : List Slot) (vs : List Nat) (j : Nat), (wipeS e vs)[j]? = if j ∈ vs ∧ j < e.length then some .unset else e[j]? := by
    intro e vs
    induction vs with
    | nil => intro j; rw [if_neg (by simp)]; rfl
    | cons v vs ih =>
      intro j
      show ((wipeS e vs).set v .unset)[j]? = _
      have hl : (wipeS e vs).length = e.length := by
        clear ih
        induction vs with
        | nil => rfl
        | cons w ws ih2 => show ((wipeS e ws).set w .unset).length = _; rw [List.length_set, ih2]
      by_cases vj : v = j
      · subst vj
        by_cases hv : v < e.length
        · rw [List.getElem?_set_self (by omega), if_pos ⟨List.mem_cons_self, hv⟩]
        · rw [List.getElem?_eq_none (by rw [List.length_set]; omega), if_neg (fun z => hv z.2), List.getElem?_eq_none (by omega)]
      · rw [List.getElem?_set_ne vj, ih]
        by_cases c : j ∈ vs ∧ j < e.length
        · rw [if_pos c, if_pos ⟨List.mem_cons_of_mem _ c.1, c.2⟩]
        · rw [if_neg c, if_neg]
          rintro ⟨c1, c2⟩
          rcases List.mem_cons.mp c1 with z | z
          · exact vj z.symm
          · exact c ⟨z, c2⟩
  have hlw : ∀ (e : List Slot) (vs : List Nat), (wipeS e vs).length = e.length := by
    intro e vs
    induction vs with
    | nil => rfl
    | cons w ws ih2 => show ((wipeS e ws).set w .unset).length = _; rw [List.length_set, ih2]
  have hl : e'.length = e.length := by rw [← hlw e' own, ← hlw e own, h]
  have hm : ∀ (vs : List Nat) (j : Nat), (merge e e' vs)[j]? = if j ∈ vs then e[j]? else e'[j]? := by
    intro vs
    have hl2 : ∀ vs : List Nat, (merge e e' vs).length = e'.length := by
      intro vs
      induction vs with
      | nil => rfl
      | cons w ws ih2 => show ((merge e e' ws).set w _).length = _; rw [List.length_set, ih2]
    induction vs with
    | nil => intro j; rw [if_neg (by simp)]; rfl
    | cons v vs ih =>
      intro j
      show ((merge e e' vs).set v (e.getD v .unset))[j]? = _
      by_cases vj : v = j
      · subst vj
        rw [if_pos List.mem_cons_self]
        by_cases hv : v < e.length
        · rw [List.getElem?_set_self (by rw [hl2]; omega), List.getD_eq_getElem?_getD, List.getElem?_eq_getElem hv]; rfl
        · rw [List.getElem?_eq_none (by rw [List.length_set, hl2]; omega), List.getElem?_eq_none (by omega)]
      · rw [List.getElem?_set_ne vj, ih]
        by_cases c : j ∈ vs
        · rw [if_pos c, if_pos (List.mem_cons_of_mem _ c)]
        · rw [if_neg c, if_neg]
          intro z
          rcases List.mem_cons.mp z with z | z
          · exact vj z.symm
          · exact c z
  refine List.ext_getElem? fun j => ?_
  rw [hm]
  split
  · rfl
  · rename_i c
    have := congrArg (·[j]?) h
    simp only [hg] at this
    rw [if_neg (fun z => c z.1), if_neg (fun z => c z.1)] at this
    exact this
theorem w_lc {vs : List Nat} {elt : Ex} {t : Tg} {it : It} {c : Option Ex} {e : List Slot} {m : Mu} {Q : Val → S → Prop} (P : Mu → Prop) (T : PyData → Option PyData → Prop)
    (h : W (evIt it) ⟨e, m⟩ fun ds s => (vs.any fun i => isOwn (s.e.getD i .unset)) = false ∧ ds.length ≤ SZ ∧ P s.m ∧
      (∀ d ∈ ds, ∀ m, P m → W (asg t d) ⟨wipeS s.e vs, m⟩ fun _ s1 => W (evC c) s1 fun b s2 => if b = true then W (evE elt) s2 fun v s3 => W v.data s3 fun r s4 => P s4.m ∧ wipeS s4.e vs = wipeS s.e vs ∧ T d (some r) else P s2.m ∧ wipeS s2.e vs = wipeS s.e vs ∧ T d none) ∧
      ∀ (os : List (Option PyData)) (m' : Mu), P m' → os.length = ds.length → (∀ (i : Nat) (d : PyData), ds[i]? = some d → ∃ o, os[i]? = some o ∧ T d o) → Q (.uni (.list (os.filterMap id))) ⟨s.e, m'⟩) :
    W (evE (.lc vs elt t it c)) ⟨e, m⟩ Q := by
  rw [evE, w_bind]
  refine W.mono h fun ds s q => ?_
  obtain ⟨h1, h2, h3, h4, h5⟩ := q
  obtain ⟨e1, m1⟩ := s
  have g := lc_go (own := vs) (body := fun d => (asg t d).bind fun _ => (evC c).bind fun b => if b then (evE elt).bind fun v => v.data.bind fun r => M.pure (some r) else M.pure none) P T ds e1 m1 rfl h3 (fun d hd m hm => by
    rw [w_bind]
    refine W.mono (h4 d hd m hm) fun _ s1 q => ?_
    rw [w_bind]
    refine W.mono q fun b s2 q => ?_
    cases b with
    | true => simp only [w_ite, if_true, w_bind, w_pure] at q ⊢; exact q
    | false => simp only [w_ite, Bool.false_eq_true, if_false, w_bind, w_pure] at q ⊢; exact q)
  obtain ⟨⟨rs, e2, m2⟩, g1, g2, g3, os, g4, g5, g6⟩ := g
  unfold W lcAll
  dsimp only
  rw [if_neg (by rw [h1]; decide), g1]
  dsimp only
  rw [if_pos h2, ok_ok]
  dsimp only
  have em : merge e1 e2 vs = e1 := merge_self g3
  rw [em]
  have er : rs = os.filterMap id := g4
  rw [er]
  exact h5 os m2 g2 g5 g6

/-! chains, methods, dicts -/
section
variable {s : S} {Q : Val → S → Prop} {R : Flow → S → Prop}
theorem e_chn {o o2 : O2} {a b e : Ex} : W (evE (.chn o o2 a b e)) s Q ↔ WO a s fun x s => WO b s fun y s => W x.now s fun d s => W y.now s fun d2 s => W (lift (o.den d d2)) s fun v s => W (isTrueV v) s fun c s => if c = true then WO e s fun z s => W y.now s fun d s => W z.now s fun d2 s => W (lift (o2.den d d2)) s Q else Q (.dat (.bool false)) s := by
  rw [evE]
  simp only [w_bind, WO, w_ite, w_pure]
theorem w_recv {o : O2} {d : PyData} {Q : Unit → S → Prop} : W (recvM o d) s Q ↔ o.recv d = true ∧ Q () s := by
  unfold recvM
  by_cases h : o.recv d = true <;> simp only [h, if_true, if_false, Bool.false_eq_true, w_pure, w_stuck, true_and, false_and]
theorem e_mt {o : O2} {a b : Ex} : W (evE (.mt o a b)) s Q ↔ WO a s fun x s => W x.now s fun d s => o.recv d = true ∧ WO b s fun y s => W x.now s fun d s => W y.now s fun e s => W (lift (o.den d e)) s Q := by
  rw [evE]
  simp only [w_bind, WO, w_recv]
theorem e_get2 {a b e : Ex} : W (evE (.get2 a b e)) s Q ↔ WO a s fun x s => W x.now s fun d s => O2.recv .get d = true ∧ WO b s fun y s => W (evE e) s fun v s => W v.data s fun z s => W x.now s fun d s => W y.now s fun k s => W (lift (get2D d k z)) s Q := by
  rw [evE]
  simp only [w_bind, WO, w_recv]
theorem e_pur {e : Ex} {es : List Slot} {m : Mu} : W (evE (.pur e)) ⟨es, m⟩ Q ↔ W (evE e) ⟨es.map roS, []⟩ fun v _ => pureV v = true ∧ Q v ⟨es, m⟩ := by
  rw [evE]
  unfold W purM
  dsimp only
  cases evE e ⟨es.map roS, []⟩ with
  | ok p =>
    obtain ⟨v, s'⟩ := p
    dsimp only
    rw [ok_ok]
    by_cases c : pureV v = true
    · rw [if_pos c, ok_ok]; exact ⟨fun h => ⟨c, h⟩, fun h => h.2⟩
    · rw [if_neg c, ok_stuck]; exact ⟨fun h => h.elim, fun h => c h.1⟩
  | exc c fs => simp only [ok_exc]
  | stuck => simp only [ok_stuck]
theorem e_rep {es : List Ex} {e : Ex} {s : S} : W (evE (.rep es e)) s Q ↔ W (evEs es) s fun ds s => W (evE e) s fun v s => W (intV v) s fun n s => (-(2 ^ 63) ≤ n ∧ n < 2 ^ 63 ∧ ds.length * n.toNat ≤ SZ) ∧ Q (.uni (.list (List.replicate n.toNat ds).flatten)) s := by
  rw [evE]
  simp only [w_bind]
  have h : ∀ (ds : List PyData) (n : Int) (s : S), W (repM ds n) s Q ↔ (-(2 ^ 63) ≤ n ∧ n < 2 ^ 63 ∧ ds.length * n.toNat ≤ SZ) ∧ Q (.uni (.list (List.replicate n.toNat ds).flatten)) s := fun ds n s => by
    unfold repM
    by_cases c : -(2 ^ 63) ≤ n ∧ n < 2 ^ 63 ∧ ds.length * n.toNat ≤ SZ
    · rw [if_pos c, w_pure]; exact ⟨fun q => ⟨c, q⟩, fun q => q.2⟩
    · rw [if_neg c, w_stuck]; exact ⟨fun q => q.elim, fun q => c q.1⟩
  simp only [h]
theorem e_tupS {a : Ex} {es : List Ex} {s : S} : W (evE (.tupS a es)) s Q ↔ W (evE a) s fun v s => W v.data s fun d s => W (lift (seq? d)) s fun xs s => W (evEs es) s fun ds s => xs.length + ds.length ≤ SZ ∧ Q (.dat (.tuple (xs ++ ds))) s := by
  rw [evE]
  simp only [w_bind]
  have h : ∀ (xs ds : List PyData) (s : S), W (if xs.length + ds.length ≤ SZ then M.pure (.dat (.tuple (xs ++ ds))) else M.stuck) s Q ↔ xs.length + ds.length ≤ SZ ∧ Q (.dat (.tuple (xs ++ ds))) s := fun xs ds s => by
    by_cases c : xs.length + ds.length ≤ SZ
    · rw [if_pos c, w_pure]; exact ⟨fun q => ⟨c, q⟩, fun q => q.2⟩
    · rw [if_neg c, w_stuck]; exact ⟨fun q => q.elim, fun q => c q.1⟩
  simp only [h]
theorem d_seqL {xs : List PyData} {s : S} {Q : List PyData → S → Prop} : W (lift (seq? (.list xs))) s Q ↔ Q xs s := w_lift_some
theorem d_seqT {xs : List PyData} {s : S} {Q : List PyData → S → Prop} : W (lift (seq? (.tuple xs))) s Q ↔ Q xs s := w_lift_some
theorem d_isB {a b : Bool} {s : S} : W (lift (O2.den .isB (.bool a) (.bool b))) s Q ↔ Q (.dat (.bool (decide (a = b)))) s := w_lift_some
theorem d_notB {a b : Bool} {s : S} : W (lift (O2.den .notB (.bool a) (.bool b))) s Q ↔ Q (.dat (.bool (!decide (a = b)))) s := w_lift_some
theorem d_sldL {ds : List PyData} {i : Int} {s : S} (h : 0 ≤ i) : W (lift (sldD (.list ds) i)) s Q ↔ Q (.uni (.list (ds.drop (i.toNat + 1)).reverse)) s := by
  show W (lift (if 0 ≤ i then some (Val.uni (.list (ds.drop (i.toNat + 1)).reverse)) else none)) s Q ↔ _
  rw [if_pos h, w_lift_some]
theorem w_intS {i : Nat} {e : List Slot} {m : Mu} {Q : Int → S → Prop} : W (intS i) ⟨e, m⟩ Q ↔ (match e[i]? with
    | some (.val (.int a)) => Q a ⟨e, m⟩
    | _ => False) := by
  unfold W intS
  dsimp only
  cases e[i]? with
  | none => simp only [ok_stuck]
  | some x =>
    cases x with
    | val d =>
      cases d with
      | int a => simp only [ok_ok]
      | _ => simp only [ok_stuck]
    | _ => simp only [ok_stuck]
theorem s_aug {i : Nat} {e : Ex} {s : S} : W (evS (.aug i e)) s R ↔ W (intS i) s fun a s => W (evE e) s fun v s => W (intV v) s fun b s => R .nx ⟨s.e.set i (.val (.int (a + b))), s.m⟩ := by
  rw [evS]
  simp only [w_bind, w_pure, augM, w_setS]
theorem roS_val {d : PyData} : roS (.val d) = .val d := rfl
theorem roS_own {d : PyData} : roS (.own d) = .val d := rfl
theorem roS_sto {n : Nat} : roS (.sto n) = .unset := rfl
theorem roS_tab {w : World} {es : List (PyData × PyData)} : roS (.tab w es) = .unset := rfl
theorem roS_unset : roS .unset = .unset := rfl
theorem isOwn_ro (x : Slot) : isOwn (roS x) = false := by cases x <;> rfl
theorem s_dset {i : Nat} {k e : Ex} : W (evS (.dset i k e)) s R ↔ W (evE e) s fun v s => W v.data s fun d s => W (dictChk i) s fun _ s => W (evE k) s fun kv s => W kv.data s fun k s => W (dputM i k d) s fun _ s => R .nx s := by
  rw [evS]
  simp only [w_bind, w_pure]
theorem w_dictChk {i : Nat} {e : List Slot} {m : Mu} {Q : Unit → S → Prop} : W (dictChk i) ⟨e, m⟩ Q ↔ (match e[i]? with
    | some (.own (.dict _)) => Q () ⟨e, m⟩
    | _ => False) := by
  unfold W dictChk
  dsimp only
  cases e[i]? with
  | none => simp only [ok_stuck]
  | some x =>
    cases x with
    | own d =>
      cases d with
      | dict ds => simp only [ok_ok]
      | _ => simp only [ok_stuck]
    | _ => simp only [ok_stuck]
theorem w_dput {i : Nat} {k d : PyData} {e : List Slot} {m : Mu} {Q : Unit → S → Prop} : W (dputM i k d) ⟨e, m⟩ Q ↔ (match e[i]? with
    | some (.own (.dict es)) => (isKey k = true ∧ es.length < SZ) ∧ Q () ⟨e.set i (.own (.dict (dPut es k d))), m⟩
    | _ => False) := by
  unfold W dputM
  dsimp only
  cases e[i]? with
  | none => simp only [ok_stuck]
  | some x =>
    cases x with
    | own d0 =>
      cases d0 with
      | dict es => dsimp only; by_cases c : isKey k = true ∧ es.length < SZ <;> simp only [c, if_true, if_false, ok_ok, ok_stuck, true_and, false_and]
      | _ => simp only [ok_stuck]
    | _ => simp only [ok_stuck]
variable {es : List (PyData × PyData)} {k z : PyData} {xs : List PyData} {x y : Str}
theorem d_idxK : W (lift (O2.den .idx (.dict es) k)) s Q ↔ ∃ d, (isKey k = true ∧ dGet es k = some d) ∧ Q (.dat d) s := by
  have e : O2.den .idx (.dict es) k = if isKey k = true then (dGet es k).map .dat else none := by cases k <;> rfl
  rw [e, w_lift]
  constructor
  · rintro ⟨a, h1, h2⟩
    by_cases c : isKey k = true
    · rw [if_pos c] at h1
      obtain ⟨d, h3, rfl⟩ := Option.map_eq_some_iff.mp h1
      exact ⟨d, ⟨c, h3⟩, h2⟩
    · rw [if_neg c] at h1; cases h1
  · rintro ⟨d, ⟨c, h1⟩, h2⟩
    exact ⟨_, by rw [if_pos c, h1]; rfl, h2⟩
theorem d_inK : W (lift (O2.den .inn k (.dict es))) s Q ↔ isKey k = true ∧ Q (.dat (.bool (dGet es k).isSome)) s := by
  have e : O2.den .inn k (.dict es) = (if isKey k = true then some (dGet es k).isSome else none).map fun r => .dat (.bool r) := by cases k <;> rfl
  rw [e, w_lift_map, w_lift_ite]
theorem d_ninK : W (lift (O2.den .nin k (.dict es))) s Q ↔ isKey k = true ∧ Q (.dat (.bool (!(dGet es k).isSome))) s := by
  have e : O2.den .nin k (.dict es) = (if isKey k = true then some (dGet es k).isSome else none).map fun r => .dat (.bool (!r)) := by cases k <;> rfl
  rw [e, w_lift_map, w_lift_ite]
theorem d_lenD : W (lift (O1.den .len (.dict es))) s Q ↔ Q (.dat (.int es.length)) s := w_lift_some
theorem d_lstD : W (lift (O1.den .list (.dict es))) s Q ↔ Q (.uni (.list (es.map (·.1)))) s := w_lift_some
theorem d_dictL : W (lift (O1.den .dict (.list xs))) s Q ↔ ∃ es, pairs? xs = some es ∧ Q (.uni (.dict (dMerge [] es))) s := by
  have e : O1.den .dict (.list xs) = (pairs? xs).map fun es => .uni (.dict (dMerge [] es)) := rfl
  rw [e, w_lift_map, w_lift]
theorem d_dictD : W (lift (O1.den .dict (.dict es))) s Q ↔ Q (.uni (.dict es)) s := w_lift_some
theorem d_getK : W (lift (O2.den .get (.dict es) k)) s Q ↔ isKey k = true ∧ Q (.dat ((dGet es k).getD .none)) s := by
  have e : O2.den .get (.dict es) k = if isKey k = true then some (.dat ((dGet es k).getD .none)) else none := by cases k <;> rfl
  rw [e, w_lift_ite]
theorem d_get2K : W (lift (get2D (.dict es) k z)) s Q ↔ isKey k = true ∧ Q (.dat ((dGet es k).getD z)) s := w_lift_ite
theorem d_lenS : W (lift (O1.den .len (.str x))) s Q ↔ x.length ≤ SZ ∧ Q (.dat (.int x.length)) s := w_lift_ite
theorem d_itS {Q : List PyData → S → Prop} : W (lift (itemsOf (.str x))) s Q ↔ Q (x.cps.toList.map strD) s := w_lift_some
theorem d_ltS : W (lift (O2.den .lt (.str x) (.str y))) s Q ↔ Q (.dat (.bool (decide (x.cps.toList < y.cps.toList)))) s := w_lift_some
theorem d_leS : W (lift (O2.den .le (.str x) (.str y))) s Q ↔ Q (.dat (.bool (!decide (y.cps.toList < x.cps.toList)))) s := w_lift_some
theorem d_inS : W (lift (O2.den .inn (.str x) (.str y))) s Q ↔ Q (.dat (.bool (!(Builtin.Str.occurrences y x 0 y.length 1).isEmpty))) s := w_lift_some
end
end Fb

namespace Fb
open PySem
abbrev QV := Val → S → Prop
abbrev QO := Opd → S → Prop
abbrev QD := PyData → S → Prop
abbrev QL := List PyData → S → Prop
abbrev QW := List Val → S → Prop
abbrev QB := Bool → S → Prop
abbrev QI := Int → S → Prop
abbrev QP := Option Int → S → Prop
abbrev QU := Unit → S → Prop
abbrev QF := Flow → S → Prop

def Kdat (Q : QD) : Val → S → Prop := fun v s => W v.data s Q
theorem Kdat_ {Q : QD} {v : Val} {s : S} : Kdat Q v s ↔ W v.data s Q := Iff.rfl
def Ktrue (Q : QB) : Val → S → Prop := fun v s => W (isTrueV v) s Q
theorem Ktrue_ {Q : QB} {v : Val} {s : S} : Ktrue Q v s ↔ W (isTrueV v) s Q := Iff.rfl
def Kint (Q : QI) : Val → S → Prop := fun v s => W (intV v) s Q
theorem Kint_ {Q : QI} {v : Val} {s : S} : Kint Q v s ↔ W (intV v) s Q := Iff.rfl
def Know (Q : QD) : Opd → S → Prop := fun x s => W x.now s Q
theorem Know_ {Q : QD} {x : Opd} {s : S} : Know Q x s ↔ W x.now s Q := Iff.rfl
def Kval (Q : QO) : PyData → S → Prop := fun d s => Q (.val d) s
theorem Kval_ {Q : QO} {d : PyData} {s : S} : Kval Q d s ↔ Q (.val d) s := Iff.rfl
def Ktup (Q : QV) : List PyData → S → Prop := fun ds s => Q (.dat (.tuple ds)) s
theorem Ktup_ {Q : QV} {ds : List PyData} {s : S} : Ktup Q ds s ↔ Q (.dat (.tuple ds)) s := Iff.rfl
def Klst (Q : QV) : List PyData → S → Prop := fun ds s => Q (.uni (.list ds)) s
theorem Klst_ {Q : QV} {ds : List PyData} {s : S} : Klst Q ds s ↔ Q (.uni (.list ds)) s := Iff.rfl
def Kdic (ks : List Str) (Q : QV) : List PyData → S → Prop := fun ds s => Q (.uni (.dict ((ks.map PyData.str).zip ds))) s
theorem Kdic_ {ks : List Str} {Q : QV} {ds : List PyData} {s : S} : Kdic ks Q ds s ↔ Q (.uni (.dict ((ks.map PyData.str).zip ds))) s := Iff.rfl
theorem ke_tup {es : List Ex} {s : S} {Q : QV} : W (evE (.tup es)) s Q ↔ W (evEs es) s (Ktup Q) := e_tup
theorem ke_lst {es : List Ex} {s : S} {Q : QV} : W (evE (.lst es)) s Q ↔ W (evEs es) s (Klst Q) := e_lst
theorem ke_dic {ks : List Str} {es : List Ex} {s : S} {Q : QV} : W (evE (.dic ks es)) s Q ↔ W (evEs es) s (Kdic ks Q) := e_dic
theorem ko_o1 {o : O1} {a : Ex} {s : S} {Q : QO} : WO (.o1 o a) s Q ↔ W (evE (.o1 o a)) s (Kdat (Kval Q)) := o_o1
theorem ko_o2 {o : O2} {a b : Ex} {s : S} {Q : QO} : WO (.o2 o a b) s Q ↔ W (evE (.o2 o a b)) s (Kdat (Kval Q)) := o_o2
theorem ko_slc {a : Ex} {l h : Option Ex} {s : S} {Q : QO} : WO (.slc a l h) s Q ↔ W (evE (.slc a l h)) s (Kdat (Kval Q)) := o_slc
theorem ko_rev {a : Ex} {s : S} {Q : QO} : WO (.rev a) s Q ↔ W (evE (.rev a)) s (Kdat (Kval Q)) := o_rev
theorem ko_not {a : Ex} {s : S} {Q : QO} : WO (.not a) s Q ↔ W (evE (.not a)) s (Kdat (Kval Q)) := o_not
theorem ko_and {a b : Ex} {s : S} {Q : QO} : WO (.and a b) s Q ↔ W (evE (.and a b)) s (Kdat (Kval Q)) := o_and
theorem ko_or {a b : Ex} {s : S} {Q : QO} : WO (.or a b) s Q ↔ W (evE (.or a b)) s (Kdat (Kval Q)) := o_or
theorem ko_ife {c a b : Ex} {s : S} {Q : QO} : WO (.ife c a b) s Q ↔ W (evE (.ife c a b)) s (Kdat (Kval Q)) := o_ife
theorem ko_isi {a : Ex} {t : String} {s : S} {Q : QO} : WO (.isi a t) s Q ↔ W (evE (.isi a t)) s (Kdat (Kval Q)) := o_isi
theorem ko_lrng {t : Bool} {a b : Option Ex} {s : S} {Q : QO} : WO (.lrng t a b) s Q ↔ W (evE (.lrng t a b)) s (Kdat (Kval Q)) := o_lrng
theorem ko_call {f : Str} {g : Fn} {es gs : List Ex} {ks : List Str} {s : S} {Q : QO} : WO (.call f g es ks gs) s Q ↔ W (evE (.call f g es ks gs)) s (Kdat (Kval Q)) := o_call
theorem ko_lc {vs : List Nat} {e : Ex} {t : Tg} {it : It} {c : Option Ex} {s : S} {Q : QO} : WO (.lc vs e t it c) s Q ↔ W (evE (.lc vs e t it c)) s (Kdat (Kval Q)) := o_lc
theorem ko_pop {i : Nat} {e : Ex} {s : S} {Q : QO} : WO (.pop i e) s Q ↔ W (evE (.pop i e)) s (Kdat (Kval Q)) := o_pop
theorem ko_fget {i : Nat} {k : Str} {s : S} {Q : QO} : WO (.fget i k) s Q ↔ W (evE (.fget i k)) s (Kdat (Kval Q)) := o_fget
def KtupO (Q : QO) : List PyData → S → Prop := fun ds s => Q (.val (.tuple ds)) s
theorem KtupO_ {Q : QO} {ds : List PyData} {s : S} : KtupO Q ds s ↔ Q (.val (.tuple ds)) s := Iff.rfl
def KlstO (Q : QO) : List PyData → S → Prop := fun ds s => Q (.val (.list ds)) s
theorem KlstO_ {Q : QO} {ds : List PyData} {s : S} : KlstO Q ds s ↔ Q (.val (.list ds)) s := Iff.rfl
theorem ko_tup {es : List Ex} {s : S} {Q : QO} : WO (.tup es) s Q ↔ W (evEs es) s (KtupO Q) := o_tup
theorem ko_lst {es : List Ex} {s : S} {Q : QO} : WO (.lst es) s Q ↔ W (evEs es) s (KlstO Q) := o_lst
def Ko1 (o : O1) (Q : QV) : PyData → S → Prop := fun d s => W (lift (o.den d)) s Q
theorem Ko1_ {o : O1} {Q : QV} {d : PyData} {s : S} : Ko1 o Q d s ↔ W (lift (o.den d)) s Q := Iff.rfl
theorem ke_o1 {o : O1} {a : Ex} {s : S} {Q : QV} : W (evE (.o1 o a)) s Q ↔ WO a s (Know (Ko1 o Q)) := e_o1
def Ko2d (o : O2) (d : PyData) (Q : QV) : PyData → S → Prop := fun d2 s => W (lift (o.den d d2)) s Q
theorem Ko2d_ {o : O2} {d : PyData} {Q : QV} {d2 : PyData} {s : S} : Ko2d o d Q d2 s ↔ W (lift (o.den d d2)) s Q := Iff.rfl
def Ko2c (o : O2) (y : Opd) (Q : QV) : PyData → S → Prop := fun d s => W y.now s (Ko2d o d Q)
theorem Ko2c_ {o : O2} {y : Opd} {Q : QV} {d : PyData} {s : S} : Ko2c o y Q d s ↔ W y.now s (Ko2d o d Q) := Iff.rfl
def Ko2b (o : O2) (x : Opd) (Q : QV) : Opd → S → Prop := fun y s => W x.now s (Ko2c o y Q)
theorem Ko2b_ {o : O2} {x : Opd} {Q : QV} {y : Opd} {s : S} : Ko2b o x Q y s ↔ W x.now s (Ko2c o y Q) := Iff.rfl
def Ko2a (o : O2) (b : Ex) (Q : QV) : Opd → S → Prop := fun x s => WO b s (Ko2b o x Q)
theorem Ko2a_ {o : O2} {b : Ex} {Q : QV} {x : Opd} {s : S} : Ko2a o b Q x s ↔ WO b s (Ko2b o x Q) := Iff.rfl
theorem ke_o2 {o : O2} {a b : Ex} {s : S} {Q : QV} : W (evE (.o2 o a b)) s Q ↔ WO a s (Ko2a o b Q) := e_o2
def Kslcd (l : Option Int) (h : Option Int) (Q : QV) : PyData → S → Prop := fun d s => W (lift (slcD d l h)) s Q
theorem Kslcd_ {l : Option Int} {h : Option Int} {Q : QV} {d : PyData} {s : S} : Kslcd l h Q d s ↔ W (lift (slcD d l h)) s Q := Iff.rfl
def Kslcc (x : Opd) (l : Option Int) (Q : QV) : Option Int → S → Prop := fun h s => W x.now s (Kslcd l h Q)
theorem Kslcc_ {x : Opd} {l : Option Int} {Q : QV} {h : Option Int} {s : S} : Kslcc x l Q h s ↔ W x.now s (Kslcd l h Q) := Iff.rfl
def Kslcb (x : Opd) (hi : Option Ex) (Q : QV) : Option Int → S → Prop := fun l s => W (evP hi) s (Kslcc x l Q)
theorem Kslcb_ {x : Opd} {hi : Option Ex} {Q : QV} {l : Option Int} {s : S} : Kslcb x hi Q l s ↔ W (evP hi) s (Kslcc x l Q) := Iff.rfl
def Kslca (lo : Option Ex) (hi : Option Ex) (Q : QV) : Opd → S → Prop := fun x s => W (evP lo) s (Kslcb x hi Q)
theorem Kslca_ {lo : Option Ex} {hi : Option Ex} {Q : QV} {x : Opd} {s : S} : Kslca lo hi Q x s ↔ W (evP lo) s (Kslcb x hi Q) := Iff.rfl
theorem ke_slc {a : Ex} {lo hi : Option Ex} {s : S} {Q : QV} : W (evE (.slc a lo hi)) s Q ↔ WO a s (Kslca lo hi Q) := e_slc
def Krev (Q : QV) : PyData → S → Prop := fun d s => W (lift (revD d)) s Q
theorem Krev_ {Q : QV} {d : PyData} {s : S} : Krev Q d s ↔ W (lift (revD d)) s Q := Iff.rfl
theorem ke_rev {a : Ex} {s : S} {Q : QV} : W (evE (.rev a)) s Q ↔ WO a s (Know (Krev Q)) := e_rev
def Ksldd (n : Int) (Q : QV) : PyData → S → Prop := fun d s => W (lift (sldD d n)) s Q
theorem Ksldd_ {n : Int} {Q : QV} {d : PyData} {s : S} : Ksldd n Q d s ↔ W (lift (sldD d n)) s Q := Iff.rfl
def Ksldb (x : Opd) (Q : QV) : Int → S → Prop := fun n s => W x.now s (Ksldd n Q)
theorem Ksldb_ {x : Opd} {Q : QV} {n : Int} {s : S} : Ksldb x Q n s ↔ W x.now s (Ksldd n Q) := Iff.rfl
def Kslda (h : Ex) (Q : QV) : Opd → S → Prop := fun x s => W (evE h) s (Kint (Ksldb x Q))
theorem Kslda_ {h : Ex} {Q : QV} {x : Opd} {s : S} : Kslda h Q x s ↔ W (evE h) s (Kint (Ksldb x Q)) := Iff.rfl
theorem ke_sld {a h : Ex} {s : S} {Q : QV} : W (evE (.sld a h)) s Q ↔ WO a s (Kslda h Q) := e_sld
def Knot (Q : QV) : Bool → S → Prop := fun c s => Q (.dat (.bool (!c))) s
theorem Knot_ {Q : QV} {c : Bool} {s : S} : Knot Q c s ↔ Q (.dat (.bool (!c))) s := Iff.rfl
theorem ke_not {a : Ex} {s : S} {Q : QV} : W (evE (.not a)) s Q ↔ W (evE a) s (Ktrue (Knot Q)) := e_not
def Kand (b : Ex) (Q : QV) : Bool → S → Prop := fun c s => if c = true then W (evE b) s Q else Q (.dat (.bool false)) s
theorem Kand_ {b : Ex} {Q : QV} {c : Bool} {s : S} : Kand b Q c s ↔ if c = true then W (evE b) s Q else Q (.dat (.bool false)) s := Iff.rfl
theorem ke_and {a b : Ex} {s : S} {Q : QV} : W (evE (.and a b)) s Q ↔ W (evE a) s (Ktrue (Kand b Q)) := e_and
def Kor (b : Ex) (Q : QV) : Bool → S → Prop := fun c s => if c = true then Q (.dat (.bool true)) s else W (evE b) s Q
theorem Kor_ {b : Ex} {Q : QV} {c : Bool} {s : S} : Kor b Q c s ↔ if c = true then Q (.dat (.bool true)) s else W (evE b) s Q := Iff.rfl
theorem ke_or {a b : Ex} {s : S} {Q : QV} : W (evE (.or a b)) s Q ↔ W (evE a) s (Ktrue (Kor b Q)) := e_or
def Kife (a : Ex) (b : Ex) (Q : QV) : Bool → S → Prop := fun c s => if c = true then W (evE a) s Q else W (evE b) s Q
theorem Kife_ {a : Ex} {b : Ex} {Q : QV} {c : Bool} {s : S} : Kife a b Q c s ↔ if c = true then W (evE a) s Q else W (evE b) s Q := Iff.rfl
theorem ke_ife {t a b : Ex} {s : S} {Q : QV} : W (evE (.ife t a b)) s Q ↔ W (evE t) s (Ktrue (Kife a b Q)) := e_ife
def Kisib (Q : QV) : Bool → S → Prop := fun c s => Q (.dat (.bool c)) s
theorem Kisib_ {Q : QV} {c : Bool} {s : S} : Kisib Q c s ↔ Q (.dat (.bool c)) s := Iff.rfl
def Kisia (t : String) (Q : QV) : PyData → S → Prop := fun d s => W (lift (L2.kitB (tyOf d) t)) s (Kisib Q)
theorem Kisia_ {t : String} {Q : QV} {d : PyData} {s : S} : Kisia t Q d s ↔ W (lift (L2.kitB (tyOf d) t)) s (Kisib Q) := Iff.rfl
theorem ke_isi {a : Ex} {t : String} {s : S} {Q : QV} : W (evE (.isi a t)) s Q ↔ WO a s (Know (Kisia t Q)) := e_isi
def Krg1 (tp : Bool) (Q : QV) : Int → S → Prop := fun n s => rgOk 0 n = true ∧ Q (if tp = true then .dat (.tuple (rgD 0 n)) else .uni (.list (rgD 0 n))) s
theorem Krg1_ {tp : Bool} {Q : QV} {n : Int} {s : S} : Krg1 tp Q n s ↔ rgOk 0 n = true ∧ Q (if tp = true then .dat (.tuple (rgD 0 n)) else .uni (.list (rgD 0 n))) s := Iff.rfl
theorem ke_rg1 {tp : Bool} {a : Ex} {s : S} {Q : QV} : W (evE (.lrng tp (some a) none)) s Q ↔ W (evE a) s (Kint (Krg1 tp Q)) := e_rg1
def Krg2b (tp : Bool) (n : Int) (Q : QV) : Int → S → Prop := fun k s => rgOk n k = true ∧ Q (if tp = true then .dat (.tuple (rgD n k)) else .uni (.list (rgD n k))) s
theorem Krg2b_ {tp : Bool} {n : Int} {Q : QV} {k : Int} {s : S} : Krg2b tp n Q k s ↔ rgOk n k = true ∧ Q (if tp = true then .dat (.tuple (rgD n k)) else .uni (.list (rgD n k))) s := Iff.rfl
def Krg2a (tp : Bool) (b : Ex) (Q : QV) : Int → S → Prop := fun n s => W (evE b) s (Kint (Krg2b tp n Q))
theorem Krg2a_ {tp : Bool} {b : Ex} {Q : QV} {n : Int} {s : S} : Krg2a tp b Q n s ↔ W (evE b) s (Kint (Krg2b tp n Q)) := Iff.rfl
theorem ke_rg2 {tp : Bool} {a b : Ex} {s : S} {Q : QV} : W (evE (.lrng tp (some a) (some b))) s Q ↔ W (evE a) s (Kint (Krg2a tp b Q)) := e_rg2
def Kcallb (g : Fn) (vs : List Val) (Q : QV) : List Val → S → Prop := fun ws s => W (callFn g (vs ++ ws)) s Q
theorem Kcallb_ {g : Fn} {vs : List Val} {Q : QV} {ws : List Val} {s : S} : Kcallb g vs Q ws s ↔ W (callFn g (vs ++ ws)) s Q := Iff.rfl
def Kcalla (g : Fn) (gs : List Ex) (Q : QV) : List Val → S → Prop := fun vs s => W (evVs gs) s (Kcallb g vs Q)
theorem Kcalla_ {g : Fn} {gs : List Ex} {Q : QV} {vs : List Val} {s : S} : Kcalla g gs Q vs s ↔ W (evVs gs) s (Kcallb g vs Q) := Iff.rfl
theorem ke_call {f : Str} {g : Fn} {es gs : List Ex} {ks : List Str} {s : S} {Q : QV} : W (evE (.call f g es ks gs)) s Q ↔ W (evVs es) s (Kcalla g gs Q) := e_call
def Kret (e : List Slot) (Q : QV) : Val → Mu → Prop := fun v m => Q v ⟨e, m⟩
theorem Kret_ {e : List Slot} {Q : QV} {v : Val} {m : Mu} : Kret e Q v m ↔ Q v ⟨e, m⟩ := Iff.rfl
theorem kw_callFn {g : Fn} {vs : List Val} {e : List Slot} {m : Mu} {Q : QV} : W (callFn g vs) ⟨e, m⟩ Q ↔ CallOk g vs m (Kret e Q) := w_callFn
def Kpopb (i : Nat) (Q : QV) : Int → S → Prop := fun n s => W (popAt i n) s Q
theorem Kpopb_ {i : Nat} {Q : QV} {n : Int} {s : S} : Kpopb i Q n s ↔ W (popAt i n) s Q := Iff.rfl
def Kpopa (i : Nat) (a : Ex) (Q : QV) : Unit → S → Prop := fun u s => W (evE a) s (Kint (Kpopb i Q))
theorem Kpopa_ {i : Nat} {a : Ex} {Q : QV} {u : Unit} {s : S} : Kpopa i a Q u s ↔ W (evE a) s (Kint (Kpopb i Q)) := Iff.rfl
theorem ke_pop {i : Nat} {a : Ex} {s : S} {Q : QV} : W (evE (.pop i a)) s Q ↔ W (ownChk i) s (Kpopa i a Q) := e_pop
def Kesb (d : PyData) (Q : QL) : List PyData → S → Prop := fun ds s => Q (d :: ds) s
theorem Kesb_ {d : PyData} {Q : QL} {ds : List PyData} {s : S} : Kesb d Q ds s ↔ Q (d :: ds) s := Iff.rfl
def Kesa (es : List Ex) (Q : QL) : PyData → S → Prop := fun d s => W (evEs es) s (Kesb d Q)
theorem Kesa_ {es : List Ex} {Q : QL} {d : PyData} {s : S} : Kesa es Q d s ↔ W (evEs es) s (Kesb d Q) := Iff.rfl
theorem kes_cons {e : Ex} {es : List Ex} {s : S} {Q : QL} : W (evEs (e :: es)) s Q ↔ W (evE e) s (Kdat (Kesa es Q)) := es_cons
def Kvsb (v : Val) (Q : QW) : List Val → S → Prop := fun vs s => W (argsM v vs) s Q
theorem Kvsb_ {v : Val} {Q : QW} {vs : List Val} {s : S} : Kvsb v Q vs s ↔ W (argsM v vs) s Q := Iff.rfl
def Kvsa (es : List Ex) (Q : QW) : Val → S → Prop := fun v s => W (evVs es) s (Kvsb v Q)
theorem Kvsa_ {es : List Ex} {Q : QW} {v : Val} {s : S} : Kvsa es Q v s ↔ W (evVs es) s (Kvsb v Q) := Iff.rfl
theorem kvs_cons {e : Ex} {es : List Ex} {s : S} {Q : QW} : W (evVs (e :: es)) s Q ↔ W (evE e) s (Kvsa es Q) := vs_cons
def Kusb (v : Val) (Q : QW) : List Val → S → Prop := fun vs s => Q (v :: vs) s
theorem Kusb_ {v : Val} {Q : QW} {vs : List Val} {s : S} : Kusb v Q vs s ↔ Q (v :: vs) s := Iff.rfl
def Kusa (es : List Ex) (Q : QW) : Val → S → Prop := fun v s => W (evUs es) s (Kusb v Q)
theorem Kusa_ {es : List Ex} {Q : QW} {v : Val} {s : S} : Kusa es Q v s ↔ W (evUs es) s (Kusb v Q) := Iff.rfl
theorem kus_cons {e : Ex} {es : List Ex} {s : S} {Q : QW} : W (evUs (e :: es)) s Q ↔ W (evE e) s (Kusa es Q) := us_cons
def Kp (Q : QP) : Int → S → Prop := fun n s => Q (some n) s
theorem Kp_ {Q : QP} {n : Int} {s : S} : Kp Q n s ↔ Q (some n) s := Iff.rfl
theorem kp_some {e : Ex} {s : S} {Q : QP} : W (evP (some e)) s Q ↔ W (evE e) s (Kint (Kp Q)) := p_some
theorem kc_some {e : Ex} {s : S} {Q : QB} : W (evC (some e)) s Q ↔ W (evE e) s (Ktrue Q) := c_some
def Kit (Q : QL) : PyData → S → Prop := fun d s => W (lift (itemsOf d)) s Q
theorem Kit_ {Q : QL} {d : PyData} {s : S} : Kit Q d s ↔ W (lift (itemsOf d)) s Q := Iff.rfl
theorem kit_of {e : Ex} {s : S} {Q : QL} : W (evIt (.ofE e)) s Q ↔ W (evE e) s (Kdat (Kit Q)) := it_of
def Kenub (Q : QL) : List PyData → S → Prop := fun ds s => Q (enumD 0 ds) s
theorem Kenub_ {Q : QL} {ds : List PyData} {s : S} : Kenub Q ds s ↔ Q (enumD 0 ds) s := Iff.rfl
def Kenua (Q : QL) : PyData → S → Prop := fun d s => W (lift (seq? d)) s (Kenub Q)
theorem Kenua_ {Q : QL} {d : PyData} {s : S} : Kenua Q d s ↔ W (lift (seq? d)) s (Kenub Q) := Iff.rfl
theorem kit_enu {e : Ex} {s : S} {Q : QL} : W (evIt (.enu e)) s Q ↔ W (evE e) s (Kdat (Kenua Q)) := it_enu
def Kzipb (d : PyData) (Q : QL) : PyData → S → Prop := fun d2 s => W (lift (zip? d d2)) s Q
theorem Kzipb_ {d : PyData} {Q : QL} {d2 : PyData} {s : S} : Kzipb d Q d2 s ↔ W (lift (zip? d d2)) s Q := Iff.rfl
def Kzipa (b : Ex) (Q : QL) : PyData → S → Prop := fun d s => W (evE b) s (Kdat (Kzipb d Q))
theorem Kzipa_ {b : Ex} {Q : QL} {d : PyData} {s : S} : Kzipa b Q d s ↔ W (evE b) s (Kdat (Kzipb d Q)) := Iff.rfl
theorem kit_zip {a b : Ex} {s : S} {Q : QL} : W (evIt (.zip a b)) s Q ↔ W (evE a) s (Kdat (Kzipa b Q)) := it_zip
def Kir1 (Q : QL) : Int → S → Prop := fun n s => rgOk 0 n = true ∧ Q (rgD 0 n) s
theorem Kir1_ {Q : QL} {n : Int} {s : S} : Kir1 Q n s ↔ rgOk 0 n = true ∧ Q (rgD 0 n) s := Iff.rfl
theorem kit_rg1 {a : Ex} {s : S} {Q : QL} : W (evIt (.rng (some a) none)) s Q ↔ W (evE a) s (Kint (Kir1 Q)) := it_rg1
def Kir2b (n : Int) (Q : QL) : Int → S → Prop := fun k s => rgOk n k = true ∧ Q (rgD n k) s
theorem Kir2b_ {n : Int} {Q : QL} {k : Int} {s : S} : Kir2b n Q k s ↔ rgOk n k = true ∧ Q (rgD n k) s := Iff.rfl
def Kir2a (b : Ex) (Q : QL) : Int → S → Prop := fun n s => W (evE b) s (Kint (Kir2b n Q))
theorem Kir2a_ {b : Ex} {Q : QL} {n : Int} {s : S} : Kir2a b Q n s ↔ W (evE b) s (Kint (Kir2b n Q)) := Iff.rfl
theorem kit_rg2 {a b : Ex} {s : S} {Q : QL} : W (evIt (.rng (some a) (some b))) s Q ↔ W (evE a) s (Kint (Kir2a b Q)) := it_rg2
def Kirdb (n : Int) (Q : QL) : Int → S → Prop := fun k s => rgOk k n = true ∧ Q (rgN n k) s
theorem Kirdb_ {n : Int} {Q : QL} {k : Int} {s : S} : Kirdb n Q k s ↔ rgOk k n = true ∧ Q (rgN n k) s := Iff.rfl
def Kirda (b : Ex) (Q : QL) : Int → S → Prop := fun n s => W (evE b) s (Kint (Kirdb n Q))
theorem Kirda_ {b : Ex} {Q : QL} {n : Int} {s : S} : Kirda b Q n s ↔ W (evE b) s (Kint (Kirdb n Q)) := Iff.rfl
theorem kit_rgd {a b : Ex} {s : S} {Q : QL} : W (evIt (.rngd a b)) s Q ↔ W (evE a) s (Kint (Kirda b Q)) := it_rgd
def Kasg (i : Nat) (R : QF) : Val → S → Prop := fun v s => R .nx ⟨s.e.set i (slotOf v), s.m⟩
theorem Kasg_ {i : Nat} {R : QF} {v : Val} {s : S} : Kasg i R v s ↔ R .nx ⟨s.e.set i (slotOf v), s.m⟩ := Iff.rfl
theorem ks_asg {i : Nat} {e : Ex} {s : S} {R : QF} : W (evS (.asg i e)) s R ↔ W (evE e) s (Kasg i R) := s_asg
def Kretv (R : QF) : Val → S → Prop := fun v s => R (.ret v) s
theorem Kretv_ {R : QF} {v : Val} {s : S} : Kretv R v s ↔ R (.ret v) s := Iff.rfl
theorem ks_ret {e : Ex} {s : S} {R : QF} : W (evS (.ret e)) s R ↔ W (evE e) s (Kretv R) := s_ret
theorem ks_retv {i : Nat} {s : S} {R : QF} : W (evS (.retv i)) s R ↔ W (mvVar i) s (Kretv R) := s_retv
def Kdrop (R : QF) : Val → S → Prop := fun v s => R .nx s
theorem Kdrop_ {R : QF} {v : Val} {s : S} : Kdrop R v s ↔ R .nx s := Iff.rfl
theorem ks_expr {e : Ex} {s : S} {R : QF} : W (evS (.expr e)) s R ↔ W (evE e) s (Kdrop R) := s_expr
def Kif (a : List Sm) (b : List Sm) (R : QF) : Bool → S → Prop := fun c s => if c = true then W (evSs a) s R else W (evSs b) s R
theorem Kif_ {a : List Sm} {b : List Sm} {R : QF} {c : Bool} {s : S} : Kif a b R c s ↔ if c = true then W (evSs a) s R else W (evSs b) s R := Iff.rfl
theorem ks_if {t : Ex} {a b : List Sm} {s : S} {R : QF} : W (evS (.ife t a b)) s R ↔ W (evE t) s (Ktrue (Kif a b R)) := s_if
def Knx (R : QF) : Unit → S → Prop := fun u s => R .nx s
theorem Knx_ {R : QF} {u : Unit} {s : S} : Knx R u s ↔ R .nx s := Iff.rfl
def Kfset (i : Nat) (k : Str) (R : QF) : PyData → S → Prop := fun d s => W (fsetM i k d) s (Knx R)
theorem Kfset_ {i : Nat} {k : Str} {R : QF} {d : PyData} {s : S} : Kfset i k R d s ↔ W (fsetM i k d) s (Knx R) := Iff.rfl
theorem ks_fset {i : Nat} {k : Str} {e : Ex} {s : S} {R : QF} : W (evS (.fset i k e)) s R ↔ W (evE e) s (Kdat (Kfset i k R)) := s_fset
def Kappb (i : Nat) (R : QF) : PyData → S → Prop := fun d s => W (appM i d) s (Knx R)
theorem Kappb_ {i : Nat} {R : QF} {d : PyData} {s : S} : Kappb i R d s ↔ W (appM i d) s (Knx R) := Iff.rfl
def Kappa (i : Nat) (e : Ex) (R : QF) : Unit → S → Prop := fun u s => W (evE e) s (Kdat (Kappb i R))
theorem Kappa_ {i : Nat} {e : Ex} {R : QF} {u : Unit} {s : S} : Kappa i e R u s ↔ W (evE e) s (Kdat (Kappb i R)) := Iff.rfl
theorem ks_app {i : Nat} {e : Ex} {s : S} {R : QF} : W (evS (.app i e)) s R ↔ W (ownChk i) s (Kappa i e R) := s_app
def Kextc (i : Nat) (R : QF) : List PyData → S → Prop := fun ds s => W (extM i ds) s (Knx R)
theorem Kextc_ {i : Nat} {R : QF} {ds : List PyData} {s : S} : Kextc i R ds s ↔ W (extM i ds) s (Knx R) := Iff.rfl
def Kextb (i : Nat) (R : QF) : Val → S → Prop := fun v s => W (uniL v) s (Kextc i R)
theorem Kextb_ {i : Nat} {R : QF} {v : Val} {s : S} : Kextb i R v s ↔ W (uniL v) s (Kextc i R) := Iff.rfl
def Kexta (i : Nat) (e : Ex) (R : QF) : Unit → S → Prop := fun u s => W (evE e) s (Kextb i R)
theorem Kexta_ {i : Nat} {e : Ex} {R : QF} {u : Unit} {s : S} : Kexta i e R u s ↔ W (evE e) s (Kextb i R) := Iff.rfl
theorem ks_ext {i : Nat} {e : Ex} {s : S} {R : QF} : W (evS (.ext i e)) s R ↔ W (ownChk i) s (Kexta i e R) := s_ext
def Kpar (is : List Nat) (R : QF) : List Val → S → Prop := fun vs s => W (parGo is vs) s (Knx R)
theorem Kpar_ {is : List Nat} {R : QF} {vs : List Val} {s : S} : Kpar is R vs s ↔ W (parGo is vs) s (Knx R) := Iff.rfl
theorem ks_par {is : List Nat} {es : List Ex} {s : S} {R : QF} : W (evS (.par is es)) s R ↔ W (evUs es) s (Kpar is R) := s_par
def Kunp (t : Tg) (R : QF) : PyData → S → Prop := fun d s => W (asg t d) s (Knx R)
theorem Kunp_ {t : Tg} {R : QF} {d : PyData} {s : S} : Kunp t R d s ↔ W (asg t d) s (Knx R) := Iff.rfl
theorem ks_unp {t : Tg} {e : Ex} {s : S} {R : QF} : W (evS (.unp t e)) s R ↔ W (evE e) s (Kdat (Kunp t R)) := s_unp
/-- a loop's turn -/
noncomputable def turn (t : Tg) (b : List Sm) : PyData → M Flow := fun d => (asg t d).bind fun _ => evSs b
def Kfor (t : Tg) (b : List Sm) (R : QF) : List PyData → S → Prop := fun ds s => W (forGo (turn t b) ds) s R
theorem Kfor_ {t : Tg} {b : List Sm} {R : QF} {ds : List PyData} {s : S} : Kfor t b R ds s ↔ W (forGo (turn t b) ds) s R := Iff.rfl
theorem ks_for {t : Tg} {it : It} {b : List Sm} {s : S} {R : QF} : W (evS (.for_ t it b)) s R ↔ W (evIt it) s (Kfor t b R) := s_for
def Kbody (b : List Sm) (R : QF) : Unit → S → Prop := fun u s => W (evSs b) s R
theorem Kbody_ {b : List Sm} {R : QF} {u : Unit} {s : S} : Kbody b R u s ↔ W (evSs b) s R := Iff.rfl
theorem k_turn {t : Tg} {b : List Sm} {d : PyData} {s : S} {R : QF} : W (turn t b d) s R ↔ W (asg t d) s (Kbody b R) := w_bind
def Kseq (ss : List Sm) (R : QF) : Flow → S → Prop := fun f s => match f with
  | .nx => W (evSs ss) s R
  | f => R f s
theorem Kseq_nx {ss : List Sm} {R : QF} {s : S} : Kseq ss R .nx s ↔ W (evSs ss) s R := Iff.rfl
theorem Kseq_brk {ss : List Sm} {R : QF} {s : S} : Kseq ss R .brk s ↔ R .brk s := Iff.rfl
theorem Kseq_cnt {ss : List Sm} {R : QF} {s : S} : Kseq ss R .cnt s ↔ R .cnt s := Iff.rfl
theorem Kseq_ret {ss : List Sm} {R : QF} {s : S} {v : Val} : Kseq ss R (.ret v) s ↔ R (.ret v) s := Iff.rfl
theorem kw_seq {st : Sm} {ss : List Sm} {s : S} {R : QF} : W (evSs (st :: ss)) s R ↔ W (evS st) s (Kseq ss R) := w_seq
def Kas (ts : List Tg) (ds : List PyData) (Q : QU) : Unit → S → Prop := fun u s => W (asgs ts ds) s Q
theorem Kas_ {ts : List Tg} {ds : List PyData} {Q : QU} {u : Unit} {s : S} : Kas ts ds Q u s ↔ W (asgs ts ds) s Q := Iff.rfl
theorem kas_cons {t : Tg} {ts : List Tg} {d : PyData} {ds : List PyData} {s : S} {Q : QU} : W (asgs (t :: ts) (d :: ds)) s Q ↔ W (asg t d) s (Kas ts ds Q) := as_cons
theorem ko_chn {o o' : O2} {a b c : Ex} {s : S} {Q : QO} : WO (.chn o o' a b c) s Q ↔ W (evE (.chn o o' a b c)) s (Kdat (Kval Q)) := o_gen (by intro i h; cases h)
theorem ko_mt {o : O2} {a b : Ex} {s : S} {Q : QO} : WO (.mt o a b) s Q ↔ W (evE (.mt o a b)) s (Kdat (Kval Q)) := o_gen (by intro i h; cases h)
theorem ko_get2 {a b c : Ex} {s : S} {Q : QO} : WO (.get2 a b c) s Q ↔ W (evE (.get2 a b c)) s (Kdat (Kval Q)) := o_gen (by intro i h; cases h)
theorem ko_gtup {ds : List PyData} {s : S} {Q : QO} : WO (.gtup ds) s Q ↔ Q (.val (.tuple ds)) s := (o_gen (by intro i h; cases h)).trans (by rw [evE]; simp only [w_pure, w_data_dat])
theorem ko_dnew {s : S} {Q : QO} : WO .dnew s Q ↔ Q (.val (.dict [])) s := (o_gen (by intro i h; cases h)).trans (by rw [evE]; simp only [w_pure, w_data_uni])
theorem ko_dc {vs : List Nat} {k e : Ex} {t : Tg} {it : It} {c : Option Ex} {s : S} {Q : QO} : WO (.dc vs k e t it c) s Q ↔ W (evE (.dc vs k e t it c)) s (Kdat (Kval Q)) := o_gen (by intro i h; cases h)
theorem ke_gtup {ds : List PyData} {s : S} {Q : QV} : W (evE (.gtup ds)) s Q ↔ Q (.dat (.tuple ds)) s := by rw [evE, w_pure]
theorem ke_dnew {s : S} {Q : QV} : W (evE .dnew) s Q ↔ Q (.uni (.dict [])) s := by rw [evE, w_pure]
def Kch6 (o2 : O2) (d : PyData) (Q : QV) : PyData → S → Prop := fun d2 s => W (lift (o2.den d d2)) s Q
theorem Kch6_ {o2 : O2} {d : PyData} {Q : QV} {d2 : PyData} {s : S} : Kch6 o2 d Q d2 s ↔ W (lift (o2.den d d2)) s Q := Iff.rfl
def Kch5 (o2 : O2) (x : Opd) (Q : QV) : PyData → S → Prop := fun d s => W x.now s (Kch6 o2 d Q)
theorem Kch5_ {o2 : O2} {x : Opd} {Q : QV} {d : PyData} {s : S} : Kch5 o2 x Q d s ↔ W x.now s (Kch6 o2 d Q) := Iff.rfl
def Kch4 (o2 : O2) (y : Opd) (Q : QV) : Opd → S → Prop := fun x s => W y.now s (Kch5 o2 x Q)
theorem Kch4_ {o2 : O2} {y : Opd} {Q : QV} {x : Opd} {s : S} : Kch4 o2 y Q x s ↔ W y.now s (Kch5 o2 x Q) := Iff.rfl
def Kch3 (o2 : O2) (y : Opd) (e : Ex) (Q : QV) : Bool → S → Prop := fun c s => if c = true then WO e s (Kch4 o2 y Q) else Q (.dat (.bool false)) s
theorem Kch3_ {o2 : O2} {y : Opd} {e : Ex} {Q : QV} {c : Bool} {s : S} : Kch3 o2 y e Q c s ↔ if c = true then WO e s (Kch4 o2 y Q) else Q (.dat (.bool false)) s := Iff.rfl
def Kch2 (o : O2) (o2 : O2) (y : Opd) (e : Ex) (d : PyData) (Q : QV) : PyData → S → Prop := fun d2 s => W (lift (o.den d d2)) s (Ktrue (Kch3 o2 y e Q))
theorem Kch2_ {o : O2} {o2 : O2} {y : Opd} {e : Ex} {d : PyData} {Q : QV} {d2 : PyData} {s : S} : Kch2 o o2 y e d Q d2 s ↔ W (lift (o.den d d2)) s (Ktrue (Kch3 o2 y e Q)) := Iff.rfl
def Kch1 (o : O2) (o2 : O2) (y : Opd) (e : Ex) (Q : QV) : PyData → S → Prop := fun d s => W y.now s (Kch2 o o2 y e d Q)
theorem Kch1_ {o : O2} {o2 : O2} {y : Opd} {e : Ex} {Q : QV} {d : PyData} {s : S} : Kch1 o o2 y e Q d s ↔ W y.now s (Kch2 o o2 y e d Q) := Iff.rfl
def Kchb (o : O2) (o2 : O2) (x : Opd) (e : Ex) (Q : QV) : Opd → S → Prop := fun y s => W x.now s (Kch1 o o2 y e Q)
theorem Kchb_ {o : O2} {o2 : O2} {x : Opd} {e : Ex} {Q : QV} {y : Opd} {s : S} : Kchb o o2 x e Q y s ↔ W x.now s (Kch1 o o2 y e Q) := Iff.rfl
def Kcha (o : O2) (o2 : O2) (b : Ex) (e : Ex) (Q : QV) : Opd → S → Prop := fun x s => WO b s (Kchb o o2 x e Q)
theorem Kcha_ {o : O2} {o2 : O2} {b : Ex} {e : Ex} {Q : QV} {x : Opd} {s : S} : Kcha o o2 b e Q x s ↔ WO b s (Kchb o o2 x e Q) := Iff.rfl
theorem ke_chn {o o2 : O2} {a b e : Ex} {s : S} {Q : QV} : W (evE (.chn o o2 a b e)) s Q ↔ WO a s (Kcha o o2 b e Q) := e_chn
def Kmt3 (o : O2) (x : Opd) (Q : QV) : Opd → S → Prop := fun y s => W x.now s (Ko2c o y Q)
theorem Kmt3_ {o : O2} {x : Opd} {Q : QV} {y : Opd} {s : S} : Kmt3 o x Q y s ↔ W x.now s (Ko2c o y Q) := Iff.rfl
def Kmt2 (o : O2) (x : Opd) (b : Ex) (Q : QV) : PyData → S → Prop := fun d s => o.recv d = true ∧ WO b s (Kmt3 o x Q)
theorem Kmt2_ {o : O2} {x : Opd} {b : Ex} {Q : QV} {d : PyData} {s : S} : Kmt2 o x b Q d s ↔ o.recv d = true ∧ WO b s (Kmt3 o x Q) := Iff.rfl
def Kmt1 (o : O2) (b : Ex) (Q : QV) : Opd → S → Prop := fun x s => W x.now s (Kmt2 o x b Q)
theorem Kmt1_ {o : O2} {b : Ex} {Q : QV} {x : Opd} {s : S} : Kmt1 o b Q x s ↔ W x.now s (Kmt2 o x b Q) := Iff.rfl
theorem ke_mt {o : O2} {a b : Ex} {s : S} {Q : QV} : W (evE (.mt o a b)) s Q ↔ WO a s (Kmt1 o b Q) := e_mt
def Kg6 (d : PyData) (z : PyData) (Q : QV) : PyData → S → Prop := fun d2 s => W (lift (get2D d d2 z)) s Q
theorem Kg6_ {d : PyData} {z : PyData} {Q : QV} {d2 : PyData} {s : S} : Kg6 d z Q d2 s ↔ W (lift (get2D d d2 z)) s Q := Iff.rfl
def Kg5 (y : Opd) (z : PyData) (Q : QV) : PyData → S → Prop := fun d s => W y.now s (Kg6 d z Q)
theorem Kg5_ {y : Opd} {z : PyData} {Q : QV} {d : PyData} {s : S} : Kg5 y z Q d s ↔ W y.now s (Kg6 d z Q) := Iff.rfl
def Kg4 (x : Opd) (y : Opd) (Q : QV) : PyData → S → Prop := fun d s => W x.now s (Kg5 y d Q)
theorem Kg4_ {x : Opd} {y : Opd} {Q : QV} {d : PyData} {s : S} : Kg4 x y Q d s ↔ W x.now s (Kg5 y d Q) := Iff.rfl
def Kg3 (x : Opd) (e : Ex) (Q : QV) : Opd → S → Prop := fun y s => W (evE e) s (Kdat (Kg4 x y Q))
theorem Kg3_ {x : Opd} {e : Ex} {Q : QV} {y : Opd} {s : S} : Kg3 x e Q y s ↔ W (evE e) s (Kdat (Kg4 x y Q)) := Iff.rfl
def Kg2 (x : Opd) (b : Ex) (e : Ex) (Q : QV) : PyData → S → Prop := fun d s => O2.recv .get d = true ∧ WO b s (Kg3 x e Q)
theorem Kg2_ {x : Opd} {b : Ex} {e : Ex} {Q : QV} {d : PyData} {s : S} : Kg2 x b e Q d s ↔ O2.recv .get d = true ∧ WO b s (Kg3 x e Q) := Iff.rfl
def Kg1 (b : Ex) (e : Ex) (Q : QV) : Opd → S → Prop := fun x s => W x.now s (Kg2 x b e Q)
theorem Kg1_ {b : Ex} {e : Ex} {Q : QV} {x : Opd} {s : S} : Kg1 b e Q x s ↔ W x.now s (Kg2 x b e Q) := Iff.rfl
theorem ke_get2 {a b e : Ex} {s : S} {Q : QV} : W (evE (.get2 a b e)) s Q ↔ WO a s (Kg1 b e Q) := e_get2
def Krep3 (ds : List PyData) (Q : QV) : Int → S → Prop := fun n s => (-(2 ^ 63) ≤ n ∧ n < 2 ^ 63 ∧ ds.length * n.toNat ≤ SZ) ∧ Q (.uni (.list (List.replicate n.toNat ds).flatten)) s
theorem Krep3_ {ds : List PyData} {Q : QV} {n : Int} {s : S} : Krep3 ds Q n s ↔ (-(2 ^ 63) ≤ n ∧ n < 2 ^ 63 ∧ ds.length * n.toNat ≤ SZ) ∧ Q (.uni (.list (List.replicate n.toNat ds).flatten)) s := Iff.rfl
def Krep2 (e : Ex) (Q : QV) : List PyData → S → Prop := fun ds s => W (evE e) s (Kint (Krep3 ds Q))
theorem Krep2_ {e : Ex} {Q : QV} {ds : List PyData} {s : S} : Krep2 e Q ds s ↔ W (evE e) s (Kint (Krep3 ds Q)) := Iff.rfl
theorem ke_rep {es : List Ex} {e : Ex} {s : S} {Q : QV} : W (evE (.rep es e)) s Q ↔ W (evEs es) s (Krep2 e Q) := e_rep
theorem ko_rep {es : List Ex} {e : Ex} {s : S} {Q : QO} : WO (.rep es e) s Q ↔ W (evE (.rep es e)) s (Kdat (Kval Q)) := o_gen (by intro i h; cases h)
def Kts3 (xs : List PyData) (Q : QV) : List PyData → S → Prop := fun ds s => xs.length + ds.length ≤ SZ ∧ Q (.dat (.tuple (xs ++ ds))) s
theorem Kts3_ {xs : List PyData} {Q : QV} {ds : List PyData} {s : S} : Kts3 xs Q ds s ↔ xs.length + ds.length ≤ SZ ∧ Q (.dat (.tuple (xs ++ ds))) s := Iff.rfl
def Kts2 (es : List Ex) (Q : QV) : List PyData → S → Prop := fun ds s => W (evEs es) s (Kts3 ds Q)
theorem Kts2_ {es : List Ex} {Q : QV} {ds : List PyData} {s : S} : Kts2 es Q ds s ↔ W (evEs es) s (Kts3 ds Q) := Iff.rfl
def Kts1 (es : List Ex) (Q : QV) : PyData → S → Prop := fun d s => W (lift (seq? d)) s (Kts2 es Q)
theorem Kts1_ {es : List Ex} {Q : QV} {d : PyData} {s : S} : Kts1 es Q d s ↔ W (lift (seq? d)) s (Kts2 es Q) := Iff.rfl
theorem ke_tupS {a : Ex} {es : List Ex} {s : S} {Q : QV} : W (evE (.tupS a es)) s Q ↔ W (evE a) s (Kdat (Kts1 es Q)) := e_tupS
theorem ko_tupS {a : Ex} {es : List Ex} {s : S} {Q : QO} : WO (.tupS a es) s Q ↔ W (evE (.tupS a es)) s (Kdat (Kval Q)) := o_gen (by intro i h; cases h)
def Kaug2 (i : Nat) (n : Int) (R : QF) : Int → S → Prop := fun k s => R .nx ⟨s.e.set i (.val (.int (n + k))), s.m⟩
theorem Kaug2_ {i : Nat} {n : Int} {R : QF} {k : Int} {s : S} : Kaug2 i n R k s ↔ R .nx ⟨s.e.set i (.val (.int (n + k))), s.m⟩ := Iff.rfl
def Kaug1 (i : Nat) (e : Ex) (R : QF) : Int → S → Prop := fun n s => W (evE e) s (Kint (Kaug2 i n R))
theorem Kaug1_ {i : Nat} {e : Ex} {R : QF} {n : Int} {s : S} : Kaug1 i e R n s ↔ W (evE e) s (Kint (Kaug2 i n R)) := Iff.rfl
theorem ks_aug {i : Nat} {e : Ex} {s : S} {R : QF} : W (evS (.aug i e)) s R ↔ W (intS i) s (Kaug1 i e R) := s_aug
def Kpur (s0 : S) (Q : QV) : Val → S → Prop := fun v s => pureV v = true ∧ Q v s0
theorem Kpur_ {s0 : S} {Q : QV} {v : Val} {s : S} : Kpur s0 Q v s ↔ pureV v = true ∧ Q v s0 := Iff.rfl
theorem ke_pur {e : Ex} {es : List Slot} {m : Mu} {Q : QV} : W (evE (.pur e)) ⟨es, m⟩ Q ↔ W (evE e) ⟨es.map roS, []⟩ (Kpur ⟨es, m⟩ Q) := e_pur
theorem ko_pur {e : Ex} {s : S} {Q : QO} : WO (.pur e) s Q ↔ W (evE (.pur e)) s (Kdat (Kval Q)) := o_gen (by intro i h; cases h)
def Kdsd (i : Nat) (d : PyData) (R : QF) : PyData → S → Prop := fun d2 s => W (dputM i d2 d) s (Knx R)
theorem Kdsd_ {i : Nat} {d : PyData} {R : QF} {d2 : PyData} {s : S} : Kdsd i d R d2 s ↔ W (dputM i d2 d) s (Knx R) := Iff.rfl
def Kdsc (i : Nat) (k : Ex) (d : PyData) (R : QF) : Unit → S → Prop := fun u s => W (evE k) s (Kdat (Kdsd i d R))
theorem Kdsc_ {i : Nat} {k : Ex} {d : PyData} {R : QF} {u : Unit} {s : S} : Kdsc i k d R u s ↔ W (evE k) s (Kdat (Kdsd i d R)) := Iff.rfl
def Kdsb (i : Nat) (k : Ex) (R : QF) : PyData → S → Prop := fun d s => W (dictChk i) s (Kdsc i k d R)
theorem Kdsb_ {i : Nat} {k : Ex} {R : QF} {d : PyData} {s : S} : Kdsb i k R d s ↔ W (dictChk i) s (Kdsc i k d R) := Iff.rfl
theorem ks_dset {i : Nat} {k e : Ex} {s : S} {R : QF} : W (evS (.dset i k e)) s R ↔ W (evE e) s (Kdat (Kdsb i k R)) := s_dset
theorem ks_brk {s : S} {R : QF} : W (evS .brk) s R ↔ R .brk s := by rw [evS, w_pure]
theorem ks_cnt {s : S} {R : QF} : W (evS .cnt) s R ↔ R .cnt s := by rw [evS, w_pure]
def KRet (Q : Val → Mu → Prop) : Flow → S → Prop := Ret Q
theorem KRet_ret {Q : Val → Mu → Prop} {v : Val} {e : List Slot} {m : Mu} : KRet Q (.ret v) ⟨e, m⟩ ↔ Q v m := Iff.rfl
theorem KRet_nx {Q : Val → Mu → Prop} {e : List Slot} {m : Mu} : KRet Q .nx ⟨e, m⟩ ↔ Q (.dat .none) m := Iff.rfl
theorem krun_ok {n : Nat} {b : List Sm} {vs : List Val} {m : Mu} {Q : Val → Mu → Prop} : CallOk (runFn n b) vs m Q ↔ W (evSs b) ⟨vs.map slotOf ++ List.replicate (n - vs.length) .unset, m⟩ (KRet Q) := run_ok
theorem d_idxI {l : List Int} {a : Int} {s : S} {Q : QV} : W (lift (O2.den .idx (.list (ofInts l)) (.int a))) s Q ↔ ∃ i, L2.atI l a = some i ∧ Q (.dat (.int i)) s := by
  rw [d_idxL]
  have e : L2.atI (ofInts l) a = (L2.atI l a).map PyData.int := by
    unfold L2.atI ofInts
    rw [List.length_map]
    cases L2.ixN l.length a with
    | none => rfl
    | some j => exact List.getElem?_map
  rw [e]
  constructor
  · rintro ⟨d, h1, h2⟩
    obtain ⟨i, h3, rfl⟩ := Option.map_eq_some_iff.mp h1
    exact ⟨i, h3, h2⟩
  · rintro ⟨i, h1, h2⟩
    exact ⟨_, by rw [h1]; rfl, h2⟩
theorem slot_tab {w : World} {es : List (PyData × PyData)} : slotOf (.tab w es) = .tab w es := rfl
def Ktgv (Q : QV) : PyData → S → Prop := fun d s => Q (.dat d) s
theorem Ktgv_ {Q : QV} {d : PyData} {s : S} : Ktgv Q d s ↔ Q (.dat d) s := Iff.rfl
def Ktg4 (d : PyData) (Q : QV) : List (PyData × PyData) → S → Prop := fun es s => W (lift (tGet es d)) s (Ktgv Q)
theorem Ktg4_ {d : PyData} {Q : QV} {es : List (PyData × PyData)} {s : S} : Ktg4 d Q es s ↔ W (lift (tGet es d)) s (Ktgv Q) := Iff.rfl
def Ktg3 (w : World) (i : Nat) (d : PyData) (Q : QV) : Unit → S → Prop := fun u s => W (tabW w i) s (Ktg4 d Q)
theorem Ktg3_ {w : World} {i : Nat} {d : PyData} {Q : QV} {u : Unit} {s : S} : Ktg3 w i d Q u s ↔ W (tabW w i) s (Ktg4 d Q) := Iff.rfl
def Ktg2 (w : World) (i : Nat) (Q : QV) : PyData → S → Prop := fun d s => W (tkM d) s (Ktg3 w i d Q)
theorem Ktg2_ {w : World} {i : Nat} {Q : QV} {d : PyData} {s : S} : Ktg2 w i Q d s ↔ W (tkM d) s (Ktg3 w i d Q) := Iff.rfl
def Ktg1 (w : World) (i : Nat) (k : Ex) (Q : QV) : List (PyData × PyData) → S → Prop := fun es s => W (evE k) s (Kdat (Ktg2 w i Q))
theorem Ktg1_ {w : World} {i : Nat} {k : Ex} {Q : QV} {es : List (PyData × PyData)} {s : S} : Ktg1 w i k Q es s ↔ W (evE k) s (Kdat (Ktg2 w i Q)) := Iff.rfl
theorem ke_tget {w : World} {i : Nat} {k : Ex} {s : S} {Q : QV} : W (evE (.tget w i k)) s Q ↔ W (tabM i) s (Ktg1 w i k Q) := by rw [evE]; simp only [w_bind, w_lift_map]; exact Iff.rfl
theorem ko_tget {w : World} {i : Nat} {k : Ex} {s : S} {Q : QO} : WO (.tget w i k) s Q ↔ W (evE (.tget w i k)) s (Kdat (Kval Q)) := o_gen (by intro i h; cases h)
def Ktd5 (d : PyData) (d2 : PyData) (Q : QV) : List (PyData × PyData) → S → Prop := fun es s => Q (.dat ((tGet es d).getD d2)) s
theorem Ktd5_ {d : PyData} {d2 : PyData} {Q : QV} {es : List (PyData × PyData)} {s : S} : Ktd5 d d2 Q es s ↔ Q (.dat ((tGet es d).getD d2)) s := Iff.rfl
def Ktd4 (w : World) (i : Nat) (d : PyData) (Q : QV) : PyData → S → Prop := fun d2 s => W (tabW w i) s (Ktd5 d d2 Q)
theorem Ktd4_ {w : World} {i : Nat} {d : PyData} {Q : QV} {d2 : PyData} {s : S} : Ktd4 w i d Q d2 s ↔ W (tabW w i) s (Ktd5 d d2 Q) := Iff.rfl
def Ktd3 (w : World) (i : Nat) (z : Ex) (d : PyData) (Q : QV) : Unit → S → Prop := fun u s => W (evE z) s (Kdat (Ktd4 w i d Q))
theorem Ktd3_ {w : World} {i : Nat} {z : Ex} {d : PyData} {Q : QV} {u : Unit} {s : S} : Ktd3 w i z d Q u s ↔ W (evE z) s (Kdat (Ktd4 w i d Q)) := Iff.rfl
def Ktd2 (w : World) (i : Nat) (z : Ex) (Q : QV) : PyData → S → Prop := fun d s => W (tkM d) s (Ktd3 w i z d Q)
theorem Ktd2_ {w : World} {i : Nat} {z : Ex} {Q : QV} {d : PyData} {s : S} : Ktd2 w i z Q d s ↔ W (tkM d) s (Ktd3 w i z d Q) := Iff.rfl
def Ktd1 (w : World) (i : Nat) (k : Ex) (z : Ex) (Q : QV) : List (PyData × PyData) → S → Prop := fun es s => W (evE k) s (Kdat (Ktd2 w i z Q))
theorem Ktd1_ {w : World} {i : Nat} {k : Ex} {z : Ex} {Q : QV} {es : List (PyData × PyData)} {s : S} : Ktd1 w i k z Q es s ↔ W (evE k) s (Kdat (Ktd2 w i z Q)) := Iff.rfl
theorem ke_tgetd {w : World} {i : Nat} {k z : Ex} {s : S} {Q : QV} : W (evE (.tgetd w i k z)) s Q ↔ W (tabM i) s (Ktd1 w i k z Q) := by rw [evE]; simp only [w_bind, w_pure]; exact Iff.rfl
theorem ko_tgetd {w : World} {i : Nat} {k z : Ex} {s : S} {Q : QO} : WO (.tgetd w i k z) s Q ↔ W (evE (.tgetd w i k z)) s (Kdat (Kval Q)) := o_gen (by intro i h; cases h)
def Kti3 (neg : Bool) (d : PyData) (Q : QV) : List (PyData × PyData) → S → Prop := fun es s => Q (.dat (.bool (if neg then !(tGet es d).isSome else (tGet es d).isSome))) s
theorem Kti3_ {neg : Bool} {d : PyData} {Q : QV} {es : List (PyData × PyData)} {s : S} : Kti3 neg d Q es s ↔ Q (.dat (.bool (if neg then !(tGet es d).isSome else (tGet es d).isSome))) s := Iff.rfl
def Kti2 (w : World) (neg : Bool) (i : Nat) (d : PyData) (Q : QV) : Unit → S → Prop := fun u s => W (tabW w i) s (Kti3 neg d Q)
theorem Kti2_ {w : World} {neg : Bool} {i : Nat} {d : PyData} {Q : QV} {u : Unit} {s : S} : Kti2 w neg i d Q u s ↔ W (tabW w i) s (Kti3 neg d Q) := Iff.rfl
def Kti1 (w : World) (neg : Bool) (i : Nat) (Q : QV) : PyData → S → Prop := fun d s => W (tkM d) s (Kti2 w neg i d Q)
theorem Kti1_ {w : World} {neg : Bool} {i : Nat} {Q : QV} {d : PyData} {s : S} : Kti1 w neg i Q d s ↔ W (tkM d) s (Kti2 w neg i d Q) := Iff.rfl
theorem ke_tin {w : World} {neg : Bool} {i : Nat} {k : Ex} {s : S} {Q : QV} : W (evE (.tin w neg i k)) s Q ↔ W (evE k) s (Kdat (Kti1 w neg i Q)) := by rw [evE]; simp only [w_bind, w_pure]; exact Iff.rfl
theorem ko_tin {w : World} {neg : Bool} {i : Nat} {k : Ex} {s : S} {Q : QO} : WO (.tin w neg i k) s Q ↔ W (evE (.tin w neg i k)) s (Kdat (Kval Q)) := o_gen (by intro i h; cases h)
def Ktks (Q : QV) : List (PyData × PyData) → S → Prop := fun es s => Q (.uni (.list (es.map (·.1)))) s
theorem Ktks_ {Q : QV} {es : List (PyData × PyData)} {s : S} : Ktks Q es s ↔ Q (.uni (.list (es.map (·.1)))) s := Iff.rfl
theorem ke_tkeys {i : Nat} {s : S} {Q : QV} : W (evE (.tkeys i)) s Q ↔ W (tabM i) s (Ktks Q) := by rw [evE]; simp only [w_bind, w_pure]; exact Iff.rfl
theorem ko_tkeys {i : Nat} {s : S} {Q : QO} : WO (.tkeys i) s Q ↔ W (evE (.tkeys i)) s (Kdat (Kval Q)) := o_gen (by intro i h; cases h)
def Ktvs (Q : QV) : List (PyData × PyData) → S → Prop := fun es s => Q (.uni (.list (es.map (·.2)))) s
theorem Ktvs_ {Q : QV} {es : List (PyData × PyData)} {s : S} : Ktvs Q es s ↔ Q (.uni (.list (es.map (·.2)))) s := Iff.rfl
theorem ke_tvals {i : Nat} {s : S} {Q : QV} : W (evE (.tvals i)) s Q ↔ W (tabM i) s (Ktvs Q) := by rw [evE]; simp only [w_bind, w_pure]; exact Iff.rfl
theorem ko_tvals {i : Nat} {s : S} {Q : QO} : WO (.tvals i) s Q ↔ W (evE (.tvals i)) s (Kdat (Kval Q)) := o_gen (by intro i h; cases h)
def Ktss (Q : QV) : List PyData → S → Prop := fun l s => Q (.uni (.list l)) s
theorem Ktss_ {Q : QV} {l : List PyData} {s : S} : Ktss Q l s ↔ Q (.uni (.list l)) s := Iff.rfl
def Ktsr (Q : QV) : List (PyData × PyData) → S → Prop := fun es s => W (lift (sort? (es.map (·.1)))) s (Ktss Q)
theorem Ktsr_ {Q : QV} {es : List (PyData × PyData)} {s : S} : Ktsr Q es s ↔ W (lift (sort? (es.map (·.1)))) s (Ktss Q) := Iff.rfl
theorem ke_tsrt {i : Nat} {s : S} {Q : QV} : W (evE (.tsrt i)) s Q ↔ W (tabM i) s (Ktsr Q) := by rw [evE]; simp only [w_bind, w_lift_map]; exact Iff.rfl
theorem ko_tsrt {i : Nat} {s : S} {Q : QO} : WO (.tsrt i) s Q ↔ W (evE (.tsrt i)) s (Kdat (Kval Q)) := o_gen (by intro i h; cases h)
theorem ke_tmt {w : World} {s : S} {Q : QV} : W (evE (.tmt w)) s Q ↔ Q (.tab w []) s := by rw [evE, w_pure]
def Kto3 (w : World) (d : PyData) (Q : QV) : PyData → S → Prop := fun d2 s => Q (.tab w [(d, d2)]) s
theorem Kto3_ {w : World} {d : PyData} {Q : QV} {d2 : PyData} {s : S} : Kto3 w d Q d2 s ↔ Q (.tab w [(d, d2)]) s := Iff.rfl
def Kto2 (w : World) (e : Ex) (d : PyData) (Q : QV) : Unit → S → Prop := fun u s => W (evE e) s (Kdat (Kto3 w d Q))
theorem Kto2_ {w : World} {e : Ex} {d : PyData} {Q : QV} {u : Unit} {s : S} : Kto2 w e d Q u s ↔ W (evE e) s (Kdat (Kto3 w d Q)) := Iff.rfl
def Kto1 (w : World) (e : Ex) (Q : QV) : PyData → S → Prop := fun d s => W (tkM d) s (Kto2 w e d Q)
theorem Kto1_ {w : World} {e : Ex} {Q : QV} {d : PyData} {s : S} : Kto1 w e Q d s ↔ W (tkM d) s (Kto2 w e d Q) := Iff.rfl
theorem ke_tone {w : World} {k e : Ex} {s : S} {Q : QV} : W (evE (.tone w k e)) s Q ↔ W (evE k) s (Kdat (Kto1 w e Q)) := by rw [evE]; simp only [w_bind, w_pure]; exact Iff.rfl
theorem ke_tmv {i : Nat} {s : S} {Q : QV} : W (evE (.tmv i)) s Q ↔ W (tmvM i) s Q := by rw [evE]
def Kds (tp : Bool) (Q : QV) : List PyData → S → Prop := fun ds s => ds.length ≤ SZ ∧ Q (if tp then .dat (.tuple ds) else .uni (.list ds)) s
theorem Kds_ {tp : Bool} {Q : QV} {ds : List PyData} {s : S} : Kds tp Q ds s ↔ ds.length ≤ SZ ∧ Q (if tp then .dat (.tuple ds) else .uni (.list ds)) s := Iff.rfl
theorem ke_disp {tp : Bool} {bs : List Bool} {es : List Ex} {s : S} {Q : QV} : W (evE (.disp tp bs es)) s Q ↔ W (evDs bs es) s (Kds tp Q) := by rw [evE]; simp only [w_bind]; constructor <;> intro h <;> refine W.mono h fun ds s h => ?_; (by_cases c : ds.length ≤ SZ; (rw [if_pos c, w_pure] at h; exact ⟨c, h⟩); (rw [if_neg c, w_stuck] at h; exact h.elim)); (rw [if_pos h.1, w_pure]; exact h.2)
theorem ko_disp {tp : Bool} {bs : List Bool} {es : List Ex} {s : S} {Q : QO} : WO (.disp tp bs es) s Q ↔ W (evE (.disp tp bs es)) s (Kdat (Kval Q)) := o_gen (by intro i h; cases h)
theorem kds_nil {s : S} {Q : QL} : W (evDs [] []) s Q ↔ Q [] s := by rw [evDs, w_pure]
def Kdsx (xs : List PyData) (Q : QL) : List PyData → S → Prop := fun ds s => Q (xs ++ ds) s
theorem Kdsx_ {xs : List PyData} {Q : QL} {ds : List PyData} {s : S} : Kdsx xs Q ds s ↔ Q (xs ++ ds) s := Iff.rfl
def Kdsy (bs : List Bool) (es : List Ex) (Q : QL) : List PyData → S → Prop := fun ds s => W (evDs bs es) s (Kdsx ds Q)
theorem Kdsy_ {bs : List Bool} {es : List Ex} {Q : QL} {ds : List PyData} {s : S} : Kdsy bs es Q ds s ↔ W (evDs bs es) s (Kdsx ds Q) := Iff.rfl
def Kdst (bs : List Bool) (es : List Ex) (Q : QL) : PyData → S → Prop := fun d s => W (lift (seq? d)) s (Kdsy bs es Q)
theorem Kdst_ {bs : List Bool} {es : List Ex} {Q : QL} {d : PyData} {s : S} : Kdst bs es Q d s ↔ W (lift (seq? d)) s (Kdsy bs es Q) := Iff.rfl
def Kdsn (bs : List Bool) (es : List Ex) (Q : QL) : PyData → S → Prop := fun d s => W (evDs bs es) s (Kdsx [d] Q)
theorem Kdsn_ {bs : List Bool} {es : List Ex} {Q : QL} {d : PyData} {s : S} : Kdsn bs es Q d s ↔ W (evDs bs es) s (Kdsx [d] Q) := Iff.rfl
theorem kds_star {bs : List Bool} {e : Ex} {es : List Ex} {s : S} {Q : QL} : W (evDs (true :: bs) (e :: es)) s Q ↔ W (evE e) s (Kdat (Kdst bs es Q)) := by rw [evDs]; simp only [w_bind, w_pure, if_true]; exact Iff.rfl
theorem kds_one {bs : List Bool} {e : Ex} {es : List Ex} {s : S} {Q : QL} : W (evDs (false :: bs) (e :: es)) s Q ↔ W (evE e) s (Kdat (Kdsn bs es Q)) := by rw [evDs]; simp only [w_bind, w_pure, Bool.false_eq_true, if_false, w_lift_some]; exact Iff.rfl
def Kdv2 (Q : QV) : List (PyData × PyData) → S → Prop := fun es s => es.length ≤ 15 ∧ Q (.uni (.dict (dMerge [] es))) s
theorem Kdv2_ {Q : QV} {es : List (PyData × PyData)} {s : S} : Kdv2 Q es s ↔ es.length ≤ 15 ∧ Q (.uni (.dict (dMerge [] es))) s := Iff.rfl
def Kdv1 (Q : QV) : List PyData → S → Prop := fun ds s => W (lift (pairUp ds)) s (Kdv2 Q)
theorem Kdv1_ {Q : QV} {ds : List PyData} {s : S} : Kdv1 Q ds s ↔ W (lift (pairUp ds)) s (Kdv2 Q) := Iff.rfl
theorem ke_dicv {es : List Ex} {s : S} {Q : QV} : W (evE (.dicv es)) s Q ↔ W (evEs es) s (Kdv1 Q) := by rw [evE]; simp only [w_bind]; constructor <;> intro h <;> refine W.mono h fun ds s h => W.mono h fun ps s h => ?_; (by_cases c : ps.length ≤ 15; (rw [if_pos c, w_pure] at h; exact ⟨c, h⟩); (rw [if_neg c, w_stuck] at h; exact h.elim)); (rw [if_pos h.1, w_pure]; exact h.2)
theorem ko_dicv {es : List Ex} {s : S} {Q : QO} : WO (.dicv es) s Q ↔ W (evE (.dicv es)) s (Kdat (Kval Q)) := o_gen (by intro i h; cases h)
def Kpop0 (i : Nat) (Q : QV) : Unit → S → Prop := fun u s => W (popAt i (-1)) s Q
theorem Kpop0_ {i : Nat} {Q : QV} {u : Unit} {s : S} : Kpop0 i Q u s ↔ W (popAt i (-1)) s Q := Iff.rfl
theorem ke_pop0 {i : Nat} {s : S} {Q : QV} : W (evE (.pop0 i)) s Q ↔ W (ownChk i) s (Kpop0 i Q) := by rw [evE]; simp only [w_bind]; exact Iff.rfl
theorem ko_pop0 {i : Nat} {s : S} {Q : QO} : WO (.pop0 i) s Q ↔ W (evE (.pop0 i)) s (Kdat (Kval Q)) := o_gen (by intro i h; cases h)
def Ktp2 (Q : QL) : Val → S → Prop := fun v s => W (tabPairs v) s Q
theorem Ktp2_ {Q : QL} {v : Val} {s : S} : Ktp2 Q v s ↔ W (tabPairs v) s Q := Iff.rfl
theorem kit_titems {i : Nat} {s : S} {Q : QL} : W (evIt (.titems i)) s Q ↔ W (tmvM i) s (Ktp2 Q) := by rw [evIt]; simp only [w_bind]; exact Iff.rfl
def Kts_d (w : World) (i : Nat) (d : PyData) (d2 : PyData) (R : QF) : Unit → S → Prop := fun u s => W (tputM w i d2 d) s (Knx R)
theorem Kts_d_ {w : World} {i : Nat} {d : PyData} {d2 : PyData} {R : QF} {u : Unit} {s : S} : Kts_d w i d d2 R u s ↔ W (tputM w i d2 d) s (Knx R) := Iff.rfl
def Kts_c (w : World) (i : Nat) (d : PyData) (R : QF) : PyData → S → Prop := fun d2 s => W (tkM d2) s (Kts_d w i d d2 R)
theorem Kts_c_ {w : World} {i : Nat} {d : PyData} {R : QF} {d2 : PyData} {s : S} : Kts_c w i d R d2 s ↔ W (tkM d2) s (Kts_d w i d d2 R) := Iff.rfl
def Kts_b (w : World) (i : Nat) (k : Ex) (d : PyData) (R : QF) : List (PyData × PyData) → S → Prop := fun es s => W (evE k) s (Kdat (Kts_c w i d R))
theorem Kts_b_ {w : World} {i : Nat} {k : Ex} {d : PyData} {R : QF} {es : List (PyData × PyData)} {s : S} : Kts_b w i k d R es s ↔ W (evE k) s (Kdat (Kts_c w i d R)) := Iff.rfl
def Kts_a (w : World) (i : Nat) (k : Ex) (R : QF) : PyData → S → Prop := fun d s => W (tabM i) s (Kts_b w i k d R)
theorem Kts_a_ {w : World} {i : Nat} {k : Ex} {R : QF} {d : PyData} {s : S} : Kts_a w i k R d s ↔ W (tabM i) s (Kts_b w i k d R) := Iff.rfl
theorem ks_tset {w : World} {i : Nat} {k e : Ex} {s : S} {R : QF} : W (evS (.tset w i k e)) s R ↔ W (evE e) s (Kdat (Kts_a w i k R)) := by rw [evS]; simp only [w_bind, w_pure]; exact Iff.rfl
end Fb

local macro_rules | `(tactic| simp_arith [$xs,*]) => `(tactic| simp only [↓Fb.Kdat_, ↓Fb.Ktrue_, ↓Fb.Kint_, ↓Fb.Know_, ↓Fb.Kval_, ↓Fb.Ktup_, ↓Fb.Klst_, ↓Fb.Kdic_, ↓Fb.ke_tup, ↓Fb.ke_lst, ↓Fb.ke_dic, ↓Fb.ko_o1, ↓Fb.ko_o2, ↓Fb.ko_slc, ↓Fb.ko_rev, ↓Fb.ko_not, ↓Fb.ko_and, ↓Fb.ko_or, ↓Fb.ko_ife, ↓Fb.ko_isi, ↓Fb.ko_lrng, ↓Fb.ko_call, ↓Fb.ko_lc, ↓Fb.ko_pop, ↓Fb.ko_fget, ↓Fb.KtupO_, ↓Fb.KlstO_, ↓Fb.ko_tup, ↓Fb.ko_lst, ↓Fb.Ko1_, ↓Fb.ke_o1, ↓Fb.Ko2d_, ↓Fb.Ko2c_, ↓Fb.Ko2b_, ↓Fb.Ko2a_, ↓Fb.ke_o2, ↓Fb.Kslcd_, ↓Fb.Kslcc_, ↓Fb.Kslcb_, ↓Fb.Kslca_, ↓Fb.ke_slc, ↓Fb.Krev_, ↓Fb.ke_rev, ↓Fb.Ksldd_, ↓Fb.Ksldb_, ↓Fb.Kslda_, ↓Fb.ke_sld, ↓Fb.Knot_, ↓Fb.ke_not, ↓Fb.Kand_, ↓Fb.ke_and, ↓Fb.Kor_, ↓Fb.ke_or, ↓Fb.Kife_, ↓Fb.ke_ife, ↓Fb.Kisib_, ↓Fb.Kisia_, ↓Fb.ke_isi, ↓Fb.Krg1_, ↓Fb.ke_rg1, ↓Fb.Krg2b_, ↓Fb.Krg2a_, ↓Fb.ke_rg2, ↓Fb.Kcallb_, ↓Fb.Kcalla_, ↓Fb.ke_call, ↓Fb.Kret_, ↓Fb.kw_callFn, ↓Fb.Kpopb_, ↓Fb.Kpopa_, ↓Fb.ke_pop, ↓Fb.Kesb_, ↓Fb.Kesa_, ↓Fb.kes_cons, ↓Fb.Kvsb_, ↓Fb.w_args_dat, ↓Fb.w_args_uni, ↓Fb.w_args_sto, ↓Fb.Kvsa_, ↓Fb.kvs_cons, ↓Fb.Kusb_, ↓Fb.Kusa_, ↓Fb.kus_cons, ↓Fb.Kp_, ↓Fb.kp_some, ↓Fb.kc_some, ↓Fb.Kit_, ↓Fb.kit_of, ↓Fb.Kenub_, ↓Fb.Kenua_, ↓Fb.kit_enu, ↓Fb.Kzipb_, ↓Fb.Kzipa_, ↓Fb.kit_zip, ↓Fb.Kir1_, ↓Fb.kit_rg1, ↓Fb.Kir2b_, ↓Fb.Kir2a_, ↓Fb.kit_rg2, ↓Fb.Kirdb_, ↓Fb.Kirda_, ↓Fb.kit_rgd, ↓Fb.Kasg_, ↓Fb.ks_asg, ↓Fb.Kretv_, ↓Fb.ks_ret, ↓Fb.ks_retv, ↓Fb.Kdrop_, ↓Fb.ks_expr, ↓Fb.Kif_, ↓Fb.ks_if, ↓Fb.Knx_, ↓Fb.Kfset_, ↓Fb.ks_fset, ↓Fb.Kappb_, ↓Fb.Kappa_, ↓Fb.ks_app, ↓Fb.Kextc_, ↓Fb.Kextb_, ↓Fb.Kexta_, ↓Fb.ks_ext, ↓Fb.Kpar_, ↓Fb.ks_par, ↓Fb.Kunp_, ↓Fb.ks_unp, ↓Fb.Kfor_, ↓Fb.ks_for, ↓Fb.Kbody_, ↓Fb.k_turn, ↓Fb.Kseq_nx, ↓Fb.Kseq_brk, ↓Fb.Kseq_cnt, ↓Fb.Kseq_ret, ↓Fb.kw_seq, ↓Fb.Kas_, ↓Fb.kas_cons, ↓Fb.ko_chn, ↓Fb.ko_mt, ↓Fb.ko_get2, ↓Fb.ko_gtup, ↓Fb.ko_dnew, ↓Fb.ko_dc, ↓Fb.ke_gtup, ↓Fb.ke_dnew, ↓Fb.Kch6_, ↓Fb.Kch5_, ↓Fb.Kch4_, ↓Fb.Kch3_, ↓Fb.Kch2_, ↓Fb.Kch1_, ↓Fb.Kchb_, ↓Fb.Kcha_, ↓Fb.ke_chn, ↓Fb.Kmt3_, ↓Fb.Kmt2_, ↓Fb.Kmt1_, ↓Fb.ke_mt, ↓Fb.Kg6_, ↓Fb.Kg5_, ↓Fb.Kg4_, ↓Fb.Kg3_, ↓Fb.Kg2_, ↓Fb.Kg1_, ↓Fb.ke_get2, ↓Fb.Krep3_, ↓Fb.Krep2_, ↓Fb.ke_rep, ↓Fb.ko_rep, ↓Fb.Kts3_, ↓Fb.Kts2_, ↓Fb.Kts1_, ↓Fb.ke_tupS, ↓Fb.ko_tupS, ↓Fb.Kaug2_, ↓Fb.Kaug1_, ↓Fb.ks_aug, ↓Fb.Kpur_, ↓Fb.ke_pur, ↓Fb.ko_pur, ↓Fb.Kdsd_, ↓Fb.Kdsc_, ↓Fb.Kdsb_, ↓Fb.ks_dset, ↓Fb.ks_brk, ↓Fb.ks_cnt, ↓Fb.KRet_ret, ↓Fb.KRet_nx, ↓Fb.Ktgv_, ↓Fb.Ktg4_, ↓Fb.Ktg3_, ↓Fb.Ktg2_, ↓Fb.Ktg1_, ↓Fb.ke_tget, ↓Fb.ko_tget, ↓Fb.Ktd5_, ↓Fb.Ktd4_, ↓Fb.Ktd3_, ↓Fb.Ktd2_, ↓Fb.Ktd1_, ↓Fb.ke_tgetd, ↓Fb.ko_tgetd, ↓Fb.Kti3_, ↓Fb.Kti2_, ↓Fb.Kti1_, ↓Fb.ke_tin, ↓Fb.ko_tin, ↓Fb.Ktks_, ↓Fb.ke_tkeys, ↓Fb.ko_tkeys, ↓Fb.Ktvs_, ↓Fb.ke_tvals, ↓Fb.ko_tvals, ↓Fb.Ktss_, ↓Fb.Ktsr_, ↓Fb.ke_tsrt, ↓Fb.ko_tsrt, ↓Fb.ke_tmt, ↓Fb.Kto3_, ↓Fb.Kto2_, ↓Fb.Kto1_, ↓Fb.ke_tone, ↓Fb.ke_tmv, ↓Fb.Kds_, ↓Fb.ke_disp, ↓Fb.ko_disp, ↓Fb.kds_nil, ↓Fb.Kdsx_, ↓Fb.Kdsy_, ↓Fb.Kdst_, ↓Fb.Kdsn_, ↓Fb.kds_star, ↓Fb.kds_one, ↓Fb.Kdv2_, ↓Fb.Kdv1_, ↓Fb.ke_dicv, ↓Fb.ko_dicv, ↓Fb.Kpop0_, ↓Fb.ke_pop0, ↓Fb.ko_pop0, ↓Fb.Ktp2_, ↓Fb.kit_titems, ↓Fb.Kts_d_, ↓Fb.Kts_c_, ↓Fb.Kts_b_, ↓Fb.Kts_a_, ↓Fb.ks_tset, ↓Fb.w_tabM, ↓Fb.w_tabW, ↓Fb.w_tput, ↓Fb.w_tmv, ↓Fb.w_tk, ↓Fb.w_tabPairs, ↓Fb.tabK_, ↓Fb.tputK_, ↓Fb.w_nil, ↓Fb.e_num, ↓Fb.e_str, ↓Fb.e_bl, ↓Fb.e_non, ↓Fb.e_var, ↓Fb.e_fget, ↓Fb.o_var, ↓Fb.o_num, ↓Fb.o_str, ↓Fb.o_bl, ↓Fb.o_non, ↓Fb.es_nil, ↓Fb.vs_nil, ↓Fb.us_nil, ↓Fb.p_none, ↓Fb.c_none, ↓Fb.par_nil, ↓Fb.par_cons, ↓Fb.a_name, ↓Fb.a_tup, ↓Fb.a_tupL, ↓Fb.as_nil, ↓Fb.s_dead, ↓Fb.w_rd, ↓Fb.w_mv, ↓Fb.w_slotOpd, ↓Fb.w_now, ↓Fb.w_opd_val, ↓Fb.w_fget, ↓Fb.w_fset, ↓Fb.w_own, ↓Fb.w_uniL, ↓Fb.w_app, ↓Fb.w_ext, ↓Fb.w_data_dat, ↓Fb.w_data_uni, ↓Fb.w_isTrue, ↓Fb.w_intV, ↓Fb.w_setS, ↓Fb.w_lift_some, ↓Fb.w_lift_none, ↓Fb.w_dictChk, ↓Fb.w_dput, ↓Fb.w_intS, ↓Fb.d_seqL, ↓Fb.d_seqT, ↓Fb.d_isB, ↓Fb.d_notB, ↓Fb.d_add, ↓Fb.d_addL, ↓Fb.d_addT, ↓Fb.d_sub, ↓Fb.d_mul, ↓Fb.d_mod, ↓Fb.d_fdiv, ↓Fb.d_pow, ↓Fb.d_eqI, ↓Fb.d_neI, ↓Fb.d_eqS, ↓Fb.d_neS, ↓Fb.d_eqT, ↓Fb.d_eqL, ↓Fb.d_neT, ↓Fb.d_neL, ↓Fb.d_lt, ↓Fb.d_le, ↓Fb.d_gt, ↓Fb.d_ge, ↓Fb.d_inT, ↓Fb.d_inL, ↓Fb.d_ninT, ↓Fb.d_ninL, ↓Fb.d_isN, ↓Fb.d_notN, ↓Fb.d_idxI, ↓Fb.d_idxL, ↓Fb.d_idxT, ↓Fb.d_min, ↓Fb.d_max, ↓Fb.d_lenL, ↓Fb.d_lenT, ↓Fb.d_tupL, ↓Fb.d_tupT, ↓Fb.d_lstL, ↓Fb.d_lstT, ↓Fb.d_srtL, ↓Fb.d_srtT, ↓Fb.d_srtset, ↓Fb.d_int, ↓Fb.d_neg, ↓Fb.d_repr, ↓Fb.d_all, ↓Fb.d_any, ↓Fb.d_sum, ↓Fb.d_slcL, ↓Fb.d_slcT, ↓Fb.d_revL, ↓Fb.d_revT, ↓Fb.d_itL, ↓Fb.d_itT, ↓Fb.d_list, ↓Fb.d_zipL, ↓Fb.d_zipT, ↓Fb.w_pop, ↓Fb.d_idxK, ↓Fb.d_inK, ↓Fb.d_ninK, ↓Fb.d_lenD, ↓Fb.d_lstD, ↓Fb.d_dictL, ↓Fb.d_dictD, ↓Fb.d_getK, ↓Fb.d_get2K, ↓Fb.d_lenS, ↓Fb.d_itS, ↓Fb.d_ltS, ↓Fb.d_leS, Fb.roS_val, Fb.roS_own, Fb.roS_sto, Fb.roS_unset, Fb.arg_dat, Fb.arg_uni, Fb.arg_sto, Fb.slot_dat, Fb.slot_uni, Fb.slot_sto, Fb.slot_tab, Fb.roS_tab, List.map, List.length_cons, List.length_nil, List.replicate, List.cons_append, List.nil_append, List.append_nil, List.getElem?_cons_zero, List.getElem?_cons_succ, List.set_cons_zero, List.set_cons_succ, Nat.reduceAdd, Nat.reduceSub, decide_eq_true_eq, if_true, if_false, Bool.false_eq_true, $xs,*])
local macro_rules | `(tactic| simp_arith! [$xs,*]) => `(tactic| simp only [↓Fb.Kdat_, ↓Fb.Ktrue_, ↓Fb.Kint_, ↓Fb.Know_, ↓Fb.Kval_, ↓Fb.Ktup_, ↓Fb.Klst_, ↓Fb.Kdic_, ↓Fb.ke_tup, ↓Fb.ke_lst, ↓Fb.ke_dic, ↓Fb.ko_o1, ↓Fb.ko_o2, ↓Fb.ko_slc, ↓Fb.ko_rev, ↓Fb.ko_not, ↓Fb.ko_and, ↓Fb.ko_or, ↓Fb.ko_ife, ↓Fb.ko_isi, ↓Fb.ko_lrng, ↓Fb.ko_call, ↓Fb.ko_lc, ↓Fb.ko_pop, ↓Fb.ko_fget, ↓Fb.KtupO_, ↓Fb.KlstO_, ↓Fb.ko_tup, ↓Fb.ko_lst, ↓Fb.Ko1_, ↓Fb.ke_o1, ↓Fb.Ko2d_, ↓Fb.Ko2c_, ↓Fb.Ko2b_, ↓Fb.Ko2a_, ↓Fb.ke_o2, ↓Fb.Kslcd_, ↓Fb.Kslcc_, ↓Fb.Kslcb_, ↓Fb.Kslca_, ↓Fb.ke_slc, ↓Fb.Krev_, ↓Fb.ke_rev, ↓Fb.Ksldd_, ↓Fb.Ksldb_, ↓Fb.Kslda_, ↓Fb.ke_sld, ↓Fb.Knot_, ↓Fb.ke_not, ↓Fb.Kand_, ↓Fb.ke_and, ↓Fb.Kor_, ↓Fb.ke_or, ↓Fb.Kife_, ↓Fb.ke_ife, ↓Fb.Kisib_, ↓Fb.Kisia_, ↓Fb.ke_isi, ↓Fb.Krg1_, ↓Fb.ke_rg1, ↓Fb.Krg2b_, ↓Fb.Krg2a_, ↓Fb.ke_rg2, ↓Fb.Kcallb_, ↓Fb.Kcalla_, ↓Fb.ke_call, ↓Fb.Kret_, ↓Fb.kw_callFn, ↓Fb.Kpopb_, ↓Fb.Kpopa_, ↓Fb.ke_pop, ↓Fb.Kesb_, ↓Fb.Kesa_, ↓Fb.kes_cons, ↓Fb.Kvsb_, ↓Fb.w_args_dat, ↓Fb.w_args_uni, ↓Fb.w_args_sto, ↓Fb.Kvsa_, ↓Fb.kvs_cons, ↓Fb.Kusb_, ↓Fb.Kusa_, ↓Fb.kus_cons, ↓Fb.Kp_, ↓Fb.kp_some, ↓Fb.kc_some, ↓Fb.Kit_, ↓Fb.kit_of, ↓Fb.Kenub_, ↓Fb.Kenua_, ↓Fb.kit_enu, ↓Fb.Kzipb_, ↓Fb.Kzipa_, ↓Fb.kit_zip, ↓Fb.Kir1_, ↓Fb.kit_rg1, ↓Fb.Kir2b_, ↓Fb.Kir2a_, ↓Fb.kit_rg2, ↓Fb.Kirdb_, ↓Fb.Kirda_, ↓Fb.kit_rgd, ↓Fb.Kasg_, ↓Fb.ks_asg, ↓Fb.Kretv_, ↓Fb.ks_ret, ↓Fb.ks_retv, ↓Fb.Kdrop_, ↓Fb.ks_expr, ↓Fb.Kif_, ↓Fb.ks_if, ↓Fb.Knx_, ↓Fb.Kfset_, ↓Fb.ks_fset, ↓Fb.Kappb_, ↓Fb.Kappa_, ↓Fb.ks_app, ↓Fb.Kextc_, ↓Fb.Kextb_, ↓Fb.Kexta_, ↓Fb.ks_ext, ↓Fb.Kpar_, ↓Fb.ks_par, ↓Fb.Kunp_, ↓Fb.ks_unp, ↓Fb.Kfor_, ↓Fb.ks_for, ↓Fb.Kbody_, ↓Fb.k_turn, ↓Fb.Kseq_nx, ↓Fb.Kseq_brk, ↓Fb.Kseq_cnt, ↓Fb.Kseq_ret, ↓Fb.kw_seq, ↓Fb.Kas_, ↓Fb.kas_cons, ↓Fb.ko_chn, ↓Fb.ko_mt, ↓Fb.ko_get2, ↓Fb.ko_gtup, ↓Fb.ko_dnew, ↓Fb.ko_dc, ↓Fb.ke_gtup, ↓Fb.ke_dnew, ↓Fb.Kch6_, ↓Fb.Kch5_, ↓Fb.Kch4_, ↓Fb.Kch3_, ↓Fb.Kch2_, ↓Fb.Kch1_, ↓Fb.Kchb_, ↓Fb.Kcha_, ↓Fb.ke_chn, ↓Fb.Kmt3_, ↓Fb.Kmt2_, ↓Fb.Kmt1_, ↓Fb.ke_mt, ↓Fb.Kg6_, ↓Fb.Kg5_, ↓Fb.Kg4_, ↓Fb.Kg3_, ↓Fb.Kg2_, ↓Fb.Kg1_, ↓Fb.ke_get2, ↓Fb.Krep3_, ↓Fb.Krep2_, ↓Fb.ke_rep, ↓Fb.ko_rep, ↓Fb.Kts3_, ↓Fb.Kts2_, ↓Fb.Kts1_, ↓Fb.ke_tupS, ↓Fb.ko_tupS, ↓Fb.Kaug2_, ↓Fb.Kaug1_, ↓Fb.ks_aug, ↓Fb.Kpur_, ↓Fb.ke_pur, ↓Fb.ko_pur, ↓Fb.Kdsd_, ↓Fb.Kdsc_, ↓Fb.Kdsb_, ↓Fb.ks_dset, ↓Fb.ks_brk, ↓Fb.ks_cnt, ↓Fb.KRet_ret, ↓Fb.KRet_nx, ↓Fb.Ktgv_, ↓Fb.Ktg4_, ↓Fb.Ktg3_, ↓Fb.Ktg2_, ↓Fb.Ktg1_, ↓Fb.ke_tget, ↓Fb.ko_tget, ↓Fb.Ktd5_, ↓Fb.Ktd4_, ↓Fb.Ktd3_, ↓Fb.Ktd2_, ↓Fb.Ktd1_, ↓Fb.ke_tgetd, ↓Fb.ko_tgetd, ↓Fb.Kti3_, ↓Fb.Kti2_, ↓Fb.Kti1_, ↓Fb.ke_tin, ↓Fb.ko_tin, ↓Fb.Ktks_, ↓Fb.ke_tkeys, ↓Fb.ko_tkeys, ↓Fb.Ktvs_, ↓Fb.ke_tvals, ↓Fb.ko_tvals, ↓Fb.Ktss_, ↓Fb.Ktsr_, ↓Fb.ke_tsrt, ↓Fb.ko_tsrt, ↓Fb.ke_tmt, ↓Fb.Kto3_, ↓Fb.Kto2_, ↓Fb.Kto1_, ↓Fb.ke_tone, ↓Fb.ke_tmv, ↓Fb.Kds_, ↓Fb.ke_disp, ↓Fb.ko_disp, ↓Fb.kds_nil, ↓Fb.Kdsx_, ↓Fb.Kdsy_, ↓Fb.Kdst_, ↓Fb.Kdsn_, ↓Fb.kds_star, ↓Fb.kds_one, ↓Fb.Kdv2_, ↓Fb.Kdv1_, ↓Fb.ke_dicv, ↓Fb.ko_dicv, ↓Fb.Kpop0_, ↓Fb.ke_pop0, ↓Fb.ko_pop0, ↓Fb.Ktp2_, ↓Fb.kit_titems, ↓Fb.Kts_d_, ↓Fb.Kts_c_, ↓Fb.Kts_b_, ↓Fb.Kts_a_, ↓Fb.ks_tset, ↓Fb.w_tabM, ↓Fb.w_tabW, ↓Fb.w_tput, ↓Fb.w_tmv, ↓Fb.w_tk, ↓Fb.w_tabPairs, ↓Fb.tabK_, ↓Fb.tputK_, ↓Fb.w_nil, ↓Fb.e_num, ↓Fb.e_str, ↓Fb.e_bl, ↓Fb.e_non, ↓Fb.e_var, ↓Fb.e_fget, ↓Fb.o_var, ↓Fb.o_num, ↓Fb.o_str, ↓Fb.o_bl, ↓Fb.o_non, ↓Fb.es_nil, ↓Fb.vs_nil, ↓Fb.us_nil, ↓Fb.p_none, ↓Fb.c_none, ↓Fb.par_nil, ↓Fb.par_cons, ↓Fb.a_name, ↓Fb.a_tup, ↓Fb.a_tupL, ↓Fb.as_nil, ↓Fb.s_dead, ↓Fb.w_rd, ↓Fb.w_mv, ↓Fb.w_slotOpd, ↓Fb.w_now, ↓Fb.w_opd_val, ↓Fb.w_fget, ↓Fb.w_fset, ↓Fb.w_own, ↓Fb.w_uniL, ↓Fb.w_app, ↓Fb.w_ext, ↓Fb.w_data_dat, ↓Fb.w_data_uni, ↓Fb.w_isTrue, ↓Fb.w_intV, ↓Fb.w_setS, ↓Fb.w_lift_some, ↓Fb.w_lift_none, ↓Fb.w_dictChk, ↓Fb.w_dput, ↓Fb.w_intS, ↓Fb.d_seqL, ↓Fb.d_seqT, ↓Fb.d_isB, ↓Fb.d_notB, ↓Fb.d_add, ↓Fb.d_addL, ↓Fb.d_addT, ↓Fb.d_sub, ↓Fb.d_mul, ↓Fb.d_mod, ↓Fb.d_fdiv, ↓Fb.d_pow, ↓Fb.d_eqI, ↓Fb.d_neI, ↓Fb.d_eqS, ↓Fb.d_neS, ↓Fb.d_eqT, ↓Fb.d_eqL, ↓Fb.d_neT, ↓Fb.d_neL, ↓Fb.d_lt, ↓Fb.d_le, ↓Fb.d_gt, ↓Fb.d_ge, ↓Fb.d_inT, ↓Fb.d_inL, ↓Fb.d_ninT, ↓Fb.d_ninL, ↓Fb.d_isN, ↓Fb.d_notN, ↓Fb.d_idxI, ↓Fb.d_idxL, ↓Fb.d_idxT, ↓Fb.d_min, ↓Fb.d_max, ↓Fb.d_lenL, ↓Fb.d_lenT, ↓Fb.d_tupL, ↓Fb.d_tupT, ↓Fb.d_lstL, ↓Fb.d_lstT, ↓Fb.d_srtL, ↓Fb.d_srtT, ↓Fb.d_srtset, ↓Fb.d_int, ↓Fb.d_neg, ↓Fb.d_repr, ↓Fb.d_all, ↓Fb.d_any, ↓Fb.d_sum, ↓Fb.d_slcL, ↓Fb.d_slcT, ↓Fb.d_revL, ↓Fb.d_revT, ↓Fb.d_itL, ↓Fb.d_itT, ↓Fb.d_list, ↓Fb.d_zipL, ↓Fb.d_zipT, ↓Fb.w_pop, ↓Fb.d_idxK, ↓Fb.d_inK, ↓Fb.d_ninK, ↓Fb.d_lenD, ↓Fb.d_lstD, ↓Fb.d_dictL, ↓Fb.d_dictD, ↓Fb.d_getK, ↓Fb.d_get2K, ↓Fb.d_lenS, ↓Fb.d_itS, ↓Fb.d_ltS, ↓Fb.d_leS, Fb.roS_val, Fb.roS_own, Fb.roS_sto, Fb.roS_unset, Fb.arg_dat, Fb.arg_uni, Fb.arg_sto, Fb.slot_dat, Fb.slot_uni, Fb.slot_sto, Fb.slot_tab, Fb.roS_tab, List.map, List.length_cons, List.length_nil, List.replicate, List.cons_append, List.nil_append, List.append_nil, List.getElem?_cons_zero, List.getElem?_cons_succ, List.set_cons_zero, List.set_cons_succ, Nat.reduceAdd, Nat.reduceSub, decide_eq_true_eq, if_true, if_false, Bool.false_eq_true, true_or, or_true, true_and, and_true, and_self, Bool.and_self, Bool.not_true, Bool.not_false, Bool.true_and, Bool.and_true, Bool.false_and, Bool.and_false, decide_true, decide_false, reduceCtorEq, false_or, or_false, $xs,*])
namespace Fb
open PySem
/-! ### what can be shown, and how long it is -/
structure Fine (k n : Nat) (d : PyData) : Prop where
  lay : d.canLay0 = true
  dep : d.depth ≤ k
  sho : d.showable = true
  len : d.shown.length ≤ n
structure FineAll (k n : Nat) (ds : List PyData) : Prop where
  lay : PyData.canLayAll0 ds = true
  dep : PyData.depthAll ds ≤ k
  sho : PyData.showableAll ds = true
  len : piled (PyData.shownAll ds) ≤ ds.length * (n + 2)
theorem Fine.mono {k n k' n' : Nat} {d : PyData} (h : Fine k n d) (hk : k ≤ k') (hn : n ≤ n') : Fine k' n' d := ⟨h.lay, Nat.le_trans h.dep hk, h.sho, Nat.le_trans h.len hn⟩
theorem fineAll {k n : Nat} : ∀ {ds : List PyData}, (∀ d ∈ ds, Fine k n d) → FineAll k n ds
  | [], _ => ⟨rfl, Nat.zero_le _, rfl, Nat.zero_le _⟩
  | d :: ds, h => by
    have h1 := h d List.mem_cons_self
    have h2 := fineAll fun x hx => h x (List.mem_cons_of_mem _ hx)
    refine ⟨?_, ?_, ?_, ?_⟩
    · show (d.canLay0 && PyData.canLayAll0 ds) = true; rw [h1.lay, h2.lay]; rfl
    · show max d.depth (PyData.depthAll ds) ≤ k; exact Nat.max_le.mpr ⟨h1.dep, h2.dep⟩
    · show (d.showable && PyData.showableAll ds) = true; rw [h1.sho, h2.sho]; rfl
    · show piled (d.shown :: PyData.shownAll ds) ≤ (ds.length + 1) * (n + 2)
      rw [piled_cons, Nat.succ_mul]
      have := h1.len
      have := h2.len
      omega
theorem textFrom_le : ∀ (ts : List Str) (k : Nat) (acc : Str), (textFrom k acc ts).length ≤ acc.length + piled ts
  | [], k, acc => by show acc.length ≤ _; omega
  | t :: r, k, acc => by
    have h := textFrom_le r (k + 1) (acc ++ (if k > 0 then ", " else "" : String) ++ t)
    have e : (acc ++ (if k > 0 then ", " else "" : String) ++ t).length ≤ acc.length + 2 + t.length := by
      rw [strLen_append, strLen_append]
      have : (Str.ofString (if k > 0 then ", " else "")).length ≤ 2 := by
        split
        · exact Nat.le_of_eq (by decide +kernel)
        · exact Nat.le_of_lt (by decide +kernel)
      omega
    show (textFrom (k + 1) (acc ++ (if k > 0 then ", " else "" : String) ++ t) r).length ≤ _
    rw [piled_cons]
    omega
theorem fine_lst {k n : Nat} {ds : List PyData} (h : ∀ d ∈ ds, Fine k n d) : Fine (k + 1) (ds.length * (n + 2) + 3) (.list ds) := by
  have q := fineAll h
  refine ⟨q.lay, Nat.succ_le_succ q.dep, q.sho, ?_⟩
  show (textFrom 0 "[" (PyData.shownAll ds) ++ "]").length ≤ _
  rw [strLen_append]
  have h1 := textFrom_le (PyData.shownAll ds) 0 "["
  have e1 : (Str.ofString "[").length = 1 := by decide +kernel
  have e2 : (Str.ofString "]").length = 1 := by decide +kernel
  have := q.len
  omega
theorem fine_tup {k n : Nat} {ds : List PyData} (h : ∀ d ∈ ds, Fine k n d) : Fine (k + 1) (ds.length * (n + 2) + 3) (.tuple ds) := by
  have q := fineAll h
  refine ⟨q.lay, Nat.succ_le_succ q.dep, q.sho, ?_⟩
  show (("(" : Str) ++ Str.join ", " (PyData.shownAll ds) ++ (if (PyData.shownAll ds).length == 1 then ",)" else ")" : String)).length ≤ _
  rw [strLen_append, strLen_append]
  have e1 : (Str.ofString "(").length = 1 := by decide +kernel
  have e2 : (Str.ofString (if (PyData.shownAll ds).length == 1 then ",)" else ")")).length ≤ 2 := by
    split
    · exact Nat.le_of_eq (by decide +kernel)
    · exact Nat.le_of_lt (by decide +kernel)
  have e3 : (Str.join ", " (PyData.shownAll ds)).length ≤ piled (PyData.shownAll ds) := by
    by_cases c : PyData.shownAll ds = []
    · rw [c]; exact Nat.zero_le _
    · have := join_length_add _ c; omega
  have := q.len
  omega
theorem fine_int {B : Nat} {i : Int} (h : i.natAbs ≤ B) (hB : B ≤ 1000000) : Fine 0 (B + 2) (.int i) := by
  refine ⟨rfl, Nat.le_refl _, decide_eq_true ?_, ?_⟩
  · by_cases z : i.natAbs = 0
    · rw [z]; decide
    · have := (Nat.log2_lt z (k := 20)).mpr (by omega)
      omega
  · have := PyProof.Rows.len_str_of_int i
    show (Str.ofString (toString i)).length ≤ _
    omega
theorem fine_str {x : Str} (h : PyData.strOk x = true) : Fine 0 (10 * x.length + 2) (.str x) := by
  refine ⟨h, Nat.le_refl _, rfl, ?_⟩
  refine StrLaws.reprText_len x fun c hc => ?_
  unfold PyData.strOk at h
  rw [Array.all_eq_true_iff_forall_mem] at h
  have := h c (by simpa using hc)
  have := of_decide_eq_true this
  omega
theorem fine_non : Fine 0 4 .none := ⟨rfl, Nat.le_refl _, rfl, by show (Str.ofString "None").length ≤ 4; exact Nat.le_of_eq (by decide +kernel)⟩
theorem fine_bool {b : Bool} : Fine 0 5 (.bool b) := ⟨rfl, Nat.le_refl _, rfl, by cases b <;> exact of_decide_eq_true (by decide +kernel)⟩
theorem Fine.repr {k n : Nat} {d : PyData} (h : Fine k n d) (hk : k ≤ 64) (hn : n ≤ SZ) : (SeqAt.shaped d && d.showable && decide (d.shown.length ≤ SZ)) = true := by
  have e : SeqAt.shaped d = true := by
    unfold SeqAt.shaped
    rw [h.lay]
    exact decide_eq_true (Nat.le_trans h.dep hk)
  rw [e, h.sho]
  exact decide_eq_true (Nat.le_trans h.len hn)
theorem Fine.shaped {k n : Nat} {d : PyData} (h : Fine k n d) (hk : k ≤ 64) : SeqAt.shaped d = true := by
  unfold SeqAt.shaped
  rw [h.lay]
  exact decide_eq_true (Nat.le_trans h.dep hk)
end Fb

namespace Fb
open PySem
/-- a call that yields r and leaves the store alone -/
def D (g : Fn) (vs : List Val) (m : Mu) (r : Val) : Prop := CallOk g vs m fun v m' => m' = m ∧ v = r
theorem D.iff {g : Fn} {vs : List Val} {m : Mu} {r : Val} (h : D g vs m r) {Q : Val → Mu → Prop} : CallOk g vs m Q ↔ Q r m := by
  obtain ⟨⟨v, m'⟩, h1, h2, h3⟩ := h
  dsimp only at h2 h3
  subst h2 h3
  unfold CallOk
  rw [h1, ok_ok]
theorem D.eq {g : Fn} {vs : List Val} {m : Mu} {r : Val} (h : g vs m = .ok (r, m)) : D g vs m r := ⟨(r, m), h, rfl, rfl⟩
theorem D.run {n : Nat} {b : List Sm} {vs : List Val} {m : Mu} {r : Val} : D (runFn n b) vs m r ↔ W (evSs b) ⟨vs.map slotOf ++ List.replicate (n - vs.length) .unset, m⟩ (KRet fun v m' => m' = m ∧ v = r) := krun_ok
theorem fm_if {α : Type} (p : α → Bool) (g : α → PyData) : ∀ xs : List α, xs.filterMap (fun x => if p x = true then some (g x) else none) = (xs.filter p).map g
  | [] => rfl
  | a :: t => by
    rw [List.filterMap_cons, List.filter_cons, fm_if p g t]
    cases p a <;> rfl
/-! comprehensions, typed -/
section
variable {α : Type} {vs : List Nat} {elt key : Ex} {t : Tg} {it : It} {c : Option Ex} {e : List Slot} {m : Mu} {Q : Val → S → Prop}
theorem lc_typed {own : List Nat} {body : PyData → M (Option PyData)} {e0 : List Slot} {m : Mu} {enc : α → PyData} (f : α → Option PyData) : ∀ (xs : List α) (e : List Slot), wipeS e own = e0 →
    (∀ x ∈ xs, W (body (enc x)) ⟨e0, m⟩ fun r s => s.m = m ∧ wipeS s.e own = e0 ∧ r = f x) →
    W (lcGo own body (xs.map enc)) ⟨e, m⟩ fun rs s => s.m = m ∧ wipeS s.e own = e0 ∧ rs = xs.filterMap f
  | [], e, he, _ => by
    rw [List.map_nil, lcGo, w_pure]
    exact ⟨rfl, he, rfl⟩
  | x :: xs, e, he, hb => by
    rw [List.map_cons, lcGo, w_bind]
    have h0 : W (wipeM own) ⟨e, m⟩ fun _ s => s = ⟨e0, m⟩ := by
      unfold W wipeM
      rw [ok_ok]
      show (⟨wipeS e own, m⟩ : S) = _
      rw [he]
    refine W.mono h0 fun _ s es => ?_
    subst es
    rw [w_bind]
    refine W.mono (hb x List.mem_cons_self) fun r s q => ?_
    obtain ⟨q1, q2, rfl⟩ := q
    rw [w_bind]
    obtain ⟨e1, m1⟩ := s
    dsimp only at q1 q2
    subst q1
    refine W.mono (lc_typed f xs e1 q2 fun y hy => hb y (List.mem_cons_of_mem _ hy)) fun rs s q => ?_
    obtain ⟨z1, z2, rfl⟩ := q
    rw [w_pure]
    refine ⟨z1, z2, ?_⟩
    rw [List.filterMap_cons]
    cases f x <;> rfl
theorem w_lcD (enc : α → PyData) (xs : List α) (f : α → Option PyData)
    (h : W (evIt it) ⟨e, m⟩ fun ds s => ds = xs.map enc ∧ (vs.any fun i => isOwn (s.e.getD i .unset)) = false ∧ xs.length ≤ SZ ∧
      (∀ x ∈ xs, W (asg t (enc x)) ⟨wipeS s.e vs, s.m⟩ fun _ s1 => W (evC c) s1 fun b s2 => if b = true then W (evE elt) s2 fun v s3 => W v.data s3 fun r s4 => s4.m = s.m ∧ wipeS s4.e vs = wipeS s.e vs ∧ some r = f x else s2.m = s.m ∧ wipeS s2.e vs = wipeS s.e vs ∧ none = f x) ∧ Q (.uni (.list (xs.filterMap f))) s) :
    W (evE (.lc vs elt t it c)) ⟨e, m⟩ Q := by
  rw [evE, w_bind]
  refine W.mono h fun ds s q => ?_
  obtain ⟨rfl, h1, h2, h4, h5⟩ := q
  obtain ⟨e1, m1⟩ := s
  have g := lc_typed (own := vs) (body := fun d => (asg t d).bind fun _ => (evC c).bind fun b => if b then (evE elt).bind fun v => v.data.bind fun r => M.pure (some r) else M.pure none) (e0 := wipeS e1 vs) (m := m1) (enc := enc) f xs e1 rfl (fun x hx => by
    rw [w_bind]
    refine W.mono (h4 x hx) fun _ s1 q => ?_
    rw [w_bind]
    refine W.mono q fun b s2 q => ?_
    cases b with
    | true => simp only [w_ite, if_true, w_bind, w_pure] at q ⊢; exact q
    | false => simp only [w_ite, Bool.false_eq_true, if_false, w_bind, w_pure] at q ⊢; exact q)
  obtain ⟨⟨rs, e2, m2⟩, g1, g2, g3, g4⟩ := g
  dsimp only at g2 g3 g4
  subst g2 g4
  unfold W lcAll
  dsimp only
  rw [if_neg (by rw [h1]; decide), g1]
  dsimp only
  rw [if_pos (by rw [List.length_map]; exact h2), ok_ok]
  dsimp only
  rw [merge_self g3]
  exact h5
/-- [g x for x in xs] -/
theorem w_lcM (enc : α → PyData) (xs : List α) (g : α → PyData)
    (h : W (evIt it) ⟨e, m⟩ fun ds s => ds = xs.map enc ∧ (vs.any fun i => isOwn (s.e.getD i .unset)) = false ∧ xs.length ≤ SZ ∧
      (∀ x ∈ xs, W (asg t (enc x)) ⟨wipeS s.e vs, s.m⟩ fun _ s1 => W (evC c) s1 fun b s2 => if b = true then W (evE elt) s2 fun v s3 => W v.data s3 fun r s4 => s4.m = s.m ∧ wipeS s4.e vs = wipeS s.e vs ∧ r = g x else False) ∧ Q (.uni (.list (xs.map g))) s) :
    W (evE (.lc vs elt t it c)) ⟨e, m⟩ Q := by
  refine w_lcD enc xs (fun x => some (g x)) (W.mono h fun ds s q => ?_)
  obtain ⟨q1, q2, q3, q4, q5⟩ := q
  refine ⟨q1, q2, q3, fun x hx => ?_, ?_⟩
  · refine W.mono (q4 x hx) fun _ s1 q => W.mono q fun b s2 q => ?_
    cases b with
    | true => simp only [if_true] at q ⊢; exact W.mono q fun v s3 q => W.mono q fun r s4 q => ⟨q.1, q.2.1, by rw [q.2.2]⟩
    | false => simp only [Bool.false_eq_true, if_false] at q
  · have : xs.filterMap (fun x => some (g x)) = xs.map g := by simp [List.filterMap_eq_map]
    rw [this]
    exact q5
/-- [g x for x in xs if p x] -/
theorem w_lcF (enc : α → PyData) (xs : List α) (p : α → Bool) (g : α → PyData)
    (h : W (evIt it) ⟨e, m⟩ fun ds s => ds = xs.map enc ∧ (vs.any fun i => isOwn (s.e.getD i .unset)) = false ∧ xs.length ≤ SZ ∧
      (∀ x ∈ xs, W (asg t (enc x)) ⟨wipeS s.e vs, s.m⟩ fun _ s1 => W (evC c) s1 fun b s2 => b = p x ∧ if p x = true then W (evE elt) s2 fun v s3 => W v.data s3 fun r s4 => s4.m = s.m ∧ wipeS s4.e vs = wipeS s.e vs ∧ r = g x else s2.m = s.m ∧ wipeS s2.e vs = wipeS s.e vs) ∧ Q (.uni (.list ((xs.filter p).map g))) s) :
    W (evE (.lc vs elt t it c)) ⟨e, m⟩ Q := by
  refine w_lcD enc xs (fun x => if p x = true then some (g x) else none) (W.mono h fun ds s q => ?_)
  obtain ⟨q1, q2, q3, q4, q5⟩ := q
  refine ⟨q1, q2, q3, fun x hx => ?_, ?_⟩
  · refine W.mono (q4 x hx) fun _ s1 q => W.mono q fun b s2 q => ?_
    obtain ⟨rfl, q⟩ := q
    cases hp : p x with
    | true => rw [hp] at q; simp only [if_true] at q ⊢; exact W.mono q fun v s3 q => W.mono q fun r s4 q => ⟨q.1, q.2.1, by rw [q.2.2]⟩
    | false => rw [hp] at q; simp only [Bool.false_eq_true, if_false] at q ⊢; exact ⟨q.1, q.2, trivial⟩
  · rw [fm_if]
    exact q5
end
/-! loops, typed -/
section
variable {α σ : Type} {body : PyData → M Flow} {R : Flow → S → Prop}
theorem for_D {enc : α → PyData} (E : σ → S → Prop) (step : σ → α → σ) : ∀ (xs : List α) (st : σ) (s : S), E st s →
    (∀ x ∈ xs, ∀ st s, E st s → W (body (enc x)) s fun f s' => (f = .nx ∨ f = .cnt) ∧ E (step st x) s') → (∀ s, E (xs.foldl step st) s → R .nx s) → W (forGo body (xs.map enc)) s R
  | [], st, s, h, _, hr => by rw [List.map_nil, forGo, w_pure]; exact hr s h
  | x :: xs, st, s, h, hb, hr => by
    rw [List.map_cons, forGo, w_bind]
    refine W.mono (hb x List.mem_cons_self st s h) fun f s' q => ?_
    obtain ⟨q, q2⟩ := q
    have go := for_D E step xs (step st x) s' q2 (fun y hy => hb y (List.mem_cons_of_mem _ hy)) hr
    rcases q with rfl | rfl <;> exact go
/-- .. with the number of turns done -/
theorem for_DI {enc : α → PyData} (E : Nat → σ → S → Prop) (step : σ → α → σ) : ∀ (xs : List α) (st : σ) (s : S) (n : Nat), E n st s →
    (∀ (i : Nat), ∀ x ∈ xs, i < n + xs.length → ∀ st s, E i st s → W (body (enc x)) s fun f s' => (f = .nx ∨ f = .cnt) ∧ E (i + 1) (step st x) s') → (∀ s, E (n + xs.length) (xs.foldl step st) s → R .nx s) → W (forGo body (xs.map enc)) s R
  | [], st, s, n, h, _, hr => by rw [List.map_nil, forGo, w_pure]; exact hr s h
  | x :: xs, st, s, n, h, hb, hr => by
    rw [List.map_cons, forGo, w_bind]
    refine W.mono (hb n x List.mem_cons_self (by rw [List.length_cons]; omega) st s h) fun f s' q => ?_
    obtain ⟨q, q2⟩ := q
    have go := for_DI E step xs (step st x) s' (n + 1) q2 (fun i y hy hi => hb i y (List.mem_cons_of_mem _ hy) (by rw [List.length_cons]; omega)) (by rw [List.length_cons] at hr; rw [show n + 1 + xs.length = n + (xs.length + 1) by omega]; exact hr)
    rcases q with rfl | rfl <;> exact go
/-- a loop that may return -/
def foldE (step : σ → α → σ ⊕ Val) : σ → List α → σ ⊕ Val
  | st, [] => .inl st
  | st, x :: xs => match step st x with
    | .inl st' => foldE step st' xs
    | .inr v => .inr v
theorem for_E {enc : α → PyData} (E : σ → S → Prop) (B : S → Prop) (step : σ → α → σ ⊕ Val) : ∀ (xs : List α) (st : σ) (s : S), E st s →
    (∀ x ∈ xs, ∀ st s, E st s → W (body (enc x)) s fun f s' => match step st x with
      | .inl st' => (f = .nx ∨ f = .cnt) ∧ E st' s'
      | .inr v => f = .ret v ∧ B s') → (∀ s, match foldE step st xs with
      | .inl st' => E st' s → R .nx s
      | .inr v => B s → R (.ret v) s) → W (forGo body (xs.map enc)) s R
  | [], st, s, h, _, hr => by rw [List.map_nil, forGo, w_pure]; exact hr s h
  | x :: xs, st, s, h, hb, hr => by
    rw [List.map_cons, forGo, w_bind]
    refine W.mono (hb x List.mem_cons_self st s h) fun f s' q => ?_
    cases hx : step st x with
    | inl st' =>
      rw [hx] at q
      obtain ⟨q, q2⟩ := q
      have go := for_E E B step xs st' s' q2 (fun y hy => hb y (List.mem_cons_of_mem _ hy)) (by
        have : foldE step st (x :: xs) = foldE step st' xs := by show (match step st x with | .inl st' => foldE step st' xs | .inr v => .inr v) = _; rw [hx]
        rw [this] at hr
        exact hr)
      rcases q with rfl | rfl <;> exact go
    | inr v =>
      rw [hx] at q
      obtain ⟨rfl, q2⟩ := q
      have : foldE step st (x :: xs) = .inr v := by show (match step st x with | .inl st' => foldE step st' xs | .inr v => .inr v) = _; rw [hx]
      rw [this] at hr
      exact w_pure.mpr (hr s' q2)
theorem foldE_inl {step : σ → α → σ ⊕ Val} {st st' : σ} {x : α} {xs : List α} (h : step st x = .inl st') : foldE step st (x :: xs) = foldE step st' xs := by
  show (match step st x with | .inl st' => foldE step st' xs | .inr v => .inr v) = _
  rw [h]
theorem foldE_inr {step : σ → α → σ ⊕ Val} {st : σ} {x : α} {v : Val} {xs : List α} (h : step st x = .inr v) : foldE step st (x :: xs) = .inr v := by
  show (match step st x with | .inl st' => foldE step st' xs | .inr v => .inr v) = _
  rw [h]
theorem for_EI {enc : α → PyData} (E : Nat → σ → S → Prop) (B : S → Prop) (step : σ → α → σ ⊕ Val) : ∀ (xs : List α) (st : σ) (s : S) (n : Nat), E n st s →
    (∀ (i : Nat), ∀ x ∈ xs, i < n + xs.length → ∀ st s, E i st s → W (body (enc x)) s fun f s' => match step st x with
      | .inl st' => (f = .nx ∨ f = .cnt) ∧ E (i + 1) st' s'
      | .inr v => f = .ret v ∧ B s') → (∀ s, match foldE step st xs with
      | .inl st' => E (n + xs.length) st' s → R .nx s
      | .inr v => B s → R (.ret v) s) → W (forGo body (xs.map enc)) s R
  | [], st, s, n, h, _, hr => by rw [List.map_nil, forGo, w_pure]; exact hr s h
  | x :: xs, st, s, n, h, hb, hr => by
    rw [List.map_cons, forGo, w_bind]
    refine W.mono (hb n x List.mem_cons_self (by rw [List.length_cons]; omega) st s h) fun f s' q => ?_
    cases hx : step st x with
    | inl st' =>
      rw [hx] at q
      obtain ⟨q, q2⟩ := q
      have go := for_EI E B step xs st' s' (n + 1) q2 (fun i y hy hi => hb i y (List.mem_cons_of_mem _ hy) (by rw [List.length_cons]; omega)) (by
        rw [foldE_inl hx, List.length_cons, show n + (xs.length + 1) = n + 1 + xs.length by omega] at hr
        exact hr)
      rcases q with rfl | rfl <;> exact go
    | inr v =>
      rw [hx] at q
      obtain ⟨rfl, q2⟩ := q
      rw [foldE_inr hx] at hr
      exact w_pure.mpr (hr s' q2)
/-- .. over data as they are -/
theorem for_EIr (E : Nat → σ → S → Prop) (B : S → Prop) (step : σ → PyData → σ ⊕ Val) (ds : List PyData) (st : σ) (s : S) (h : E 0 st s)
    (hb : ∀ (i : Nat), ∀ x ∈ ds, i < ds.length → ∀ st s, E i st s → W (body x) s fun f s' => match step st x with
      | .inl st' => (f = .nx ∨ f = .cnt) ∧ E (i + 1) st' s'
      | .inr v => f = .ret v ∧ B s') (hr : ∀ s, match foldE step st ds with
      | .inl st' => E ds.length st' s → R .nx s
      | .inr v => B s → R (.ret v) s) : W (forGo body ds) s R := by
  have := for_EI (enc := id) (body := body) (R := R) E B step ds st s 0 h (fun i x hx hi => hb i x hx (by omega)) (by rw [Nat.zero_add]; exact hr)
  rwa [List.map_id] at this
/-- while: a state that goes on by step while p, in at most n turns -/
theorem whl_D {c : M Bool} {b : M Flow} (E : σ → S → Prop) (p : σ → Bool) (step : σ → σ) (μ : σ → Nat) (hc : ∀ st s, E st s → W c s fun t s' => t = p st ∧ E st s') (hb : ∀ st s, p st = true → E st s → W b s fun f s' => (f = .nx ∨ f = .cnt) ∧ E (step st) s')
    (hμ : ∀ st, p st = true → μ (step st) < μ st) (hr : ∀ (k : Nat) (st : σ) (s : S), p st = false → E st s → True) : ∀ (n : Nat) (st : σ) (s : S), μ st < n → E st s → (∀ st' s, p st' = false → E st' s → (∃ k, st' = Nat.repeat step k st ∧ ∀ j < k, p (Nat.repeat step j st) = true) → R .nx s) → W (whlGo c b n) s R
  | 0, st, s, h, _, _ => absurd h (Nat.not_lt_zero _)
  | n + 1, st, s, h, he, hR => by
    rw [whlGo, w_bind]
    refine W.mono (hc st s he) fun t s' q => ?_
    obtain ⟨rfl, q⟩ := q
    cases hp : p st with
    | false =>
      rw [if_neg (by decide), w_pure]
      exact hR st s' hp q ⟨0, rfl, fun j hj => absurd hj (Nat.not_lt_zero _)⟩
    | true =>
      rw [if_pos rfl, w_bind]
      refine W.mono (hb st s' hp q) fun f s2 q => ?_
      obtain ⟨q1, q2⟩ := q
      have hsh : ∀ k, Nat.repeat step k (step st) = Nat.repeat step (k + 1) st := fun k => by
        induction k with
        | zero => rfl
        | succ k ih => show step (Nat.repeat step k (step st)) = step (Nat.repeat step (k + 1) st); rw [ih]
      have go := whl_D E p step μ hc hb hμ hr n (step st) s2 (by have := hμ st hp; omega) q2 fun st' s h1 h2 ⟨k, h3, h4⟩ => hR st' s h1 h2 ⟨k + 1, by rw [h3, hsh], fun j hj => by
        cases j with
        | zero => exact hp
        | succ j => rw [← hsh]; exact h4 j (by omega)⟩
      rcases q1 with rfl | rfl <;> exact go
end
/-! dict comprehensions, typed -/
section
variable {α : Type} {vs : List Nat} {elt key : Ex} {t : Tg} {it : It} {c : Option Ex} {e : List Slot} {m : Mu} {Q : Val → S → Prop}
theorem dc_typed {own : List Nat} {body : PyData → M (Option (PyData × PyData))} {e0 : List Slot} {m : Mu} {enc : α → PyData} (f : α → PyData × PyData) : ∀ (xs : List α) (acc : List (PyData × PyData)) (e : List Slot), wipeS e own = e0 →
    (∀ x ∈ xs, isKey (f x).1 = true ∧ W (body (enc x)) ⟨e0, m⟩ fun r s => s.m = m ∧ wipeS s.e own = e0 ∧ r = some (f x)) →
    W (dcGo own body acc (xs.map enc)) ⟨e, m⟩ fun rs s => s.m = m ∧ wipeS s.e own = e0 ∧ rs = dMerge acc (xs.map f)
  | [], acc, e, he, _ => by
    rw [List.map_nil, dcGo, w_pure]
    exact ⟨rfl, he, rfl⟩
  | x :: xs, acc, e, he, hb => by
    rw [List.map_cons, dcGo, w_bind]
    have h0 : W (wipeM own) ⟨e, m⟩ fun _ s => s = ⟨e0, m⟩ := by
      unfold W wipeM
      rw [ok_ok]
      show (⟨wipeS e own, m⟩ : S) = _
      rw [he]
    refine W.mono h0 fun _ s es => ?_
    subst es
    rw [w_bind]
    obtain ⟨hk, hx⟩ := hb x List.mem_cons_self
    refine W.mono hx fun r s q => ?_
    obtain ⟨q1, q2, rfl⟩ := q
    obtain ⟨e1, m1⟩ := s
    dsimp only at q1 q2 ⊢
    subst q1
    rw [if_pos hk]
    exact dc_typed f xs _ e1 q2 fun y hy => hb y (List.mem_cons_of_mem _ hy)
theorem w_dcM (enc : α → PyData) (xs : List α) (f : α → PyData × PyData)
    (h : W (evIt it) ⟨e, m⟩ fun ds s => ds = xs.map enc ∧ (vs.any fun i => isOwn (s.e.getD i .unset)) = false ∧ xs.length ≤ SZ ∧
      (∀ x ∈ xs, isKey (f x).1 = true ∧ W (asg t (enc x)) ⟨wipeS s.e vs, s.m⟩ fun _ s1 => W (evE key) s1 fun kv s2 => W kv.data s2 fun k s3 => W (evE elt) s3 fun v s4 => W v.data s4 fun r s5 => s5.m = s.m ∧ wipeS s5.e vs = wipeS s.e vs ∧ (k, r) = f x) ∧ Q (.uni (.dict (dMerge [] (xs.map f)))) s) :
    W (evE (.dc vs key elt t it none)) ⟨e, m⟩ Q := by
  rw [evE, w_bind]
  refine W.mono h fun ds s q => ?_
  obtain ⟨rfl, h1, h2, h4, h5⟩ := q
  obtain ⟨e1, m1⟩ := s
  have g := dc_typed (own := vs) (body := fun d => (asg t d).bind fun _ => (evC none).bind fun b => if b then (evE key).bind fun kv => kv.data.bind fun k => (evE elt).bind fun v => v.data.bind fun r => M.pure (some (k, r)) else M.pure none) (e0 := wipeS e1 vs) (m := m1) (enc := enc) f xs [] e1 rfl (fun x hx => by
    obtain ⟨hk, hx⟩ := h4 x hx
    refine ⟨hk, ?_⟩
    rw [w_bind]
    refine W.mono hx fun _ s1 q => ?_
    rw [w_bind, evC, w_pure]
    simp only [if_true, w_bind, w_pure]
    exact W.mono q fun kv s2 q => W.mono q fun k s3 q => W.mono q fun v s4 q => W.mono q fun r s5 q => ⟨q.1, q.2.1, by rw [q.2.2]⟩)
  obtain ⟨⟨rs, e2, m2⟩, g1, g2, g3, g4⟩ := g
  dsimp only at g2 g3 g4
  subst g2 g4
  unfold W dcAll
  dsimp only
  rw [if_neg (by rw [h1]; decide), g1]
  dsimp only
  rw [if_pos (by rw [List.length_map]; exact h2), ok_ok]
  dsimp only
  rw [merge_self g3]
  exact h5
end
/-! dicts of unlike keys -/
theorem dput_new {es : List (PyData × PyData)} {k v : PyData} (h : ∀ p ∈ es, keyEq p.1 k = false) : dPut es k v = es ++ [(k, v)] := by
  unfold dPut
  rw [if_neg]
  intro z
  obtain ⟨p, h1, h2⟩ := List.any_eq_true.mp z
  rw [h p h1] at h2
  cases h2
theorem dmerge_new : ∀ (more es : List (PyData × PyData)), (es ++ more).Pairwise (fun a b => keyEq a.1 b.1 = false) → dMerge es more = es ++ more
  | [], es, _ => by rw [List.append_nil]; rfl
  | p :: r, es, h => by
    show dMerge (dPut es p.1 p.2) r = _
    have hp : ∀ q ∈ es, keyEq q.1 p.1 = false := fun q hq => (List.pairwise_append.mp h).2.2 q hq p List.mem_cons_self
    rw [dput_new hp, dmerge_new r]
    · rw [List.append_assoc]; rfl
    · rw [List.append_assoc]; exact h
theorem pairs_map {α : Type} (kx vx : α → PyData) (xs : List α) (h : ∀ x ∈ xs, isKey (kx x) = true) : pairs? (xs.map fun x => .tuple [kx x, vx x]) = some (xs.map fun x => (kx x, vx x)) := by
  induction xs with
  | nil => rfl
  | cons a t ih =>
    rw [List.map_cons, List.map_cons]
    show (if isKey (kx a) = true then (pairs? (t.map fun x => .tuple [kx x, vx x])).map ((kx a, vx a) :: ·) else none) = _
    rw [if_pos (h a List.mem_cons_self), ih fun x hx => h x (List.mem_cons_of_mem _ hx)]
    rfl
theorem bools_map {α : Type} (p : α → Bool) (xs : List α) : bools? (xs.map fun x => .bool (p x)) = some (xs.map p) := by
  induction xs with
  | nil => rfl
  | cons a t ih =>
    rw [List.map_cons]
    show (bools? (t.map fun x => .bool (p x))).map (p a :: ·) = _
    rw [ih]
    rfl
theorem all_map {α : Type} (p : α → Bool) (xs : List α) : (xs.map p).all id = xs.all p := by rw [List.all_map]; rfl
theorem any_map {α : Type} (p : α → Bool) (xs : List α) : (xs.map p).any id = xs.any p := by rw [List.any_map]; rfl
end Fb

namespace FA
open PySem Fb
noncomputable def b_draw (z a b c d f g : Int) : List Sm := [.fset 0 "drawn" (.o2 .add (.fget 0 "drawn") (.num 1)), .ife (.o2 .gt (.fget 0 "left") (.num 0)) [.asg 4 (.o2 .mod (.o1 .int (.fget 0 "left")) (.var 1)), .fset 0 "left" (.o2 .fdiv (.fget 0 "left") (.var 1)), .retv 4] [], .par [5, 6] [.fget 0 "place_in", .fget 0 "cells"], .fset 0 "place_in" (.o2 .add (.var 5) (.num 1)), .asg 2 (.ife (.o2 .ne (.var 6) (.lst [])) (.o2 .idx (.var 6) (.o2 .mod (.o1 .int (.var 5)) (.o1 .len (.var 6)))) (.num z)), .ife (.and (.o2 .ge (.var 2) (.o2 .pow (.num 10) (.num 18))) (.o2 .lt (.var 5) (.o1 .len (.var 6)))) [.fset 0 "left" (.o2 .fdiv (.var 2) (.var 1)), .ret (.o2 .mod (.o1 .int (.var 2)) (.var 1))] [], .asg 3 (.o2 .mod (.o1 .int (.o2 .add (.o2 .add (.o2 .mod (.o1 .int (.var 2)) (.num 1999999733)) (.o2 .mul (.num a) (.fget 0 "drawn"))) (.num b))) (.num 2147483237)), .asg 3 (.o2 .mod (.o1 .int (.o2 .add (.o2 .add (.o2 .mul (.var 3) (.var 3)) (.o2 .mul (.num c) (.fget 0 "drawn"))) (.num d))) (.num 2147483179)), .ret (.o2 .mod (.o1 .int (.o2 .fdiv (.o2 .mod (.o1 .int (.o2 .add (.o2 .add (.o2 .mul (.var 3) (.var 3)) (.o2 .mul (.num f) (.var 3))) (.num g))) (.num 2147483171)) (.num 32))) (.var 1))]
noncomputable def g_draw (z a b c d f g : Int) : Fn := runFn 7 (b_draw z a b c d f g)
def fd (c p l n : PyData) : List (Str × PyData) := [(("cells" : Str), c), (("place_in" : Str), p), (("left" : Str), l), (("drawn" : Str), n)]
theorem fd_cells {c p l n : PyData} : (fd c p l n).lookup ("cells" : Str) = some c := by kernel_rfl
theorem fd_place {c p l n : PyData} : (fd c p l n).lookup ("place_in" : Str) = some p := by kernel_rfl
theorem fd_left {c p l n : PyData} : (fd c p l n).lookup ("left" : Str) = some l := by kernel_rfl
theorem fd_drawn {c p l n : PyData} : (fd c p l n).lookup ("drawn" : Str) = some n := by kernel_rfl
theorem fd_pplace {c p l n d : PyData} : putKV "place_in" d (fd c p l n) = fd c d l n := by kernel_rfl
theorem fd_pleft {c p l n d : PyData} : putKV "left" d (fd c p l n) = fd c p d n := by kernel_rfl
theorem fd_pdrawn {c p l n d : PyData} : putKV "drawn" d (fd c p l n) = fd c p l d := by kernel_rfl
theorem fd_len {c p l n : PyData} : (fd c p l n).length < 1000 ↔ True := by
  constructor <;> intro _ <;> first | trivial | (show 4 < 1000; decide)
def Feed (m : Mu) : Prop := ∃ (cells : List Int) (p l n : Int), m = [fd (.list (ofInts cells)) (.int p) (.int l) (.int n)]
theorem ints_shaped (l : List Int) : SeqAt.shaped (.list (ofInts l)) = true := by
  have h1 : ∀ l : List Int, PyData.canLayAll0 (ofInts l) = true := fun l => by
    induction l with
    | nil => rfl
    | cons a t ih => show (PyData.canLay0 (.int a) && PyData.canLayAll0 (ofInts t)) = true; rw [ih]; rfl
  have h2 : ∀ l : List Int, PyData.depthAll (ofInts l) = 0 := fun l => by
    induction l with
    | nil => rfl
    | cons a t ih => show max (PyData.depth (.int a)) (PyData.depthAll (ofInts t)) = 0; rw [ih]; rfl
  unfold SeqAt.shaped
  have e1 : (PyData.list (ofInts l)).canLay0 = true := h1 l
  have e2 : (PyData.list (ofInts l)).depth = 1 := by show PyData.depthAll (ofInts l) + 1 = 1; rw [h2]
  rw [e1, e2]
  rfl
theorem shaped_nil : SeqAt.shaped (.list []) = true := by decide
theorem eqv_nil (l : List Int) : PyData.eqv (.list (ofInts l)) (.list []) = l.isEmpty := by
  cases l <;> rfl
theorem atI_of {α : Type} {l : List α} {i : Int} (h0 : 0 ≤ i) (h1 : i < l.length) : ∃ d, l[i.toNat]? = some d ∧ L2.atI l i = some d := by
  have hl : i.toNat < l.length := by omega
  refine ⟨l[i.toNat], List.getElem?_eq_getElem hl, ?_⟩
  unfold L2.atI L2.ixN
  rw [if_pos h0, if_pos h1]
  exact List.getElem?_eq_getElem hl
theorem ofInts_len (l : List Int) : (ofInts l).length = l.length := List.length_map _
/-- a drawing def -/
def DrawOk (gd : Fn) : Prop := ∀ {m : Mu} {w : Int}, Feed m → 0 < w → w < 1073741824 → CallOk gd [.sto 0, .dat (.int w)] m fun v m' => Feed m' ∧ ∃ k, v = .dat (.int k) ∧ 0 ≤ k ∧ k < w
theorem draw_ok {z a b c d f g : Int} (ha : -(2 ^ 64) < a ∧ a < 2 ^ 64) (hc : -(2 ^ 64) < c ∧ c < 2 ^ 64) (hf : -(2 ^ 64) < f ∧ f < 2 ^ 64) : DrawOk (g_draw z a b c d f g) := by
  intro m w hm h0 h1
  show CallOk (g_draw z a b c d f g) [.sto 0, .dat (.int w)] m fun v m' => Feed m' ∧ ∃ k, v = .dat (.int k) ∧ 0 ≤ k ∧ k < w
  obtain ⟨cells, p, l, n, rfl⟩ := hm
  have hmod : ∀ c : Int, 0 ≤ c % w ∧ c % w < w := fun c => ⟨Int.emod_nonneg _ (by omega), Int.emod_lt_of_pos _ h0⟩
  have fin : ∀ (x : Int) (a b c : Int), (Feed [fd (.list (ofInts cells)) (.int a) (.int b) (.int c)] ∧ ∃ k, Val.dat (PyData.int (x % w)) = .dat (.int k) ∧ 0 ≤ k ∧ k < w) := fun x a b c => ⟨⟨_, _, _, _, rfl⟩, _, rfl, hmod x⟩
  rw [g_draw, krun_ok, b_draw]
  simp_arith [fd_cells, fd_place, fd_left, fd_drawn, fd_pplace, fd_pleft, fd_pdrawn, fd_len, true_and, ints_shaped, shaped_nil, eqv_nil, Bool.and_self]
  split
  · exact ⟨h0, ⟨h0, h1⟩, fin _ _ _ _⟩
  · split
    · rename_i _ hne
      have hl : 0 < cells.length := by
        cases cells with
        | nil => cases hne
        | cons a t => exact Nat.succ_pos _
      rw [ofInts_len]
      refine ⟨by omega, ?_⟩
      obtain ⟨d, g1, g2⟩ := atI_of (l := ofInts cells) (i := p % cells.length) (Int.emod_nonneg _ (by omega)) (by rw [ofInts_len]; exact Int.emod_lt_of_pos _ (by omega))
      obtain ⟨z, _, rfl⟩ : ∃ z, cells[(p % cells.length).toNat]? = some z ∧ PyData.int z = d := by
        unfold ofInts at g1
        rw [List.getElem?_map] at g1
        exact Option.map_eq_some_iff.mp g1
      refine ⟨_, g2, by decide, ?_⟩
      simp_arith [fd_cells, fd_place, fd_left, fd_drawn, fd_pplace, fd_pleft, fd_pdrawn, fd_len, true_and]
      split
      · split
        · exact ⟨⟨h0, h1⟩, h0, fin _ _ _ _⟩
        · exact ⟨by decide, .inl ha, by decide, .inl (by omega), .inl hc, by decide, .inl (by omega), .inl hf, by decide, by decide, h0, fin _ _ _ _⟩
      · exact ⟨by decide, .inl ha, by decide, .inl (by omega), .inl hc, by decide, .inl (by omega), .inl hf, by decide, by decide, h0, fin _ _ _ _⟩
    · refine ⟨by decide, ?_⟩
      split
      · split
        · exact ⟨⟨h0, h1⟩, h0, fin _ _ _ _⟩
        · exact ⟨by decide, .inl ha, by decide, .inl (by omega), .inl hc, by decide, .inl (by omega), .inl hf, by decide, by decide, h0, fin _ _ _ _⟩
      · exact ⟨by decide, .inl ha, by decide, .inl (by omega), .inl hc, by decide, .inl (by omega), .inl hf, by decide, by decide, h0, fin _ _ _ _⟩
theorem pick_ok {gd : Fn} (hdr : DrawOk gd) {m : Mu} {xs : List PyData} (hm : Feed m) (h0 : 0 < xs.length) (h1 : xs.length < 1073741824) : CallOk (g_law_pick gd) [.sto 0, .dat (.list xs)] m fun v m' => Feed m' ∧ ∃ d ∈ xs, v = .dat d := by
  rw [g_law_pick, krun_ok, b_law_pick]
  simp_arith []
  refine CallOk.mono (hdr hm (by omega) (by omega)) fun v m' h => ?_
  obtain ⟨hf, k, rfl, k0, k1⟩ := h
  simp_arith []
  obtain ⟨d, e1, e2⟩ := atI_of (l := xs) k0 k1
  exact ⟨d, e2, hf, d, List.mem_of_getElem? e1, rfl⟩
/-- one to eight lowercase letters -/
def okName (x : Str) : Bool := decide (1 ≤ x.length) && decide (x.length ≤ 8) && x.cps.toList.all fun c => decide (97 ≤ c) && decide (c ≤ 122)
abbrev SLt (a b : Str) : Prop := a.cps.toList < b.cps.toList
theorem names_ok {gd : Fn} (hdr : DrawOk gd) {m : Mu} (hm : Feed m) : CallOk (g_law_names gd) [.sto 0] m fun v m' => Feed m' ∧ ∃ ns : List Str, v = .dat (.list (ns.map .str)) ∧ ns.length = 5 ∧ (∀ x ∈ ns, okName x = true) ∧ ns.Pairwise SLt := by
  rw [g_law_names, krun_ok, b_law_names]
  simp_arith []
  refine ⟨by decide, by decide, CallOk.mono (pick_ok hdr hm (by decide) (by decide)) fun v m' h => ?_⟩
  obtain ⟨hf, d, hd, rfl⟩ := h
  simp_arith []
  refine ⟨hf, ?_⟩
  simp only [List.mem_cons, List.not_mem_nil, or_false] at hd
  have hx : ∀ ns : List Str, (ns.all okName) = true → ∀ x ∈ ns, okName x = true := fun ns h => List.all_eq_true.mp h
  rcases hd with rfl | rfl | rfl | rfl | rfl
  · exact ⟨["app", "plot", "shop", "tool", "zoo"], rfl, rfl, hx _ (by decide +kernel), by decide +kernel⟩
  · exact ⟨["a", "aa", "ab", "abcdefgh", "b"], rfl, rfl, hx _ (by decide +kernel), by decide +kernel⟩
  · exact ⟨["z", "zy", "zyx", "zz", "zzz"], rfl, rfl, hx _ (by decide +kernel), by decide +kernel⟩
  · exact ⟨["order", "program", "ring", "word", "x"], rfl, rfl, hx _ (by decide +kernel), by decide +kernel⟩
  · exact ⟨["always", "c", "copy", "k", "kk"], rfl, rfl, hx _ (by decide +kernel), by decide +kernel⟩
/-! ranges -/
def Own (many : Int) (own : List Int) : Prop := own ≠ [] ∧ own.Pairwise (· < ·) ∧ ∀ k ∈ own, 0 ≤ k ∧ k < many
def rgI (a b : Int) : List Int := (List.range (b - a).toNat).map fun (i : Nat) => a + i
theorem rgD_eq (a b : Int) : rgD a b = ofInts (rgI a b) := by
  unfold rgD ofInts rgI
  rw [List.map_map]
  rfl
theorem rgI_mem {a b k : Int} : k ∈ rgI a b ↔ a ≤ k ∧ k < b := by
  unfold rgI
  rw [List.mem_map]
  constructor
  · rintro ⟨i, h1, rfl⟩
    have := List.mem_range.mp h1
    omega
  · rintro ⟨h1, h2⟩
    exact ⟨(k - a).toNat, List.mem_range.mpr (by omega), by omega⟩
theorem rgI_up (a b : Int) : (rgI a b).Pairwise (· < ·) := by
  unfold rgI
  rw [List.pairwise_map]
  exact List.pairwise_lt_range.imp fun h => by omega
theorem rgI_own {many a b : Int} (h0 : 0 ≤ a) (h1 : a < b) (h2 : b ≤ many) : Own many (rgI a b) :=
  ⟨fun z => (by have q := (rgI_mem (a := a) (b := b) (k := a)).mpr ⟨Int.le_refl _, h1⟩; rw [z] at q; cases q), rgI_up a b, fun k hk => (by have q := rgI_mem.mp hk; omega)⟩
theorem rg_small {a b : Int} (h0 : -1000 ≤ a) (h1 : a ≤ 1000) (h2 : -1000 ≤ b) (h3 : b ≤ 1000) : rgOk a b = true := decide_eq_true ⟨by omega, by omega, by omega, by omega, by omega⟩
theorem pick_ints {l : List Int} {os : List (Option PyData)} {R : Option PyData → Prop} (hl : os.length = (ofInts l).length) (h : ∀ (i : Nat) (d : PyData), (ofInts l)[i]? = some d → ∃ o, os[i]? = some o ∧ (o = some d ∨ o = none)) :
    ∃ l' : List Int, os.filterMap id = ofInts l' ∧ l'.Sublist l := by
  induction l generalizing os with
  | nil =>
    cases os with
    | nil => exact ⟨[], rfl, .slnil⟩
    | cons _ _ => cases hl
  | cons a t ih =>
    cases os with
    | nil => cases hl
    | cons o os =>
      obtain ⟨l', h1, h2⟩ := ih (os := os) (by simpa [ofInts] using hl) fun i d hd => by simpa using h (i + 1) d (by simpa [ofInts] using hd)
      obtain ⟨o', e1, e2⟩ := h 0 (.int a) rfl
      cases e1
      rcases e2 with e2 | e2
      · subst e2
        exact ⟨a :: l', by show PyData.int a :: os.filterMap id = _; rw [h1]; rfl, h2.cons₂ a⟩
      · subst e2
        exact ⟨l', h1, h2.cons a⟩
theorem range_ok {gd : Fn} (hdr : DrawOk gd) {m : Mu} {many : Int} (hm : Feed m) (h0 : 1 ≤ many) (h1 : many ≤ 5) : CallOk (g_law_range gd) [.sto 0, .dat (.int many)] m fun v m' => Feed m' ∧ ∃ own, v = .dat (.tuple (ofInts own)) ∧ Own many own := by
  rw [g_law_range, krun_ok, b_law_range]
  simp_arith []
  refine CallOk.mono (hdr hm (by omega) (by omega)) fun v m1 h => ?_
  obtain ⟨hf1, way, rfl, w0, w1⟩ := h
  simp_arith []
  refine CallOk.mono (hdr hf1 (by omega) (by omega)) fun v m2 h => ?_
  obtain ⟨hf2, low, rfl, l0, l1⟩ := h
  simp_arith []
  have one : Own many [low] := ⟨by simp, List.pairwise_singleton _ _, fun k hk => by rw [List.mem_singleton] at hk; omega⟩
  split
  · exact ⟨hf2, [low], rfl, one⟩
  · split
    · refine CallOk.mono (hdr hf2 (by omega) (by omega)) fun v m3 h => ?_
      obtain ⟨hf3, k, rfl, k0, k1⟩ := h
      simp_arith []
      refine ⟨rg_small (by omega) (by omega) (by omega) (by omega), hf3, _, by rw [rgD_eq], rgI_own l0 (by omega) (by omega)⟩
    · refine w_lc Feed (fun d r => r = some d ∨ r = none) ?_
      simp_arith []
      refine ⟨rg_small (by omega) (by omega) (by omega) (by omega), rfl, ?_, hf2, fun d hd m3 hf3 => ?_, fun os m3 hf3 hl ho => ?_⟩
      · rw [rgD_eq]; unfold ofInts rgI; rw [List.length_map, List.length_map, List.length_range]; show _ ≤ 16777216; omega
      · simp_arith [wipeS]
        refine CallOk.mono (hdr hf3 (by omega) (by omega)) fun v m4 h => ?_
        obtain ⟨hf4, k, rfl, k0, k1⟩ := h
        simp_arith [wipeS]
        split
        · exact ⟨hf4, trivial, .inl trivial⟩
        · exact ⟨hf4, trivial, .inr trivial⟩
      · rw [rgD_eq] at hl ho
        obtain ⟨l', e1, e2⟩ := pick_ints (R := fun _ => True) hl ho
        rw [e1]
        have sh : SeqAt.shaped (.tuple (ofInts l')) = true := ints_shaped l'
        have sn : SeqAt.shaped (.tuple []) = true := by decide
        rw [sh, sn]
        refine ⟨rfl, ?_⟩
        cases l' with
        | nil => exact ⟨hf3, [low], rfl, one⟩
        | cons a t =>
          refine ⟨hf3, a :: t, rfl, by simp, (rgI_up 0 many).sublist e2, fun k hk => ?_⟩
          have := rgI_mem.mp (e2.subset hk)
          omega
/-! editions -/
theorem rgD_len (n : Int) : (rgD 0 n).length = n.toNat := by unfold rgD; rw [List.length_map, List.length_range]; omega
theorem editions_ok {gd : Fn} (hdr : DrawOk gd) {m : Mu} {many : Int} (hm : Feed m) (h0 : 0 ≤ many) (h1 : many ≤ 100) : CallOk (g_law_editions gd) [.sto 0, .dat (.int many)] m fun v m' => Feed m' ∧ ∃ es : List PyData, v = .dat (.tuple es) ∧ (es.length : Int) = many := by
  rw [g_law_editions, krun_ok, b_law_editions]
  simp_arith []
  refine ⟨rg_small (by omega) (by omega) (by omega) (by omega), ?_⟩
  refine for_inv (fun i s => ∃ es a b c m', s = ⟨[.sto 0, .val (.int many), .own (.list es), a, b, c], m'⟩ ∧ isOwn c = false ∧ es.length = i ∧ Feed m') _ 0 _ ⟨[], _, _, _, _, rfl, rfl, rfl, hm⟩ ?_ ?_
  · rintro i d s hd ⟨es, a, b, c, m', rfl, hc, hl, hf⟩
    have hi : i < many.toNat := by
      have := (List.getElem?_eq_some_iff.mp hd).1
      rw [rgD_len] at this
      exact this
    simp_arith []
    refine w_lc Feed (fun d r => True) ?_
    simp_arith []
    refine ⟨?_, by decide, hf, fun d hd m3 hf3 => ?_, fun os m3 hf3 hlo ho => ?_⟩
    · simpa [List.getD] using hc
    · simp_arith [wipeS]
      refine CallOk.mono (hdr hf3 (by omega) (by omega)) fun v m4 h => ?_
      obtain ⟨hf4, k, rfl, k0, k1⟩ := h
      simp_arith [wipeS]
      split
      · exact ⟨hf4, trivial, trivial⟩
      · exact ⟨hf4, trivial, trivial⟩
    · refine w_lc Feed (fun d r => True) ?_
      simp_arith []
      refine ⟨?_, ?_, hf3, fun d hd m5 hf5 => ?_, fun os2 m5 hf5 hlo2 ho2 => ?_⟩
      · simpa [List.getD] using hc
      · have : (os.filterMap id).length ≤ os.length := List.length_filterMap_le _ _
        have e2 : os.length = 2 := hlo
        show _ ≤ 16777216
        omega
      · simp_arith [wipeS]
        refine CallOk.mono (hdr hf5 (by omega) (by omega)) fun v m6 h => ?_
        obtain ⟨hf6, k, rfl, k0, k1⟩ := h
        simp_arith [wipeS]
        exact ⟨hf6, trivial, trivial⟩
      · refine ⟨by show es.length < 16777216; omega, _, _, _, _, _, rfl, hc, ?_, hf5⟩
        rw [List.length_append, List.length_singleton]
        omega
  · rintro s ⟨es, a, b, c, m', rfl, hc, hl, hf⟩
    simp_arith []
    refine ⟨hf, es, rfl, ?_⟩
    rw [rgD_len] at hl
    omega
/-! orders -/
theorem ofInts_append (a b : List Int) : ofInts a ++ ofInts b = ofInts (a ++ b) := by unfold ofInts; rw [List.map_append]
theorem ofInts_get (l : List Int) (i : Nat) : (ofInts l)[i]? = (l[i]?).map PyData.int := List.getElem?_map
theorem ofInts_erase (l : List Int) (i : Nat) : (ofInts l).eraseIdx i = ofInts (l.eraseIdx i) := by
  unfold ofInts
  induction l generalizing i with
  | nil => rfl
  | cons a t ih => cases i with
    | zero => rfl
    | succ i => show PyData.int a :: _ = PyData.int a :: _; rw [ih]
theorem perm_erase {α : Type} : ∀ {l : List α} {i : Nat} {x : α}, l[i]? = some x → (x :: l.eraseIdx i).Perm l
  | [], _, _, h => by simp at h
  | a :: t, 0, x, h => by simp at h; subst h; exact .refl _
  | a :: t, i + 1, x, h => by
    simp at h
    have := perm_erase (l := t) h
    exact (List.Perm.swap a x _).trans (this.cons a)
def Order (many : Int) (p : List Int) : Prop := p.Perm (rgI 0 many)
theorem turns_ok {gd : Fn} (hdr : DrawOk gd) {m : Mu} {many : Int} (hm : Feed m) (h0 : 0 ≤ many) (h1 : many ≤ 100) : CallOk (g_law_turns gd) [.sto 0, .dat (.int many)] m fun v m' => Feed m' ∧ ∃ p, v = .dat (.tuple (ofInts p)) ∧ Order many p := by
  rw [g_law_turns, krun_ok, b_law_turns]
  simp_arith []
  refine ⟨rg_small (by omega) (by omega) (by omega) (by omega), rg_small (by omega) (by omega) (by omega) (by omega), ?_⟩
  refine for_inv (fun i s => ∃ (left found : List Int) (a : Slot) (m' : Mu), s = ⟨[.sto 0, .val (.int many), a, .own (.list (ofInts left)), .own (.list (ofInts found))], m'⟩ ∧ (found ++ left).Perm (rgI 0 many) ∧ found.length = i ∧ Feed m') _ 0 _ ⟨rgI 0 many, [], _, _, by rw [rgD_eq]; rfl, .refl _, rfl, hm⟩ ?_ ?_
  · rintro i d s hd ⟨left, found, a, m', rfl, hp, hl, hf⟩
    have hi : i < many.toNat := by
      have := (List.getElem?_eq_some_iff.mp hd).1
      rw [rgD_len] at this
      exact this
    have hs : found.length + left.length = many.toNat := by
      have := hp.length_eq
      rw [List.length_append] at this
      rw [this]
      unfold rgI
      rw [List.length_map, List.length_range]
      omega
    simp_arith [ofInts_len]
    refine CallOk.mono (hdr hf (by omega) (by omega)) fun v m4 h => ?_
    obtain ⟨hf4, k, rfl, k0, k1⟩ := h
    simp_arith [ofInts_len]
    have kl : k.toNat < left.length := by omega
    refine ⟨k.toNat, .int left[k.toNat], ?_, ?_, ⟨by omega, by omega⟩, by show found.length < 16777216; omega, ?_⟩
    · unfold seqIndex?
      have e : (if k < 0 then k + (left.length : Int) else k) = k := if_neg (by omega)
      simp only [e]
      rw [if_pos (by simp only [Bool.and_eq_true, decide_eq_true_eq]; omega)]
    · rw [ofInts_get, List.getElem?_eq_getElem kl]; rfl
    · refine ⟨left.eraseIdx k.toNat, found ++ [left[k.toNat]], .val d, m4, ?_, ?_, by rw [List.length_append, hl]; rfl, hf4⟩
      · rw [ofInts_erase, ← ofInts_append]; rfl
      · have := perm_erase (List.getElem?_eq_getElem kl)
        rw [List.append_assoc]
        exact (List.Perm.append_left found this).trans hp
  · rintro s ⟨left, found, a, m', rfl, hp, hl, hf⟩
    simp_arith []
    refine ⟨hf, found, rfl, ?_⟩
    have hs : left = [] := by
      have := hp.length_eq
      rw [List.length_append] at this
      unfold rgI at this
      rw [List.length_map, List.length_range] at this
      rw [rgD_len] at hl
      exact List.length_eq_zero_iff.mp (by omega)
    subst hs
    rw [List.append_nil] at hp
    exact hp
/-! books -/
theorem d_srtset2 {a b : Int} {s : S} {Q : QV} : W (lift (O1.den .srtset (.list [.int a, .int b]))) s Q ↔ Q (.uni (.list (ofInts (usort [a, b])))) s := by
  have := d_srtset (l := [a, b]) (s := s) (Q := Q)
  rw [show (.list [.int a, .int b] : PyData) = .list (ofInts [a, b]) from rfl, this]
  exact ⟨fun h => h.2, fun h => ⟨by show 2 < 64; decide, h⟩⟩
theorem cut_map {α : Type} {f : α → PyData} {ns : List α} {lo hi : Option Int} : ∃ ns' : List α, cutD (ns.map f) lo hi = ns'.map f ∧ ns'.Sublist ns :=
  ⟨_, by unfold cutD; rw [← List.map_drop, ← List.map_take], (List.take_sublist _ _).trans (List.drop_sublist _ _)⟩
theorem cut_to {xs : List PyData} {r : Int} (h : 0 ≤ r) : cutD xs none (some r) = xs.take r.toNat := by
  unfold cutD
  have e : HT.sIx xs.length xs.length (some r) = min r.toNat xs.length := by
    show (if r < 0 then _ else _) = _
    rw [if_neg (by omega)]
  rw [e]
  show (xs.drop 0).take (min r.toNat xs.length - 0) = _
  rw [List.drop_zero, Nat.sub_zero, List.take_eq_take_iff]
  omega
theorem cut_from {xs : List PyData} {r : Int} (h : 0 ≤ r) : cutD xs (some r) none = xs.drop r.toNat := by
  unfold cutD
  have e : HT.sIx xs.length 0 (some r) = min r.toNat xs.length := by
    show (if r < 0 then _ else _) = _
    rw [if_neg (by omega)]
  rw [e]
  show (xs.drop (min r.toNat xs.length)).take (xs.length - min r.toNat xs.length) = _
  rw [List.take_of_length_le (by rw [List.length_drop]; omega)]
  by_cases c : r.toNat ≤ xs.length
  · rw [Nat.min_eq_left c]
  · rw [Nat.min_eq_right (by omega), List.drop_eq_nil_of_le (by omega), List.drop_eq_nil_of_le (by omega)]
theorem enum_at : ∀ {ds : List PyData} {n i : Nat} {d : PyData}, (enumD n ds)[i]? = some d → ∃ x, ds[i]? = some x ∧ d = .tuple [.int ((n + i : Nat) : Int), x]
  | [], n, i, d, h => by simp [enumD] at h
  | x :: ds, n, 0, d, h => by simp [enumD] at h; exact ⟨x, rfl, h.symm⟩
  | x :: ds, n, i + 1, d, h => by
    simp only [enumD, List.getElem?_cons_succ] at h
    obtain ⟨y, h1, h2⟩ := enum_at h
    exact ⟨y, by simpa using h1, by rw [h2, show n + 1 + i = n + (i + 1) by omega]⟩
theorem zip_mem : ∀ {as bs : List PyData} {d : PyData}, d ∈ zipD as bs → ∃ a b, a ∈ as ∧ b ∈ bs ∧ d = .tuple [a, b]
  | [], _, d, h => by simp [zipD] at h
  | _ :: _, [], d, h => by simp [zipD] at h
  | a :: as, b :: bs, d, h => by
    simp only [zipD, List.mem_cons] at h
    rcases h with h | h
    · exact ⟨a, b, List.mem_cons_self, List.mem_cons_self, h⟩
    · obtain ⟨x, y, h1, h2, h3⟩ := zip_mem h
      exact ⟨x, y, List.mem_cons_of_mem _ h1, List.mem_cons_of_mem _ h2, h3⟩
theorem zip_len : ∀ (as bs : List PyData), (zipD as bs).length ≤ as.length
  | [], _ => by simp [zipD]
  | _ :: _, [] => by simp [zipD]
  | _ :: as, _ :: bs => by simp only [zipD, List.length_cons]; have := zip_len as bs; omega
theorem own_usort {many a b : Int} (h0 : 0 ≤ a) (h1 : a < many) (h2 : 0 ≤ b) (h3 : b < many) : Own many (usort [a, b]) := by
  refine ⟨fun z => ?_, usort_up _, fun k hk => ?_⟩
  · have := (usort_mem [a, b] a).mpr List.mem_cons_self
    rw [z] at this; cases this
  · have := (usort_mem [a, b] k).mp hk
    simp only [List.mem_cons, List.not_mem_nil, or_false] at this
    rcases this with rfl | rfl <;> omega
theorem own_ends {many : Int} {own : List Int} (h : Own many own) : ∃ x y, L2.atI (ofInts own) 0 = some (.int x) ∧ L2.atI (ofInts own) (-1) = some (.int y) ∧ 0 ≤ x ∧ x ≤ y ∧ y < many := by
  obtain ⟨h1, h2, h3⟩ := h
  cases own with
  | nil => exact absurd rfl h1
  | cons x t =>
    have hy : ((x :: t).getLast h1) ∈ x :: t := List.getLast_mem h1
    refine ⟨x, (x :: t).getLast h1, (by unfold L2.atI L2.ixN; rw [if_pos (Int.le_refl 0), if_pos (by rw [ofInts_len, List.length_cons]; omega)]; rfl), ?_, (h3 x List.mem_cons_self).1, ?_, (h3 _ hy).2⟩
    · unfold L2.atI L2.ixN
      rw [if_neg (by omega), if_pos (by rw [ofInts_len, List.length_cons]; omega)]
      show (ofInts (x :: t))[((-1 : Int) + ((ofInts (x :: t)).length : Int)).toNat]? = _
      have e : ((-1 : Int) + ((ofInts (x :: t)).length : Int)).toNat = (x :: t).length - 1 := by rw [ofInts_len]; omega
      rw [e, ofInts_get, List.getLast_eq_getElem, List.getElem?_eq_getElem (by rw [List.length_cons]; omega)]
      rfl
    · rcases List.mem_cons.mp hy with e | e
      · omega
      · have := (List.pairwise_cons.mp h2).1 _ e
        omega
theorem atI_mem {α : Type} {l : List α} {i : Int} (h0 : 0 ≤ i) (h1 : i < l.length) : ∃ d ∈ l, L2.atI l i = some d := by
  obtain ⟨d, e1, e2⟩ := atI_of h0 h1
  exact ⟨d, List.mem_of_getElem? e1, e2⟩
def rowD (r : Str × List Int × Str) : PyData := .tuple [.str r.1, .tuple (ofInts r.2.1), .str r.2.2]
structure Plan (many : Int) (rows : List (Str × List Int × Str)) : Prop where
  m1 : 1 ≤ many
  m5 : many ≤ 5
  len : rows.length ≤ 5
  nm : ∀ r ∈ rows, okName r.1 = true
  own : ∀ r ∈ rows, Own many r.2.1
  up : (rows.map (·.1)).Pairwise SLt
  ask : ∀ r ∈ rows, r.2.2 = "copy" ∨ r.2.2 = "fields" ∨ r.2.2 = "always"
def bookD (eds : List PyData) (rows : List (Str × List Int × Str)) (ends : List PyData) : PyData := .tuple [.tuple eds, .tuple (rows.map rowD), .tuple ends]
def PlanD (most rooms : Int) (d : PyData) : Prop := ∃ (eds ends : List PyData) (many : Int) (rows : List (Str × List Int × Str)), d = bookD eds rows ends ∧ (eds.length : Int) = many ∧ Plan many rows ∧ many ≤ most ∧ (rows.length : Int) ≤ rooms
theorem plan_ok {gd : Fn} (hdr : DrawOk gd) {m : Mu} {most rooms : Int} (hm : Feed m) (o1 : 1 ≤ most) (o5 : most ≤ 5) (r1 : 1 ≤ rooms) (r5 : rooms ≤ 5) : CallOk (g_law_plan gd) [.sto 0, .dat (.int most), .dat (.int rooms)] m fun v m' => Feed m' ∧ ∃ d, v = .dat d ∧ PlanD most rooms d := by
  rw [g_law_plan, krun_ok, b_law_plan]
  simp_arith []
  refine CallOk.mono (names_ok hdr hm) fun v m1 h => ?_
  obtain ⟨f1, ns, rfl, nl, hn, hup⟩ := h
  simp_arith []
  refine CallOk.mono (hdr f1 (by omega) (by omega)) fun v m2 h => ?_
  obtain ⟨f2, way, rfl, w0, w1⟩ := h
  simp_arith []
  refine CallOk.mono (hdr f2 (by omega) (by omega)) fun v m3 h => ?_
  obtain ⟨f3, k, rfl, k0, k1⟩ := h
  simp_arith []
  obtain ⟨d, hd, e1⟩ := atI_mem (l := [PyData.int 3, .int 3, .int 4, .int 5, .int 2, .int 1, .int 3, .int 4]) k0 k1
  obtain ⟨mm, rfl, n1, n5⟩ : ∃ n : Int, d = .int n ∧ 1 ≤ n ∧ n ≤ 5 := by
    simp only [List.mem_cons, List.not_mem_nil, or_false] at hd
    rcases hd with rfl | rfl | rfl | rfl | rfl | rfl | rfl | rfl <;> exact ⟨_, rfl, by decide, by decide⟩
  refine ⟨_, e1, ?_⟩
  simp_arith []
  generalize hmany : (if mm < most then mm else most) = many
  have n1' : 1 ≤ many := by rw [← hmany]; split <;> omega
  have n5' : many ≤ 5 := by rw [← hmany]; split <;> omega
  have nmo : many ≤ most := by rw [← hmany]; split <;> omega
  clear hmany
  refine CallOk.mono (hdr f3 (by omega) (by omega)) fun v m4 h => ?_
  obtain ⟨f4, k, rfl, k0, k1⟩ := h
  simp_arith []
  obtain ⟨ns2, c1, c2⟩ := cut_map (f := PyData.str) (ns := ns) (lo := some k) (hi := none)
  rw [c1]
  refine CallOk.mono (hdr f4 (by omega) (by omega)) fun v m5 h => ?_
  obtain ⟨f5, j, rfl, j0, j1⟩ := h
  simp_arith []
  refine CallOk.mono (hdr f5 (by omega) (by omega)) fun v m6 h => ?_
  obtain ⟨f6, q, rfl, q0, q1⟩ := h
  simp_arith []
  obtain ⟨d, hd, e2⟩ := atI_mem (l := [PyData.int rooms, .int rooms, .int (rooms - 1), .int j]) q0 q1
  obtain ⟨r, rfl, r0, rr⟩ : ∃ n : Int, d = .int n ∧ 0 ≤ n ∧ n ≤ rooms := by
    simp only [List.mem_cons, List.not_mem_nil, or_false] at hd
    rcases hd with rfl | rfl | rfl | rfl <;> exact ⟨_, rfl, by omega, by omega⟩
  refine ⟨_, e2, ?_⟩
  simp_arith []
  have l3' : (cutD (ns2.map PyData.str) none (some r)).length ≤ r.toNat := by
    rw [cut_to r0, List.length_take]
    omega
  obtain ⟨ns3, c3, c4⟩ := cut_map (f := PyData.str) (ns := ns2) (lo := none) (hi := some r)
  rw [c3] at l3' ⊢
  rw [List.length_map] at l3'
  have sub : ns3.Sublist ns := c4.trans c2
  have l3 : ns3.length ≤ 5 := by rw [← nl]; exact sub.length_le
  refine for_inv (fun i s => ∃ (rows : List (Str × List Int × Str)) (a b c : Slot) (m' : Mu), s = ⟨[.sto 0, .val (.int most), .val (.int rooms), .val (.int many), .own (.list (ns2.map .str)), .val (.list (ns3.map .str)), .own (.list (rows.map rowD)), .unset, .val (.int way), a, b, c, .unset, .unset], m'⟩ ∧ rows.map (·.1) = ns3.take i ∧ (∀ r ∈ rows, r.2.2 = "copy" ∨ r.2.2 = "fields" ∨ r.2.2 = "always") ∧ (∀ r ∈ rows, Own many r.2.1) ∧ Feed m') _ 0 _ ⟨[], _, _, _, _, rfl, by simp, by simp, by simp, f6⟩ ?_ ?_
  · rintro i d s hd ⟨rows, a, b, c, m', rfl, hl, hask, how, hf⟩
    obtain ⟨x, hx, rfl⟩ := enum_at hd
    rw [List.getElem?_map] at hx
    obtain ⟨nm, hx', rfl⟩ := Option.map_eq_some_iff.mp hx
    have hx := hx'
    have hi3 : i < ns3.length := (List.getElem?_eq_some_iff.mp hx).1
    have hi : i < 5 := by omega
    have hrl : rows.length = i := by
      have := congrArg List.length hl
      rw [List.length_map, List.length_take] at this
      omega
    simp_arith []
    refine CallOk.mono (range_ok hdr hf n1' n5') fun v m7 h => ?_
    obtain ⟨f7, own, rfl, ho⟩ := h
    have mm : ∀ x : Int, 0 ≤ x % many ∧ x % many < many := fun x => ⟨Int.emod_nonneg _ (by omega), Int.emod_lt_of_pos _ (by omega)⟩
    have last : ∀ (own : List Int) (m7 : Mu), Own many own → Feed m7 → CallOk (g_law_pick gd) [.sto 0, .dat (.list [.str "copy", .str "fields", .str "always"])] m7 fun v m' => Feed m' ∧ ∃ x : Str, v = .dat (.str x) ∧ (x = "copy" ∨ x = "fields" ∨ x = "always") := fun own m7 _ hf => by
      refine CallOk.mono (pick_ok hdr hf (by decide) (by decide)) fun v m' h => ?_
      obtain ⟨h1, d, h2, rfl⟩ := h
      simp only [List.mem_cons, List.not_mem_nil, or_false] at h2
      rcases h2 with rfl | rfl | rfl <;> exact ⟨h1, _, rfl, by simp⟩
    have close : ∀ (own : List Int) (x : Str) (m8 : Mu), (x = "copy" ∨ x = "fields" ∨ x = "always") → Own many own → Feed m8 → (rows.map rowD).length < SZ ∧ ∃ (rows' : List (Str × List Int × Str)) (a b c : Slot) (m' : Mu), (⟨[.sto 0, .val (.int most), .val (.int rooms), .val (.int many), .own (.list (ns2.map .str)), .val (.list (ns3.map .str)), .own (.list (rows.map rowD ++ [.tuple [.str nm, .tuple (ofInts own), .str x]])), .unset, .val (.int way), .val (.int ((0 + i : Nat) : Int)), .val (.str nm), .val (.tuple (ofInts own)), .unset, .unset], m8⟩ : S) = ⟨[.sto 0, .val (.int most), .val (.int rooms), .val (.int many), .own (.list (ns2.map .str)), .val (.list (ns3.map .str)), .own (.list (rows'.map rowD)), .unset, .val (.int way), a, b, c, .unset, .unset], m'⟩ ∧ rows'.map (·.1) = ns3.take (0 + i + 1) ∧ (∀ r ∈ rows', r.2.2 = "copy" ∨ r.2.2 = "fields" ∨ r.2.2 = "always") ∧ (∀ r ∈ rows', Own many r.2.1) ∧ Feed m' := by
      intro own x m8 hx8 ho8 hf8
      refine ⟨by rw [List.length_map]; show _ < 16777216; omega, rows ++ [(nm, own, x)], _, _, _, _, by rw [List.map_append]; rfl, ?_, fun r hr => ?_, fun r hr => ?_, hf8⟩
      · rw [List.map_append, hl, Nat.zero_add, List.take_add_one, hx]; rfl
      · rcases List.mem_append.mp hr with hr | hr
        · exact hask r hr
        · rw [List.mem_singleton] at hr; subst hr; exact hx8
      · rcases List.mem_append.mp hr with hr | hr
        · exact how r hr
        · rw [List.mem_singleton] at hr; subst hr; exact ho8
    have w01 : ¬ (0 : Int) = 1 := by decide
    simp_arith [d_srtset2]
    split
    · rename_i wz
      subst wz
      refine ⟨by omega, by omega, ?_⟩
      rw [if_neg w01]
      refine CallOk.mono (last own m7 ho f7) fun v m8 h => ?_
      obtain ⟨f8, x, rfl, hx8⟩ := h
      simp_arith []
      exact close _ x m8 hx8 (own_usort (mm _).1 (mm _).2 (mm _).1 (mm _).2) f8
    · split
      · obtain ⟨x, y, g1, g2, g3, g4, g5⟩ := own_ends ho
        refine ⟨_, g1, ?_⟩
        simp_arith []
        refine ⟨_, g2, ?_⟩
        simp_arith []
        refine ⟨rg_small (by omega) (by omega) (by omega) (by omega), ?_⟩
        refine CallOk.mono (last own m7 ho f7) fun v m8 h => ?_
        obtain ⟨f8, z, rfl, hx8⟩ := h
        simp_arith []
        rw [rgD_eq]
        exact close _ z m8 hx8 (rgI_own g3 (by omega) (by omega)) f8
      · refine CallOk.mono (last own m7 ho f7) fun v m8 h => ?_
        obtain ⟨f8, z, rfl, hx8⟩ := h
        simp_arith []
        exact close _ z m8 hx8 ho f8
  · rintro s ⟨rows, a, b, c, m', rfl, hl, hask, how, hf⟩
    simp_arith []
    have hlen : rows.length = ns3.length := by
      have e : ∀ (ds : List PyData) (n : Nat), (enumD n ds).length = ds.length := fun ds => by
        induction ds with
        | nil => intro n; rfl
        | cons x t ih => intro n; show (enumD (n + 1) t).length + 1 = _; rw [ih]; rfl
      have := congrArg List.length hl
      rw [e, List.length_map, List.length_map, List.length_take] at this
      omega
    have hnm : rows.map (·.1) = ns3 := by
      rw [hl, List.take_of_length_le]
      have e : ∀ (ds : List PyData) (n : Nat), (enumD n ds).length = ds.length := fun ds => by
        induction ds with
        | nil => intro n; rfl
        | cons x t ih => intro n; show (enumD (n + 1) t).length + 1 = _; rw [ih]; rfl
      rw [e, List.length_map]
      omega
    refine w_lc Feed (fun d r => True) ?_
    simp_arith []
    refine ⟨rfl, ?_, hf, fun d hd m3 hf3 => ?_, fun os m3 hf3 hlo ho => ?_⟩
    · have := zip_len (rows.map rowD) (cutD (rows.map rowD) (some 1) none)
      rw [List.length_map] at this
      show _ ≤ 16777216
      omega
    · obtain ⟨x, y, hx, hy, rfl⟩ := zip_mem hd
      obtain ⟨rx, _, rfl⟩ := List.mem_map.mp hx
      obtain ⟨rows2, cc, _⟩ := cut_map (f := rowD) (ns := rows) (lo := some 1) (hi := none)
      rw [cc] at hy
      obtain ⟨ry, _, rfl⟩ := List.mem_map.mp hy
      simp_arith [wipeS, rowD]
      refine ⟨.str rx.1, rfl, .str ry.1, rfl, ?_⟩
      refine CallOk.mono (pick_ok hdr hf3 (by decide) (by decide)) fun v m4 h => ?_
      obtain ⟨hf4, d, hd, rfl⟩ := h
      simp_arith [wipeS]
      exact ⟨hf4, trivial, trivial⟩
    · refine CallOk.mono (editions_ok hdr hf3 (by omega) (by omega)) fun v m4 h => ?_
      obtain ⟨f4, es, rfl, el⟩ := h
      simp_arith []
      refine CallOk.mono (hdr f4 (by omega) (by omega)) fun v m5 h => ?_
      obtain ⟨f5, z, rfl, z0, z1⟩ := h
      simp_arith []
      refine ⟨f5, _, rfl, es, _, many, rows, rfl, el, ⟨n1', n5', by omega, fun r hr => ?_, how, ?_, hask⟩, nmo, by omega⟩
      · refine hn r.1 (sub.subset ?_)
        rw [← hnm]
        exact List.mem_map.mpr ⟨r, hr, rfl⟩
      · rw [hnm]
        exact hup.sublist sub
theorem ix0 {α : Type} {x : α} {l : List α} : L2.atI (x :: l) 0 = some x := by
  unfold L2.atI L2.ixN
  rw [if_pos (Int.le_refl 0), if_pos (by rw [List.length_cons]; omega)]
  rfl
theorem ix1 {α : Type} {x y : α} {l : List α} : L2.atI (x :: y :: l) 1 = some y := by
  unfold L2.atI L2.ixN
  rw [if_pos (by decide), if_pos (by rw [List.length_cons, List.length_cons]; omega)]
  rfl
theorem ix2 {α : Type} {x y z : α} {l : List α} : L2.atI (x :: y :: z :: l) 2 = some z := by
  unfold L2.atI L2.ixN
  rw [if_pos (by decide), if_pos (by rw [List.length_cons, List.length_cons, List.length_cons]; omega)]
  rfl
section
variable {x y z : PyData} {l : List PyData} {s : S} {Q : QV}
theorem d_ixT0 : W (lift (O2.den .idx (.tuple (x :: l)) (.int 0))) s Q ↔ Q (.dat x) s := by
  rw [d_idxT, ix0]; exact ⟨fun ⟨_, h, q⟩ => by cases h; exact q, fun q => ⟨_, rfl, q⟩⟩
theorem d_ixT1 : W (lift (O2.den .idx (.tuple (x :: y :: l)) (.int 1))) s Q ↔ Q (.dat y) s := by
  rw [d_idxT, ix1]; exact ⟨fun ⟨_, h, q⟩ => by cases h; exact q, fun q => ⟨_, rfl, q⟩⟩
theorem d_ixT2 : W (lift (O2.den .idx (.tuple (x :: y :: z :: l)) (.int 2))) s Q ↔ Q (.dat z) s := by
  rw [d_idxT, ix2]; exact ⟨fun ⟨_, h, q⟩ => by cases h; exact q, fun q => ⟨_, rfl, q⟩⟩
theorem d_ixL0 : W (lift (O2.den .idx (.list (x :: l)) (.int 0))) s Q ↔ Q (.dat x) s := by
  rw [d_idxL, ix0]; exact ⟨fun ⟨_, h, q⟩ => by cases h; exact q, fun q => ⟨_, rfl, q⟩⟩
theorem d_ixL1 : W (lift (O2.den .idx (.list (x :: y :: l)) (.int 1))) s Q ↔ Q (.dat y) s := by
  rw [d_idxL, ix1]; exact ⟨fun ⟨_, h, q⟩ => by cases h; exact q, fun q => ⟨_, rfl, q⟩⟩
variable {eds ends : List PyData} {rows : List (Str × List Int × Str)} {r : Str × List Int × Str}
theorem d_bk0 : W (lift (O2.den .idx (bookD eds rows ends) (.int 0))) s Q ↔ Q (.dat (.tuple eds)) s := d_ixT0
theorem d_bk1 : W (lift (O2.den .idx (bookD eds rows ends) (.int 1))) s Q ↔ Q (.dat (.tuple (rows.map rowD))) s := d_ixT1
theorem d_bk2 : W (lift (O2.den .idx (bookD eds rows ends) (.int 2))) s Q ↔ Q (.dat (.tuple ends)) s := d_ixT2
theorem d_row0 : W (lift (O2.den .idx (rowD r) (.int 0))) s Q ↔ Q (.dat (.str r.1)) s := d_ixT0
theorem d_row1 : W (lift (O2.den .idx (rowD r) (.int 1))) s Q ↔ Q (.dat (.tuple (ofInts r.2.1))) s := d_ixT1
theorem d_row2 : W (lift (O2.den .idx (rowD r) (.int 2))) s Q ↔ Q (.dat (.str r.2.2)) s := d_ixT2
theorem a_row {i j k : Nat} {Q : QU} : W (asg (.tup [.name i, .name j, .name k]) (rowD r)) s Q ↔ Q () ⟨((s.e.set i (.val (.str r.1))).set j (.val (.tuple (ofInts r.2.1)))).set k (.val (.str r.2.2)), s.m⟩ := by
  unfold rowD
  simp_arith []
end
end FA

local macro_rules | `(tactic| simp_all_arith [$xs,*]) => `(tactic| simp only [↓FA.d_bk0, ↓FA.d_bk1, ↓FA.d_bk2, ↓FA.d_row0, ↓FA.d_row1, ↓FA.d_row2, ↓FA.d_ixT0, ↓FA.d_ixT1, ↓FA.d_ixT2, ↓FA.d_ixL0, ↓FA.d_ixL1, ↓FA.a_row, ↓Fb.Kdat_, ↓Fb.Ktrue_, ↓Fb.Kint_, ↓Fb.Know_, ↓Fb.Kval_, ↓Fb.Ktup_, ↓Fb.Klst_, ↓Fb.Kdic_, ↓Fb.ke_tup, ↓Fb.ke_lst, ↓Fb.ke_dic, ↓Fb.ko_o1, ↓Fb.ko_o2, ↓Fb.ko_slc, ↓Fb.ko_rev, ↓Fb.ko_not, ↓Fb.ko_and, ↓Fb.ko_or, ↓Fb.ko_ife, ↓Fb.ko_isi, ↓Fb.ko_lrng, ↓Fb.ko_call, ↓Fb.ko_lc, ↓Fb.ko_pop, ↓Fb.ko_fget, ↓Fb.KtupO_, ↓Fb.KlstO_, ↓Fb.ko_tup, ↓Fb.ko_lst, ↓Fb.Ko1_, ↓Fb.ke_o1, ↓Fb.Ko2d_, ↓Fb.Ko2c_, ↓Fb.Ko2b_, ↓Fb.Ko2a_, ↓Fb.ke_o2, ↓Fb.Kslcd_, ↓Fb.Kslcc_, ↓Fb.Kslcb_, ↓Fb.Kslca_, ↓Fb.ke_slc, ↓Fb.Krev_, ↓Fb.ke_rev, ↓Fb.Ksldd_, ↓Fb.Ksldb_, ↓Fb.Kslda_, ↓Fb.ke_sld, ↓Fb.Knot_, ↓Fb.ke_not, ↓Fb.Kand_, ↓Fb.ke_and, ↓Fb.Kor_, ↓Fb.ke_or, ↓Fb.Kife_, ↓Fb.ke_ife, ↓Fb.Kisib_, ↓Fb.Kisia_, ↓Fb.ke_isi, ↓Fb.Krg1_, ↓Fb.ke_rg1, ↓Fb.Krg2b_, ↓Fb.Krg2a_, ↓Fb.ke_rg2, ↓Fb.Kcallb_, ↓Fb.Kcalla_, ↓Fb.ke_call, ↓Fb.Kret_, ↓Fb.kw_callFn, ↓Fb.Kpopb_, ↓Fb.Kpopa_, ↓Fb.ke_pop, ↓Fb.Kesb_, ↓Fb.Kesa_, ↓Fb.kes_cons, ↓Fb.Kvsb_, ↓Fb.w_args_dat, ↓Fb.w_args_uni, ↓Fb.w_args_sto, ↓Fb.Kvsa_, ↓Fb.kvs_cons, ↓Fb.Kusb_, ↓Fb.Kusa_, ↓Fb.kus_cons, ↓Fb.Kp_, ↓Fb.kp_some, ↓Fb.kc_some, ↓Fb.Kit_, ↓Fb.kit_of, ↓Fb.Kenub_, ↓Fb.Kenua_, ↓Fb.kit_enu, ↓Fb.Kzipb_, ↓Fb.Kzipa_, ↓Fb.kit_zip, ↓Fb.Kir1_, ↓Fb.kit_rg1, ↓Fb.Kir2b_, ↓Fb.Kir2a_, ↓Fb.kit_rg2, ↓Fb.Kirdb_, ↓Fb.Kirda_, ↓Fb.kit_rgd, ↓Fb.Kasg_, ↓Fb.ks_asg, ↓Fb.Kretv_, ↓Fb.ks_ret, ↓Fb.ks_retv, ↓Fb.Kdrop_, ↓Fb.ks_expr, ↓Fb.Kif_, ↓Fb.ks_if, ↓Fb.Knx_, ↓Fb.Kfset_, ↓Fb.ks_fset, ↓Fb.Kappb_, ↓Fb.Kappa_, ↓Fb.ks_app, ↓Fb.Kextc_, ↓Fb.Kextb_, ↓Fb.Kexta_, ↓Fb.ks_ext, ↓Fb.Kpar_, ↓Fb.ks_par, ↓Fb.Kunp_, ↓Fb.ks_unp, ↓Fb.Kfor_, ↓Fb.ks_for, ↓Fb.Kbody_, ↓Fb.k_turn, ↓Fb.Kseq_nx, ↓Fb.Kseq_brk, ↓Fb.Kseq_cnt, ↓Fb.Kseq_ret, ↓Fb.kw_seq, ↓Fb.Kas_, ↓Fb.kas_cons, ↓Fb.ko_chn, ↓Fb.ko_mt, ↓Fb.ko_get2, ↓Fb.ko_gtup, ↓Fb.ko_dnew, ↓Fb.ko_dc, ↓Fb.ke_gtup, ↓Fb.ke_dnew, ↓Fb.Kch6_, ↓Fb.Kch5_, ↓Fb.Kch4_, ↓Fb.Kch3_, ↓Fb.Kch2_, ↓Fb.Kch1_, ↓Fb.Kchb_, ↓Fb.Kcha_, ↓Fb.ke_chn, ↓Fb.Kmt3_, ↓Fb.Kmt2_, ↓Fb.Kmt1_, ↓Fb.ke_mt, ↓Fb.Kg6_, ↓Fb.Kg5_, ↓Fb.Kg4_, ↓Fb.Kg3_, ↓Fb.Kg2_, ↓Fb.Kg1_, ↓Fb.ke_get2, ↓Fb.Krep3_, ↓Fb.Krep2_, ↓Fb.ke_rep, ↓Fb.ko_rep, ↓Fb.Kts3_, ↓Fb.Kts2_, ↓Fb.Kts1_, ↓Fb.ke_tupS, ↓Fb.ko_tupS, ↓Fb.Kaug2_, ↓Fb.Kaug1_, ↓Fb.ks_aug, ↓Fb.Kpur_, ↓Fb.ke_pur, ↓Fb.ko_pur, ↓Fb.Kdsd_, ↓Fb.Kdsc_, ↓Fb.Kdsb_, ↓Fb.ks_dset, ↓Fb.ks_brk, ↓Fb.ks_cnt, ↓Fb.KRet_ret, ↓Fb.KRet_nx, ↓Fb.Ktgv_, ↓Fb.Ktg4_, ↓Fb.Ktg3_, ↓Fb.Ktg2_, ↓Fb.Ktg1_, ↓Fb.ke_tget, ↓Fb.ko_tget, ↓Fb.Ktd5_, ↓Fb.Ktd4_, ↓Fb.Ktd3_, ↓Fb.Ktd2_, ↓Fb.Ktd1_, ↓Fb.ke_tgetd, ↓Fb.ko_tgetd, ↓Fb.Kti3_, ↓Fb.Kti2_, ↓Fb.Kti1_, ↓Fb.ke_tin, ↓Fb.ko_tin, ↓Fb.Ktks_, ↓Fb.ke_tkeys, ↓Fb.ko_tkeys, ↓Fb.Ktvs_, ↓Fb.ke_tvals, ↓Fb.ko_tvals, ↓Fb.Ktss_, ↓Fb.Ktsr_, ↓Fb.ke_tsrt, ↓Fb.ko_tsrt, ↓Fb.ke_tmt, ↓Fb.Kto3_, ↓Fb.Kto2_, ↓Fb.Kto1_, ↓Fb.ke_tone, ↓Fb.ke_tmv, ↓Fb.Kds_, ↓Fb.ke_disp, ↓Fb.ko_disp, ↓Fb.kds_nil, ↓Fb.Kdsx_, ↓Fb.Kdsy_, ↓Fb.Kdst_, ↓Fb.Kdsn_, ↓Fb.kds_star, ↓Fb.kds_one, ↓Fb.Kdv2_, ↓Fb.Kdv1_, ↓Fb.ke_dicv, ↓Fb.ko_dicv, ↓Fb.Kpop0_, ↓Fb.ke_pop0, ↓Fb.ko_pop0, ↓Fb.Ktp2_, ↓Fb.kit_titems, ↓Fb.Kts_d_, ↓Fb.Kts_c_, ↓Fb.Kts_b_, ↓Fb.Kts_a_, ↓Fb.ks_tset, ↓Fb.w_tabM, ↓Fb.w_tabW, ↓Fb.w_tput, ↓Fb.w_tmv, ↓Fb.w_tk, ↓Fb.w_tabPairs, ↓Fb.tabK_, ↓Fb.tputK_, ↓Fb.w_nil, ↓Fb.e_num, ↓Fb.e_str, ↓Fb.e_bl, ↓Fb.e_non, ↓Fb.e_var, ↓Fb.e_fget, ↓Fb.o_var, ↓Fb.o_num, ↓Fb.o_str, ↓Fb.o_bl, ↓Fb.o_non, ↓Fb.es_nil, ↓Fb.vs_nil, ↓Fb.us_nil, ↓Fb.p_none, ↓Fb.c_none, ↓Fb.par_nil, ↓Fb.par_cons, ↓Fb.a_name, ↓Fb.a_tup, ↓Fb.a_tupL, ↓Fb.as_nil, ↓Fb.s_dead, ↓Fb.w_rd, ↓Fb.w_mv, ↓Fb.w_slotOpd, ↓Fb.w_now, ↓Fb.w_opd_val, ↓Fb.w_fget, ↓Fb.w_fset, ↓Fb.w_own, ↓Fb.w_uniL, ↓Fb.w_app, ↓Fb.w_ext, ↓Fb.w_data_dat, ↓Fb.w_data_uni, ↓Fb.w_isTrue, ↓Fb.w_intV, ↓Fb.w_setS, ↓Fb.w_lift_some, ↓Fb.w_lift_none, ↓Fb.w_dictChk, ↓Fb.w_dput, ↓Fb.w_intS, ↓Fb.d_seqL, ↓Fb.d_seqT, ↓Fb.d_isB, ↓Fb.d_notB, ↓Fb.d_add, ↓Fb.d_addL, ↓Fb.d_addT, ↓Fb.d_sub, ↓Fb.d_mul, ↓Fb.d_mod, ↓Fb.d_fdiv, ↓Fb.d_pow, ↓Fb.d_eqI, ↓Fb.d_neI, ↓Fb.d_eqS, ↓Fb.d_neS, ↓Fb.d_eqT, ↓Fb.d_eqL, ↓Fb.d_neT, ↓Fb.d_neL, ↓Fb.d_lt, ↓Fb.d_le, ↓Fb.d_gt, ↓Fb.d_ge, ↓Fb.d_inT, ↓Fb.d_inL, ↓Fb.d_ninT, ↓Fb.d_ninL, ↓Fb.d_isN, ↓Fb.d_notN, ↓Fb.d_min, ↓Fb.d_max, ↓Fb.d_lenL, ↓Fb.d_lenT, ↓Fb.d_tupL, ↓Fb.d_tupT, ↓Fb.d_lstL, ↓Fb.d_lstT, ↓Fb.d_srtL, ↓Fb.d_srtT, ↓Fb.d_srtset, ↓Fb.d_int, ↓Fb.d_neg, ↓Fb.d_repr, ↓Fb.d_all, ↓Fb.d_any, ↓Fb.d_sum, ↓Fb.d_slcL, ↓Fb.d_slcT, ↓Fb.d_revL, ↓Fb.d_revT, ↓Fb.d_itL, ↓Fb.d_itT, ↓Fb.d_list, ↓Fb.d_zipL, ↓Fb.d_zipT, ↓Fb.w_pop, ↓Fb.d_idxK, ↓Fb.d_inK, ↓Fb.d_ninK, ↓Fb.d_lenD, ↓Fb.d_lstD, ↓Fb.d_dictL, ↓Fb.d_dictD, ↓Fb.d_getK, ↓Fb.d_get2K, ↓Fb.d_lenS, ↓Fb.d_itS, ↓Fb.d_ltS, ↓Fb.d_leS, Fb.roS_val, Fb.roS_own, Fb.roS_sto, Fb.roS_unset, Fb.arg_dat, Fb.arg_uni, Fb.arg_sto, Fb.slot_dat, Fb.slot_uni, Fb.slot_sto, Fb.slot_tab, Fb.roS_tab, List.map, List.length_cons, List.length_nil, List.replicate, List.cons_append, List.nil_append, List.append_nil, List.getElem?_cons_zero, List.getElem?_cons_succ, List.set_cons_zero, List.set_cons_succ, Nat.reduceAdd, Nat.reduceSub, decide_eq_true_eq, if_true, if_false, Bool.false_eq_true, true_or, or_true, true_and, and_true, and_self, Bool.and_self, Bool.not_true, Bool.not_false, Bool.true_and, Bool.and_true, Bool.false_and, Bool.and_false, decide_true, decide_false, reduceCtorEq, false_or, or_false, Int.cast_ofNat_Int, eq_self, Int.reduceLT, Int.reduceLE, Int.reduceEq, Int.reduceNe, Int.reduceAdd, Int.reduceSub, Int.reduceNeg, Int.reduceGT, Int.reduceGE, $xs,*])
namespace FL
open PySem Fb FA
/-! kinds -/
def tInt : PyData → Bool
  | .int _ => true
  | .bool _ => true
  | _ => false
def tBool : PyData → Bool
  | .bool _ => true
  | _ => false
def tStr : PyData → Bool
  | .str _ => true
  | _ => false
def tTup : PyData → Bool
  | .tuple _ => true
  | _ => false
def tList : PyData → Bool
  | .list _ => true
  | _ => false
theorem kit_int (d : PyData) : L2.kitB (tyOf d) "int" = some (tInt d) := by cases d <;> kernel_rfl
theorem kit_bool (d : PyData) : L2.kitB (tyOf d) "bool" = some (tBool d) := by cases d <;> kernel_rfl
theorem kit_str (d : PyData) : L2.kitB (tyOf d) "str" = some (tStr d) := by cases d <;> kernel_rfl
theorem kit_tup (d : PyData) : L2.kitB (tyOf d) "tuple" = some (tTup d) := by cases d <;> kernel_rfl
theorem kit_list (d : PyData) : L2.kitB (tyOf d) "list" = some (tList d) := by cases d <;> kernel_rfl
def isIntD : PyData → Bool
  | .int _ => true
  | _ => false
def isNumD : PyData → Bool
  | .int i => decide (0 ≤ i)
  | _ => false
theorem isint_D (d : PyData) {m : Mu} : D g_is_integer [.dat d] m (.dat (.bool (isIntD d))) := by
  rw [g_is_integer, D.run, b_is_integer]
  cases d <;> simp_arith [kit_int, kit_bool, tInt, tBool, isIntD, Bool.not_true, Bool.not_false, and_self]
theorem isnum_D (d : PyData) {m : Mu} : D g_is_number [.dat d] m (.dat (.bool (isNumD d))) := by
  rw [g_is_number, D.run, b_is_number]
  simp_arith [(isint_D d).iff]
  cases d <;> simp_arith [isIntD, isNumD, and_self]
/-! names -/
def nameD : PyData → Bool
  | .str x => okName x
  | _ => false
def LOW : Str := "abcdefghijklmnopqrstuvwxyz"
theorem low_mem (c : Nat) : decide (c ∈ LOW.cps.toList) = (decide (97 ≤ c) && decide (c ≤ 122)) := by
  have e : LOW.cps.toList = (List.range 26).map (97 + ·) := by decide +kernel
  rw [e, Bool.eq_iff_iff, decide_eq_true_eq, List.mem_map, Bool.and_eq_true, decide_eq_true_eq, decide_eq_true_eq]
  constructor
  · rintro ⟨k, h1, rfl⟩
    have := List.mem_range.mp h1
    omega
  · rintro ⟨h1, h2⟩
    exact ⟨c - 97, List.mem_range.mpr (by omega), by omega⟩
theorem cps_len (x : Str) : x.cps.toList.length = x.length := rfl
theorem isname_D (d : PyData) {m : Mu} (h : ∀ x, d = .str x → x.length ≤ SZ) : D g_is_name [.dat d] m (.dat (.bool (nameD d))) := by
  rw [g_is_name, D.run, b_is_name]
  cases d with
  | str x =>
    have hx := h x rfl
    have lx : (x.cps.toList.length : Nat) ≤ SZ := hx
    simp_arith [kit_str, tStr, Bool.not_true]
    refine ⟨hx, ?_⟩
    by_cases c1 : 1 ≤ x.length
    · rw [if_pos (by omega)]
      by_cases c8 : x.length ≤ 8
      · rw [decide_eq_true (show (x.length : Int) ≤ 8 by omega), if_neg (by decide)]
        refine w_lcM strD x.cps.toList (fun c => .bool (decide (97 ≤ c) && decide (c ≤ 122))) ?_
        simp_arith []
        refine ⟨trivial, rfl, lx, fun c hc => ?_, ?_⟩
        · simp_arith [wipeS, strD, d_inS]
          refine ⟨trivial, trivial, ?_⟩
          rw [← low_mem]
          exact congrArg PyData.bool (PySem.StrLaws.found_one LOW c)
        · refine ⟨_, bools_map _ _, ?_⟩
          rw [all_map]
          refine ⟨trivial, ?_⟩
          show _ = Val.dat (.bool (okName x))
          unfold okName
          rw [decide_eq_true c1, decide_eq_true c8]
          rfl
      · rw [decide_eq_false (show ¬ (x.length : Int) ≤ 8 by omega), if_pos (by decide)]
        refine ⟨trivial, ?_⟩
        show _ = Val.dat (.bool (okName x))
        unfold okName
        rw [decide_eq_false c8, Bool.and_false]
        rfl
    · rw [if_neg (by omega)]
      simp_arith [Bool.not_false]
      refine ⟨trivial, ?_⟩
      show _ = Val.dat (.bool (okName x))
      unfold okName
      rw [decide_eq_false c1]
      rfl
  | _ => simp_arith [kit_str, tStr, Bool.not_false, nameD, and_self]
/-! ranges -/
abbrev Row := Str × List Int × Str
def rngE (rows : List Row) : List (PyData × PyData) := rows.map fun r => (.str r.1, .tuple (ofInts r.2.1))
def rng (rows : List Row) (x : Str) : Option (List Int) := (rows.find? fun r => decide (r.1 = x)).map (·.2.1)
def Ups (rows : List Row) : Prop := (rows.map (·.1)).Pairwise SLt
theorem slt_ne {a b : Str} (h : SLt a b) : a ≠ b := fun z => by subst z; exact absurd h (List.lt_irrefl _)
theorem ups_nodup {rows : List Row} (h : Ups rows) : (rows.map (·.1)).Nodup := h.imp slt_ne
theorem rngE_pw {rows : List Row} (h : Ups rows) : (rngE rows).Pairwise fun a b => keyEq a.1 b.1 = false := by
  unfold rngE
  rw [List.pairwise_map]
  have := ups_nodup h
  rw [List.Nodup, List.pairwise_map] at this
  exact this.imp fun h => decide_eq_false h
theorem rngE_get (rows : List Row) (x : Str) : dGet (rngE rows) (.str x) = (rng rows x).map fun o => .tuple (ofInts o) := by
  unfold dGet rngE rng
  induction rows with
  | nil => rfl
  | cons r t ih =>
    rw [List.map_cons, List.find?_cons, List.find?_cons]
    have e : keyEq (.str r.1) (.str x) = decide (r.1 = x) := rfl
    simp only [e]
    cases decide (r.1 = x) with
    | true => rfl
    | false => exact ih
theorem rng_of {rows : List Row} (h : Ups rows) {r : Row} (hr : r ∈ rows) : rng rows r.1 = some r.2.1 := by
  have nd := ups_nodup h
  unfold rng
  clear h
  induction rows with
  | nil => cases hr
  | cons a t ih =>
    rw [List.map_cons, List.nodup_cons] at nd
    rw [List.find?_cons]
    by_cases c : a.1 = r.1
    · rw [decide_eq_true c]
      rcases List.mem_cons.mp hr with rfl | hr
      · rfl
      · exact absurd (List.mem_map.mpr ⟨r, hr, c.symm⟩) nd.1
    · rw [decide_eq_false c]
      rcases List.mem_cons.mp hr with rfl | hr
      · exact absurd rfl c
      · exact ih hr nd.2
theorem rng_mem {rows : List Row} {x : Str} {own : List Int} (h : rng rows x = some own) : ∃ r ∈ rows, r.1 = x ∧ r.2.1 = own := by
  unfold rng at h
  obtain ⟨r, h1, h2⟩ := Option.map_eq_some_iff.mp h
  have h3 : decide (r.1 = x) = true := List.find?_some (p := fun r : Row => decide (r.1 = x)) h1
  exact ⟨r, List.mem_of_find?_eq_some h1, of_decide_eq_true h3, h2⟩
theorem rng_isSome {rows : List Row} {x : Str} : (rng rows x).isSome = decide (x ∈ rows.map (·.1)) := by
  rw [Bool.eq_iff_iff, decide_eq_true_eq, Option.isSome_iff_exists]
  constructor
  · rintro ⟨o, h⟩
    obtain ⟨r, h1, h2, _⟩ := rng_mem h
    exact List.mem_map.mpr ⟨r, h1, h2⟩
  · intro h
    obtain ⟨r, h1, rfl⟩ := List.mem_map.mp h
    unfold rng
    cases q : rows.find? fun r' => decide (r'.1 = r.1) with
    | none => exact absurd (decide_eq_true rfl) (List.find?_eq_none.mp q r h1)
    | some a => exact ⟨_, rfl⟩
theorem atI1 {α : Type} {x y : α} {l : List α} : L2.atI (x :: y :: l) 1 = some y := by
  unfold L2.atI L2.ixN
  rw [if_pos (by decide), if_pos (by rw [List.length_cons, List.length_cons]; omega)]
  rfl
theorem at0 {α : Type} {x : α} {l : List α} : L2.atI (x :: l) 0 = some x := by
  unfold L2.atI L2.ixN
  rw [if_pos (Int.le_refl 0), if_pos (by rw [List.length_cons]; omega)]
  rfl
theorem at2 {α : Type} {x y z : α} {l : List α} : L2.atI (x :: y :: z :: l) 2 = some z := by
  unfold L2.atI L2.ixN
  rw [if_pos (by decide), if_pos (by rw [List.length_cons, List.length_cons, List.length_cons]; omega)]
  rfl
theorem ranges_D {eds ends : List PyData} {rows : List Row} {m : Mu} (hu : Ups rows) (hl : rows.length ≤ 1000) : D g_ranges_of [.dat (bookD eds rows ends)] m (.uni (.dict (rngE rows))) := by
  rw [g_ranges_of, D.run, b_ranges_of]
  simp_arith [bookD]
  refine w_dcM rowD rows (fun r => (.str r.1, .tuple (ofInts r.2.1))) ?_
  simp_arith []
  refine ⟨_, atI1, ?_⟩
  simp_arith []
  refine ⟨trivial, rfl, by show _ ≤ 16777216; omega, fun r hr => ⟨rfl, ?_⟩, ?_⟩
  · simp_arith [rowD, wipeS, and_self]
  · rw [show rows.map (fun r => (PyData.str r.1, PyData.tuple (ofInts r.2.1))) = rngE rows from rfl, dmerge_new (rngE rows) [] (rngE_pw hu)]
    exact ⟨trivial, rfl⟩
/-! names, editions of a book -/
def nameOfD (rows : List Row) : PyData → Bool
  | .str x => okName x && decide (x ∈ rows.map (·.1))
  | _ => false
def edOfD (many : Nat) : PyData → Bool
  | .int i => decide (0 ≤ i) && decide (i < many)
  | _ => false
theorem nameof_D {eds ends : List PyData} {rows : List Row} {m : Mu} (d : PyData) (h : ∀ x, d = .str x → x.length ≤ SZ) (hu : Ups rows) (hl : rows.length ≤ 1000) : D g_is_name_of [.dat (bookD eds rows ends), .dat d] m (.dat (.bool (nameOfD rows d))) := by
  rw [g_is_name_of, D.run, b_is_name_of]
  simp_arith [(isname_D d h).iff]
  cases d with
  | str x =>
    show if okName x = true then _ else _
    cases c : okName x with
    | true =>
      rw [if_pos rfl]
      simp_arith [(ranges_D hu hl).iff]
      refine ⟨rfl, trivial, ?_⟩
      rw [rngE_get, Option.isSome_map, rng_isSome]
      show _ = Val.dat (.bool (okName x && _))
      rw [c]
      rfl
    | false =>
      rw [if_neg (by decide)]
      refine ⟨trivial, ?_⟩
      show _ = Val.dat (.bool (okName x && _))
      rw [c]
      rfl
  | _ => simp_arith [nameD, nameOfD, and_self]
theorem edof_D {eds : List PyData} {rest : List PyData} {m : Mu} (d : PyData) : D g_is_edition_of [.dat (.tuple (.tuple eds :: rest)), .dat d] m (.dat (.bool (edOfD eds.length d))) := by
  rw [g_is_edition_of, D.run, b_is_edition_of]
  simp_arith [(isnum_D d).iff]
  cases d with
  | int k =>
    by_cases h : 0 ≤ k
    · simp_arith [isNumD, h, decide_true, if_true]
      refine ⟨.tuple eds, at0, ?_⟩
      simp_arith [edOfD, h, decide_true, Bool.true_and, and_self]
    · simp_arith [isNumD, edOfD, h, decide_false, Bool.false_and, and_self]
  | _ => simp_arith [isNumD, edOfD, and_self]
/-! first_fitting -/
theorem inD_ints (k : Int) (own : List Int) : inD (.int k) (ofInts own) = decide (k ∈ own) := by
  unfold inD ofInts
  rw [List.any_map, Bool.eq_iff_iff, List.any_eq_true, decide_eq_true_eq]
  constructor
  · rintro ⟨x, h1, h2⟩
    have : (x == k) = true := h2
    rw [beq_iff_eq] at this
    exact this ▸ h1
  · intro h
    exact ⟨k, h, (beq_iff_eq (a := k) (b := k)).mpr rfl⟩
theorem shaped_int (k : Int) : SeqAt.shaped (.int k) = true := rfl
theorem shaped_ints (l : List Int) : SeqAt.shaped (.tuple (ofInts l)) = true := ints_shaped l
def ff (p own : List Int) : Option Int := p.find? fun k => decide (k ∈ own)
def oD : Option Int → PyData
  | some k => .int k
  | none => .none
def ffStep (own : List Int) (_ : Unit) (k : Int) : Unit ⊕ Val := if k ∈ own then .inr (.dat (.int k)) else .inl ()
theorem ff_fold (own : List Int) : ∀ p : List Int, foldE (ffStep own) () p = match ff p own with
    | some k => .inr (.dat (.int k))
    | none => .inl ()
  | [] => rfl
  | k :: t => by
    unfold ff
    rw [foldE, List.find?_cons]
    unfold ffStep
    by_cases c : k ∈ own
    · rw [if_pos c, decide_eq_true c]
    · rw [if_neg c, decide_eq_false c]
      exact ff_fold own t
theorem first_core {own p : List Int} {m : Mu} {l : Slot} : W (forGo (turn (.name 2) [.ife (.o2 .inn (.var 2) (.var 1)) [.retv 2] []]) (ofInts p)) ⟨[l, .val (.tuple (ofInts own)), .unset], m⟩ (Kseq [.ret .non] (KRet fun v m' => m' = m ∧ v = .dat (oD (ff p own)))) := by
  refine for_E (enc := PyData.int) (fun _ s => ∃ c, s = ⟨[l, .val (.tuple (ofInts own)), c], m⟩) (fun s => s.m = m) (ffStep own) p () _ ⟨_, rfl⟩ ?_ ?_
  · rintro k hk st s ⟨c, rfl⟩
    simp_arith [inD_ints, shaped_int, shaped_ints, Bool.and_self, true_and]
    unfold ffStep
    by_cases c : k ∈ own
    · rw [if_pos c, if_pos c]; exact ⟨rfl, trivial⟩
    · rw [if_neg c, if_neg c]; exact ⟨.inl trivial, _, rfl⟩
  · intro s
    rw [ff_fold]
    cases ff p own with
    | none => rintro ⟨c, rfl⟩; simp_arith []; exact ⟨trivial, rfl⟩
    | some k => intro h; obtain ⟨e, m'⟩ := s; cases h; simp_arith []; exact ⟨trivial, rfl⟩
theorem firstL_D {own p : List Int} {m : Mu} : D g_first_fitting [.dat (.list (ofInts p)), .dat (.tuple (ofInts own))] m (.dat (oD (ff p own))) := by
  rw [g_first_fitting, D.run, b_first_fitting]
  simp_arith []
  exact first_core
theorem firstT_D {own p : List Int} {m : Mu} : D g_first_fitting [.dat (.tuple (ofInts p)), .dat (.tuple (ofInts own))] m (.dat (oD (ff p own))) := by
  rw [g_first_fitting, D.run, b_first_fitting]
  simp_arith []
  exact first_core
/-! followed -/
inductive Part where
  | nm (x : Str)
  | ed (k : Int)
def partD : Part → PyData
  | .nm x => .str x
  | .ed k => .int k
def pairD (p : Str × Int) : PyData := .tuple [.str p.1, .int p.2]
def addI (l : List Int) (k : Int) : List Int := if k ∈ l then l else l ++ [k]
def got (found own : List Int) : Int := (ff found own).getD (own.getLastD 0)
def ownOf (rows : List Row) (x : Str) : List Int := (rng rows x).getD []
def stepF (rows : List Row) (st : List Int × List (Str × Int)) : Part → List Int × List (Str × Int)
  | .nm x => (addI st.1 (got st.1 (ownOf rows x)), st.2 ++ [(x, got st.1 (ownOf rows x))])
  | .ed k => (addI st.1 k, st.2)
def followed (rows : List Row) (ps : List Part) : List Int × List (Str × Int) := ps.foldl (stepF rows) ([], [])
theorem addI_len (l : List Int) (k : Int) : (addI l k).length ≤ l.length + 1 := by unfold addI; split <;> simp
theorem atI_last {own : List Int} (h : own ≠ []) : L2.atI (ofInts own) (-1) = some (.int (own.getLastD 0)) := by
  unfold L2.atI L2.ixN
  have hl : 0 < own.length := List.length_pos_iff.mpr h
  rw [if_neg (by omega), if_pos (by rw [ofInts_len]; omega)]
  show (ofInts own)[((-1 : Int) + ((ofInts own).length : Int)).toNat]? = _
  have e : ((-1 : Int) + ((ofInts own).length : Int)).toNat = own.length - 1 := by rw [ofInts_len]; omega
  rw [e, ofInts_get, List.getLastD_eq_getLast?, List.getLast?_eq_getElem?, List.getElem?_eq_getElem (by omega)]
  rfl
def PartOk (rows : List Row) : Part → Prop
  | .nm x => x ∈ rows.map (·.1)
  | .ed _ => True
theorem rng_ex {rows : List Row} {x : Str} (h : x ∈ rows.map (·.1)) : ∃ own, rng rows x = some own ∧ ownOf rows x = own := by
  have := rng_isSome (rows := rows) (x := x)
  rw [decide_eq_true h] at this
  obtain ⟨o, ho⟩ := Option.isSome_iff_exists.mp this
  exact ⟨o, ho, by unfold ownOf; rw [ho]; rfl⟩
theorem own_ne {many : Int} {rows : List Row} (hp : Plan many rows) {x : Str} {own : List Int} (h : rng rows x = some own) : Own many own := by
  obtain ⟨r, h1, _, rfl⟩ := rng_mem h
  exact hp.own r h1
theorem ofInts_snoc (l : List Int) (k : Int) : ofInts l ++ [.int k] = ofInts (l ++ [k]) := by unfold ofInts; rw [List.map_append]; rfl
theorem shaped_lints (l : List Int) : SeqAt.shaped (.list (ofInts l)) = true := ints_shaped l
def EF (b pr : PyData) (rows : List Row) (m : Mu) (i : Nat) (st : List Int × List (Str × Int)) (s : S) : Prop := st.1.length ≤ i ∧ st.2.length ≤ i ∧ ∃ a c, s = ⟨[.val b, .val pr, .own (.dict (rngE rows)), a, .own (.list (ofInts st.1)), .own (.list (st.2.map pairD)), c], m⟩
theorem EF.add {b pr : PyData} {rows : List Row} {m : Mu} {i : Nat} {f : List Int} {tk : List (Str × Int)} {k : Int} {a c : Slot} (h1 : f.length ≤ i) (h2 : tk.length ≤ i + 1) (hi : i < 1000) :
    if k ∈ f then EF b pr rows m (i + 1) (addI f k, tk) ⟨[.val b, .val pr, .own (.dict (rngE rows)), a, .own (.list (ofInts f)), .own (.list (tk.map pairD)), c], m⟩ else (ofInts f).length < SZ ∧ EF b pr rows m (i + 1) (addI f k, tk) ⟨[.val b, .val pr, .own (.dict (rngE rows)), a, .own (.list (ofInts f ++ [.int k])), .own (.list (tk.map pairD)), c], m⟩ := by
  by_cases q : k ∈ f
  · rw [if_pos q]
    have e : addI f k = f := if_pos q
    rw [e]
    exact ⟨by dsimp only; omega, h2, _, _, rfl⟩
  · rw [if_neg q]
    have e : addI f k = f ++ [k] := if_neg q
    rw [e, ofInts_snoc]
    exact ⟨by rw [ofInts_len]; show _ < 16777216; omega, by dsimp only; rw [List.length_append]; simp; omega, h2, _, _, rfl⟩
theorem nif {p : Prop} [Decidable p] {a b : Prop} : (if (!decide p) = true then a else b) ↔ if p then b else a := by by_cases h : p <;> simp [h]
theorem followed_D {many : Int} {eds ends : List PyData} {rows : List Row} {ps : List Part} {m : Mu} (hp : Plan many rows) (hps : ∀ p ∈ ps, PartOk rows p) (hl : ps.length ≤ 1000) :
    D g_followed [.dat (bookD eds rows ends), .dat (.tuple (ps.map partD))] m (.dat (.tuple [.list (ofInts (followed rows ps).1), .list ((followed rows ps).2.map pairD)])) := by
  have rl := hp.len
  rw [g_followed, D.run, b_followed]
  simp_arith [(ranges_D (eds := eds) (ends := ends) (m := m) hp.up (by omega)).iff]
  refine for_DI (enc := partD) (EF (bookD eds rows ends) (.tuple (ps.map partD)) rows m) (stepF rows) ps ([], []) _ 0 ⟨Nat.le_refl _, Nat.le_refl _, _, _, rfl⟩ ?_ ?_
  · rintro i p hpm hi st s ⟨l1, l2, a, b, rfl⟩
    have hi : i < 1000 := by omega
    cases p with
    | ed k =>
      simp_arith! [partD, kit_str, tStr, inD_ints, shaped_int, shaped_lints, nif]
      exact EF.add l1 (by omega) hi
    | nm x =>
      obtain ⟨own, ho, eo⟩ := rng_ex (hps _ hpm)
      have hne := (own_ne hp ho).1
      have hg : dGet (rngE rows) (.str x) = some (.tuple (ofInts own)) := by rw [rngE_get, ho]; rfl
      have z2 : (st.2.map pairD).length < SZ := by rw [List.length_map]; show _ < 16777216; omega
      have l3 : ∀ k : Int, (st.2 ++ [(x, k)]).length ≤ i + 1 := fun k => by rw [List.length_append]; simp; omega
      have e1 : ∀ k : Int, st.2.map pairD ++ [.tuple [.str x, .int k]] = (st.2 ++ [(x, k)]).map pairD := fun k => by rw [List.map_append]; rfl
      simp_arith! [partD, kit_str, tStr]
      refine ⟨.tuple (ofInts own), ⟨rfl, hg⟩, ?_⟩
      simp_arith! [firstL_D.iff]
      cases hf : ff st.1 own with
      | none =>
        have eg : got st.1 (ownOf rows x) = own.getLastD 0 := by unfold got; rw [eo, hf]; rfl
        refine ⟨rfl, ?_⟩
        simp_arith! [oD, isNone]
        refine ⟨_, ⟨rfl, hg⟩, ?_⟩
        simp_arith! []
        refine ⟨_, atI_last hne, ?_⟩
        simp_arith! [inD_ints, shaped_int, shaped_lints, nif, e1]
        simp only [stepF, eg]
        exact ⟨z2, EF.add l1 (l3 _) hi⟩
      | some k =>
        have eg : got st.1 (ownOf rows x) = k := by unfold got; rw [eo, hf]; rfl
        refine ⟨rfl, ?_⟩
        simp_arith! [oD, isNone, inD_ints, shaped_int, shaped_lints, nif, e1]
        simp only [stepF, eg]
        exact ⟨z2, EF.add l1 (l3 _) hi⟩
  · rintro s ⟨_, _, a, b, rfl⟩
    simp_arith []
    exact ⟨trivial, rfl⟩
end FL

namespace FL
open PySem Fb FA
theorem strOk_name {x : Str} (h : okName x = true) : PyData.strOk x = true := by
  unfold okName at h
  simp only [Bool.and_eq_true] at h
  unfold PyData.strOk
  rw [Array.all_eq_true_iff_forall_mem]
  intro c hc
  have := List.all_eq_true.mp h.2 c (by simpa using hc)
  simp only [Bool.and_eq_true, decide_eq_true_eq] at this
  exact decide_eq_true (by omega)
theorem name_len {x : Str} (h : okName x = true) : x.length ≤ 8 := by
  unfold okName at h
  simp only [Bool.and_eq_true, decide_eq_true_eq] at h
  exact h.1.2
theorem shaped_of {d : PyData} (h1 : d.canLay0 = true) (h2 : d.depth ≤ 64) : SeqAt.shaped d = true := by
  unfold SeqAt.shaped
  rw [h1]
  exact decide_eq_true h2
theorem shaped_str {x : Str} (h : okName x = true) : SeqAt.shaped (.str x) = true := shaped_of (strOk_name h) (Nat.zero_le _)
theorem lay_map {α : Type} {f : α → PyData} : ∀ {l : List α}, (∀ a ∈ l, (f a).canLay0 = true) → PyData.canLayAll0 (l.map f) = true
  | [], _ => rfl
  | a :: t, h => by
    show ((f a).canLay0 && PyData.canLayAll0 (t.map f)) = true
    rw [h a List.mem_cons_self, lay_map fun b hb => h b (List.mem_cons_of_mem _ hb)]
    rfl
theorem dep_map {α : Type} {f : α → PyData} {k : Nat} : ∀ {l : List α}, (∀ a ∈ l, (f a).depth ≤ k) → PyData.depthAll (l.map f) ≤ k
  | [], _ => Nat.zero_le _
  | a :: t, h => Nat.max_le.mpr ⟨h a List.mem_cons_self, dep_map fun b hb => h b (List.mem_cons_of_mem _ hb)⟩
theorem shaped_lst {α : Type} {f : α → PyData} {l : List α} {k : Nat} (h1 : ∀ a ∈ l, (f a).canLay0 = true) (h2 : ∀ a ∈ l, (f a).depth ≤ k) (hk : k < 64) : SeqAt.shaped (.list (l.map f)) = true := shaped_of (lay_map h1) (Nat.succ_le_of_lt (Nat.lt_of_le_of_lt (dep_map h2) hk))
theorem shaped_tup {α : Type} {f : α → PyData} {l : List α} {k : Nat} (h1 : ∀ a ∈ l, (f a).canLay0 = true) (h2 : ∀ a ∈ l, (f a).depth ≤ k) (hk : k < 64) : SeqAt.shaped (.tuple (l.map f)) = true := shaped_of (lay_map h1) (Nat.succ_le_of_lt (Nat.lt_of_le_of_lt (dep_map h2) hk))
theorem shaped_names {l : List Str} (h : ∀ x ∈ l, okName x = true) : SeqAt.shaped (.list (l.map .str)) = true := shaped_lst (k := 0) (fun x hx => strOk_name (h x hx)) (fun _ _ => Nat.zero_le _) (by decide)
theorem inD_strs (x : Str) (l : List Str) : inD (.str x) (l.map .str) = decide (x ∈ l) := by
  unfold inD
  rw [List.any_map, Bool.eq_iff_iff, List.any_eq_true, decide_eq_true_eq]
  constructor
  · rintro ⟨y, h1, h2⟩
    have : (y == x) = true := h2
    rw [beq_iff_eq] at this
    exact this ▸ h1
  · intro h
    exact ⟨x, h, (beq_iff_eq (a := x) (b := x)).mpr rfl⟩
/-! is_program_of -/
def progStep (rows : List Row) (many : Nat) (met : List Str) : PyData → List Str ⊕ Val
  | .str x => if (okName x && decide (x ∈ rows.map (·.1))) && !decide (x ∈ met) then .inl (met ++ [x]) else .inr (.dat (.bool false))
  | .int k => if decide (0 ≤ k) && decide (k < many) then .inl met else .inr (.dat (.bool false))
  | _ => .inr (.dat (.bool false))
def progB (rows : List Row) (many : Nat) (ds : List PyData) : Bool := match foldE (progStep rows many) [] ds with
  | .inl _ => true
  | .inr _ => false
theorem progStep_inr {rows : List Row} {many : Nat} : ∀ (ds : List PyData) (st : List Str) (v : Val), foldE (progStep rows many) st ds = .inr v → v = .dat (.bool false)
  | [], st, v, h => by cases h
  | d :: ds, st, v, h => by
    cases q : progStep rows many st d with
    | inl st' => rw [foldE_inl q] at h; exact progStep_inr ds st' v h
    | inr w =>
      rw [foldE_inr q] at h
      cases h
      cases d with
      | str x =>
        simp only [progStep] at q
        split at q <;> first | (cases q; done) | (cases q; rfl)
      | int k =>
        simp only [progStep] at q
        split at q <;> first | (cases q; done) | (cases q; rfl)
      | _ => cases q; rfl
theorem prog_D {eds ends : List PyData} {rows : List Row} {ds : List PyData} {m : Mu} (hu : Ups rows) (hl : rows.length ≤ 1000) (hd : ∀ d ∈ ds, ∀ x, d = .str x → x.length ≤ SZ) (hz : ds.length ≤ 1000) :
    D g_is_program_of [.dat (bookD eds rows ends), .dat (.tuple ds)] m (.dat (.bool (progB rows eds.length ds))) := by
  rw [g_is_program_of, D.run, b_is_program_of]
  simp_arith! [kit_tup, tTup]
  refine for_EIr (fun i met s => met.length ≤ i ∧ (∀ x ∈ met, okName x = true) ∧ ∃ a, s = ⟨[.val (bookD eds rows ends), .val (.tuple ds), .own (.list (met.map .str)), a], m⟩) (fun s => s.m = m) (progStep rows eds.length) ds [] _ ⟨Nat.le_refl _, by simp, _, rfl⟩ ?_ ?_
  · rintro i d hdm hi met s ⟨l1, hn, a, rfl⟩
    have z1 : (met.map PyData.str).length < SZ := by rw [List.length_map]; show _ < 16777216; omega
    have hx := hd d hdm
    simp_arith! [(nameof_D (eds := eds) (ends := ends) (m := m) d hx hu hl).iff]
    cases d with
    | str x =>
      cases hc : nameOfD rows (.str x) with
      | true =>
        have c : (okName x && decide (x ∈ rows.map (·.1))) = true := hc
        have ok : okName x = true := (Bool.and_eq_true_iff.mp c).1
        simp_arith! [shaped_str ok, shaped_names hn, inD_strs]
        simp only [progStep, c, Bool.true_and]
        by_cases c2 : x ∈ met
        · simp_arith! [c2, (edof_D (eds := eds) (m := m) (.str x)).iff, edOfD, bookD, Bool.false_eq_true]
        · simp_arith! [c2]
          refine ⟨z1, by rw [List.length_append]; simp; omega, fun y hy => ?_, _, by rw [List.map_append]; rfl⟩
          rcases List.mem_append.mp hy with hy | hy
          · exact hn y hy
          · rw [List.mem_singleton] at hy; subst hy; exact ok
      | false =>
        have c : (okName x && decide (x ∈ rows.map (·.1))) = false := hc
        simp_arith! [(edof_D (eds := eds) (m := m) (.str x)).iff, edOfD, bookD, progStep, c, Bool.false_eq_true]
    | int k =>
      cases hc : (decide (0 ≤ k) && decide (k < eds.length)) with
      | true => simp_arith! [nameOfD, bookD, (edof_D (eds := eds) (m := m) (.int k)).iff, edOfD, progStep, hc]; exact ⟨by omega, hn, _, rfl⟩
      | false => simp_arith! [nameOfD, bookD, (edof_D (eds := eds) (m := m) (.int k)).iff, edOfD, progStep, hc]
    | _ => simp_arith! [nameOfD, bookD, (edof_D (eds := eds) (m := m) _).iff, edOfD, progStep]
  · intro s
    cases q : foldE (progStep rows eds.length) [] ds with
    | inl st =>
      rintro ⟨_, _, a, rfl⟩
      unfold progB
      rw [q]
      simp_arith! []
    | inr v =>
      intro hs
      have := progStep_inr ds [] v q
      subst this
      obtain ⟨e, m'⟩ := s
      cases hs
      unfold progB
      rw [q]
      simp_arith! []
theorem want_D {x : Str} {m : Mu} : D g_want [.dat (.bool true), .dat (.str x)] m (.dat .none) := by
  rw [g_want, D.run, b_want]
  simp_arith! []
end FL

namespace FL
open PySem Fb FA
def PartIn (rows : List Row) (many : Nat) : Part → Prop
  | .nm x => okName x = true ∧ x ∈ rows.map (·.1)
  | .ed k => 0 ≤ k ∧ k < many
def nmOf : Part → Option Str
  | .nm x => some x
  | .ed _ => none
structure ProgOk (rows : List Row) (many : Nat) (ps : List Part) : Prop where
  each : ∀ p ∈ ps, PartIn rows many p
  nd : (ps.filterMap nmOf).Nodup
  len : ps.length ≤ 1000
theorem progB_go {rows : List Row} {many : Nat} : ∀ (ps : List Part) (met : List Str), (∀ p ∈ ps, PartIn rows many p) → (met ++ ps.filterMap nmOf).Nodup → ∃ st, foldE (progStep rows many) met (ps.map partD) = .inl st
  | [], met, _, _ => ⟨met, rfl⟩
  | p :: ps, met, h, hn => by
    have hp := h p List.mem_cons_self
    have ht := fun q hq => h q (List.mem_cons_of_mem _ hq)
    cases p with
    | nm x =>
      have hn' : ((met ++ [x]) ++ ps.filterMap nmOf).Nodup := by rw [List.append_assoc]; exact hn
      have hx : x ∉ met := fun z => (List.nodup_append.mp hn).2.2 x z x List.mem_cons_self rfl
      have e : progStep rows many met (partD (.nm x)) = .inl (met ++ [x]) := by
        simp only [partD, progStep, hp.1, hp.2, hx, decide_true, decide_false, Bool.and_self, Bool.not_false, if_true]
      rw [List.map_cons, foldE_inl e]
      exact progB_go ps _ ht hn'
    | ed k =>
      have e : progStep rows many met (partD (.ed k)) = .inl met := by
        simp only [partD, progStep, hp.1, hp.2, decide_true, Bool.and_self, if_true]
      rw [List.map_cons, foldE_inl e]
      exact progB_go ps _ ht hn
theorem ProgOk.b {rows : List Row} {many : Nat} {ps : List Part} (h : ProgOk rows many ps) : progB rows many (ps.map partD) = true := by
  obtain ⟨st, e⟩ := progB_go ps [] h.each (by simpa using h.nd)
  unfold progB
  rw [e]
theorem ProgOk.oks {rows : List Row} {many : Nat} {ps : List Part} (h : ProgOk rows many ps) : ∀ p ∈ ps, PartOk rows p := fun p hp => by
  have := h.each p hp
  cases p with
  | nm x => exact this.2
  | ed k => trivial
theorem ProgOk.strs {rows : List Row} {many : Nat} {ps : List Part} (h : ProgOk rows many ps) : ∀ d ∈ ps.map partD, ∀ x, d = .str x → x.length ≤ SZ := fun d hd x e => by
  obtain ⟨p, hp, rfl⟩ := List.mem_map.mp hd
  have := h.each p hp
  cases p with
  | nm y => cases e; have := name_len this.1; show _ ≤ 16777216; omega
  | ed k => cases e
theorem brought_D {many : Int} {eds ends : List PyData} {rows : List Row} {ps : List Part} {m : Mu} (hp : Plan many rows) (h : ProgOk rows eds.length ps) :
    D g_brought [.dat (bookD eds rows ends), .dat (.tuple (ps.map partD))] m (.dat (.tuple (ofInts (followed rows ps).1))) := by
  have rl := hp.len
  rw [g_brought, D.run, b_brought]
  simp_arith! [(prog_D (eds := eds) (ends := ends) (m := m) hp.up (by omega) h.strs (by rw [List.length_map]; exact h.len)).iff, h.b, want_D.iff, (followed_D (eds := eds) (ends := ends) (m := m) hp h.oks h.len).iff]
  exact ⟨_, at0, by simp_arith! []⟩
theorem sort_pairs {tk : List (Str × Int)} (hn : ∀ p ∈ tk, okName p.1 = true) (hl : tk.length ≤ 1000) : sort? (tk.map pairD) = some (sortB leD (tk.map pairD)) := by
  have hc : ((tk.map pairD).all fun d => (tk.map pairD).all fun e => PySem.W.alike d e) = true := by
    rw [List.all_eq_true]
    intro d hd
    rw [List.all_eq_true]
    intro e he
    obtain ⟨x, _, rfl⟩ := List.mem_map.mp hd
    obtain ⟨y, _, rfl⟩ := List.mem_map.mp he
    rfl
  have ht : ((tk.map pairD).all isTupC) = true := by
    rw [List.all_eq_true]
    intro d hd
    obtain ⟨x, _, rfl⟩ := List.mem_map.mp hd
    rfl
  have hs : SeqAt.shaped (.list (tk.map pairD)) = true := shaped_lst (k := 1) (fun p hp => by
    show (PyData.strOk p.1 && (true && true)) = true
    rw [strOk_name (hn p hp)]
    rfl) (fun p _ => Nat.le_refl _) (by decide)
  have hz : decide ((tk.map pairD).length ≤ 16777216) = true := decide_eq_true (by rw [List.length_map]; omega)
  unfold sort?
  rw [if_pos (by rw [hc, ht, hs, hz]; rfl)]
theorem followed_names {rows : List Row} {ps : List Part} : (followed rows ps).2.map (·.1) = ps.filterMap nmOf := by
  have h : ∀ (ps : List Part) (st : List Int × List (Str × Int)), (ps.foldl (stepF rows) st).2.map (·.1) = st.2.map (·.1) ++ ps.filterMap nmOf := by
    intro ps
    induction ps with
    | nil => intro st; simp
    | cons p t ih =>
      intro st
      rw [List.foldl_cons, ih, List.filterMap_cons]
      cases p with
      | nm x => simp [stepF, nmOf]
      | ed k => simp [stepF, nmOf]
  have := h ps ([], [])
  unfold followed
  simpa using this
theorem ProgOk.names {rows : List Row} {many : Nat} {ps : List Part} (h : ProgOk rows many ps) : ∀ p ∈ (followed rows ps).2, okName p.1 = true := fun p hp => by
  have h1 : p.1 ∈ ps.filterMap nmOf := by rw [← followed_names (rows := rows)]; exact List.mem_map.mpr ⟨p, hp, rfl⟩
  obtain ⟨q, hq, e⟩ := List.mem_filterMap.mp h1
  have := h.each q hq
  cases q with
  | nm x => cases e; exact this.1
  | ed k => cases e
theorem followed_len {rows : List Row} {ps : List Part} : (followed rows ps).2.length ≤ ps.length := by
  rw [← List.length_map (f := (·.1)), followed_names]
  exact List.length_filterMap_le _ _
theorem gets_D {many : Int} {eds ends : List PyData} {rows : List Row} {ps : List Part} {m : Mu} (hp : Plan many rows) (h : ProgOk rows eds.length ps) :
    D g_gets [.dat (bookD eds rows ends), .dat (.tuple (ps.map partD))] m (.dat (.tuple (sortB leD ((followed rows ps).2.map pairD)))) := by
  have rl := hp.len
  have fl := followed_len (rows := rows) (ps := ps)
  have pl := h.len
  rw [g_gets, D.run, b_gets]
  simp_arith! [(prog_D (eds := eds) (ends := ends) (m := m) hp.up (by omega) h.strs (by rw [List.length_map]; exact h.len)).iff, h.b, want_D.iff, (followed_D (eds := eds) (ends := ends) (m := m) hp h.oks h.len).iff]
  refine ⟨_, atI1, ?_⟩
  simp_arith! []
  exact ⟨_, sort_pairs h.names (by omega), rfl⟩
end FL

namespace FL
open PySem Fb FA
theorem leD_int (a b : Int) : leD (.int a) (.int b) = decide (a ≤ b) := by
  unfold leD PySem.W.dataLt
  have e : PyProof.Rows.lexLt PyProof.Rows.itemOrd (PySem.W.keyToks (.int b)) (PySem.W.keyToks (.int a)) = decide (b < a) := by
    show PyProof.Rows.lexLt PyProof.Rows.itemOrd [.inl b] [.inl a] = _
    have e2 : PyProof.Rows.lexLt PyProof.Rows.itemOrd [.inl b] [.inl a] = (decide (b < a) || !decide (a < b) && PyProof.Rows.lexLt PyProof.Rows.itemOrd [] []) := rfl
    have e3 : PyProof.Rows.lexLt PyProof.Rows.itemOrd [] [] = false := rfl
    rw [e2, e3, Bool.and_false, Bool.or_false]
  rw [e]
  by_cases h : b < a
  · rw [decide_eq_true h, decide_eq_false (by omega)]; rfl
  · rw [decide_eq_false h, decide_eq_true (by omega)]; rfl
theorem sort_ints {p : List Int} {many : Int} (h : Order many p) (hl : p.length ≤ 1000) : sort? (ofInts p) = some (rgD 0 many) := by
  have hc : ((ofInts p).all fun d => (ofInts p).all fun e => PySem.W.alike d e) = true := by
    rw [List.all_eq_true]
    intro d hd
    rw [List.all_eq_true]
    intro e he
    obtain ⟨x, _, rfl⟩ := List.mem_map.mp hd
    obtain ⟨y, _, rfl⟩ := List.mem_map.mp he
    rfl
  have hp : ((ofInts p).all isPlain1) = true := by
    rw [List.all_eq_true]
    intro d hd
    obtain ⟨x, _, rfl⟩ := List.mem_map.mp hd
    rfl
  have hz : decide ((ofInts p).length ≤ 16777216) = true := decide_eq_true (by rw [ofInts_len]; omega)
  unfold sort?
  rw [if_pos (by rw [hc, hp, ints_shaped, hz]; cases (ofInts p).all isTupC <;> rfl)]
  have h1 := sortB_sorted (le := leD) leD_total (ofInts p)
  have h2 := sortB_perm (le := leD) (ofInts p)
  obtain ⟨q, hq⟩ : ∃ q, sortB leD (ofInts p) = ofInts q := by
    have : ∀ l : List PyData, (∀ d ∈ l, ∃ i, d = .int i) → ∃ q, l = ofInts q := fun l => by
      induction l with
      | nil => exact fun _ => ⟨[], rfl⟩
      | cons a t ih =>
        intro h
        obtain ⟨i, rfl⟩ := h a List.mem_cons_self
        obtain ⟨q, rfl⟩ := ih fun d hd => h d (List.mem_cons_of_mem _ hd)
        exact ⟨i :: q, rfl⟩
    refine this _ fun d hd => ?_
    obtain ⟨x, _, rfl⟩ := List.mem_map.mp (h2.mem_iff.mp hd)
    exact ⟨x, rfl⟩
  rw [hq] at h1 h2 ⊢
  rw [rgD_eq]
  have h3 : q.Pairwise (· ≤ ·) := by
    unfold ofInts at h1
    rw [List.pairwise_map] at h1
    exact h1.imp fun h => by rw [leD_int, decide_eq_true_eq] at h; exact h
  have h4 : q.Perm p := by
    have : (q.map PyData.int).Perm (p.map PyData.int) := h2
    have := this.filterMap fun d => match d with | .int i => some i | _ => none
    have e : ∀ l : List Int, (l.map PyData.int).filterMap (fun d => match d with | .int i => some i | _ => none) = l := fun l => by
      induction l with
      | nil => rfl
      | cons a t ih => rw [List.map_cons, List.filterMap_cons]; simp only [ih]
    rw [e, e] at this
    exact this
  have h5 : (rgI 0 many).Pairwise (· ≤ ·) := (rgI_up 0 many).imp fun h => by omega
  rw [sorted_eq (h4.trans h) h3 h5]
theorem eqv_ints (l : List Int) : PyData.eqv (.list (ofInts l)) (.list (ofInts l)) = true := by
  show PyData.eqvAll (ofInts l) (ofInts l) = true
  induction l with
  | nil => rfl
  | cons a t ih =>
    show ((a == a) && PyData.eqvAll (ofInts t) (ofInts t)) = true
    rw [ih, beq_self_eq_true]
    rfl
theorem ff_some {many : Int} {p own : List Int} (h : Order many p) (ho : FA.Own many own) : ∃ k t, p.filter (fun k => decide (k ∈ own)) = k :: t ∧ ff p own = some k ∧ 0 ≤ k ∧ k < many := by
  obtain ⟨h1, h2, h3⟩ := ho
  cases own with
  | nil => exact absurd rfl h1
  | cons x r =>
    have hx := h3 x List.mem_cons_self
    have hm : x ∈ p.filter fun k => decide (k ∈ x :: r) := List.mem_filter.mpr ⟨h.mem_iff.mpr (rgI_mem.mpr (by omega)), decide_eq_true List.mem_cons_self⟩
    cases e : p.filter (fun k => decide (k ∈ x :: r)) with
    | nil => rw [e] at hm; cases hm
    | cons k t =>
      have hk : k ∈ p.filter fun k => decide (k ∈ x :: r) := by rw [e]; exact List.mem_cons_self
      have hk2 := h3 k (of_decide_eq_true (List.mem_filter.mp hk).2)
      refine ⟨k, t, rfl, ?_, hk2⟩
      unfold ff
      rw [← List.head?_filter, e]
      rfl
def dueP (p : List Int) (rows : List Row) : List (Str × Int) := rows.map fun r => (r.1, (ff p r.2.1).getD 0)
theorem given_D {many : Int} {eds ends : List PyData} {rows : List Row} {p : List Int} {m : Mu} (hp : Plan many rows) (h : Order many p) : D g_given_by [.dat (bookD eds rows ends), .dat (.tuple (ofInts p))] m (.dat (.tuple ((dueP p rows).map pairD))) := by
  have rl := hp.len
  rw [g_given_by, D.run, b_given_by]
  simp_all_arith []
  refine w_lcM rowD rows (fun r => pairD (r.1, (ff p r.2.1).getD 0)) ?_
  simp_all_arith [↓d_bk1]
  refine ⟨rfl, by show _ ≤ 16777216; omega, fun r hr => ?_, ?_⟩
  · obtain ⟨k, t, _, e2, _⟩ := ff_some h (hp.own r hr)
    simp_all_arith [wipeS, ↓a_row, firstT_D.iff, e2, Option.getD_some]
    rfl
  · unfold dueP
    rw [List.map_map]
    rfl
theorem order_len {p : List Int} {many : Int} (hm : many ≤ 100) (h : Order many p) : p.length ≤ 100 := by
  have := h.length_eq
  unfold rgI at this
  rw [List.length_map, List.length_range] at this
  omega
theorem isord_D {p : List Int} {many : Int} {eds ends : List PyData} {rows : List Row} {m : Mu} (he : (eds.length : Int) = many) (hm : many ≤ 100) (h : Order many p) : D g_is_order_of [.dat (bookD eds rows ends), .dat (.tuple (ofInts p))] m (.dat (.bool true)) := by
  have lp := order_len hm h
  rw [g_is_order_of, D.run, b_is_order_of]
  simp_all_arith [tTup, kit_tup]
  refine w_lcM PyData.int p (fun k => .bool (edOfD eds.length (.int k))) ?_
  simp_all_arith []
  refine ⟨rfl, rfl, by show _ ≤ 16777216; omega, fun k hk => ?_, ?_⟩
  · have eD : D g_is_edition_of [.dat (bookD eds rows ends), .dat (.int k)] m (.dat (.bool (edOfD eds.length (.int k)))) := edof_D (eds := eds) (rest := [.tuple (rows.map rowD), .tuple ends]) (m := m) (.int k)
    simp_all_arith [wipeS, eD.iff]
  · refine ⟨_, bools_map _ _, ?_⟩
    have ea : (p.all fun k => edOfD eds.length (.int k)) = true := List.all_eq_true.mpr fun k hk => by
      have := rgI_mem.mp (h.mem_iff.mp hk)
      simp only [edOfD]
      rw [decide_eq_true (by omega), decide_eq_true (by omega)]
      rfl
    rw [all_map, ea]
    simp_all_arith [↓d_bk0, sort_ints h (by omega), Option.some.injEq, exists_eq_left', he]
    have := h.length_eq
    rw [rgD_eq]
    exact ⟨rg_small (by omega) (by omega) (by omega) (by omega), shaped_lints _, by rw [eqv_ints]⟩
theorem getsby_D {p : List Int} {many : Int} {eds ends : List PyData} {rows : List Row} {m : Mu} (he : (eds.length : Int) = many) (hp : Plan many rows) (h : Order many p) : D g_gets_by [.dat (bookD eds rows ends), .dat (.tuple (ofInts p))] m (.dat (.tuple ((dueP p rows).map pairD))) := by
  have m5 := hp.m5
  rw [g_gets_by, D.run, b_gets_by]
  simp_all_arith [(isord_D (ends := ends) (rows := rows) (m := m) he (by omega) h).iff, want_D.iff, (given_D (eds := eds) (ends := ends) (m := m) hp h).iff]
end FL

namespace FA
open PySem Fb FL
theorem same_D {d : PyData} {k n : Nat} {m : Mu} (h : Fine k n d) (hk : k ≤ 64) (hn : n ≤ SZ) : D g_law_same [.dat d, .dat d] m (.dat (.bool true)) := by
  rw [g_law_same, D.run, b_law_same]
  simp_arith! []
  exact h.repr hk hn
theorem lranges_D {eds ends : List PyData} {rows : List Row} {m : Mu} (hu : Ups rows) (hl : rows.length ≤ 1000) : D g_law_ranges [.dat (bookD eds rows ends)] m (.uni (.dict (rngE rows))) := by
  rw [g_law_ranges, D.run, b_law_ranges]
  simp_arith! [bookD]
  refine w_lcM rowD rows (fun r => .tuple [.str r.1, .tuple (ofInts r.2.1)]) ?_
  simp_arith! []
  refine ⟨_, atI1, ?_⟩
  simp_arith! []
  refine ⟨rfl, by show _ ≤ 16777216; omega, fun r hr => ?_, ?_⟩
  · simp_arith! [rowD, wipeS]
    exact ⟨_, at0, _, atI1, by simp_arith! [wipeS]⟩
  · refine ⟨_, pairs_map (fun r : Row => .str r.1) (fun r => .tuple (ofInts r.2.1)) rows (fun _ _ => rfl), ?_⟩
    rw [show rows.map (fun r => (PyData.str r.1, PyData.tuple (ofInts r.2.1))) = rngE rows from rfl, dmerge_new (rngE rows) [] (rngE_pw hu)]
    rfl
/-! the law's own run -/
def fil (heap own : List Int) : List Int := heap.filter fun k => decide (k ∈ own)
def heapN (heap own : List Int) : List Int := if fil heap own = [] then heap ++ [own.getLastD 0] else heap
def stepL (rows : List Row) (st : List Int × List (Str × Int)) : Part → List Int × List (Str × Int)
  | .nm x => (heapN st.1 (ownOf rows x), st.2 ++ [(x, (fil (heapN st.1 (ownOf rows x)) (ownOf rows x)).headD 0)])
  | .ed k => (addI st.1 k, st.2)
theorem lastD_mem {own : List Int} (h : own ≠ []) : own.getLastD 0 ∈ own := by
  rw [List.getLastD_eq_getLast?]
  cases q : own.getLast? with
  | none => exact absurd (List.getLast?_eq_none_iff.mp q) h
  | some a => exact List.mem_of_getLast? q
theorem fil_ff (heap own : List Int) : (fil heap own).head? = ff heap own := by
  unfold fil ff
  rw [List.head?_filter]
theorem step_eq {rows : List Row} {p : Part} {st : List Int × List (Str × Int)} (h : ∀ x, p = .nm x → ownOf rows x ≠ []) : stepL rows st p = stepF rows st p := by
  cases p with
  | ed k => rfl
  | nm x =>
    have hne := h x rfl
    simp only [stepL, stepF]
    have hlast := lastD_mem hne
    unfold heapN got
    cases hf : ff st.1 (ownOf rows x) with
    | none =>
      have e : fil st.1 (ownOf rows x) = [] := by
        have := fil_ff st.1 (ownOf rows x)
        rw [hf] at this
        exact List.head?_eq_none_iff.mp this
      have hn : (ownOf rows x).getLastD 0 ∉ st.1 := fun z => by
        have : (ownOf rows x).getLastD 0 ∈ fil st.1 (ownOf rows x) := List.mem_filter.mpr ⟨z, decide_eq_true hlast⟩
        rw [e] at this
        cases this
      have e2 : fil (st.1 ++ [(ownOf rows x).getLastD 0]) (ownOf rows x) = [(ownOf rows x).getLastD 0] := by
        have e' : st.1.filter (fun k => decide (k ∈ ownOf rows x)) = [] := e
        unfold fil
        rw [List.filter_append, e', List.filter_cons, decide_eq_true hlast]
        rfl
      rw [if_pos e, e2]
      show _ = (addI st.1 ((ownOf rows x).getLastD 0), _)
      unfold addI
      rw [if_neg hn]
      rfl
    | some k =>
      have hh := fil_ff st.1 (ownOf rows x)
      rw [hf] at hh
      have e : fil st.1 (ownOf rows x) ≠ [] := fun z => by rw [z] at hh; cases hh
      have hk : k ∈ st.1 := (List.mem_filter.mp (List.mem_of_head? hh)).1
      rw [if_neg e, List.headD_eq_head?_getD, hh]
      show _ = (addI st.1 k, _)
      unfold addI
      rw [if_pos hk]
      rfl
theorem run_eq {rows : List Row} {ps : List Part} (h : ∀ p ∈ ps, ∀ x, p = .nm x → ownOf rows x ≠ []) (st : List Int × List (Str × Int)) : ps.foldl (stepL rows) st = ps.foldl (stepF rows) st := by
  induction ps generalizing st with
  | nil => rfl
  | cons p t ih => rw [List.foldl_cons, List.foldl_cons, step_eq (h p List.mem_cons_self), ih fun q hq => h q (List.mem_cons_of_mem _ hq)]
def ER (b pr : PyData) (rows : List Row) (m : Mu) (i : Nat) (st : List Int × List (Str × Int)) (s : S) : Prop := st.1.length ≤ i ∧ st.2.length ≤ i ∧ ∃ a c, isOwn c = false ∧ s = ⟨[.val b, .val pr, a, .own (.list (ofInts st.1)), .own (.list (st.2.map pairD)), .own (.dict (rngE rows)), c], m⟩
theorem pure_ints (l : List Int) : pureAll (ofInts l) = true := by
  unfold ofInts
  induction l with
  | nil => rfl
  | cons a t ih => show (true && pureAll (t.map .int)) = true; rw [ih]; rfl
theorem eqv_nilL (l : List Int) : PyData.eqv (.list (ofInts l)) (.list []) = decide (l = []) := by
  cases l <;> rfl
theorem heapN_len (heap own : List Int) : (heapN heap own).length ≤ heap.length + 1 := by unfold heapN; split <;> simp
theorem run_D {many : Int} {eds ends : List PyData} {rows : List Row} {ps : List Part} {m : Mu} (hp : Plan many rows) (h : ProgOk rows eds.length ps) :
    D g_law_run [.dat (bookD eds rows ends), .dat (.tuple (ps.map partD))] m (.dat (.tuple [.tuple (ofInts (followed rows ps).1), .tuple (sortB leD ((followed rows ps).2.map pairD))])) := by
  have rl := hp.len
  have pl := h.len
  have hne : ∀ p ∈ ps, ∀ x, p = .nm x → ownOf rows x ≠ [] := fun p hpm x e => by
    subst e
    obtain ⟨own, ho, eo⟩ := rng_ex (h.oks _ hpm)
    rw [eo]
    exact (own_ne hp ho).1
  rw [g_law_run, D.run, b_law_run]
  simp_arith! [(lranges_D (eds := eds) (ends := ends) (m := m) hp.up (by omega)).iff]
  refine for_DI (enc := partD) (ER (bookD eds rows ends) (.tuple (ps.map partD)) rows m) (stepL rows) ps ([], []) _ 0 ⟨Nat.le_refl _, Nat.le_refl _, _, _, rfl, rfl⟩ ?_ ?_
  · rintro i p hpm hi st s ⟨l1, l2, a, c, hc, rfl⟩
    have hi : i < 1000 := by omega
    have z1 : (ofInts st.1).length < SZ := by rw [ofInts_len]; show _ < 16777216; omega
    cases p with
    | ed k =>
      simp_arith! [partD, kit_str, tStr, inD_ints, shaped_int, shaped_lints, nif]
      by_cases q : k ∈ st.1
      · rw [if_pos q]
        have e : stepL rows st (.ed k) = st := by show (addI st.1 k, st.2) = st; unfold addI; rw [if_pos q]
        rw [e]
        exact ⟨by omega, by omega, _, _, hc, rfl⟩
      · rw [if_neg q]
        have e : stepL rows st (.ed k) = (st.1 ++ [k], st.2) := by show (addI st.1 k, st.2) = _; unfold addI; rw [if_neg q]
        rw [e, ofInts_snoc]
        exact ⟨z1, by dsimp only; rw [List.length_append]; simp; omega, by dsimp only; omega, _, _, hc, rfl⟩
    | nm x =>
      obtain ⟨own, ho, eo⟩ := rng_ex (h.oks _ hpm)
      have hno := (own_ne hp ho).1
      have hg : dGet (rngE rows) (.str x) = some (.tuple (ofInts own)) := by rw [rngE_get, ho]; rfl
      have lc : ∀ (heap : List Int) (c1 : Slot) (Q : QV), isOwn c1 = false → heap.length ≤ 2000 → Q (.uni (.list (ofInts (fil heap own)))) ⟨[.val (bookD eds rows ends), .val (.tuple (ps.map partD)), .val (.str x), .val (.list (ofInts heap)), .val (.list (st.2.map pairD)), .val (.dict (rngE rows)), c1], []⟩ →
          W (evE (.lc [6] (.var 6) (.name 6) (.ofE (.var 3)) (some (.o2 .inn (.var 6) (.o2 .idx (.var 5) (.var 2)))))) ⟨[.val (bookD eds rows ends), .val (.tuple (ps.map partD)), .val (.str x), .val (.list (ofInts heap)), .val (.list (st.2.map pairD)), .val (.dict (rngE rows)), c1], []⟩ Q := by
        intro heap c1 Q h1 h2 hQ
        refine w_lcF PyData.int heap (fun k => decide (k ∈ own)) PyData.int ?_
        simp_arith! []
        refine ⟨rfl, by simpa [List.getD] using h1, by show _ ≤ 16777216; omega, fun k hk => ?_, hQ⟩
        simp_arith! [wipeS]
        refine ⟨_, ⟨rfl, hg⟩, ?_⟩
        simp_arith! [wipeS, inD_ints, shaped_int, shaped_ints]
        split <;> trivial
      simp_arith! [partD, kit_str, tStr]
      have hc' : isOwn (roS c) = false := isOwn_ro c
      refine lc st.1 _ _ hc' (by omega) ?_
      simp_arith! [pureV, pure_ints, shaped_lints, shaped_nil, eqv_nilL]
      have e1 : ∀ k : Int, st.2.map pairD ++ [.tuple [.str x, .int k]] = (st.2 ++ [(x, k)]).map pairD := fun k => by rw [List.map_append]; rfl
      have z2 : (st.2.map pairD).length < SZ := by rw [List.length_map]; show _ < 16777216; omega
      have fin : ∀ heap, heap = heapN st.1 own → ∃ t k, fil heap own = k :: t ∧ ER (bookD eds rows ends) (.tuple (ps.map partD)) rows m (i + 1) (stepL rows st (.nm x)) ⟨[.val (bookD eds rows ends), .val (.tuple (ps.map partD)), .val (.str x), .own (.list (ofInts heap)), .own (.list (st.2.map pairD ++ [.tuple [.str x, .int k]])), .own (.dict (rngE rows)), c], m⟩ := by
        intro heap hh
        have hl := heapN_len st.1 own
        have hne : fil heap own ≠ [] := by
          subst hh
          unfold heapN
          split
          · intro z
            have hlast := lastD_mem hno
            have : own.getLastD 0 ∈ fil (st.1 ++ [own.getLastD 0]) own := List.mem_filter.mpr ⟨by simp, decide_eq_true hlast⟩
            rw [z] at this
            cases this
          · assumption
        obtain ⟨k, t, e⟩ := List.exists_cons_of_ne_nil hne
        refine ⟨t, k, e, ?_⟩
        have es : stepL rows st (.nm x) = (heap, st.2 ++ [(x, k)]) := by
          show (heapN st.1 (ownOf rows x), st.2 ++ [(x, (fil (heapN st.1 (ownOf rows x)) (ownOf rows x)).headD 0)]) = _
          rw [eo, ← hh, e]
          rfl
        rw [es, e1]
        exact ⟨by dsimp only; rw [hh]; omega, by dsimp only; rw [List.length_append]; simp; omega, _, _, hc, rfl⟩
      by_cases q : fil st.1 own = []
      · rw [if_pos q]
        refine ⟨_, ⟨rfl, hg⟩, ?_⟩
        simp_arith! []
        refine ⟨_, atI_last hno, ?_⟩
        simp_arith! [ofInts_snoc]
        refine ⟨z1, ?_⟩
        refine lc (st.1 ++ [own.getLastD 0]) _ _ hc' (by rw [List.length_append]; simp; omega) ?_
        obtain ⟨t, k, e, hE⟩ := fin (st.1 ++ [own.getLastD 0]) (by unfold heapN; rw [if_pos q])
        simp_arith! [pureV, pure_ints]
        rw [e]
        exact ⟨_, at0, z2, hE⟩
      · rw [if_neg q]
        refine lc st.1 _ _ hc' (by omega) ?_
        obtain ⟨t, k, e, hE⟩ := fin st.1 (by unfold heapN; rw [if_neg q])
        simp_arith! [pureV, pure_ints]
        rw [e]
        exact ⟨_, at0, z2, hE⟩
  · rintro s ⟨_, l2, a, c, _, rfl⟩
    rw [run_eq hne] at l2 ⊢
    simp_arith! []
    exact ⟨_, sort_pairs h.names (by have := followed_len (rows := rows) (ps := ps); omega), rfl⟩
end FA

namespace FA
open PySem Fb FL
theorem eqv_nilS (l : List Str) : PyData.eqv (.list (l.map .str)) (.list []) = decide (l = []) := by
  cases l <;> rfl
theorem map_erase {α β : Type} (f : α → β) (l : List α) (i : Nat) : (l.map f).eraseIdx i = (l.eraseIdx i).map f := by
  induction l generalizing i with
  | nil => rfl
  | cons a t ih => cases i with
    | zero => rfl
    | succ i => show f a :: _ = f a :: _; rw [ih]
theorem seq_ix {k : Int} {n : Nat} (h0 : 0 ≤ k) (h1 : k < n) : seqIndex? k n = some k.toNat := by
  unfold seqIndex?
  have e : (if k < 0 then k + (n : Int) else k) = k := if_neg (by omega)
  simp only [e]
  rw [if_pos (by simp only [Bool.and_eq_true, decide_eq_true_eq]; omega)]
theorem names_lc {eds ends : List PyData} {rows : List Row} (hl : rows.length ≤ 1000) {Q : QV} {e : List Slot} {m : Mu} {i j : Nat} (h1 : e[i]? = some (.val (bookD eds rows ends))) (hj : j < e.length) (hij : i ≠ j) (ho : isOwn (e.getD j .unset) = false) (hQ : Q (.uni (.list ((rows.map (·.1)).map .str))) ⟨e, m⟩) :
    W (evE (.lc [j] (.o2 .idx (.var j) (.num 0)) (.name j) (.ofE (.o2 .idx (.var i) (.num 1))) none)) ⟨e, m⟩ Q := by
  refine w_lcM rowD rows (fun r => .str r.1) ?_
  simp_all_arith [h1]
  refine ⟨by simpa using ho, by show _ ≤ 16777216; omega, fun r hr => ?_, ?_⟩
  · have e1 : (((wipeS e [j]).set j (Slot.val (rowD r)))[j]?) = some (.val (rowD r)) := by
      rw [List.getElem?_set_self]
      show j < (e.set j .unset).length
      rw [List.length_set]
      exact hj
    have e2 : wipeS ((wipeS e [j]).set j (Slot.val (rowD r))) [j] = wipeS e [j] := by
      show ((e.set j .unset).set j _).set j .unset = e.set j .unset
      rw [List.set_set, List.set_set]
    simp_all_arith [e1]
    exact e2
  · rw [List.map_map] at hQ
    exact hQ
def TripI (b : PyData) (rows : List Row) (many : Nat) (most : Int) (i : Nat) (s : S) : Prop := ∃ (left : List Str) (ps : List Part) (a : Slot) (m' : Mu), s = ⟨[.sto 0, .val b, .val (.int most), a, .own (.list (left.map .str)), .own (.list (ps.map partD)), .unset], m'⟩ ∧ Feed m' ∧ ps.length = i ∧ (∀ p ∈ ps, PartIn rows many p) ∧ (ps.filterMap nmOf ++ left).Nodup ∧ (∀ x ∈ left, x ∈ rows.map (·.1)) ∧ left.length ≤ 5
theorem trip_ok {gd : Fn} (hdr : DrawOk gd) {m : Mu} {most many : Int} {eds ends : List PyData} {rows : List Row} (hm : Feed m) (hp : Plan many rows) (he : (eds.length : Int) = many) (o0 : 0 ≤ most) (o1 : most ≤ 100) :
    CallOk (g_law_trip gd) [.sto 0, .dat (bookD eds rows ends), .dat (.int most)] m fun v m' => Feed m' ∧ ∃ ps : List Part, v = .dat (.tuple (ps.map partD)) ∧ ProgOk rows eds.length ps ∧ (ps.length : Int) ≤ most := by
  have rl := hp.len
  have m1 := hp.m1
  have m5 := hp.m5
  rw [g_law_trip, krun_ok, b_law_trip]
  simp_arith []
  refine names_lc (by omega) rfl (by show 6 < 7; decide) (by decide) rfl ?_
  simp_arith []
  refine CallOk.mono (hdr hm (by omega) (by omega)) fun v m2 h => ?_
  obtain ⟨f2, n, rfl, n0, n1⟩ := h
  simp_arith []
  refine ⟨rg_small (by omega) (by omega) (by omega) (by omega), ?_⟩
  refine for_inv (TripI (bookD eds rows ends) rows eds.length most) _ 0 _ ⟨rows.map (·.1), [], _, _, rfl, f2, rfl, by simp, by simpa using ups_nodup hp.up, fun _ h => h, by rw [List.length_map]; exact rl⟩ ?_ ?_
  · rintro i d s hd ⟨left, ps, a, m', rfl, hf, hl, hin, hnd, hle, hl5⟩
    have hi : i < n.toNat := by
      have := (List.getElem?_eq_some_iff.mp hd).1
      rw [rgD_len] at this
      exact this
    have okn : ∀ x ∈ left, okName x = true := fun x hx => by
      obtain ⟨r, hr, rfl⟩ := List.mem_map.mp (hle x hx)
      exact hp.nm r hr
    have z1 : (ps.map partD).length < SZ := by rw [List.length_map]; show _ < 16777216; omega
    have close : ∀ (k : Int) (m3 : Mu), Feed m3 → 0 ≤ k → k < eds.length → TripI (bookD eds rows ends) rows eds.length most (0 + i + 1) ⟨[.sto 0, .val (bookD eds rows ends), .val (.int most), .val d, .own (.list (left.map .str)), .own (.list (ps.map partD ++ [.int k])), .unset], m3⟩ := fun k m3 hf3 k0 k1 => by
      refine ⟨left, ps ++ [.ed k], _, _, by rw [List.map_append]; rfl, hf3, by rw [List.length_append, hl]; rfl, fun p hpm => ?_, ?_, hle, hl5⟩
      · rcases List.mem_append.mp hpm with hpm | hpm
        · exact hin p hpm
        · rw [List.mem_singleton] at hpm; subst hpm; exact ⟨k0, k1⟩
      · rw [List.filterMap_append]
        show (ps.filterMap nmOf ++ [] ++ left).Nodup
        rw [List.append_nil]
        exact hnd
    have e0 : L2.atI [PyData.tuple eds, .tuple (rows.map rowD), .tuple ends] 0 = some (.tuple eds) := at0
    simp_arith! [shaped_names okn, shaped_nil, eqv_nilS, nif]
    by_cases c : left = []
    · simp_arith! [c, Bool.false_eq_true]
      subst c
      simp_all_arith []
      refine CallOk.mono (hdr hf (by omega) (by omega)) fun v m3 h => ?_
      obtain ⟨f3, k, rfl, k0, k1⟩ := h
      simp_arith! []
      exact ⟨z1, close k m3 f3 k0 k1⟩
    · simp_arith! [c]
      refine CallOk.mono (hdr hf (by omega) (by omega)) fun v m3 h => ?_
      obtain ⟨f3, w, rfl, w0, w1⟩ := h
      simp_arith! []
      split
      · have hpos : 0 < left.length := List.length_pos_iff.mpr c
        simp_arith! [List.length_map]
        refine CallOk.mono (hdr f3 (by omega) (by omega)) fun v m4 h => ?_
        obtain ⟨f4, k, rfl, k0, k1⟩ := h
        have kl : k.toNat < left.length := by omega
        simp_arith! [List.length_map]
        refine ⟨k.toNat, .str left[k.toNat], seq_ix k0 k1, by rw [List.getElem?_map, List.getElem?_eq_getElem kl]; rfl, ⟨by omega, by omega⟩, by rw [List.length_map] at z1; exact z1, ?_⟩
        rw [map_erase]
        have hmem : left[k.toNat] ∈ left := List.getElem_mem kl
        refine ⟨left.eraseIdx k.toNat, ps ++ [.nm left[k.toNat]], _, _, by rw [List.map_append]; rfl, f4, by rw [List.length_append, hl]; simp, fun p hpm => ?_, ?_, fun x hx => hle x (List.mem_of_mem_eraseIdx hx), by rw [List.length_eraseIdx]; split <;> omega⟩
        · rcases List.mem_append.mp hpm with hpm | hpm
          · exact hin p hpm
          · rw [List.mem_singleton] at hpm; subst hpm; exact ⟨okn _ hmem, hle _ hmem⟩
        · rw [List.filterMap_append]
          show (ps.filterMap nmOf ++ [left[k.toNat]] ++ left.eraseIdx k.toNat).Nodup
          rw [List.append_assoc]
          exact ((List.Perm.append_left _ (perm_erase (List.getElem?_eq_getElem kl))).nodup_iff).mpr hnd
      · simp_all_arith []
        refine CallOk.mono (hdr f3 (by omega) (by omega)) fun v m4 h => ?_
        obtain ⟨f4, k, rfl, k0, k1⟩ := h
        simp_arith! []
        exact ⟨z1, close k m4 f4 k0 k1⟩
  · rintro s ⟨left, ps, a, m', rfl, hf, hl, hin, hnd, hle, hl5⟩
    simp_arith []
    rw [rgD_len] at hl
    refine ⟨hf, ps, rfl, ⟨hin, (List.nodup_append.mp hnd).1, by omega⟩, by omega⟩
end FA

namespace FA
open PySem Fb FL
theorem ff_mem {p own : List Int} {k : Int} (h : ff p own = some k) : k ∈ p ∧ k ∈ own := by
  unfold ff at h
  exact ⟨List.mem_of_find?_eq_some h, of_decide_eq_true (List.find?_some (p := fun k => decide (k ∈ own)) h)⟩
theorem got_mem {p own : List Int} (h : own ≠ []) : got p own ∈ own := by
  unfold got
  cases q : ff p own with
  | none => exact lastD_mem h
  | some k => exact (ff_mem q).2
theorem followed_bd {many : Int} {rows : List Row} {ps : List Part} (hp : Plan many rows) (h : ∀ p ∈ ps, PartIn rows many.toNat p) : (∀ k ∈ (followed rows ps).1, 0 ≤ k ∧ k < many) ∧ ∀ p ∈ (followed rows ps).2, 0 ≤ p.2 ∧ p.2 < many := by
  have m1 := hp.m1
  have go : ∀ (ps : List Part) (st : List Int × List (Str × Int)), (∀ p ∈ ps, PartIn rows many.toNat p) → (∀ k ∈ st.1, 0 ≤ k ∧ k < many) → (∀ p ∈ st.2, 0 ≤ p.2 ∧ p.2 < many) → (∀ k ∈ (ps.foldl (stepF rows) st).1, 0 ≤ k ∧ k < many) ∧ ∀ p ∈ (ps.foldl (stepF rows) st).2, 0 ≤ p.2 ∧ p.2 < many := by
    intro ps
    induction ps with
    | nil => intro st _ h1 h2; exact ⟨h1, h2⟩
    | cons p t ih =>
      intro st h h1 h2
      rw [List.foldl_cons]
      have hp1 := h p List.mem_cons_self
      have add : ∀ (k : Int), 0 ≤ k ∧ k < many → ∀ j ∈ addI st.1 k, 0 ≤ j ∧ j < many := fun k hk j hj => by
        unfold addI at hj
        split at hj
        · exact h1 j hj
        · rcases List.mem_append.mp hj with hj | hj
          · exact h1 j hj
          · rw [List.mem_singleton] at hj; subst hj; exact hk
      refine ih _ (fun q hq => h q (List.mem_cons_of_mem _ hq)) ?_ ?_
      · cases p with
        | nm x =>
          obtain ⟨own, ho, eo⟩ := rng_ex hp1.2
          have hw := own_ne hp ho
          exact add _ (hw.2.2 _ (by rw [eo]; exact got_mem hw.1))
        | ed k => exact add k ⟨hp1.1, by have := hp1.2; omega⟩
      · cases p with
        | nm x =>
          obtain ⟨own, ho, eo⟩ := rng_ex hp1.2
          have hw := own_ne hp ho
          intro q hq
          rcases List.mem_append.mp hq with hq | hq
          · exact h2 q hq
          · rw [List.mem_singleton] at hq; subst hq; exact hw.2.2 _ (by rw [eo]; exact got_mem hw.1)
        | ed k => exact h2
  exact go ps ([], []) h (by simp) (by simp)
theorem ProgOk.sub {rows : List Row} {many : Nat} {ps qs : List Part} (h : ProgOk rows many ps) (hs : qs.Sublist ps) : ProgOk rows many qs := ⟨fun p hp => h.each p (hs.subset hp), h.nd.sublist (hs.filterMap _), Nat.le_trans hs.length_le h.len⟩
theorem ProgOk.perm {rows : List Row} {many : Nat} {ps qs : List Part} (h : ProgOk rows many ps) (hs : qs.Perm ps) : ProgOk rows many qs := ⟨fun p hp => h.each p (hs.subset hp), (hs.filterMap _).nodup_iff.mpr h.nd, by rw [hs.length_eq]; exact h.len⟩
theorem every_ok {rows : List Row} {many : Int} (hp : Plan many rows) (n : Nat) : ProgOk rows n (rows.map fun r => .nm r.1) := by
  have rl := hp.len
  refine ⟨fun p hpm => ?_, ?_, by rw [List.length_map]; omega⟩
  · obtain ⟨r, hr, rfl⟩ := List.mem_map.mp hpm
    exact ⟨hp.nm r hr, List.mem_map.mpr ⟨r, hr, rfl⟩⟩
  · have e : (rows.map fun r => Part.nm r.1).filterMap nmOf = rows.map (·.1) := by
      rw [List.filterMap_map]
      show rows.filterMap (fun r => some r.1) = _
      simp [List.filterMap_eq_map]
    rw [e]
    exact ups_nodup hp.up
theorem fine_ints {l : List Int} {n : Nat} (h : ∀ k ∈ l, 0 ≤ k ∧ k < 100) (hl : l.length ≤ n) : Fine 1 (n * 104 + 3) (.tuple (ofInts l)) := by
  refine (fine_tup (k := 0) (n := 102) fun d hd => ?_).mono (by decide) ?_
  · obtain ⟨k, hk, rfl⟩ := List.mem_map.mp hd
    have := h k hk
    exact (fine_int (B := 100) (by omega) (by decide)).mono (by decide) (by decide)
  · rw [ofInts_len]
    have := Nat.mul_le_mul_right 104 hl
    omega
theorem fine_pair {p : Str × Int} (h1 : okName p.1 = true) (h2 : 0 ≤ p.2 ∧ p.2 < 100) : Fine 1 300 (pairD p) := by
  refine (fine_tup (k := 0) (n := 102) fun d hd => ?_).mono (by decide) (by show 2 * (102 + 2) + 3 ≤ 300; decide)
  simp only [List.mem_cons, List.not_mem_nil, or_false] at hd
  rcases hd with rfl | rfl
  · have := name_len h1
    exact (fine_str (strOk_name h1)).mono (by decide) (by omega)
  · exact (fine_int (B := 100) (by omega) (by decide)).mono (by decide) (by decide)
theorem fine_pairs {tk : List (Str × Int)} {n : Nat} (h1 : ∀ p ∈ tk, okName p.1 = true) (h2 : ∀ p ∈ tk, 0 ≤ p.2 ∧ p.2 < 100) (hl : tk.length ≤ n) : Fine 2 (n * 302 + 3) (.tuple (sortB leD (tk.map pairD))) := by
  refine (fine_tup (k := 1) (n := 300) fun d hd => ?_).mono (by decide) ?_
  · obtain ⟨p, hp, rfl⟩ := List.mem_map.mp ((sortB_perm _).mem_iff.mp hd)
    exact fine_pair (h1 p hp) (h2 p hp)
  · rw [(sortB_perm _).length_eq, List.length_map]
    have := Nat.mul_le_mul_right 302 hl
    omega
theorem followed_len1 {rows : List Row} {ps : List Part} : (followed rows ps).1.length ≤ ps.length := by
  have h : ∀ (ps : List Part) (st : List Int × List (Str × Int)), (ps.foldl (stepF rows) st).1.length ≤ st.1.length + ps.length := by
    intro ps
    induction ps with
    | nil => intro st; simp
    | cons p t ih =>
      intro st
      rw [List.foldl_cons, List.length_cons]
      have := ih (stepF rows st p)
      have h2 : (stepF rows st p).1.length ≤ st.1.length + 1 := by cases p <;> exact addI_len _ _
      omega
  have := h ps ([], [])
  unfold followed
  simpa using this
theorem fine_run {many : Int} {eds : List PyData} {rows : List Row} {ps : List Part} (hp : Plan many rows) (he : (eds.length : Int) = many) (h : ProgOk rows eds.length ps) : Fine 1 104003 (.tuple (ofInts (followed rows ps).1)) ∧ Fine 2 302003 (.tuple (sortB leD ((followed rows ps).2.map pairD))) := by
  have m5 := hp.m5
  have en : eds.length = many.toNat := by omega
  obtain ⟨h1, h2⟩ := followed_bd (many := many) hp (ps := ps) (by rw [← en]; exact h.each)
  have := h.len
  exact ⟨fine_ints (n := 1000) (fun k hk => by have := h1 k hk; omega) (Nat.le_trans followed_len1 this), fine_pairs (n := 1000) h.names (fun p hpm => by have := h2 p hpm; omega) (Nat.le_trans followed_len this)⟩
theorem fine_two {a b : PyData} {n : Nat} (h1 : Fine 2 n a) (h2 : Fine 2 n b) : Fine 3 (2 * (n + 2) + 3) (.list [a, b]) := by
  refine (fine_lst (k := 2) (n := n) (ds := [a, b]) fun d hd => ?_).mono (by decide) (Nat.le_refl _)
  simp only [List.mem_cons, List.not_mem_nil, or_false] at hd
  rcases hd with rfl | rfl
  · exact h1
  · exact h2
/-! the law's frame -/
noncomputable def b_feed : List Sm := [.ret (.dic ["cells", "place_in", "left", "drawn"] [.slc (.var 0) none (some (.num 63)), .num 0, .num 0, .num 0])]
noncomputable def g_feed : Fn := runFn 1 b_feed
theorem feed_ok {l : List Int} : CallOk g_feed [.dat (.list (ofInts l))] [] fun v m' => m' = [] ∧ ∃ c : List Int, v = .uni (.dict [(.str "cells", .list (ofInts c)), (.str "place_in", .int 0), (.str "left", .int 0), (.str "drawn", .int 0)]) := by
  rw [g_feed, krun_ok, b_feed]
  simp_arith []
  obtain ⟨c, e, _⟩ := cut_map (f := PyData.int) (ns := l) (lo := none) (hi := some 63)
  refine ⟨trivial, c, ?_⟩
  rw [show cutD (ofInts l) none (some 63) = ofInts c from e]
  rfl
/-- what is left of a law: its rest over any feed -/
theorem law_pure {n : Nat} {b : List Sm} (hn : 2 ≤ n) (body : ∀ (ns : List Int) (m : Mu), Feed m → W (evSs b) ⟨.val (.list (ofInts ns)) :: .sto 0 :: List.replicate (n - 2) .unset, m⟩ fun f s => f = .ret (.dat (.bool true))) (ns : List Int) :
    ∃ s, lawGo n 1 (.call "_law_feed" g_feed [.var 0] [] []) b ns = .ok (.ret (.dat (.bool true)), s) := by
  obtain ⟨k, rfl⟩ : ∃ k, n = k + 2 := ⟨n - 2, by omega⟩
  obtain ⟨⟨v, m'⟩, f1, f2, c, f3⟩ := feed_ok (l := ns)
  dsimp only at f2 f3
  subst f2 f3
  have e1 : evE (.call "_law_feed" g_feed [.var 0] [] []) ⟨.val (.list (ofInts ns)) :: List.replicate (k + 2 - 1) .unset, []⟩ = .ok (.uni (.dict [(.str "cells", .list (ofInts c)), (.str "place_in", .int 0), (.str "left", .int 0), (.str "drawn", .int 0)]), ⟨.val (.list (ofInts ns)) :: List.replicate (k + 2 - 1) .unset, []⟩) := by
    have : W (evE (.call "_law_feed" g_feed [.var 0] [] [])) ⟨.val (.list (ofInts ns)) :: List.replicate (k + 2 - 1) .unset, []⟩ fun v s => v = .uni (.dict [(.str "cells", .list (ofInts c)), (.str "place_in", .int 0), (.str "left", .int 0), (.str "drawn", .int 0)]) ∧ s = ⟨.val (.list (ofInts ns)) :: List.replicate (k + 2 - 1) .unset, []⟩ := by
      simp_arith []
      exact ⟨_, f1, rfl, rfl⟩
    obtain ⟨⟨v, s⟩, g1, g2, g3⟩ := this
    dsimp only at g2 g3
    rw [g1, g2, g3]
  have hs : sto? [(.str "cells", .list (ofInts c)), (.str "place_in", .int 0), (.str "left", .int 0), (.str "drawn", .int 0)] = some (fd (.list (ofInts c)) (.int 0) (.int 0) (.int 0)) := rfl
  obtain ⟨⟨f, s⟩, g1, g2⟩ := body ns [fd (.list (ofInts c)) (.int 0) (.int 0) (.int 0)] ⟨c, 0, 0, 0, rfl⟩
  dsimp only at g2
  subst g2
  refine ⟨s, ?_⟩
  unfold lawGo
  rw [e1]
  dsimp only
  rw [hs]
  dsimp only
  rw [if_pos (by rw [List.length_cons, List.length_replicate]; omega)]
  exact g1
theorem D.kw {g : Fn} {a b : Val} {m : Mu} {r : Val} (h : D g [b, a] m r) : D (fun xs mu => g (permL [1, 0] xs) mu) [a, b] m r := h
end FA

namespace FA
open PySem Fb FL
theorem byturns_D {p : List Int} {many : Int} {eds ends : List PyData} {rows : List Row} {m : Mu} (hp : Plan many rows) (h : Order many p) : D g_law_by_turns [.dat (bookD eds rows ends), .dat (.tuple (ofInts p))] m (.dat (.tuple ((dueP p rows).map pairD))) := by
  have rl := hp.len
  have m5 := hp.m5
  have pl := order_len (by omega) h
  rw [g_law_by_turns, D.run, b_law_by_turns]
  simp_all_arith []
  refine w_lcM rowD rows (fun r => pairD (r.1, (ff p r.2.1).getD 0)) ?_
  simp_all_arith [↓d_bk1]
  refine ⟨rfl, by show _ ≤ 16777216; omega, fun r hr => ?_, ?_⟩
  · obtain ⟨k, t, e1, e2, _⟩ := ff_some h (hp.own r hr)
    simp_all_arith [wipeS, ↓d_row0]
    refine w_lcF PyData.int p (fun k => decide (k ∈ r.2.1)) PyData.int ?_
    simp_all_arith []
    refine ⟨rfl, rfl, by show _ ≤ 16777216; omega, fun x hx => ?_, ?_⟩
    · simp_all_arith [wipeS, ↓d_row1, inD_ints, shaped_int, shaped_ints, ite_self]
    · rw [e1]
      rw [List.map_cons]
      simp_all_arith [wipeS, FL.at0, Option.some.injEq, exists_eq_left', e2, Option.getD_some]
      rfl
  · unfold dueP
    rw [List.map_map]
    rfl
/-! all orders -/
def Orders (many : Int) (ds : List PyData) : Prop := ∀ d ∈ ds, ∃ p, d = .tuple (ofInts p) ∧ Order many p
theorem order_all {many : Int} {ps : List (List Int)} (h : (ps.all fun p => decide (isort p = rgI 0 many)) = true) : Orders many (ps.map fun p => .tuple (ofInts p)) := fun d hd => by
  obtain ⟨p, hp, rfl⟩ := List.mem_map.mp hd
  have := of_decide_eq_true (List.all_eq_true.mp h p hp)
  exact ⟨p, rfl, by unfold Order; rw [← this]; exact (isort_perm p).symm⟩
theorem allturns_ok {many : Int} {m : Mu} (h0 : 1 ≤ many) (h1 : many ≤ 4) : CallOk g_law_all_turns [.dat (.int many)] m fun v m' => m' = m ∧ ∃ ds, v = .uni (.list ds) ∧ Orders many ds := by
  have hc : many = 1 ∨ many = 2 ∨ many = 3 ∨ many = 4 := by omega
  rcases hc with rfl | rfl | rfl | rfl
  · have e : g_law_all_turns [.dat (.int 1)] m = .ok (.uni (.list ([[0]].map fun p => .tuple (ofInts p))), m) := by kernel_rfl
    unfold CallOk
    rw [e]
    exact ⟨_, rfl, rfl, _, rfl, order_all (by decide +kernel)⟩
  · have e : g_law_all_turns [.dat (.int 2)] m = .ok (.uni (.list ([[0, 1], [1, 0]].map fun p => .tuple (ofInts p))), m) := by kernel_rfl
    unfold CallOk
    rw [e]
    exact ⟨_, rfl, rfl, _, rfl, order_all (by decide +kernel)⟩
  · have e : g_law_all_turns [.dat (.int 3)] m = .ok (.uni (.list ([[0, 1, 2], [0, 2, 1], [1, 0, 2], [1, 2, 0], [2, 0, 1], [2, 1, 0]].map fun p => .tuple (ofInts p))), m) := by kernel_rfl
    unfold CallOk
    rw [e]
    exact ⟨_, rfl, rfl, _, rfl, order_all (by decide +kernel)⟩
  · have e : g_law_all_turns [.dat (.int 4)] m = .ok (.uni (.list ([[0, 1, 2, 3], [0, 1, 3, 2], [0, 2, 1, 3], [0, 2, 3, 1], [0, 3, 1, 2], [0, 3, 2, 1], [1, 0, 2, 3], [1, 0, 3, 2], [1, 2, 0, 3], [1, 2, 3, 0], [1, 3, 0, 2], [1, 3, 2, 0], [2, 0, 1, 3], [2, 0, 3, 1], [2, 1, 0, 3], [2, 1, 3, 0], [2, 3, 0, 1], [2, 3, 1, 0], [3, 0, 1, 2], [3, 0, 2, 1], [3, 1, 0, 2], [3, 1, 2, 0], [3, 2, 0, 1], [3, 2, 1, 0]].map fun p => .tuple (ofInts p))), m) := by kernel_rfl
    unfold CallOk
    rw [e]
    exact ⟨_, rfl, rfl, _, rfl, order_all (by decide +kernel)⟩
end FA

namespace FA
open PySem Fb FL
/-! G1: what a program gives, each order that begins with what it brought gives -/
theorem ff_app {l r own : List Int} {k : Int} (h : ff l own = some k) : ff (l ++ r) own = some k := by
  unfold ff at *
  rw [List.find?_append, h]
  rfl
theorem addI_pre (l : List Int) (k : Int) : l <+: addI l k := by
  unfold addI
  split
  · exact List.prefix_refl _
  · exact List.prefix_append _ _
theorem step_grow {rows : List Row} (st : List Int × List (Str × Int)) (p : Part) : st.1 <+: (stepF rows st p).1 ∧ st.2 <+: (stepF rows st p).2 := by
  cases p with
  | nm x => exact ⟨addI_pre _ _, List.prefix_append _ _⟩
  | ed k => exact ⟨addI_pre _ _, List.prefix_refl _⟩
theorem run_grow {rows : List Row} (ps : List Part) (st : List Int × List (Str × Int)) : st.1 <+: (ps.foldl (stepF rows) st).1 ∧ st.2 <+: (ps.foldl (stepF rows) st).2 := by
  induction ps generalizing st with
  | nil => exact ⟨List.prefix_refl _, List.prefix_refl _⟩
  | cons p t ih =>
    obtain ⟨a1, a2⟩ := step_grow (rows := rows) st p
    obtain ⟨b1, b2⟩ := ih (stepF rows st p)
    exact ⟨a1.trans b1, a2.trans b2⟩
theorem followed_app {rows : List Row} (a b : List Part) : followed rows (a ++ b) = b.foldl (stepF rows) (followed rows a) := List.foldl_append
theorem ff_pre {l l' own : List Int} {k : Int} (hl : l <+: l') (h : ff l own = some k) : ff l' own = some k := by
  obtain ⟨r, rfl⟩ := hl
  exact ff_app h
theorem got_ff {heap own : List Int} (ho : own ≠ []) : ff (addI heap (got heap own)) own = some (got heap own) := by
  unfold got
  cases h : ff heap own with
  | some k =>
    have hk := (ff_mem h).1
    show ff (addI heap k) own = some k
    unfold addI
    rw [if_pos hk]
    exact h
  | none =>
    show ff (addI heap (own.getLastD 0)) own = some (own.getLastD 0)
    have hm := lastD_mem ho
    have hn : own.getLastD 0 ∉ heap := fun z => by
      unfold ff at h
      have := List.find?_eq_none.mp h _ z
      exact this (decide_eq_true hm)
    unfold addI
    rw [if_neg hn]
    unfold ff at h ⊢
    rw [List.find?_append, h, List.find?_cons]
    simp only [hm, decide_true]
    rfl
theorem run_inv {rows : List Row} {ps : List Part} (hne : ∀ p ∈ ps, ∀ x, p = .nm x → ownOf rows x ≠ []) (st : List Int × List (Str × Int)) (h : ∀ q ∈ st.2, ff st.1 (ownOf rows q.1) = some q.2) : ∀ q ∈ (ps.foldl (stepF rows) st).2, ff (ps.foldl (stepF rows) st).1 (ownOf rows q.1) = some q.2 := by
  induction ps generalizing st with
  | nil => exact h
  | cons p t ih =>
    refine ih (fun q hq => hne q (List.mem_cons_of_mem _ hq)) (stepF rows st p) fun q hq => ?_
    have g := (step_grow (rows := rows) st p).1
    cases p with
    | nm x =>
      rcases List.mem_append.mp (show q ∈ st.2 ++ [(x, got st.1 (ownOf rows x))] from hq) with hq | hq
      · exact ff_pre g (h q hq)
      · rw [List.mem_singleton.mp hq]
        exact got_ff (hne _ List.mem_cons_self x rfl)
    | ed k => exact ff_pre g (h q hq)
theorem own_some {many : Int} {rows : List Row} (hp : Plan many rows) {x : Str} (h : x ∈ rows.map (·.1)) : ∃ r ∈ rows, r.1 = x ∧ ownOf rows x = r.2.1 ∧ r.2.1 ≠ [] := by
  obtain ⟨own, h1, h2⟩ := rng_ex h
  obtain ⟨r, hr, e1, e2⟩ := rng_mem h1
  exact ⟨r, hr, e1, by rw [h2, e2], (hp.own r hr).1⟩
theorem prog_ne {many : Int} {n : Nat} {rows : List Row} {ps : List Part} (hp : Plan many rows) (h : ProgOk rows n ps) : ∀ p ∈ ps, ∀ x, p = .nm x → ownOf rows x ≠ [] := fun p hpm x e => by
  subst e
  obtain ⟨r, _, _, e, hne⟩ := own_some hp (h.each _ hpm).2
  rw [e]
  exact hne
theorem pair_name {n : Nat} {rows : List Row} {ps : List Part} (h : ProgOk rows n ps) {q : Str × Int} (hq : q ∈ (followed rows ps).2) : q.1 ∈ rows.map (·.1) := by
  have : q.1 ∈ ps.filterMap nmOf := by rw [← followed_names (rows := rows)]; exact List.mem_map.mpr ⟨q, hq, rfl⟩
  obtain ⟨p, hp, e⟩ := List.mem_filterMap.mp this
  cases p with
  | nm x => cases e; exact (h.each _ hp).2
  | ed k => cases e
/-- G1 -/
theorem g1 {many : Int} {n : Nat} {rows : List Row} {ps : List Part} {p : List Int} (hp : Plan many rows) (h : ProgOk rows n ps) (hpre : (followed rows ps).1 <+: p) : ∀ q ∈ (followed rows ps).2, q ∈ dueP p rows := fun q hq => by
  have hf := run_inv (prog_ne hp h) ([], []) (by simp) q hq
  have hf : ff (followed rows ps).1 (ownOf rows q.1) = some q.2 := hf
  obtain ⟨r, hr, e1, e2, _⟩ := own_some hp (pair_name h hq)
  refine List.mem_map.mpr ⟨r, hr, ?_⟩
  have := ff_pre hpre hf
  rw [e2] at this
  rw [this, e1]
  rfl
/-! sorting -/
theorem perm_map {α β : Type} {f : α → β} : ∀ {ds es : List β}, ds.Perm es → ∀ l : List α, es = l.map f → ∃ l' : List α, ds = l'.map f ∧ l'.Perm l := by
  intro ds es h
  induction h with
  | nil => intro l e; exact ⟨l, by rw [← e], .refl _⟩
  | cons x _ ih =>
    intro l e
    cases l with
    | nil => cases e
    | cons a t =>
      rw [List.map_cons] at e
      obtain ⟨e1, e2⟩ := List.cons.inj e
      obtain ⟨l', h1, h2⟩ := ih t e2
      exact ⟨a :: l', by rw [h1, e1]; rfl, h2.cons a⟩
  | swap x y l0 =>
    intro l e
    cases l with
    | nil => cases e
    | cons a t =>
      cases t with
      | nil => cases e
      | cons b t =>
        rw [List.map_cons, List.map_cons] at e
        obtain ⟨e1, e2⟩ := List.cons.inj e
        obtain ⟨e2, e3⟩ := List.cons.inj e2
        exact ⟨b :: a :: t, by rw [e1, e2, e3]; rfl, .swap _ _ _⟩
  | trans _ _ ih1 ih2 =>
    intro l e
    obtain ⟨l1, h1, h2⟩ := ih2 l e
    obtain ⟨l2, h3, h4⟩ := ih1 l1 h1
    exact ⟨l2, h3, h4.trans h2⟩
theorem sort_map (l : List (Str × Int)) : ∃ l' : List (Str × Int), sortB leD (l.map pairD) = l'.map pairD ∧ l'.Perm l := perm_map (sortB_perm _) l rfl
theorem dlt_pair (a b : Str × Int) : PySem.W.dataLt (pairD a) (pairD b) = (decide (a.1.cps.toList < b.1.cps.toList) || (!decide (b.1.cps.toList < a.1.cps.toList) && (decide (a.2 < b.2) || (!decide (b.2 < a.2) && false)))) := by
  unfold PySem.W.dataLt
  show PyProof.Rows.lexLt PyProof.Rows.itemOrd [.inl 1, .inr a.1.cps.toList, .inl 1, .inl a.2, .inl 0] [.inl 1, .inr b.1.cps.toList, .inl 1, .inl b.2, .inl 0] = _
  rfl
theorem leD_lt {a b : Str × Int} (h : SLt a.1 b.1) : leD (pairD a) (pairD b) = true ∧ leD (pairD b) (pairD a) = false := by
  have h2 : ¬ b.1.cps.toList < a.1.cps.toList := fun z => absurd (List.lt_trans h z) (List.lt_irrefl _)
  unfold leD
  rw [dlt_pair, dlt_pair, decide_eq_true h, decide_eq_false h2]
  simp
theorem sort_due {l l0 : List (Str × Int)} (hp : l.Perm l0) (hs : (l0.map (·.1)).Pairwise SLt) : sortB leD (l.map pairD) = l0.map pairD := by
  rw [List.pairwise_map] at hs
  refine List.Perm.eq_of_pairwise (le := fun a b => leD a b = true) (fun a b ha hb h1 h2 => ?_) (sortB_sorted leD_total _) ?_ ((sortB_perm _).trans (hp.map _))
  · obtain ⟨x, hx, rfl⟩ := List.mem_map.mp ((sortB_perm _).mem_iff.mp ha)
    obtain ⟨y, hy, rfl⟩ := List.mem_map.mp hb
    have hx := hp.mem_iff.mp hx
    by_cases c : x = y
    · rw [c]
    · exfalso
      obtain ⟨i, hi⟩ := List.getElem?_of_mem hx
      obtain ⟨j, hj⟩ := List.getElem?_of_mem hy
      have hil := (List.getElem?_eq_some_iff.mp hi)
      have hjl := (List.getElem?_eq_some_iff.mp hj)
      rcases Nat.lt_trichotomy i j with q | q | q
      · have := (List.pairwise_iff_getElem.mp hs) i j hil.1 hjl.1 q
        rw [hil.2, hjl.2] at this
        rw [(leD_lt this).2] at h2
        cases h2
      · subst q
        rw [hi] at hj
        exact c (Option.some.inj hj)
      · have := (List.pairwise_iff_getElem.mp hs) j i hjl.1 hil.1 q
        rw [hil.2, hjl.2] at this
        rw [(leD_lt this).2] at h1
        cases h1
  · rw [List.pairwise_map]
    exact hs.imp fun h => (leD_lt h).1
end FA

namespace FG
open PySem Fb FA FL
/-! rings, plain -/
abbrev Pr := Str × Int
section
variable (own : Str → List Int)
/-- the one must get its edition before the other's comes -/
def ahead (q p : Pr) : Bool := !decide (q.2 = p.2) && decide (p.2 ∈ own q.1)
def barred (l : List Pr) : List Pr := l.filter fun p => l.any fun q => ahead own q p
/-- what is left when all that are not barred are taken out, again and again -/
def core : Nat → List Pr → List Pr
  | 0, l => l
  | n + 1, l => if (barred own l).length < l.length then core n (barred own l) else l
variable {own}
theorem barred_sub (l : List Pr) : (barred own l).Sublist l := List.filter_sublist
theorem core_sub : ∀ (n : Nat) (l : List Pr), (core own n l).Sublist l
  | 0, l => List.Sublist.refl _
  | n + 1, l => by
    rw [core]
    split
    · exact (core_sub n _).trans (barred_sub l)
    · exact List.Sublist.refl _
theorem core_fix : ∀ (n : Nat) (l : List Pr), l.length ≤ n → barred own (core own n l) = core own n l
  | 0, l, h => by
    have : l = [] := List.eq_nil_of_length_eq_zero (by omega)
    subst this
    rfl
  | n + 1, l, h => by
    rw [core]
    split
    · exact core_fix n _ (by omega)
    · rename_i c
      exact (barred_sub l).eq_of_length (by have := (barred_sub (own := own) l).length_le; omega)
/-! an order that gives all pairs bars rings -/
theorem idx_lt {p own : List Int} {k j : Int} (h : ff p own = some k) (hj : j ∈ own) (hp : j ∈ p) (hne : k ≠ j) : p.idxOf k < p.idxOf j := by
  unfold ff at h
  induction p with
  | nil => cases hp
  | cons a t ih =>
    rw [List.find?_cons] at h
    by_cases c : a ∈ own
    · rw [decide_eq_true c] at h
      cases h
      rw [List.idxOf_cons_self, List.idxOf_cons]
      have : (k == j) = false := by simpa using hne
      rw [this]
      exact Nat.succ_pos _
    · rw [decide_eq_false c] at h
      have haj : a ≠ j := fun z => c (z ▸ hj)
      have hak : a ≠ k := fun z => by
        have := List.find?_some h
        have hk : k ∈ own := of_decide_eq_true this
        exact c (z ▸ hk)
      have h1 : (a == k) = false := by simpa using hak
      have h2 : (a == j) = false := by simpa using haj
      rw [List.idxOf_cons, List.idxOf_cons, h1, h2]
      have := ih h ((List.mem_cons.mp hp).elim (fun z => absurd z.symm haj) id)
      exact Nat.succ_lt_succ this
theorem given_core {p : List Int} {l : List Pr} {n : Nat} (hn : l.length ≤ n) (hg : ∀ q ∈ l, ff p (own q.1) = some q.2) : core own n l = [] := by
  have hfix := core_fix (own := own) n l hn
  have hsub := core_sub (own := own) n l
  generalize core own n l = c at hfix hsub
  cases hc : c with
  | nil => rfl
  | cons a t =>
    exfalso
    have key : ∀ (m : Nat) (q : Pr), q ∈ c → p.idxOf q.2 = m → False := by
      intro m
      induction m using Nat.strongRecOn with
      | ind m ih =>
        intro q hq hm
        have hq' : q ∈ barred own c := by rw [hfix]; exact hq
        obtain ⟨r, hr, ha⟩ := List.any_eq_true.mp (List.mem_filter.mp hq').2
        unfold ahead at ha
        rw [Bool.and_eq_true, Bool.not_eq_true', decide_eq_false_iff_not, decide_eq_true_eq] at ha
        have hgr := hg r (hsub.subset hr)
        have hgq := (ff_mem (hg q (hsub.subset hq))).1
        have := idx_lt hgr ha.2 hgq ha.1
        exact ih _ (by omega) r hr rfl
    exact key _ a (by rw [hc]; exact List.mem_cons_self) rfl
/-! without a ring there is an order -/
theorem ff_fold_add (l acc o : List Int) : ff (l.foldl addI acc) o = ff (acc ++ l) o := by
  induction l generalizing acc with
  | nil => simp
  | cons k t ih =>
    rw [List.foldl_cons, ih]
    unfold addI
    split
    · rename_i hk
      unfold ff
      rw [List.find?_append, List.find?_append, List.find?_cons]
      cases h : acc.find? fun k => decide (k ∈ o) with
      | some z => rfl
      | none =>
        have := List.find?_eq_none.mp h k hk
        rw [Bool.not_eq_true] at this
        rw [this]
    · rw [List.append_assoc]
      rfl
theorem fold_nodup (l acc : List Int) (h : acc.Nodup) : (l.foldl addI acc).Nodup := by
  induction l generalizing acc with
  | nil => exact h
  | cons k t ih =>
    rw [List.foldl_cons]
    refine ih _ ?_
    unfold addI
    split
    · exact h
    · rename_i hk
      rw [List.nodup_append]
      exact ⟨h, by simp, fun a ha b hb e => hk (by rw [← List.mem_singleton.mp hb, ← e]; exact ha)⟩
theorem fold_mem (l acc : List Int) (x : Int) : x ∈ l.foldl addI acc ↔ x ∈ acc ∨ x ∈ l := by
  induction l generalizing acc with
  | nil => simp
  | cons k t ih =>
    rw [List.foldl_cons, ih]
    unfold addI
    split
    · rename_i hk
      constructor
      · rintro (h | h)
        · exact .inl h
        · exact .inr (List.mem_cons_of_mem _ h)
      · rintro (h | h)
        · exact .inl h
        · rcases List.mem_cons.mp h with rfl | h
          · exact .inl hk
          · exact .inr h
    · rw [List.mem_append, List.mem_singleton, List.mem_cons]
      constructor
      · rintro ((h | h) | h)
        · exact .inl h
        · exact .inr (.inl h)
        · exact .inr (.inr h)
      · rintro (h | h | h)
        · exact .inl (.inl h)
        · exact .inl (.inr h)
        · exact .inr h
theorem core_order : ∀ (n : Nat) (l : List Pr), (∀ q ∈ l, q.2 ∈ own q.1) → core own n l = [] → ∃ es : List Int, (∀ k ∈ es, ∃ q ∈ l, q.2 = k) ∧ ∀ q ∈ l, ff es (own q.1) = some q.2
  | 0, l, _, h => ⟨[], by simp, fun q hq => by rw [show l = [] from h] at hq; cases hq⟩
  | n + 1, l, ho, h => by
    rw [core] at h
    split at h
    · obtain ⟨es, h1, h2⟩ := core_order n (barred own l) (fun q hq => ho q ((barred_sub l).subset hq)) h
      refine ⟨(l.filter fun p => !(l.any fun q => ahead own q p)).map (·.2) ++ es, fun k hk => ?_, fun q hq => ?_⟩
      · rcases List.mem_append.mp hk with hk | hk
        · obtain ⟨q, hq, rfl⟩ := List.mem_map.mp hk
          exact ⟨q, (List.mem_filter.mp hq).1, rfl⟩
        · obtain ⟨q, hq, e⟩ := h1 k hk
          exact ⟨q, (barred_sub l).subset hq, e⟩
      · -- what stands ahead is not in q's range, or q's own
        have hfree : ∀ k ∈ (l.filter fun p => !(l.any fun q => ahead own q p)).map (·.2), k ∈ own q.1 → k = q.2 := fun k hk hko => by
          obtain ⟨r, hr, rfl⟩ := List.mem_map.mp hk
          have := (List.mem_filter.mp hr).2
          rw [Bool.not_eq_true', List.any_eq_false] at this
          have := this q hq
          unfold ahead at this
          rw [decide_eq_true hko, Bool.and_true, Bool.not_eq_true', decide_eq_false_iff_not] at this
          exact (Decidable.not_not.mp this).symm
        unfold ff
        rw [List.find?_append]
        cases hf : ((l.filter fun p => !(l.any fun q => ahead own q p)).map (·.2)).find? fun k => decide (k ∈ own q.1) with
        | some z =>
          have hz1 := List.mem_of_find?_eq_some hf
          have hz2 := List.find?_some hf
          have hz2 : z ∈ own q.1 := of_decide_eq_true hz2
          rw [hfree z hz1 hz2]
          rfl
        | none =>
          by_cases c : q ∈ barred own l
          · exact h2 q c
          · exfalso
            have hq2 : q ∈ l.filter fun p => !(l.any fun q => ahead own q p) := by
              refine List.mem_filter.mpr ⟨hq, ?_⟩
              rw [Bool.not_eq_true']
              cases hb : l.any fun r => ahead own r q with
              | true => exact absurd (List.mem_filter.mpr ⟨hq, hb⟩) c
              | false => rfl
            have := List.find?_eq_none.mp hf q.2 (List.mem_map.mpr ⟨q, hq2, rfl⟩)
            exact this (decide_eq_true (ho q hq))
    · subst h
      exact ⟨[], by simp, by simp⟩
/-- .. and a whole order -/
theorem core_whole {n : Nat} {l : List Pr} {many : Int} (ho : ∀ q ∈ l, q.2 ∈ own q.1) (hb : ∀ q ∈ l, 0 ≤ q.2 ∧ q.2 < many) (h : core own n l = []) : ∃ p, Order many p ∧ ∀ q ∈ l, ff p (own q.1) = some q.2 := by
  obtain ⟨es, h1, h2⟩ := core_order n l ho h
  refine ⟨(es ++ rgI 0 many).foldl addI [], ?_, fun q hq => ?_⟩
  · unfold Order
    rw [List.perm_ext_iff_of_nodup (fold_nodup _ _ List.nodup_nil) ((rgI_up 0 many).imp fun h => by omega)]
    intro x
    rw [fold_mem, List.mem_append]
    constructor
    · rintro (h | h | h)
      · cases h
      · obtain ⟨q, hq, rfl⟩ := h1 x h
        exact rgI_mem.mpr (hb q hq)
      · exact h
    · exact fun h => .inr (.inr h)
  · rw [ff_fold_add, List.nil_append]
    exact ff_app (h2 q hq)
end
end FG

namespace FG
open PySem Fb FA FL
section
variable {many : Int} {eds ends : List PyData} {rows : List Row} {m : Mu}
theorem eqv_nilP (l : List Pr) : PyData.eqv (.list (l.map pairD)) (.list []) = decide (l = []) := by cases l <;> rfl
theorem lay_pair {p : Pr} (h : okName p.1 = true) : (pairD p).canLay0 = true := by
  show (PyData.strOk p.1 && (true && true)) = true
  rw [strOk_name h]
  rfl
theorem shaped_lpairs {l : List Pr} (h : ∀ p ∈ l, okName p.1 = true) : SeqAt.shaped (.list (l.map pairD)) = true := shaped_lst (k := 1) (fun p hp => lay_pair (h p hp)) (fun _ _ => Nat.le_refl _) (by decide)
theorem d_pr0 {p : Pr} {s : S} {Q : QV} : W (lift (O2.den .idx (pairD p) (.int 0))) s Q ↔ Q (.dat (.str p.1)) s := d_ixT0
theorem d_pr1 {p : Pr} {s : S} {Q : QV} : W (lift (O2.den .idx (pairD p) (.int 1))) s Q ↔ Q (.dat (.int p.2)) s := d_ixT1
theorem ahead_D {q p : Pr} (hq : q.1 ∈ rows.map (·.1)) : D g_is_ahead [.dat (.dict (rngE rows)), .dat (pairD q), .dat (pairD p)] m (.dat (.bool (ahead (ownOf rows) q p))) := by
  obtain ⟨own, h1, h2⟩ := rng_ex hq
  rw [g_is_ahead, D.run, b_is_ahead]
  unfold ahead
  simp_all_arith [d_pr0, d_pr1, nif, h2]
  by_cases c : q.2 = p.2
  · simp_all_arith [c]
  · simp_all_arith [c, d_pr0, d_pr1, rngE_get, h1, isKey, Option.map_some, Option.some.injEq, exists_eq_left', inD_ints, shaped_int, shaped_ints]
theorem barred_D {l : List Pr} (hl : l.length ≤ 1000) (hn : ∀ q ∈ l, okName q.1 = true) (hq : ∀ q ∈ l, q.1 ∈ rows.map (·.1)) : D g_barred_ones [.dat (.dict (rngE rows)), .dat (.list (l.map pairD))] m (.uni (.list ((barred (ownOf rows) l).map pairD))) := by
  rw [g_barred_ones, D.run, b_barred_ones]
  simp_all_arith []
  refine w_lcF pairD l (fun p => l.any fun q => ahead (ownOf rows) q p) pairD ?_
  simp_all_arith []
  refine ⟨rfl, by show _ ≤ 16777216; omega, fun p hp => ?_, ?_⟩
  · simp_all_arith [wipeS]
    refine w_lcF pairD l (fun q => ahead (ownOf rows) q p) pairD ?_
    simp_all_arith []
    refine ⟨rfl, by show _ ≤ 16777216; omega, fun q hq' => ?_, ?_⟩
    · simp_all_arith [wipeS, (ahead_D (m := m) (p := p) (hq q hq')).iff, ite_self]
    · have e : decide (l.filter (fun q => ahead (ownOf rows) q p) = []) = !(l.any fun q => ahead (ownOf rows) q p) := by
        rw [Bool.eq_iff_iff, decide_eq_true_eq, List.filter_eq_nil_iff, Bool.not_eq_true', List.any_eq_false]
      simp_all_arith [wipeS, shaped_lpairs fun q hq' => hn q (List.mem_filter.mp hq').1, shaped_nil, eqv_nilP, e, Bool.not_not, ite_self]
  · rfl
end
/-- while, by an invariant with a measure -/
theorem whl_inv {c : M Bool} {b : M Fb.Flow} {R : Fb.Flow → S → Prop} (I : Nat → S → Prop) (h : ∀ k s, I k s → W c s fun t s' => if t = true then W b s' fun f s2 => (match f with
      | .nx => ∃ k', k' < k ∧ I k' s2
      | .cnt => ∃ k', k' < k ∧ I k' s2
      | .brk => R .nx s2
      | .ret v => R (.ret v) s2) else R .nx s') : ∀ (n k : Nat) (s : S), k < n → I k s → W (whlGo c b n) s R
  | 0, k, s, hk, _ => absurd hk (Nat.not_lt_zero _)
  | n + 1, k, s, hk, hi => by
    rw [whlGo, w_bind]
    refine W.mono (h k s hi) fun t s' q => ?_
    cases t with
    | false =>
      rw [if_neg (by decide)] at q
      rw [if_neg (by decide), w_pure]
      exact q
    | true =>
      rw [if_pos rfl] at q
      rw [if_pos rfl, w_bind]
      refine W.mono q fun f s2 q => ?_
      cases f with
      | nx => obtain ⟨k', h1, h2⟩ := q; exact whl_inv I h n k' s2 (by omega) h2
      | cnt => obtain ⟨k', h1, h2⟩ := q; exact whl_inv I h n k' s2 (by omega) h2
      | brk => exact w_pure.mpr q
      | ret v => exact w_pure.mpr q
end FG

namespace FG
open PySem Fb FA FL
section
variable {many : Int} {eds ends : List PyData} {rows : List Row} {m : Mu}
def LS (l : List Pr) (s : Fb.Slot) : Prop := s = .own (.list (l.map pairD)) ∨ s = .val (.list (l.map pairD))
theorem core_step {own : Str → List Int} {n : Nat} {l : List Pr} (hn : l.length ≤ n) (h : (barred own l).length < l.length) : ∃ n', (barred own l).length ≤ n' ∧ core own n l = core own n' (barred own l) := by
  cases n with
  | zero => omega
  | succ n => exact ⟨n, by omega, by rw [core, if_pos h]⟩
theorem core_stop {own : Str → List Int} {n : Nat} {l : List Pr} (h : ¬ (barred own l).length < l.length) : core own n l = l := by
  cases n with
  | zero => rfl
  | succ n => rw [core, if_neg h]
theorem cut_init {α : Type} {f : α → PyData} {l : List α} {x : α} : cutD ((l ++ [x]).map f) none (some (-1)) = l.map f := by
  unfold cutD
  have e1 : HT.sIx ((l ++ [x]).map f).length 0 none = 0 := rfl
  have e2 : HT.sIx ((l ++ [x]).map f).length ((l ++ [x]).map f).length (some (-1)) = l.length := by
    rw [List.length_map, List.length_append]
    unfold HT.sIx
    simp
    omega
  rw [e1, e2, List.drop_zero, Nat.sub_zero, List.map_append]
  rw [List.take_append_of_le_length (by rw [List.length_map]; exact Nat.le_refl _)]
  exact List.take_of_length_le (by rw [List.length_map]; exact Nat.le_refl _)
theorem at_lastG {α : Type} {l : List α} {x : α} : L2.atI (l ++ [x]) (-1) = some x := by
  unfold L2.atI L2.ixN
  rw [if_neg (by omega), if_pos (by rw [List.length_append]; simp; omega)]
  show (l ++ [x])[((-1 : Int) + ((l ++ [x]).length : Int)).toNat]? = _
  rw [show ((-1 : Int) + ((l ++ [x]).length : Int)).toNat = l.length by rw [List.length_append]; simp; omega]
  simp
theorem d_ixL0 {x : PyData} {l : List PyData} {s : S} {Q : QV} : W (lift (O2.den .idx (.list (x :: l)) (.int 0))) s Q ↔ Q (.dat x) s := by
  rw [d_idxL, ← d_idxT]
  exact d_ixT0
theorem shaped_pr {p : Pr} (h : okName p.1 = true) : SeqAt.shaped (pairD p) = true := shaped_of (lay_pair h) (by show 1 ≤ 64; decide)
theorem eqv_pr (a b : Pr) : PyData.eqv (pairD a) (pairD b) = decide (a = b) := by
  show ((a.1 == b.1) && ((a.2 == b.2) && true)) = _
  rw [Bool.eq_iff_iff, Bool.and_true, Bool.and_eq_true, beq_iff_eq, beq_iff_eq, decide_eq_true_eq]
  exact ⟨fun h => Prod.ext h.1 h.2, fun h => by rw [h]; exact ⟨rfl, rfl⟩⟩
theorem inD_prs (p : Pr) (l : List Pr) : inD (pairD p) (l.map pairD) = decide (p ∈ l) := by
  unfold inD
  rw [List.any_map, Bool.eq_iff_iff, List.any_eq_true, decide_eq_true_eq]
  constructor
  · rintro ⟨q, h1, h2⟩
    have h2 : PyData.eqv (pairD q) (pairD p) = true := h2
    rw [eqv_pr, decide_eq_true_eq] at h2
    exact h2 ▸ h1
  · intro h
    refine ⟨p, h, ?_⟩
    show PyData.eqv (pairD p) (pairD p) = true
    rw [eqv_pr]
    exact decide_eq_true rfl
theorem find_some {l : List Pr} {x : Pr} (h : x ∈ l) : ∃ i, findD (pairD x) (l.map pairD) = some i := by
  induction l with
  | nil => cases h
  | cons a t ih =>
    rw [List.map_cons, findD]
    by_cases c : a = x
    · rw [if_pos (by rw [eqv_pr]; exact decide_eq_true c)]
      exact ⟨0, rfl⟩
    · rw [if_neg (by rw [eqv_pr]; simpa using c)]
      obtain ⟨i, hi⟩ := ih ((List.mem_cons.mp h).elim (fun z => absurd z.symm c) id)
      exact ⟨i + 1, by rw [hi]; rfl⟩
/-- a road backwards: each one is ahead of the one before it -/
def Road (own : Str → List Int) (path : List Pr) : Prop := ∀ i p q, path[i]? = some p → path[i + 1]? = some q → ahead own q p = true
theorem road_snoc {own : Str → List Int} {l : List Pr} {x y : Pr} (h : Road own (l ++ [x])) (ha : ahead own y x = true) : Road own (l ++ [x] ++ [y]) := by
  intro i p q h1 h2
  by_cases c : i + 1 < (l ++ [x]).length
  · rw [List.getElem?_append_left (by omega)] at h1
    rw [List.getElem?_append_left c] at h2
    exact h i p q h1 h2
  · have hlen : (l ++ [x]).length = l.length + 1 := by simp
    have hi : i + 1 < (l ++ [x] ++ [y]).length := (List.getElem?_eq_some_iff.mp h2).1
    rw [List.length_append, hlen] at hi
    have hi : i = l.length := by simp at hi; omega
    subst hi
    rw [List.getElem?_append_left (by omega)] at h1
    rw [List.getElem?_append_right (by omega), hlen] at h2
    simp at h1 h2
    rw [← h1, ← h2]
    exact ha
def RingP (own : Str → List Int) (l path : List Pr) : Prop := ∃ init x, path = init ++ [x] ∧ x ∈ init ∧ init.Nodup ∧ (∀ q ∈ path, q ∈ l) ∧ Road own path
noncomputable def tailS : List Sm := b_ring_of.drop 3
theorem ring_tail {l left : List Pr} {a b : Fb.Slot} {Q : Val → Mu → Prop} (hl : left.length ≤ 100) (hn : ∀ q ∈ left, okName q.1 = true) (hq : ∀ q ∈ left, q.1 ∈ rows.map (·.1)) (hb : barred (ownOf rows) left = left) (ha : LS left a) (h0 : left = [] → Q (.dat .none) m)
    (h1 : left ≠ [] → ∀ path i, RingP (ownOf rows) left path → findD (pairD (path.getLastD default)) (path.map pairD) = some i → Q (.dat (.tuple (((path.drop (i + 1)).reverse.map (·.1)).map .str))) m) : W (evSs tailS) ⟨[.val (bookD eds rows ends), .val (.tuple (l.map pairD)), .val (.dict (rngE rows)), .unset, .unset, a, b, .unset, .unset, .unset], m⟩ (KRet Q) := by
  have hlen : ∀ (s : S) (Q : QV), W (lift (O1.den .len (.list (left.map pairD)))) s Q ↔ Q (.dat (.int (left.length : Nat))) s := fun s Q => by rw [d_lenL, List.length_map]
  show W (evSs [.ife (.o2 .eq (.o1 .len (.var 5)) (.num 0)) [.ret (.non)] [], .asg 3 (.lst [.o2 .idx (.var 5) (.num 0)]), .whl (.o2 .nin (.o2 .idx (.var 3) (.o1 .neg (.num 1))) (.slc (.var 3) none (some (.o1 .neg (.num 1))))) [.app 3 (.o2 .idx (.lc [9] (.var 9) (.name 9) (.ofE (.var 5)) (some (.call "is_ahead" g_is_ahead [.var 2, .var 9, .o2 .idx (.var 3) (.o1 .neg (.num 1))] [] []))) (.num 0))], .asg 4 (.mt .index (.var 3) (.o2 .idx (.var 3) (.o1 .neg (.num 1)))), .ret (.o1 .tuple (.lc [7, 8] (.var 7) (.tup [.name 7, .name 8]) (.ofE (.sld (.var 3) (.var 4))) none))]) _ _
  cases hL : left with
  | nil =>
    rw [hL] at ha
    rcases ha with rfl | rfl <;> (simp_all_arith []; exact h0 hL)
  | cons x0 r0 =>
    have hne : ¬ ((left.length : Nat) : Int) = 0 := by rw [hL, List.length_cons]; omega
    have e0 : left.map pairD = pairD x0 :: r0.map pairD := by rw [hL]; rfl
    have ix : ∀ (s : S) (Q : QV), W (lift (O2.den .idx (.list (left.map pairD)) (.int 0))) s Q ↔ Q (.dat (pairD x0)) s := fun s Q => by rw [e0, d_idxL, ← d_idxT]; exact d_ixT0
    have key : ∀ a', LS left a' → W (evS (.whl (.o2 .nin (.o2 .idx (.var 3) (.o1 .neg (.num 1))) (.slc (.var 3) none (some (.o1 .neg (.num 1))))) [.app 3 (.o2 .idx (.lc [9] (.var 9) (.name 9) (.ofE (.var 5)) (some (.call "is_ahead" g_is_ahead [.var 2, .var 9, .o2 .idx (.var 3) (.o1 .neg (.num 1))] [] []))) (.num 0))])) ⟨[.val (bookD eds rows ends), .val (.tuple (l.map pairD)), .val (.dict (rngE rows)), .own (.list [pairD x0]), .unset, a', b, .unset, .unset, .unset], m⟩ (Kseq [.asg 4 (.mt .index (.var 3) (.o2 .idx (.var 3) (.o1 .neg (.num 1)))), .ret (.o1 .tuple (.lc [7, 8] (.var 7) (.tup [.name 7, .name 8]) (.ofE (.sld (.var 3) (.var 4))) none))] (KRet Q)) := by
      intro a' ha'
      rw [evS]
      refine whl_inv (fun k s => ∃ (init : List Pr) (x : Pr) (a' : Fb.Slot), LS left a' ∧ init.length + k = left.length ∧ init.Nodup ∧ (∀ q ∈ init ++ [x], q ∈ left) ∧ Road (ownOf rows) (init ++ [x]) ∧ s = ⟨[.val (bookD eds rows ends), .val (.tuple (l.map pairD)), .val (.dict (rngE rows)), .own (.list ((init ++ [x]).map pairD)), .unset, a', b, .unset, .unset, .unset], m⟩) ?_ _ left.length _ (by show _ < 100000; omega) ⟨[], x0, a', ha', by simp, by simp, fun q hq' => by rw [List.mem_singleton.mp hq', hL]; exact List.mem_cons_self, fun i p q h1 h2 => by cases i <;> simp at h2, rfl⟩
      rintro k s ⟨init, x, a', ha', hk, hnd, hin, hroad, rfl⟩
      rw [w_bind]
      have ilast : ∀ (s : S) (Q : QV), W (lift (O2.den .idx (.list ((init ++ [x]).map pairD)) (.int (-1)))) s Q ↔ Q (.dat (pairD x)) s := fun s Q => by
        rw [d_idxL, List.map_append]
        exact ⟨fun ⟨_, h, q⟩ => by rw [show L2.atI (init.map pairD ++ [x].map pairD) (-1) = some (pairD x) from at_lastG] at h; cases h; exact q, fun q => ⟨_, at_lastG, q⟩⟩
      have hxl : x ∈ left := hin x (by simp)
      have hxn := hn x hxl
      have hnn : ∀ q ∈ init, okName q.1 = true := fun q hq' => hn q (hin q (List.mem_append_left _ hq'))
      have hnl : (init ++ [x]).length = init.length + 1 := by simp
      have hil : init.length ≤ left.length := by omega
      simp_all_arith [ilast, cut_init, shaped_pr hxn, shaped_lpairs hnn, inD_prs, nif]
      by_cases c : x ∈ init
      · simp_all_arith [c]
        have hm : x ∈ init ++ [x] := by simp
        obtain ⟨j, hj⟩ := find_some (l := init ++ [x]) hm
        have hnp : ∀ q ∈ init ++ [x], okName q.1 = true := fun q hq' => hn q (hin q hq')
        have hd : ∀ (s : S) (Q : QV), W (lift (O2.den .index (.list ((init ++ [x]).map pairD)) (pairD x))) s Q ↔ Q (.dat (.int (j : Nat))) s := fun s Q => by
          have e : O2.den .index (.list ((init ++ [x]).map pairD)) (pairD x) = some (.dat (.int (j : Nat))) := by
            show (if (SeqAt.shaped (.list ((init ++ [x]).map pairD)) && SeqAt.shaped (pairD x)) = true then (findD (pairD x) ((init ++ [x]).map pairD)).map _ else none) = _
            rw [shaped_lpairs hnp, shaped_pr hxn, hj]
            rfl
          rw [e, w_lift_some]
        refine ⟨rfl, ?_⟩
        rw [hd]
        simp_all_arith []
        have rng : RingP (ownOf rows) left (init ++ [x]) := ⟨init, x, rfl, c, hnd, hin, hroad⟩
        have gl : (init ++ [x]).getLastD default = x := by simp
        have fin := h1 (by rw [hL]; simp) (init ++ [x]) j rng (by rw [gl]; exact hj)
        refine w_lcM pairD (((init ++ [x]).drop (j + 1)).reverse) (fun q => .str q.1) ?_
        simp_all_arith [d_sldL (i := ((j : Nat) : Int)) (by omega), Int.toNat_natCast]
        refine ⟨by rw [← List.map_drop, ← List.map_reverse], rfl, by rw [List.length_reverse, List.length_drop]; show _ ≤ 16777216; omega, fun q hq' => ?_, ?_⟩
        · simp_all_arith [wipeS, pairD]
        · rw [List.map_map] at fin
          exact fin
      · have hbx : x ∈ barred (ownOf rows) left := by rw [hb]; exact hxl
        obtain ⟨y0, hy0, ay0⟩ := List.any_eq_true.mp (List.mem_filter.mp hbx).2
        have hfil : ∃ y r, left.filter (fun q => ahead (ownOf rows) q x) = y :: r := by
          cases hf : left.filter (fun q => ahead (ownOf rows) q x) with
          | nil => exact absurd (List.mem_filter.mpr ⟨hy0, ay0⟩) (by rw [hf]; simp)
          | cons y r => exact ⟨y, r, rfl⟩
        obtain ⟨y, r, hy⟩ := hfil
        have hym : y ∈ left.filter (fun q => ahead (ownOf rows) q x) := by rw [hy]; exact List.mem_cons_self
        obtain ⟨hyl, hya⟩ := List.mem_filter.mp hym
        have hnd2 : (init ++ [x]).Nodup := List.nodup_append.mpr ⟨hnd, by simp, fun a ha b hb' e => c (by rw [← List.mem_singleton.mp hb', ← e]; exact ha)⟩
        have hpl : init.length < left.length := by
          have := hnd2.length_le_of_subset (fun q hq' => hin q hq')
          omega
        simp_all_arith [c]
        rcases ha' with rfl | rfl
        all_goals refine w_lcF pairD left (fun q => ahead (ownOf rows) q x) pairD ?_
        all_goals simp_all_arith []
        all_goals refine ⟨rfl, by show _ ≤ 16777216; omega, fun q hq' => ?_, ?_⟩
        all_goals first
          | (simp_all_arith [wipeS, ilast, (ahead_D (m := m) (p := x) (hq q hq')).iff, ite_self]; done)
          | skip
        all_goals rw [hy, List.map_cons]
        all_goals simp_all_arith [d_ixL0, List.length_map]
        all_goals refine ⟨by show _ < 16777216; omega, k - 1, by omega, init ++ [x], y, .val (.list (left.map pairD)), .inr rfl, by omega, hnd2, fun q hq' => ?_, road_snoc hroad hya, by rw [List.map_append (l₁ := init ++ [x])]; rfl⟩
        all_goals exact (List.mem_append.mp hq').elim (hin q) fun z => by rw [List.mem_singleton.mp z]; exact hyl
    have ha' : a = .own (.list (left.map pairD)) ∨ a = .val (.list (left.map pairD)) := ha
    rcases ha' with rfl | rfl
    · simp_all_arith [List.length_map, hne, ix]
      exact key _ (.inl rfl)
    · simp_all_arith [List.length_map, hne, ix]
      exact key _ (.inr rfl)
theorem ringof_ok {l : List Pr} (hp : Plan many rows) (hl : l.length ≤ 100) (hn : ∀ q ∈ l, okName q.1 = true) (hq : ∀ q ∈ l, q.1 ∈ rows.map (·.1)) : CallOk g_ring_of [.dat (bookD eds rows ends), .dat (.tuple (l.map pairD))] m fun v m' => m' = m ∧ ((core (ownOf rows) l.length l = [] ∧ v = .dat .none) ∨ (core (ownOf rows) l.length l ≠ [] ∧ ∃ path i, RingP (ownOf rows) l path ∧ findD (pairD (path.getLastD default)) (path.map pairD) = some i ∧ v = .dat (.tuple (((path.drop (i + 1)).reverse.map (·.1)).map .str)))) := by
  have rl := hp.len
  rw [g_ring_of, krun_ok, b_ring_of]
  simp_all_arith [(ranges_D (eds := eds) (ends := ends) (m := m) hp.up (by omega)).iff, (barred_D (m := m) (rows := rows) (l := l) (by omega) hn hq).iff]
  have tl : ∀ left, left = core (ownOf rows) l.length l → ∀ a b, LS left a → W (evSs tailS) ⟨[.val (bookD eds rows ends), .val (.tuple (l.map pairD)), .val (.dict (rngE rows)), .unset, .unset, a, b, .unset, .unset, .unset], m⟩ (KRet fun v m' => m' = m ∧ ((core (ownOf rows) l.length l = [] ∧ v = .dat .none) ∨ (core (ownOf rows) l.length l ≠ [] ∧ ∃ path i, RingP (ownOf rows) l path ∧ findD (pairD (path.getLastD default)) (path.map pairD) = some i ∧ v = .dat (.tuple (((path.drop (i + 1)).reverse.map (·.1)).map .str))))) := by
    intro left e a b ha
    have hsub : left.Sublist l := by rw [e]; exact core_sub _ _
    have hll := hsub.length_le
    refine ring_tail (by omega) (fun q hq' => hn q (hsub.subset hq')) (fun q hq' => hq q (hsub.subset hq')) (by rw [e]; exact core_fix _ _ (Nat.le_refl _)) ha (fun h => ⟨rfl, .inl ⟨by rw [← e]; exact h, rfl⟩⟩) fun h path i hr hf => ⟨rfl, .inr ⟨by rw [← e]; exact h, path, i, ?_, hf, rfl⟩⟩
    obtain ⟨init, x, h1, h2, h3, h4, h5⟩ := hr
    exact ⟨init, x, h1, h2, h3, fun q hq' => hsub.subset (h4 q hq'), h5⟩
  change W _ _ (Kseq tailS _)
  generalize hR : Kseq tailS (KRet fun v m' => m' = m ∧ ((core (ownOf rows) l.length l = [] ∧ v = .dat .none) ∨ (core (ownOf rows) l.length l ≠ [] ∧ ∃ path i, RingP (ownOf rows) l path ∧ findD (pairD (path.getLastD default)) (path.map pairD) = some i ∧ v = .dat (.tuple (((path.drop (i + 1)).reverse.map (·.1)).map .str))))) = R
  have tl : ∀ left, left = core (ownOf rows) l.length l → ∀ a b, LS left a → R .nx ⟨[.val (bookD eds rows ends), .val (.tuple (l.map pairD)), .val (.dict (rngE rows)), .unset, .unset, a, b, .unset, .unset, .unset], m⟩ := fun left e a b ha => by rw [← hR]; exact tl left e a b ha
  rw [evS]
  refine whl_inv (fun k s => ∃ (left : List Pr) (n : Nat) (a b : Fb.Slot), left.length = k ∧ left.length ≤ n ∧ core (ownOf rows) n left = core (ownOf rows) l.length l ∧ left.Sublist l ∧ LS left a ∧ LS (barred (ownOf rows) left) b ∧ s = ⟨[.val (bookD eds rows ends), .val (.tuple (l.map pairD)), .val (.dict (rngE rows)), .unset, .unset, a, b, .unset, .unset, .unset], m⟩) ?_ _ l.length _ (by show _ < 100000; omega) ⟨l, l.length, _, _, rfl, Nat.le_refl _, rfl, .refl _, .inl rfl, .inl rfl, rfl⟩
  rintro k s ⟨left, n, a, b, hk, hn', hcore, hsub, ha, hb, rfl⟩
  have hln : ∀ q ∈ left, okName q.1 = true := fun q hq' => hn q (hsub.subset hq')
  have hlq : ∀ q ∈ left, q.1 ∈ rows.map (·.1) := fun q hq' => hq q (hsub.subset hq')
  have hll := hsub.length_le
  have hbs := barred_sub (own := ownOf rows) left
  have hbl := hbs.length_le
  have bD := barred_D (m := m) (rows := rows) (l := barred (ownOf rows) left) (by omega) (fun q hq' => hln q (hbs.subset hq')) (fun q hq' => hlq q (hbs.subset hq'))
  rw [w_bind]
  by_cases c : (barred (ownOf rows) left).length < left.length
  · obtain ⟨n', n1, n2⟩ := core_step hn' c
    have ci : (((barred (ownOf rows) left).length : Nat) : Int) < ((left.length : Nat) : Int) := by omega
    rcases ha with rfl | rfl <;> rcases hb with rfl | rfl
    all_goals simp_all_arith [List.length_map, ci, bD.iff]
    all_goals exact ⟨_, by omega, barred (ownOf rows) left, n', _, _, rfl, n1, by rw [← n2]; exact hcore, hbs.trans hsub, .inr rfl, .inl rfl, rfl⟩
  · have ci : ¬ (((barred (ownOf rows) left).length : Nat) : Int) < ((left.length : Nat) : Int) := by omega
    have e := core_stop (n := n) c
    have ha' := ha
    rcases ha with rfl | rfl <;> rcases hb with rfl | rfl
    all_goals simp_all_arith [List.length_map, ci]
    all_goals exact tl left (by rw [← hcore, e]) _ _ ha'
end
end FG

namespace FG
open PySem Fb FA FL
structure Cho (rows : List Row) (l : List Pr) : Prop where
  up : (l.map (·.1)).Pairwise SLt
  each : ∀ q ∈ l, q.1 ∈ rows.map (·.1) ∧ q.2 ∈ ownOf rows q.1
  len : l.length ≤ 100
section
variable {many : Int} {eds ends : List PyData} {rows : List Row} {m : Mu}
theorem Cho.nm {l : List Pr} (hp : Plan many rows) (h : Cho rows l) : ∀ q ∈ l, okName q.1 = true := fun q hq => by
  obtain ⟨r, hr, e⟩ := List.mem_map.mp (h.each q hq).1
  rw [← e]
  exact hp.nm r hr
theorem Cho.bd {l : List Pr} (hp : Plan many rows) (h : Cho rows l) : ∀ q ∈ l, 0 ≤ q.2 ∧ q.2 < many := fun q hq => by
  obtain ⟨r, hr, e1, e2, _⟩ := own_some hp (h.each q hq).1
  have := (h.each q hq).2
  rw [e2] at this
  exact (hp.own r hr).2.2 _ this
theorem slt_empty {x : Str} (h : okName x = true) : SLt "" x := by
  unfold okName at h
  have h1 : 1 ≤ x.length := by
    rw [Bool.and_eq_true, Bool.and_eq_true] at h
    exact of_decide_eq_true h.1.1
  show ([] : List Nat) < x.cps.toList
  cases hx : x.cps.toList with
  | nil =>
    have : x.length = x.cps.toList.length := by simp [Str.length]
    rw [this, hx] at h1
    simp at h1
  | cons a t => exact List.nil_lt_cons a t
theorem choice_D {l : List Pr} (hp : Plan many rows) (h : Cho rows l) : D g_is_choice_of [.dat (bookD eds rows ends), .dat (.tuple (l.map pairD))] m (.dat (.bool true)) := by
  have rl := hp.len
  rw [g_is_choice_of, D.run, b_is_choice_of]
  simp_all_arith [tTup, kit_tup, (ranges_D (eds := eds) (ends := ends) (m := m) hp.up (by omega)).iff]
  refine for_inv (fun i s => ∃ (a : Fb.Slot) (w : Str), (∀ q, l[i]? = some q → SLt w q.1) ∧ s = ⟨[.val (bookD eds rows ends), .val (.tuple (l.map pairD)), a, .own (.dict (rngE rows)), .val (.str w)], m⟩) _ 0 _ ⟨_, "", ?_, rfl⟩ ?_ ?_
  · intro q hq
    have := h.nm hp q (List.mem_of_getElem? hq)
    exact slt_empty this
  · rintro i d s hd ⟨a, w, hw, rfl⟩
    rw [Nat.zero_add] at hw
    rw [List.getElem?_map, Option.map_eq_some_iff] at hd
    obtain ⟨q, hq, rfl⟩ := hd
    have hqm := List.mem_of_getElem? hq
    have hqn := h.nm hp q hqm
    obtain ⟨own, o1, o2⟩ := rng_ex (h.each q hqm).1
    have ho := (h.each q hqm).2
    have hb := h.bd hp q hqm
    have hlt := hw q hq
    have nD := nameof_D (eds := eds) (ends := ends) (m := m) (.str q.1) (fun x e => by cases e; have := name_len hqn; show _ ≤ 16777216; omega) hp.up (by omega)
    have en : nameOfD rows (.str q.1) = true := by
      show (okName q.1 && decide (q.1 ∈ rows.map (·.1))) = true
      rw [hqn, decide_eq_true (h.each q hqm).1]
      rfl
    have ei : isNumD (.int q.2) = true := decide_eq_true hb.1
    rw [en] at nD
    have pD : pairD q = .tuple [.str q.1, .int q.2] := rfl
    have le : decide (w.cps.toList < q.1.cps.toList) = true := decide_eq_true hlt
    rw [o2] at ho
    simp_all_arith [pD, tTup, kit_tup, nD.iff, (isnum_D (.int q.2) (m := m)).iff, ei, le, rngE_get, o1, isKey, Option.map_some, Option.some.injEq, exists_eq_left', inD_ints, shaped_int, shaped_ints, decide_eq_true ho]
    refine ⟨_, q.1, fun q2 hq2 => ?_, rfl⟩
    have := List.pairwise_map.mp h.up
    rw [show 0 + i + 1 = i + 1 by omega] at hq2
    have i1 := List.getElem?_eq_some_iff.mp hq
    have i2 := List.getElem?_eq_some_iff.mp hq2
    have := (List.pairwise_iff_getElem.mp this) i (i + 1) i1.1 i2.1 (by omega)
    rw [i1.2, i2.2] at this
    exact this
  · rintro s ⟨a, w, _, rfl⟩
    simp_all_arith []
theorem possible_D {l : List Pr} (hp : Plan many rows) (h : Cho rows l) : D g_is_possible [.dat (bookD eds rows ends), .dat (.tuple (l.map pairD))] m (.dat (.bool (decide (core (ownOf rows) l.length l = [])))) := by
  rw [g_is_possible, D.run, b_is_possible]
  simp_all_arith [(choice_D (eds := eds) (ends := ends) (m := m) hp h).iff, want_D.iff]
  refine CallOk.mono (ringof_ok (eds := eds) (ends := ends) (m := m) hp h.len (h.nm hp) fun q hq => (h.each q hq).1) fun v m' q => ?_
  obtain ⟨rfl, q | q⟩ := q
  · obtain ⟨q1, rfl⟩ := q
    simp_all_arith [isNone, q1]
  · obtain ⟨q1, path, i, _, _, rfl⟩ := q
    simp_all_arith [isNone, q1]
end
end FG

namespace FG
open PySem Fb FA FL
/-! all orders, each -/
def tups (many : Nat) : Nat → List (List Int)
  | 0 => [[]]
  | n + 1 => (tups many n).flatMap fun t => (rgI 0 many).map fun k => k :: t
theorem mem_tups {many : Nat} : ∀ {n : Nat} {p : List Int}, p.length = n → (∀ k ∈ p, 0 ≤ k ∧ k < many) → p ∈ tups many n
  | 0, p, h, _ => by
    have : p = [] := List.eq_nil_of_length_eq_zero h
    subst this
    exact List.mem_singleton.mpr rfl
  | n + 1, [], h, _ => by cases h
  | n + 1, k :: t, h, hb => by
    rw [tups, List.mem_flatMap]
    exact ⟨t, mem_tups (by simpa using h) fun x hx => hb x (List.mem_cons_of_mem _ hx), List.mem_map.mpr ⟨k, rgI_mem.mpr (hb k List.mem_cons_self), rfl⟩⟩
def AllO (many : Int) (ps : List (List Int)) : Prop := (∀ p ∈ ps, Order many p) ∧ ∀ p, Order many p → p ∈ ps
theorem order_each {many : Nat} {ps : List (List Int)} (h : ((tups many many).all fun p => !decide p.Nodup || decide (p ∈ ps)) = true) (p : List Int) (ho : Order (many : Nat) p) : p ∈ ps := by
  have hl : p.length = many := by
    have := ho.length_eq
    unfold rgI at this
    rw [List.length_map, List.length_range] at this
    omega
  have hn : p.Nodup := ho.nodup_iff.mpr ((rgI_up 0 (many : Nat)).imp fun h => by omega)
  have := List.all_eq_true.mp h p (mem_tups hl fun k hk => rgI_mem.mp (ho.mem_iff.mp hk))
  rw [decide_eq_true hn] at this
  exact of_decide_eq_true this
theorem order_perm {many : Int} {ps : List (List Int)} (h : (ps.all fun p => decide (isort p = rgI 0 many)) = true) : ∀ p ∈ ps, Order many p := fun p hp => by
  have := of_decide_eq_true (List.all_eq_true.mp h p hp)
  unfold Order
  rw [← this]
  exact (isort_perm p).symm
theorem allturns_all {many : Int} {m : Mu} (h0 : 1 ≤ many) (h1 : many ≤ 4) : ∃ ps, AllO many ps ∧ ps.length ≤ 24 ∧ D g_law_all_turns [.dat (.int many)] m (.uni (.list (ps.map fun p => .tuple (ofInts p)))) := by
  have hc : many = 1 ∨ many = 2 ∨ many = 3 ∨ many = 4 := by omega
  rcases hc with rfl | rfl | rfl | rfl
  · exact ⟨[[0]], ⟨order_perm (by decide +kernel), fun p ho => order_each (many := 1) (by decide +kernel) p ho⟩, by decide, D.eq (by kernel_rfl)⟩
  · exact ⟨[[0, 1], [1, 0]], ⟨order_perm (by decide +kernel), fun p ho => order_each (many := 2) (by decide +kernel) p ho⟩, by decide, D.eq (by kernel_rfl)⟩
  · exact ⟨[[0, 1, 2], [0, 2, 1], [1, 0, 2], [1, 2, 0], [2, 0, 1], [2, 1, 0]], ⟨order_perm (by decide +kernel), fun p ho => order_each (many := 3) (by decide +kernel) p ho⟩, by decide, D.eq (by kernel_rfl)⟩
  · exact ⟨[[0, 1, 2, 3], [0, 1, 3, 2], [0, 2, 1, 3], [0, 2, 3, 1], [0, 3, 1, 2], [0, 3, 2, 1], [1, 0, 2, 3], [1, 0, 3, 2], [1, 2, 0, 3], [1, 2, 3, 0], [1, 3, 0, 2], [1, 3, 2, 0], [2, 0, 1, 3], [2, 0, 3, 1], [2, 1, 0, 3], [2, 1, 3, 0], [2, 3, 0, 1], [2, 3, 1, 0], [3, 0, 1, 2], [3, 0, 2, 1], [3, 1, 0, 2], [3, 1, 2, 0], [3, 2, 0, 1], [3, 2, 1, 0]], ⟨order_perm (by decide +kernel), fun p ho => order_each (many := 4) (by decide +kernel) p ho⟩, by decide, D.eq (by kernel_rfl)⟩
end FG

namespace FG
open PySem Fb FA FL
section
variable {many : Int} {eds ends : List PyData} {rows : List Row} {m : Mu} {ps : List (List Int)} {l : List Pr}
theorem due_ff {p : List Int} (hp : Plan many rows) (ho : Order many p) {q : Pr} (hq : q ∈ dueP p rows) : ff p (ownOf rows q.1) = some q.2 := by
  obtain ⟨r, hr, rfl⟩ := List.mem_map.mp hq
  obtain ⟨k, _, _, e, _⟩ := ff_some ho (hp.own r hr)
  show ff p (ownOf rows r.1) = some ((ff p r.2.1).getD 0)
  unfold ownOf
  rw [rng_of hp.up hr]
  show ff p r.2.1 = _
  rw [e]
  rfl
theorem ff_due {p : List Int} (hp : Plan many rows) {q : Pr} (hn : q.1 ∈ rows.map (·.1)) (h : ff p (ownOf rows q.1) = some q.2) : q ∈ dueP p rows := by
  obtain ⟨r, hr, e1, e2, _⟩ := own_some hp hn
  refine List.mem_map.mpr ⟨r, hr, ?_⟩
  rw [e2] at h
  rw [h, e1]
  rfl
def givenB (rows : List Row) (ps : List (List Int)) (l : List Pr) : Bool := ps.any fun p => l.all fun q => decide (q ∈ dueP p rows)
/-- G2: possible exactly if some order gives it -/
theorem g2 (hp : Plan many rows) (h : Cho rows l) (ha : AllO many ps) : givenB rows ps l = decide (core (ownOf rows) l.length l = []) := by
  unfold givenB
  rw [Bool.eq_iff_iff, List.any_eq_true, decide_eq_true_eq]
  constructor
  · rintro ⟨p, hpm, hall⟩
    exact given_core (Nat.le_refl _) fun q hq => due_ff hp (ha.1 p hpm) (of_decide_eq_true (List.all_eq_true.mp hall q hq))
  · intro hc
    obtain ⟨p, ho, hf⟩ := core_whole (n := l.length) (fun q hq => (h.each q hq).2) (h.bd hp) hc
    exact ⟨p, ha.2 p ho, List.all_eq_true.mpr fun q hq => decide_eq_true (ff_due hp (h.each q hq).1 (hf q hq))⟩
/-- parts of what an order gives are possible -/
theorem part_possible {p : List Int} (hp : Plan many rows) (ho : Order many p) (h : ∀ q ∈ l, q ∈ dueP p rows) : core (ownOf rows) l.length l = [] := given_core (Nat.le_refl _) fun q hq => due_ff hp ho (h q hq)
theorem eqv_nilG {α : Type} (f : α → PyData) (l : List α) : PyData.eqv (.list (l.map f)) (.list []) = l.isEmpty := by cases l <;> rfl
def encO (rows : List Row) (p : List Int) : PyData := .tuple ((dueP p rows).map pairD)
theorem due_names {p : List Int} (hp : Plan many rows) : ∀ q ∈ dueP p rows, okName q.1 = true := fun q hq => by
  obtain ⟨r, hr, rfl⟩ := List.mem_map.mp hq
  exact hp.nm r hr
theorem shaped_tpairs {l : List Pr} (h : ∀ p ∈ l, okName p.1 = true) : SeqAt.shaped (.tuple (l.map pairD)) = true := shaped_tup (k := 1) (fun p hp => lay_pair (h p hp)) (fun _ _ => Nat.le_refl _) (by decide)
theorem shaped_every {ps : List (List Int)} (hp : Plan many rows) : SeqAt.shaped (.list (ps.map (encO rows))) = true := shaped_lst (k := 2) (fun p _ => lay_map fun q hq => lay_pair (due_names hp q hq)) (fun p _ => Nat.succ_le_succ (dep_map fun _ _ => Nat.le_refl 1)) (by decide)
end
end FG

namespace FO
open PySem Fb FA FL FG
/-! sequences, step by step -/
abbrev SP := List Int → Int → Bool
def nexts (many : Int) (P : SP) (s : List Int) : List Int := (rgI 0 many).filter fun e => !decide (e ∈ s) && P s e
def seqs (many : Int) (P : SP) : Nat → List (List Int)
  | 0 => [[]]
  | k + 1 => (seqs many P k).flatMap fun s => (nexts many P s).map fun e => s ++ [e]
def okS (P : SP) : List Int → List Int → Bool
  | _, [] => true
  | pre, e :: r => P pre e && okS P (pre ++ [e]) r
theorem okS_snoc (P : SP) : ∀ (s pre : List Int) (e : Int), okS P pre (s ++ [e]) = (okS P pre s && P (pre ++ s) e)
  | [], pre, e => by rw [List.nil_append, okS, okS, okS, List.append_nil, Bool.and_true, Bool.true_and]
  | a :: s, pre, e => by
    rw [List.cons_append, okS, okS, okS_snoc P s, Bool.and_assoc, List.append_assoc]
    rfl
def T : SP := fun _ _ => true
theorem flatMap_map {α β γ : Type} (f : α → List β) (g : β → γ) (l : List α) : (l.flatMap fun a => (f a).map g) = (l.flatMap f).map g := by
  induction l with
  | nil => rfl
  | cons a t ih => rw [List.flatMap_cons, List.flatMap_cons, List.map_append, ih]
theorem seqs_filter (many : Int) (P : SP) : ∀ k, seqs many P k = (seqs many T k).filter (okS P [])
  | 0 => rfl
  | k + 1 => by
    rw [seqs, seqs, seqs_filter many P k]
    generalize seqs many T k = l
    induction l with
    | nil => rfl
    | cons s t ih =>
      rw [List.flatMap_cons, List.filter_append, ← ih, List.filter_cons]
      have e : ((nexts many T s).map fun e => s ++ [e]).filter (okS P []) = if okS P [] s = true then (nexts many P s).map fun e => s ++ [e] else [] := by
        unfold nexts T
        induction rgI 0 many with
        | nil => by_cases c : okS P [] s = true <;> simp [c]
        | cons a r ih =>
          rw [List.filter_cons, List.filter_cons]
          by_cases h1 : a ∈ s
          · simp only [h1, decide_true, Bool.not_true, Bool.false_and, Bool.false_eq_true, if_false]
            exact ih
          · simp only [h1, decide_false, Bool.not_false, Bool.true_and, if_true]
            rw [List.map_cons, List.filter_cons, okS_snoc, List.nil_append, ih]
            by_cases c : okS P [] s = true
            · by_cases h2 : P s a = true
              · simp only [c, h2, Bool.and_self, if_true, List.map_cons]
              · have h2 : P s a = false := by simpa using h2
                simp only [c, h2, Bool.and_false, Bool.false_eq_true, if_false, if_true]
            · have c : okS P [] s = false := by simpa using c
              simp only [c, Bool.false_and, Bool.false_eq_true, if_false]
      rw [e]
      by_cases c : okS P [] s = true
      · rw [if_pos c, if_pos c, List.flatMap_cons]
      · rw [if_neg c, if_neg c, List.nil_append]
/-- a place gets what it should: step by step -/
def free (own : List Int) (k : Int) : SP := fun had e => !(decide (e ∈ own) && (!decide (e = k) && !decide (k ∈ had)))
theorem free_had {own : List Int} {k : Int} : ∀ (p pre : List Int), k ∈ pre → okS (free own k) pre p = true
  | [], _, _ => rfl
  | e :: r, pre, h => by
    rw [okS, free_had r _ (List.mem_append_left _ h), Bool.and_true]
    simp [free, h]
theorem free_first {own : List Int} {k : Int} (hk : k ∈ own) : ∀ (p pre : List Int), k ∉ pre → k ∈ p → okS (free own k) pre p = decide (ff p own = some k)
  | [], _, _, h => by cases h
  | e :: r, pre, h, hp => by
    rw [okS]
    unfold ff
    rw [List.find?_cons]
    by_cases c : e ∈ own
    · rw [decide_eq_true c]
      by_cases ek : e = k
      · subst ek
        rw [free_had r _ (List.mem_append_right _ (List.mem_singleton.mpr rfl))]
        simp [free]
      · have : free own k pre e = false := by simp [free, c, ek, h]
        rw [this, Bool.false_and]
        exact (decide_eq_false (fun z => ek (Option.some.inj z))).symm
    · rw [decide_eq_false c]
      have ek : e ≠ k := fun z => c (z ▸ hk)
      have : free own k pre e = true := by simp [free, c]
      rw [this, Bool.true_and]
      refine (free_first hk r _ ?_ ?_).trans rfl
      · rw [List.mem_append, List.mem_singleton]
        exact fun z => z.elim h fun z => ek z.symm
      · exact (List.mem_cons.mp hp).resolve_left fun z => ek z.symm
/-- all places of a choice -/
def canF (rows : List Row) (l : List Pr) : SP := fun had e => l.all fun q => free (ownOf rows q.1) q.2 had e
theorem okS_all {α : Type} (f : α → SP) (l : List α) : ∀ (p pre : List Int), okS (fun had e => l.all fun q => f q had e) pre p = l.all fun q => okS (f q) pre p
  | [], pre => by simp [okS]
  | e :: r, pre => by
    rw [okS, okS_all f l r]
    simp only [okS]
    rw [Bool.eq_iff_iff]
    simp only [Bool.and_eq_true, List.all_eq_true]
    exact ⟨fun h q hq => ⟨h.1 q hq, h.2 q hq⟩, fun h => ⟨fun q hq => (h q hq).1, fun q hq => (h q hq).2⟩⟩
theorem canF_gives {many : Int} {rows : List Row} {l : List Pr} {p : List Int} (hp : Plan many rows) (h : Cho rows l) (ho : Order many p) : okS (canF rows l) [] p = l.all fun q => decide (q ∈ dueP p rows) := by
  unfold canF
  rw [okS_all]
  rw [Bool.eq_iff_iff, List.all_eq_true, List.all_eq_true]
  have key : ∀ q ∈ l, okS (free (ownOf rows q.1) q.2) [] p = decide (q ∈ dueP p rows) := fun q hq => by
    have hb := h.bd hp q hq
    rw [free_first (h.each q hq).2 p [] (by simp) (ho.mem_iff.mpr (rgI_mem.mpr hb))]
    by_cases c : ff p (ownOf rows q.1) = some q.2
    · rw [decide_eq_true c, decide_eq_true (ff_due hp (h.each q hq).1 c)]
    · rw [decide_eq_false c, decide_eq_false fun z => c (due_ff hp ho z)]
  exact ⟨fun a q hq => by rw [← key q hq]; exact a q hq, fun a q hq => by rw [key q hq]; exact a q hq⟩
def allT (many : Int) : List (List Int) := seqs many T many.toNat
theorem allT_order {many : Int} (h0 : 1 ≤ many) (h1 : many ≤ 5) : ∀ p ∈ allT many, Order many p := by
  have hc : many = 1 ∨ many = 2 ∨ many = 3 ∨ many = 4 ∨ many = 5 := by omega
  rcases hc with rfl | rfl | rfl | rfl | rfl <;> exact order_perm (by decide +kernel)
theorem allT_len {many : Int} (h0 : 1 ≤ many) (h1 : many ≤ 5) : 1 ≤ (allT many).length ∧ (allT many).length ≤ 120 := by
  have hc : many = 1 ∨ many = 2 ∨ many = 3 ∨ many = 4 ∨ many = 5 := by omega
  rcases hc with rfl | rfl | rfl | rfl | rfl <;> decide +kernel
def cnt (many : Int) (rows : List Row) (l : List Pr) : Nat := (seqs many (canF rows l) many.toNat).length
theorem cnt_eq {many : Int} {rows : List Row} {l : List Pr} (hp : Plan many rows) (h : Cho rows l) : cnt many rows l = ((allT many).filter fun p => l.all fun q => decide (q ∈ dueP p rows)).length := by
  unfold cnt
  rw [seqs_filter]
  show ((allT many).filter _).length = _
  congr 1
  refine List.filter_congr fun p hpm => canF_gives hp h (allT_order hp.m1 hp.m5 p hpm)
/-! counted by sets -/
abbrev Tb := List (List Int × Int)
def sumT (t : Tb) (f : List Int → Int) : Int := (t.map fun p => p.2 * f p.1).sum
def getT (t : Tb) (k : List Int) : Int := ((t.find? fun p => decide (p.1 = k)).map (·.2)).getD 0
def putT (t : Tb) (k : List Int) (v : Int) : Tb := if (t.any fun p => decide (p.1 = k)) = true then t.map (fun p => if p.1 = k then (p.1, v) else p) else t ++ [(k, v)]
theorem sumT_none {k : List Int} {v : Int} {f : List Int → Int} : ∀ (t : Tb), k ∉ t.map (·.1) → sumT (t.map fun p => if p.1 = k then (p.1, v) else p) f = sumT t f
  | [], _ => rfl
  | p :: t, h => by
    rw [List.map_cons, List.mem_cons, not_or] at h
    have := sumT_none (v := v) (f := f) t h.2
    unfold sumT at this ⊢
    rw [List.map_cons, List.map_cons, List.map_cons, if_neg (fun z => h.1 z.symm), List.sum_cons, List.sum_cons, this]
theorem putT_sum {k : List Int} {c : Int} {f : List Int → Int} : ∀ (t : Tb), (t.map (·.1)).Nodup → sumT (putT t k (getT t k + c)) f = sumT t f + c * f k
  | [], _ => by simp [putT, getT, sumT]
  | p :: t, h => by
    rw [List.map_cons, List.nodup_cons] at h
    have ih := putT_sum (k := k) (c := c) (f := f) t h.2
    unfold putT getT at ih ⊢
    rw [List.any_cons, List.find?_cons]
    by_cases e : p.1 = k
    · rw [decide_eq_true e, Bool.true_or, if_pos rfl, List.map_cons, if_pos e]
      have nk : k ∉ t.map (·.1) := by rw [← e]; exact h.1
      have z := sumT_none (v := p.2 + c) (f := f) t nk
      simp only [Option.map_some, Option.getD_some]
      unfold sumT at z ⊢
      rw [List.map_cons, List.map_cons, List.sum_cons, List.sum_cons, z, e, Int.add_mul]
      omega
    · rw [decide_eq_false e, Bool.false_or]
      simp only []
      by_cases a : (t.any fun p => decide (p.1 = k)) = true
      · rw [if_pos a] at ih ⊢
        rw [List.map_cons, if_neg e]
        unfold sumT at ih ⊢
        rw [List.map_cons, List.map_cons, List.sum_cons, List.sum_cons, ih]
        omega
      · rw [if_neg a] at ih ⊢
        rw [List.cons_append]
        unfold sumT at ih ⊢
        rw [List.map_cons, List.map_cons, List.sum_cons, List.sum_cons, ih]
        omega
theorem keys_map {k : List Int} {v : Int} (t : Tb) : (t.map fun p => if p.1 = k then (p.1, v) else p).map (·.1) = t.map (·.1) := by
  rw [List.map_map]
  refine List.map_congr_left fun p _ => ?_
  show (if p.1 = k then (p.1, v) else p).1 = p.1
  split <;> rfl
theorem putT_keys {t : Tb} {k : List Int} {v : Int} : (putT t k v).map (·.1) = t.map (·.1) ∨ (k ∉ t.map (·.1) ∧ (putT t k v).map (·.1) = t.map (·.1) ++ [k]) := by
  unfold putT
  by_cases a : (t.any fun p => decide (p.1 = k)) = true
  · rw [if_pos a]; exact .inl (keys_map t)
  · rw [if_neg a]
    refine .inr ⟨fun z => a ?_, by rw [List.map_append]; rfl⟩
    obtain ⟨p, hp, e⟩ := List.mem_map.mp z
    exact List.any_eq_true.mpr ⟨p, hp, decide_eq_true e⟩
theorem putT_nodup {t : Tb} {k : List Int} {v : Int} (h : (t.map (·.1)).Nodup) : ((putT t k v).map (·.1)).Nodup := by
  rcases putT_keys (t := t) (k := k) (v := v) with e | ⟨n, e⟩
  · rw [e]; exact h
  · rw [e, List.nodup_append]
    exact ⟨h, List.nodup_cons.mpr ⟨List.not_mem_nil, List.nodup_nil⟩, fun a ha b hb z => by rw [List.mem_singleton] at hb; subst z hb; exact n ha⟩
theorem putT_len {t : Tb} {k : List Int} {v : Int} : (putT t k v).length ≤ t.length + 1 := by
  unfold putT
  split
  · rw [List.length_map]; omega
  · rw [List.length_append]; exact Nat.le_refl _
/-- the sum over all that can come next -/
def gN (many : Int) (P : SP) (f : List Int → Int) : List Int → Int := fun had => ((nexts many P had).map fun e => f (isort (had ++ [e]))).sum
theorem sum_append (a b : List Int) : (a ++ b).sum = a.sum + b.sum := by
  induction a with
  | nil => simp
  | cons x t ih => rw [List.cons_append, List.sum_cons, List.sum_cons, ih]; omega
theorem isort_same {a b : List Int} (h : a.Perm b) : isort a = isort b := sorted_eq (((isort_perm a).trans h).trans (isort_perm b).symm) (isort_sorted a) (isort_sorted b)
def Inv (P : SP) : Prop := ∀ a b e, (∀ x, x ∈ a ↔ x ∈ b) → P a e = P b e
theorem nexts_same {many : Int} {P : SP} (hP : Inv P) {a b : List Int} (h : ∀ x, x ∈ a ↔ x ∈ b) : nexts many P a = nexts many P b := by
  unfold nexts
  refine List.filter_congr fun e _ => ?_
  rw [hP a b e h]
  by_cases c : e ∈ a
  · rw [decide_eq_true c, decide_eq_true ((h e).mp c)]
  · rw [decide_eq_false c, decide_eq_false fun z => c ((h e).mpr z)]
theorem gN_seq {many : Int} {P : SP} (hP : Inv P) (f : List Int → Int) (s : List Int) : gN many P f (isort s) = ((nexts many P s).map fun e => f (isort (s ++ [e]))).sum := by
  unfold gN
  rw [nexts_same hP (a := isort s) (b := s) fun x => (isort_perm s).mem_iff]
  congr 1
  refine List.map_congr_left fun e _ => ?_
  rw [isort_same ((isort_perm s).append_right [e])]
theorem sum_seqs {many : Int} {P : SP} (hP : Inv P) (f : List Int → Int) (k : Nat) : ((seqs many P k).map fun s => gN many P f (isort s)).sum = ((seqs many P (k + 1)).map fun s => f (isort s)).sum := by
  rw [seqs]
  generalize seqs many P k = l
  induction l with
  | nil => rfl
  | cons s t ih =>
    rw [List.map_cons, List.sum_cons, ih, List.flatMap_cons, List.map_append, sum_append, gN_seq hP, List.map_map]
    rfl
theorem canF_inv (rows : List Row) (l : List Pr) : Inv (canF rows l) := fun a b e h => by
  unfold canF free
  congr 1
  funext q
  have : decide (q.2 ∈ a) = decide (q.2 ∈ b) := decide_eq_decide.mpr (h q.2)
  rw [this]
theorem sum_ones {α : Type} (l : List α) : (l.map fun _ => (1 : Int)).sum = l.length := by
  induction l with
  | nil => rfl
  | cons a t ih => rw [List.map_cons, List.sum_cons, ih, List.length_cons]; omega
end FO

namespace FO
open PySem Fb FA FL FG
def keyT (k : List Int) : PyData := .tuple (ofInts k)
def encT (t : Tb) : List (PyData × PyData) := t.map fun p => (keyT p.1, .int p.2)
theorem eqvAll_ints : ∀ a b : List Int, PyData.eqvAll (ofInts a) (ofInts b) = decide (a = b)
  | [], [] => rfl
  | [], _ :: _ => rfl
  | _ :: _, [] => rfl
  | x :: a, y :: b => by
    show (PyData.eqv (.int x) (.int y) && PyData.eqvAll (ofInts a) (ofInts b)) = _
    rw [eqvAll_ints a b]
    show ((x == y) && decide (a = b)) = _
    rw [Bool.eq_iff_iff]
    simp
theorem eqv_key (a b : List Int) : PyData.eqv (keyT a) (keyT b) = decide (a = b) := eqvAll_ints a b
theorem nks_ints : ∀ l : List Int, nks? (ofInts l) = some (l.map NestedKey.num)
  | [] => rfl
  | x :: l => by
    show (nk? (.int x)).bind _ = _
    show (nks? (ofInts l)).map (NestedKey.num x :: ·) = _
    rw [nks_ints l]
    rfl
theorem depth_nums : ∀ l : List Int, NestedKey.depthAll (l.map NestedKey.num) = 0
  | [] => rfl
  | x :: l => by
    show max 0 (NestedKey.depthAll (l.map NestedKey.num)) = 0
    rw [depth_nums l]
    rfl
theorem tk_ints (l : List Int) : isTK (keyT l) = true := by
  unfold keyT isTK
  dsimp only
  have e : nk? (.tuple (ofInts l)) = some (.tup (l.map NestedKey.num)) := by
    show (nks? (ofInts l)).map NestedKey.tup = _
    rw [nks_ints]
    rfl
  rw [e]
  show decide (NestedKey.depthAll (l.map NestedKey.num) + 1 ≤ 8) = true
  rw [depth_nums]
  rfl
theorem tGet_enc (k : List Int) : ∀ t : Tb, tGet (encT t) (keyT k) = (t.find? fun p => decide (p.1 = k)).map fun p => .int p.2
  | [] => rfl
  | p :: t => by
    have ih := tGet_enc k t
    unfold tGet encT at ih ⊢
    rw [List.map_cons, List.find?_cons, List.find?_cons, eqv_key]
    by_cases e : p.1 = k
    · simp only [e, decide_true, Option.map_some]
    · simp only [e, decide_false]
      exact ih
theorem tGetD_enc (k : List Int) (t : Tb) : (tGet (encT t) (keyT k)).getD (.int 0) = .int (getT t k) := by
  rw [tGet_enc]
  unfold getT
  cases t.find? fun p => decide (p.1 = k) <;> rfl
theorem tPut_enc (k : List Int) (v : Int) (t : Tb) : tPut (encT t) (keyT k) (.int v) = encT (putT t k v) := by
  have e1 : ((encT t).any fun p => PyData.eqv p.1 (keyT k)) = t.any fun p => decide (p.1 = k) := by
    unfold encT
    rw [List.any_map]
    congr 1
    funext p
    exact eqv_key p.1 k
  unfold tPut putT
  rw [e1]
  split
  · unfold encT
    rw [List.map_map, List.map_map]
    refine List.map_congr_left fun p _ => ?_
    show (if PyData.eqv (keyT p.1) (keyT k) = true then (keyT p.1, .int v) else (keyT p.1, PyData.int p.2)) = _
    rw [eqv_key]
    by_cases e : p.1 = k
    · rw [if_pos (decide_eq_true e)]
      show _ = (keyT (if p.1 = k then (p.1, v) else p).1, PyData.int (if p.1 = k then (p.1, v) else p).2)
      rw [if_pos e]
    · rw [if_neg (by rw [decide_eq_false e]; exact Bool.false_ne_true)]
      show _ = (keyT (if p.1 = k then (p.1, v) else p).1, PyData.int (if p.1 = k then (p.1, v) else p).2)
      rw [if_neg e]
  · unfold encT
    rw [List.map_append]
    rfl
theorem ints_of : ∀ l : List Int, ints? (ofInts l) = some l
  | [] => rfl
  | x :: l => by show (ints? (ofInts l)).map (x :: ·) = _; rw [ints_of l]; rfl
theorem encT_vals (t : Tb) : (encT t).map (·.2) = ofInts (t.map (·.2)) := by unfold encT ofInts; rw [List.map_map, List.map_map]; rfl
theorem encT_items (t : Tb) : ((encT t).map fun p => PyData.tuple [p.1, p.2]) = t.map fun p => .tuple [keyT p.1, .int p.2] := by unfold encT; rw [List.map_map]; rfl
section
variable {many : Int} {eds ends : List PyData} {rows : List Row} {m : Mu} {w : World} {l : List Pr}
theorem can_D {had : List Int} {e : Int} (hr : ∀ q ∈ l, q.1 ∈ rows.map (·.1)) : D g_can_follow [.dat (.dict (rngE rows)), .dat (.tuple (l.map pairD)), .dat (.tuple (ofInts had)), .dat (.int e)] m (.dat (.bool (canF rows l had e))) := by
  rw [g_can_follow, D.run, b_can_follow]
  simp_all_arith []
  refine for_E (enc := pairD) (fun (_ : Unit) s => ∃ (a b : Fb.Slot), s = ⟨[.val (.dict (rngE rows)), .val (.tuple (l.map pairD)), .val (.tuple (ofInts had)), .val (.int e), a, b], m⟩) (fun s => s.m = m) (fun _ q => match free (ownOf rows q.1) q.2 had e with | true => .inl () | false => .inr (.dat (.bool false))) l () _ ⟨_, _, rfl⟩ ?_ ?_
  · rintro q hq _ s ⟨a, b, rfl⟩
    obtain ⟨own, o1, o2⟩ := rng_ex (hr q hq)
    have pD : pairD q = .tuple [.str q.1, .int q.2] := rfl
    have hfr : free (ownOf rows q.1) q.2 had e = !(decide (e ∈ own) && (!decide (e = q.2) && !decide (q.2 ∈ had))) := by rw [o2]; rfl
    simp_all_arith [pD, rngE_get, o1, isKey, Option.map_some, Option.some.injEq, exists_eq_left', inD_ints, shaped_int, shaped_ints]
    by_cases c1 : e ∈ own
    · by_cases c2 : e = q.2
      · have hf : free (ownOf rows q.1) q.2 had e = true := by rw [hfr]; simp [c2]
        rw [hf]
        subst c2
        simp_all_arith [c1]
        exact ⟨_, _, rfl⟩
      · by_cases c3 : q.2 ∈ had
        · have hf : free (ownOf rows q.1) q.2 had e = true := by rw [hfr]; simp [c3]
          rw [hf]
          simp_all_arith [c1, c2, c3, inD_ints, shaped_int, shaped_ints]
          exact ⟨_, _, rfl⟩
        · have hf : free (ownOf rows q.1) q.2 had e = false := by rw [hfr]; simp [c1, c2, c3]
          rw [hf]
          simp_all_arith [c1, c2, c3, inD_ints, shaped_int, shaped_ints]
    · have hf : free (ownOf rows q.1) q.2 had e = true := by rw [hfr]; simp [c1]
      rw [hf]
      simp_all_arith [c1]
      exact ⟨_, _, rfl⟩
  · intro s
    have key : ∀ l : List Pr, foldE (fun (_ : Unit) (q : Pr) => match free (ownOf rows q.1) q.2 had e with | true => (Sum.inl () : Unit ⊕ Val) | false => .inr (Val.dat (.bool false))) () l = if canF rows l had e = true then .inl () else .inr (.dat (.bool false)) := fun l => by
      induction l with
      | nil => rfl
      | cons q t ih =>
        by_cases c : free (ownOf rows q.1) q.2 had e = true
        · rw [foldE_inl (st' := ()) (by rw [c]), ih]
          have : canF rows (q :: t) had e = canF rows t had e := by simp [canF, c]
          rw [this]
        · rw [foldE_inr (v := .dat (.bool false)) (by rw [Bool.eq_false_iff.mpr c])]
          have : canF rows (q :: t) had e = false := by simp [canF, c]
          rw [this]
          rfl
    rw [key]
    by_cases c : canF rows l had e = true
    · rw [if_pos c, c]
      rintro ⟨a, b, rfl⟩
      simp_all_arith []
    · rw [if_neg c]
      have c : canF rows l had e = false := by simpa using c
      rw [c]
      intro h
      obtain ⟨es, ms⟩ := s
      have h : ms = m := h
      subst h
      simp_all_arith []
end
end FO

namespace FO
open PySem Fb FA FL FG
theorem sort_any {p : List Int} (hl : p.length ≤ 1000) : sort? (ofInts p) = some (ofInts (isort p)) := by
  have hc : ((ofInts p).all fun d => (ofInts p).all fun e => PySem.W.alike d e) = true := by
    rw [List.all_eq_true]
    intro d hd
    rw [List.all_eq_true]
    intro e he
    obtain ⟨x, _, rfl⟩ := List.mem_map.mp hd
    obtain ⟨y, _, rfl⟩ := List.mem_map.mp he
    rfl
  have hp : ((ofInts p).all isPlain1) = true := by
    rw [List.all_eq_true]
    intro d hd
    obtain ⟨x, _, rfl⟩ := List.mem_map.mp hd
    rfl
  have hz : decide ((ofInts p).length ≤ 16777216) = true := decide_eq_true (by rw [ofInts_len]; omega)
  unfold sort?
  rw [if_pos (by rw [hc, hp, ints_shaped, hz]; cases (ofInts p).all isTupC <;> rfl)]
  have h1 := sortB_sorted (le := leD) leD_total (ofInts p)
  have h2 := sortB_perm (le := leD) (ofInts p)
  obtain ⟨q, hq⟩ : ∃ q, sortB leD (ofInts p) = ofInts q := by
    have : ∀ l : List PyData, (∀ d ∈ l, ∃ i, d = .int i) → ∃ q, l = ofInts q := fun l => by
      induction l with
      | nil => exact fun _ => ⟨[], rfl⟩
      | cons a t ih =>
        intro h
        obtain ⟨i, rfl⟩ := h a List.mem_cons_self
        obtain ⟨q, rfl⟩ := ih fun d hd => h d (List.mem_cons_of_mem _ hd)
        exact ⟨i :: q, rfl⟩
    refine this _ fun d hd => ?_
    obtain ⟨x, _, rfl⟩ := List.mem_map.mp (h2.mem_iff.mp hd)
    exact ⟨x, rfl⟩
  rw [hq] at h1 h2 ⊢
  have h3 : q.Pairwise (· ≤ ·) := by
    unfold ofInts at h1
    rw [List.pairwise_map] at h1
    exact h1.imp fun h => by rw [leD_int, decide_eq_true_eq] at h; exact h
  have h4 : q.Perm p := by
    have : (q.map PyData.int).Perm (p.map PyData.int) := h2
    have := this.filterMap fun d => match d with | .int i => some i | _ => none
    have e : ∀ l : List Int, (l.map PyData.int).filterMap (fun d => match d with | .int i => some i | _ => none) = l := fun l => by
      induction l with
      | nil => rfl
      | cons a t ih => rw [List.map_cons, List.filterMap_cons]; show a :: _ = _; rw [ih]
    rw [e, e] at this
    exact this
  rw [sorted_eq (h4.trans (isort_perm p).symm) h3 (isort_sorted p)]
theorem rgI_len (many : Int) : (rgI 0 many).length = many.toNat := by unfold rgI; rw [List.length_map, List.length_range]; omega
section
variable {many : Int} {eds ends : List PyData} {rows : List Row} {m : Mu} {w : World} {l : List Pr}
/-- one key more -/
def addT (t : Tb) (k : List Int) (c : Int) : Tb := putT t k (getT t k + c)
def stepT (P : SP) (had : List Int) (c : Int) (t : Tb) (e : Int) : Tb := if (!decide (e ∈ had) && P had e) = true then addT t (isort (had ++ [e])) c else t
theorem stepT_sum {P : SP} {had : List Int} {c : Int} {f : List Int → Int} : ∀ (es : List Int) (t : Tb), (t.map (·.1)).Nodup → sumT (es.foldl (stepT P had c) t) f = sumT t f + c * (((es.filter fun e => !decide (e ∈ had) && P had e).map fun e => f (isort (had ++ [e]))).sum) ∧ ((es.foldl (stepT P had c) t).map (·.1)).Nodup ∧ (es.foldl (stepT P had c) t).length ≤ t.length + es.length
  | [], t, h => by
    refine ⟨?_, h, Nat.le_refl _⟩
    show sumT t f = sumT t f + c * 0
    omega
  | e :: es, t, h => by
    rw [List.foldl_cons, List.filter_cons]
    by_cases q : (!decide (e ∈ had) && P had e) = true
    · have es1 : stepT P had c t e = addT t (isort (had ++ [e])) c := if_pos q
      rw [es1, if_pos q]
      have hs : sumT (addT t (isort (had ++ [e])) c) f = sumT t f + c * f (isort (had ++ [e])) := putT_sum t h
      have hn : ((addT t (isort (had ++ [e])) c).map (·.1)).Nodup := putT_nodup h
      have hl : (addT t (isort (had ++ [e])) c).length ≤ t.length + 1 := putT_len
      obtain ⟨i1, i2, i3⟩ := stepT_sum (P := P) (had := had) (c := c) (f := f) es _ hn
      refine ⟨?_, i2, by rw [List.length_cons]; omega⟩
      rw [i1, hs, List.map_cons, List.sum_cons, Int.mul_add]
      omega
    · have es1 : stepT P had c t e = t := if_neg q
      rw [es1, if_neg q]
      obtain ⟨i1, i2, i3⟩ := stepT_sum (P := P) (had := had) (c := c) (f := f) es t h
      exact ⟨i1, i2, by rw [List.length_cons]; omega⟩
def lapT (many : Int) (P : SP) (t : Tb) : Tb := t.foldl (fun acc p => (rgI 0 many).foldl (stepT P p.1 p.2) acc) []
theorem lapT_sum {P : SP} {f : List Int → Int} : ∀ (t acc : Tb), (acc.map (·.1)).Nodup → sumT (t.foldl (fun acc p => (rgI 0 many).foldl (stepT P p.1 p.2) acc) acc) f = sumT acc f + sumT t (gN many P f) ∧ ((t.foldl (fun acc p => (rgI 0 many).foldl (stepT P p.1 p.2) acc) acc).map (·.1)).Nodup ∧ (t.foldl (fun acc p => (rgI 0 many).foldl (stepT P p.1 p.2) acc) acc).length ≤ acc.length + t.length * many.toNat
  | [], acc, h => by
    refine ⟨?_, h, Nat.le_add_right _ _⟩
    show sumT acc f = sumT acc f + 0
    omega
  | p :: t, acc, h => by
    rw [List.foldl_cons]
    obtain ⟨i1, i2, i3⟩ := stepT_sum (P := P) (had := p.1) (c := p.2) (f := f) (rgI 0 many) acc h
    obtain ⟨j1, j2, j3⟩ := lapT_sum (P := P) (f := f) t _ i2
    refine ⟨?_, j2, ?_⟩
    · rw [j1, i1]
      show _ = sumT acc f + (p.2 * gN many P f p.1 + sumT t (gN many P f))
      unfold gN nexts
      omega
    · rw [rgI_len] at i3
      rw [List.length_cons, Nat.succ_mul]
      omega
def tabs (many : Int) (P : SP) : Nat → Tb
  | 0 => [([], 1)]
  | k + 1 => lapT many P (tabs many P k)
theorem tabs_nodup {P : SP} : ∀ k, ((tabs many P k).map (·.1)).Nodup
  | 0 => by unfold tabs; exact List.nodup_cons.mpr ⟨List.not_mem_nil, List.nodup_nil⟩
  | k + 1 => (lapT_sum (f := fun _ => 0) (tabs many P k) [] List.nodup_nil).2.1
theorem tabs_len {P : SP} : ∀ k, (tabs many P k).length ≤ many.toNat ^ k
  | 0 => Nat.le_refl _
  | k + 1 => by
    have h := (lapT_sum (many := many) (P := P) (f := fun _ => 0) (tabs many P k) [] List.nodup_nil).2.2
    have ih := tabs_len (P := P) k
    rw [List.length_nil, Nat.zero_add] at h
    exact Nat.le_trans h (by rw [Nat.pow_succ]; exact Nat.mul_le_mul_right _ ih)
theorem tabs_sum {P : SP} (hP : Inv P) : ∀ (k : Nat) (f : List Int → Int), sumT (tabs many P k) f = ((seqs many P k).map fun s => f (isort s)).sum
  | 0, f => by show 1 * f [] + 0 = f [] + 0; omega
  | k + 1, f => by
    have h := (lapT_sum (many := many) (P := P) (f := f) (tabs many P k) [] List.nodup_nil).1
    rw [← sum_seqs hP, ← tabs_sum hP k (gN many P f)]
    show sumT (tabs many P (k + 1)) f = _
    rw [tabs]
    unfold lapT
    rw [h]
    show 0 + _ = _
    omega
theorem tabs_small {P : SP} (h5 : many ≤ 5) {k : Nat} (hk : k ≤ many.toNat) : (tabs many P k).length ≤ 3125 := by
  refine Nat.le_trans (tabs_len k) (Nat.le_trans (Nat.pow_le_pow_left (show many.toNat ≤ 5 by omega) k) (Nat.le_trans (Nat.pow_le_pow_right (by decide) (show k ≤ 5 by omega)) (by decide)))
/-- keys are lists of at most so many -/
theorem keys_len {P : SP} : ∀ k, ∀ p ∈ tabs many P k, p.1.length = k := by
  have st : ∀ (n : Nat) (had : List Int) (c : Int) (es : List Int) (t : Tb), had.length = n → (∀ p ∈ t, p.1.length = n + 1) → ∀ p ∈ es.foldl (stepT P had c) t, p.1.length = n + 1 := fun n had c es => by
    induction es with
    | nil => exact fun t _ h => h
    | cons e es ih =>
      intro t hn h
      rw [List.foldl_cons]
      refine ih _ hn fun p hp => ?_
      unfold stepT at hp
      split at hp
      · have hm : p.1 ∈ (addT t (isort (had ++ [e])) c).map (·.1) := List.mem_map_of_mem hp
        unfold addT at hm
        have old : p.1 ∈ t.map (·.1) → p.1.length = n + 1 := fun z => by obtain ⟨q, hq, e1⟩ := List.mem_map.mp z; rw [← e1]; exact h q hq
        rcases putT_keys (t := t) (k := isort (had ++ [e])) (v := getT t (isort (had ++ [e])) + c) with z | ⟨_, z⟩
        · rw [z] at hm; exact old hm
        · rw [z, List.mem_append, List.mem_singleton] at hm
          rcases hm with hm | hm
          · exact old hm
          · rw [hm, (isort_perm _).length_eq, List.length_append, hn]; rfl
      · exact h p hp
  intro k
  induction k with
  | zero => intro p hp; rw [tabs, List.mem_singleton] at hp; subst hp; rfl
  | succ k ih =>
    rw [tabs]
    unfold lapT
    have lp : ∀ (t acc : Tb), (∀ p ∈ t, p.1.length = k) → (∀ p ∈ acc, p.1.length = k + 1) → ∀ p ∈ t.foldl (fun acc p => (rgI 0 many).foldl (stepT P p.1 p.2) acc) acc, p.1.length = k + 1 := fun t => by
      induction t with
      | nil => exact fun acc _ h => h
      | cons q t iht =>
        intro acc h1 h2
        rw [List.foldl_cons]
        exact iht _ (fun p hp => h1 p (List.mem_cons_of_mem _ hp)) (st k q.1 q.2 (rgI 0 many) acc (h1 q List.mem_cons_self) h2)
    exact lp _ [] ih fun p hp => by cases hp
theorem orders_D (hp : Plan many rows) (he : (eds.length : Int) = many) (hr : ∀ q ∈ l, q.1 ∈ rows.map (·.1)) : D (g_orders_of w) [.dat (bookD eds rows ends), .dat (.tuple (l.map pairD))] m (.dat (.int (cnt many rows l))) := by
  have rl := hp.len
  have m1 := hp.m1
  have m5 := hp.m5
  rw [g_orders_of, D.run, b_orders_of]
  have tk0 : isTK (.tuple []) = true := tk_ints []
  simp_all_arith [(ranges_D (eds := eds) (ends := ends) (m := m) hp.up (by omega)).iff, ↓d_bk0, he, tk0]
  refine ⟨rg_small (by omega) (by omega) (by omega) (by omega), ?_⟩
  rw [rgD_eq]
  refine for_DI (enc := PyData.int) (fun i (t : Tb) s => ∃ (a3 a4 a6 a7 a8 a9 a10 : Fb.Slot), (a4 = .own (.dict (rngE rows)) ∨ a4 = .val (.dict (rngE rows))) ∧ t = tabs many (canF rows l) i ∧ s = ⟨[.val (bookD eds rows ends), .val (.tuple (l.map pairD)), .tab w (encT t), a3, a4, .val (.list (ofInts (rgI 0 many))), a6, a7, a8, a9, a10], m⟩) (fun t _ => lapT many (canF rows l) t) (rgI 0 many) (tabs many (canF rows l) 0) _ 0 ⟨_, _, _, _, _, _, _, .inl rfl, rfl, rfl⟩ ?_ ?_
  · rintro i x hx hi t s ⟨a3, a4, a6, a7, a8, a9, a10, h4, rfl, rfl⟩
    rw [rgI_len] at hi
    have hi : i < many.toNat := by omega
    have hkl := keys_len (many := many) (P := canF rows l) i
    have hsm : (tabs many (canF rows l) i).length ≤ 3125 := tabs_small m5 (by omega)
    have htt : lapT many (canF rows l) (tabs many (canF rows l) i) = tabs many (canF rows l) (i + 1) := rfl
    generalize tabs many (canF rows l) i = t at hkl hsm htt
    simp_all_arith [encT_items]
    refine for_DI (enc := fun p : List Int × Int => PyData.tuple [keyT p.1, .int p.2]) (fun n (acc : Tb) s => ∃ (a4 a7 a8 a9 a10 : Fb.Slot), (a4 = .own (.dict (rngE rows)) ∨ a4 = .val (.dict (rngE rows))) ∧ acc.length ≤ n * 5 ∧ (acc.map (·.1)).Nodup ∧ s = ⟨[.val (bookD eds rows ends), .val (.tuple (l.map pairD)), .unset, .val (.int x), a4, .val (.list (ofInts (rgI 0 many))), .tab w (encT acc), a7, a8, a9, a10], m⟩) (fun acc p => (rgI 0 many).foldl (stepT (canF rows l) p.1 p.2) acc) t [] _ 0 ⟨_, _, _, _, _, h4, Nat.zero_le _, List.nodup_nil, rfl⟩ ?_ ?_
    · rintro j p hpm hj acc s ⟨b4, b7, b8, b9, b10, g4, gl, gn, rfl⟩
      have hpl := hkl p hpm
      have kt : keyT p.1 = .tuple (ofInts p.1) := rfl
      simp_all_arith [kt]
      refine for_DI (enc := PyData.int) (fun n (ac : Tb) s => ∃ (a4 a9 a10 : Fb.Slot), (a4 = .own (.dict (rngE rows)) ∨ a4 = .val (.dict (rngE rows))) ∧ ac.length ≤ acc.length + n ∧ (ac.map (·.1)).Nodup ∧ s = ⟨[.val (bookD eds rows ends), .val (.tuple (l.map pairD)), .unset, .val (.int x), a4, .val (.list (ofInts (rgI 0 many))), .tab w (encT ac), .val (.tuple (ofInts p.1)), .val (.int p.2), a9, a10], m⟩) (stepT (canF rows l) p.1 p.2) (rgI 0 many) acc _ 0 ⟨_, _, _, g4, Nat.le_refl _, gn, rfl⟩ ?_ ?_
      · rintro n e hem hn ac s ⟨c4, c9, c10, k4, kl, kn, rfl⟩
        rw [rgI_len] at hn
        have cD := can_D (rows := rows) (l := l) (m := m) (had := p.1) (e := e) hr
        have hsz : ac.length < 16777216 := by omega
        have sn : ofInts p.1 ++ [PyData.int e] = ofInts (p.1 ++ [e]) := by unfold ofInts; rw [List.map_append]; rfl
        have srt : sort? (ofInts (p.1 ++ [e])) = some (ofInts (isort (p.1 ++ [e]))) := sort_any (by rw [List.length_append, hpl]; show i + 1 ≤ 1000; omega)
        have tk := tk_ints (isort (p.1 ++ [e]))
        have tg := tGetD_enc (isort (p.1 ++ [e])) ac
        have tp := tPut_enc (isort (p.1 ++ [e])) (getT ac (isort (p.1 ++ [e])) + p.2) ac
        have hel : (encT ac).length = ac.length := List.length_map _
        unfold keyT at tk tg tp
        have nd : ((addT ac (isort (p.1 ++ [e])) p.2).map (·.1)).Nodup := putT_nodup kn
        have ln : (addT ac (isort (p.1 ++ [e])) p.2).length ≤ ac.length + 1 := putT_len
        by_cases c1 : e ∈ p.1
        · have se : stepT (canF rows l) p.1 p.2 ac e = ac := by simp [stepT, c1]
          rw [se]
          simp_all_arith [inD_ints, shaped_int, shaped_ints, c1]
          exact ⟨_, _, _, k4, by omega, kn, rfl⟩
        · by_cases c2 : canF rows l p.1 e = true
          · have se : stepT (canF rows l) p.1 p.2 ac e = addT ac (isort (p.1 ++ [e])) p.2 := by simp [stepT, c1, c2]
            rw [se]
            rcases k4 with rfl | rfl
            · simp_all_arith [inD_ints, shaped_int, shaped_ints, c1, cD.iff, c2, sn, srt, Option.some.injEq, exists_eq_left', tk, tg, tp, hel]
              refine ⟨by rw [ofInts_len, hpl]; show _ ≤ 16777216; omega, hsz, _, _, _, .inr rfl, by omega, nd, rfl⟩
            · simp_all_arith [inD_ints, shaped_int, shaped_ints, c1, cD.iff, c2, sn, srt, Option.some.injEq, exists_eq_left', tk, tg, tp, hel]
              refine ⟨by rw [ofInts_len, hpl]; show _ ≤ 16777216; omega, hsz, _, _, _, .inr rfl, by omega, nd, rfl⟩
          · have c2 : canF rows l p.1 e = false := by simpa using c2
            have se : stepT (canF rows l) p.1 p.2 ac e = ac := by simp [stepT, c2]
            rw [se]
            rcases k4 with rfl | rfl
            · simp_all_arith [inD_ints, shaped_int, shaped_ints, c1, cD.iff, c2]
              exact ⟨_, _, _, .inr rfl, by omega, kn, rfl⟩
            · simp_all_arith [inD_ints, shaped_int, shaped_ints, c1, cD.iff, c2]
              exact ⟨_, _, _, .inr rfl, by omega, kn, rfl⟩
      · rintro s ⟨c4, c9, c10, k4, kl, kn, rfl⟩
        rw [rgI_len] at kl
        simp_all_arith []
        exact ⟨_, _, _, _, _, k4, by omega, kn, rfl⟩
    · rintro s ⟨b4, b7, b8, b9, b10, g4, gl, gn, rfl⟩
      simp_all_arith []
      exact ⟨_, _, _, _, _, _, _, g4, htt, rfl⟩
  · rintro s ⟨a3, a4, a6, a7, a8, a9, a10, h4, ht, rfl⟩
    rw [rgI_len, Nat.zero_add] at ht
    simp_all_arith [encT_vals, ints_of]
    refine ⟨_, rfl, ?_⟩
    rw [ht]
    have h1 := tabs_sum (many := many) (canF_inv rows l) many.toNat fun _ => 1
    have h2 : ((tabs many (canF rows l) many.toNat).map (·.2)).sum = sumT (tabs many (canF rows l) many.toNat) fun _ => 1 := by
      unfold sumT
      congr 1
      refine List.map_congr_left fun p _ => ?_
      rw [Int.mul_one]
    rw [h2, h1, sum_ones]
    rfl
end
end FO

namespace FG
open PySem Fb FA FL
section
variable {many : Int} {eds ends : List PyData} {rows : List Row} {m : Mu} {ps : List (List Int)} {l : List Pr}
/-- a choice of all places -/
def Full (rows : List Row) (l : List Pr) : Prop := l.map (·.1) = rows.map (·.1) ∧ ∀ q ∈ l, q.2 ∈ ownOf rows q.1
theorem Cho.sub {l l' : List Pr} (h : Cho rows l) (hs : l'.Sublist l) : Cho rows l' := ⟨h.up.sublist (hs.map _), fun q hq => h.each q (hs.subset hq), Nat.le_trans hs.length_le h.len⟩
theorem Full.cho {l : List Pr} (hp : Plan many rows) (h : Full rows l) : Cho rows l := by
  refine ⟨by rw [h.1]; exact hp.up, fun q hq => ⟨by rw [← h.1]; exact List.mem_map.mpr ⟨q, hq, rfl⟩, h.2 q hq⟩, ?_⟩
  have := congrArg List.length h.1
  rw [List.length_map, List.length_map] at this
  have := hp.len
  omega
theorem due_full {p : List Int} (hp : Plan many rows) (ho : Order many p) : Full rows (dueP p rows) := by
  refine ⟨by unfold dueP; rw [List.map_map]; rfl, fun q hq => ?_⟩
  exact (ff_mem (due_ff hp ho hq)).2
/-- pairs, row by row -/
theorem pairs_of_rows (hp : Plan many rows) {os : List (Option PyData)} (hl : os.length = (rows.map rowD).length) (ho : ∀ (i : Nat) (d : PyData), (rows.map rowD)[i]? = some d → ∃ o, os[i]? = some o ∧ ∃ r ∈ rows, d = rowD r ∧ ∃ k ∈ r.2.1, o = some (pairD (r.1, k))) : ∃ l, os.filterMap id = l.map pairD ∧ Full rows l := by
  have key : ∀ (rs : List Row) (os : List (Option PyData)), (∀ r ∈ rs, r ∈ rows) → os.length = (rs.map rowD).length → (∀ (i : Nat) (d : PyData), (rs.map rowD)[i]? = some d → ∃ o, os[i]? = some o ∧ ∃ r ∈ rows, d = rowD r ∧ ∃ k ∈ r.2.1, o = some (pairD (r.1, k))) → ∃ l : List Pr, os.filterMap id = l.map pairD ∧ l.map (·.1) = rs.map (·.1) ∧ ∀ q ∈ l, q.2 ∈ ownOf rows q.1 := fun rs => by
    induction rs with
    | nil => intro os _ h1 _; cases os with
      | nil => exact ⟨[], rfl, rfl, by simp⟩
      | cons _ _ => cases h1
    | cons r t ih =>
      intro os hr h1 h2
      cases os with
      | nil => cases h1
      | cons o os =>
        obtain ⟨o', q1, r', hr', q2, k, hk, q3⟩ := h2 0 (rowD r) rfl
        cases q1
        have er : r'.1 = r.1 := by
          have q2 : PyData.tuple [.str r.1, .tuple (ofInts r.2.1), .str r.2.2] = .tuple [.str r'.1, .tuple (ofInts r'.2.1), .str r'.2.2] := q2
          injection q2 with q2
          injection q2 with q2 _
          injection q2 with q2
          exact q2.symm
        subst q3
        obtain ⟨l, e1, e2, e3⟩ := ih os (fun x hx => hr x (List.mem_cons_of_mem _ hx)) (by simpa using h1) fun i d hd => by simpa using h2 (i + 1) d (by simpa using hd)
        refine ⟨(r'.1, k) :: l, by show pairD (r'.1, k) :: os.filterMap id = _; rw [e1]; rfl, by rw [List.map_cons, List.map_cons, e2, er], fun q hq => ?_⟩
        rcases List.mem_cons.mp hq with rfl | hq
        · show k ∈ ownOf rows r'.1
          unfold ownOf
          rw [rng_of hp.up hr']
          exact hk
        · exact e3 q hq
  obtain ⟨l, h1, h2, h3⟩ := key rows os (fun _ h => h) hl ho
  exact ⟨l, h1, h2, h3⟩
end
end FG

namespace FG
open PySem Fb FA FL
section
variable {many : Int} {eds ends : List PyData} {rows : List Row} {m : Mu} {gd : Fn}
theorem pickT_ok (hdr : DrawOk gd) {m : Mu} {xs : List PyData} (hm : Feed m) (h0 : 0 < xs.length) (h1 : xs.length < 1073741824) : CallOk (FA.g_law_pick gd) [.sto 0, .dat (.tuple xs)] m fun v m' => Feed m' ∧ ∃ d ∈ xs, v = .dat d := by
  rw [FA.g_law_pick, krun_ok, FA.b_law_pick]
  simp_arith []
  refine CallOk.mono (hdr hm (by omega) (by omega)) fun v m' h => ?_
  obtain ⟨hf, k, rfl, k0, k1⟩ := h
  simp_arith []
  obtain ⟨d, e1, e2⟩ := atI_of (l := xs) k0 k1
  exact ⟨d, e2, hf, d, List.mem_of_getElem? e1, rfl⟩
theorem sub_of_opt : ∀ {l : List Pr} {os : List (Option PyData)}, os.length = (l.map pairD).length → (∀ (i : Nat) (d : PyData), (l.map pairD)[i]? = some d → ∃ o, os[i]? = some o ∧ (o = none ∨ o = some d)) → ∃ l' : List Pr, os.filterMap id = l'.map pairD ∧ l'.Sublist l
  | [], [], _, _ => ⟨[], rfl, .slnil⟩
  | [], _ :: _, h, _ => by cases h
  | _ :: _, [], h, _ => by cases h
  | q :: l, o :: os, h, ho => by
    obtain ⟨l', e1, e2⟩ := sub_of_opt (l := l) (os := os) (by simpa using h) fun i d hd => by simpa using ho (i + 1) d (by simpa using hd)
    obtain ⟨o', h1, h2⟩ := ho 0 (pairD q) rfl
    cases h1
    rcases h2 with rfl | rfl
    · exact ⟨l', by show os.filterMap id = _; exact e1, e2.cons _⟩
    · exact ⟨q :: l', by show pairD q :: os.filterMap id = _; rw [e1]; rfl, e2.cons₂ _⟩
noncomputable def chT (gd : Fn) : List Sm := (b_law_chosen gd).drop 4
theorem chosen_tail (hdr : DrawOk gd) {l : List Pr} {a c d : Fb.Slot} (hp : Plan many rows) (hl : Full rows l) (hm : Feed m) : W (evSs (chT gd)) ⟨[.sto 0, .val (bookD eds rows ends), a, c, .own (.list (l.map pairD)), .unset, .unset], m⟩ (KRet fun v m' => Feed m' ∧ ∃ l, v = .dat (.tuple (l.map pairD)) ∧ Cho rows l) := by
  have hc := hl.cho hp
  have hlen := hc.len
  show W (evSs [.ife (.o2 .eq (.call "_law_draw" gd [.var 0, .num 3] [] []) (.num 0)) [.asg 4 (.lc [5] (.var 5) (.name 5) (.ofE (.var 4)) (some (.o2 .gt (.call "_law_draw" gd [.var 0, .num 3] [] []) (.num 0))))] [], .ret (.o1 .tuple (.var 4))]) _ _
  simp_all_arith []
  refine CallOk.mono (hdr hm (by omega) (by omega)) fun v m1 h => ?_
  obtain ⟨f1, k, rfl, k0, k1⟩ := h
  simp_all_arith []
  by_cases ck : k = 0
  · simp_all_arith [ck]
    refine w_lc Feed (fun d o => o = none ∨ o = some d) ?_
    simp_all_arith []
    refine ⟨rfl, by rw [List.length_map]; show _ ≤ 16777216; omega, f1, fun d hd m2 f2 => ?_, fun os m2 f2 hol ho => ?_⟩
    · simp_all_arith [wipeS]
      refine CallOk.mono (hdr f2 (by omega) (by omega)) fun v m3 h => ?_
      obtain ⟨f3, j, rfl, j0, j1⟩ := h
      simp_all_arith [wipeS]
      split
      · exact f3
      · exact f3
    · obtain ⟨l', e1, e2⟩ := sub_of_opt hol ho
      rw [e1]
      exact ⟨f2, l', rfl, hc.sub e2⟩
  · simp_all_arith [ck]
    exact ⟨f1, l, rfl, hc⟩
end
end FG

namespace FG
open PySem Fb FA FL
section
variable {many : Int} {eds ends : List PyData} {rows : List Row} {m : Mu} {gd : Fn}
theorem enumD_zip {α : Type} (f : α → PyData) : ∀ (l : List α) (n : Nat), enumD n (l.map f) = (l.zipIdx n).map fun x => .tuple [.int (x.2 : Nat), f x.1]
  | [], _ => rfl
  | a :: l, n => by
    rw [List.map_cons, List.zipIdx_cons, List.map_cons, ← enumD_zip f l (n + 1)]
    rfl
def turnQ (x : Row × Nat) : Pr := (x.1.1, x.1.2.1.getD (x.2 % x.1.2.1.length) 0)
theorem turn_full (hp : Plan many rows) : Full rows ((rows.zipIdx 0).map turnQ) := by
  refine ⟨?_, fun q hq => ?_⟩
  · rw [List.map_map]
    have : ((·.1) ∘ turnQ) = (fun r : Row => r.1) ∘ (fun x : Row × Nat => x.1) := rfl
    rw [this, ← List.map_map, List.zipIdx_map_fst]
  · obtain ⟨x, hx, rfl⟩ := List.mem_map.mp hq
    have hr : x.1 ∈ rows := by
      have : x.1 ∈ (rows.zipIdx 0).map (fun x : Row × Nat => x.1) := List.mem_map.mpr ⟨x, hx, rfl⟩
      rw [show (rows.zipIdx 0).map (fun x : Row × Nat => x.1) = rows from List.zipIdx_map_fst ..] at this
      exact this
    show _ ∈ ownOf rows x.1.1
    unfold ownOf
    rw [rng_of hp.up hr]
    have h0 : 0 < x.1.2.1.length := List.length_pos_iff.mpr (hp.own x.1 hr).1
    show x.1.2.1.getD (x.2 % x.1.2.1.length) 0 ∈ x.1.2.1
    rw [List.getD_eq_getElem?_getD, List.getElem?_eq_getElem (Nat.mod_lt _ h0)]
    exact List.getElem_mem _
theorem chosen_mid (hdr : DrawOk gd) {l : List Pr} {a : Fb.Slot} {w : Int} (hp : Plan many rows) (hl : Full rows l) (hm : Feed m) : W (evSs ((b_law_chosen gd).drop 3)) ⟨[.sto 0, .val (bookD eds rows ends), a, .val (.int w), .own (.list (l.map pairD)), .unset, .unset], m⟩ (KRet fun v m' => Feed m' ∧ ∃ l, v = .dat (.tuple (l.map pairD)) ∧ Cho rows l) := by
  have rl := hp.len
  show W (evSs (.ife (.o2 .eq (.var 3) (.num 3)) [.asg 4 (.lc [6, 5] (.tup [.o2 .idx (.var 5) (.num 0), .o2 .idx (.o2 .idx (.var 5) (.num 1)) (.o2 .mod (.o1 .int (.var 6)) (.o1 .len (.o2 .idx (.var 5) (.num 1))))]) (.tup [.name 6, .name 5]) (.enu (.o2 .idx (.var 1) (.num 1))) none)] [] :: chT gd)) _ _
  have tail := fun (l : List Pr) (hl : Full rows l) => chosen_tail (m := m) (gd := gd) (eds := eds) (ends := ends) (a := a) (c := .val (.int w)) (d := .unset) hdr hp hl hm
  generalize chT gd = ts at tail ⊢
  simp_all_arith []
  by_cases c : w = 3
  · simp_all_arith [c]
    refine w_lcM (fun x : Row × Nat => .tuple [.int (x.2 : Nat), rowD x.1]) (rows.zipIdx 0) (fun x => pairD (turnQ x)) ?_
    simp_all_arith [↓d_bk1, enumD_zip]
    refine ⟨rfl, by rw [List.length_zipIdx]; show _ ≤ 16777216; omega, fun x hx => ?_, ?_⟩
    · have hr : x.1 ∈ rows := by
        have : x.1 ∈ (rows.zipIdx 0).map (fun x : Row × Nat => x.1) := List.mem_map.mpr ⟨x, hx, rfl⟩
        rw [show (rows.zipIdx 0).map (fun x : Row × Nat => x.1) = rows from List.zipIdx_map_fst ..] at this
        exact this
      have h0 : 0 < x.1.2.1.length := List.length_pos_iff.mpr (hp.own x.1 hr).1
      have hmod : x.2 % x.1.2.1.length < x.1.2.1.length := Nat.mod_lt _ h0
      have em : ((x.2 : Nat) : Int) % ((x.1.2.1.length : Nat) : Int) = ((x.2 % x.1.2.1.length : Nat) : Int) := by omega
      have eg : L2.atI (ofInts x.1.2.1) ((x.2 % x.1.2.1.length : Nat) : Int) = some (.int (turnQ x).2) := by
        obtain ⟨d, e1, e2⟩ := atI_of (l := ofInts x.1.2.1) (i := ((x.2 % x.1.2.1.length : Nat) : Int)) (by omega) (by rw [ofInts_len]; omega)
        rw [e2]
        rw [Int.toNat_natCast, ofInts_get, List.getElem?_eq_getElem hmod] at e1
        have e1 := Option.some.inj e1
        rw [← e1]
        unfold turnQ
        rw [List.getD_eq_getElem?_getD, List.getElem?_eq_getElem hmod]
        rfl
      simp_all_arith [wipeS, ↓d_row0, ↓d_row1, ofInts_len, em, d_idxT, eg, Option.some.injEq, exists_eq_left']
      exact ⟨by omega, rfl⟩
    · have := tail _ (turn_full hp)
      rw [List.map_map] at this
      rw [c] at this
      exact this
  · simp_all_arith [c]
    exact tail l hl
end
end FG

namespace FG
open PySem Fb FA FL
section
variable {many : Int} {eds ends : List PyData} {rows : List Row} {m : Mu} {gd : Fn}
theorem own_len5 (hp : Plan many rows) {r : Row} (hr : r ∈ rows) : r.2.1.length ≤ 1000 := by
  have m5 := hp.m5
  have ho := hp.own r hr
  have hnd : r.2.1.Nodup := ho.2.1.imp fun h => by omega
  have hsub : ∀ k ∈ r.2.1, k ∈ rgI 0 many := fun k hk => rgI_mem.mpr (ho.2.2 k hk)
  have := hnd.length_le_of_subset hsub
  unfold rgI at this
  rw [List.length_map, List.length_range] at this
  omega
theorem chosen_ok (hdr : DrawOk gd) (hp : Plan many rows) (he : (eds.length : Int) = many) (hm : Feed m) : CallOk (g_law_chosen gd) [.sto 0, .dat (bookD eds rows ends)] m fun v m' => Feed m' ∧ ∃ l, v = .dat (.tuple (l.map pairD)) ∧ Cho rows l := by
  have m1 := hp.m1
  have m5 := hp.m5
  have rl := hp.len
  rw [g_law_chosen, krun_ok]
  show W (evSs (.asg 2 (.call "_law_turns" (FA.g_law_turns gd) [.var 0, .o1 .len (.o2 .idx (.var 1) (.num 0))] [] []) :: .par [3, 4] [.call "_law_draw" gd [.var 0, .num 4] [] [], .o1 .list (.call "_law_by_turns" FA.g_law_by_turns [.var 1, .var 2] [] [])] :: .ife (.o2 .gt (.var 3) (.num 1)) [.asg 4 (.lc [5] (.tup [.o2 .idx (.var 5) (.num 0), .call "_law_pick" (FA.g_law_pick gd) [.var 0, .o2 .idx (.var 5) (.num 1)] [] []]) (.name 5) (.ofE (.o2 .idx (.var 1) (.num 1))) none)] [] :: (b_law_chosen gd).drop 3)) _ _
  have mid := fun (l : List Pr) (hl : Full rows l) (a : Fb.Slot) (w : Int) (m : Mu) (hm : Feed m) => chosen_mid (m := m) (gd := gd) (eds := eds) (ends := ends) (a := a) (w := w) hdr hp hl hm
  generalize (b_law_chosen gd).drop 3 = ts at mid ⊢
  simp_all_arith [↓d_bk0]
  refine CallOk.mono (turns_ok hdr hm (by omega) (by omega)) fun v m2 h2 => ?_
  obtain ⟨f2, p, rfl, ho⟩ := h2
  rw [he] at ho
  simp_all_arith []
  refine CallOk.mono (hdr f2 (by omega) (by omega)) fun v m3 h3 => ?_
  obtain ⟨f3, w, rfl, w0, w1⟩ := h3
  simp_all_arith [(byturns_D (eds := eds) (ends := ends) (m := m3) hp ho).iff]
  by_cases c : 1 < w
  · simp_all_arith [c]
    refine w_lc Feed (fun d o => ∃ r ∈ rows, d = rowD r ∧ ∃ k ∈ r.2.1, o = some (pairD (r.1, k))) ?_
    simp_all_arith [↓d_bk1]
    refine ⟨rfl, by rw [List.length_map]; show _ ≤ 16777216; omega, f3, fun d hd m4 f4 => ?_, fun os m4 f4 hol hoo => ?_⟩
    · obtain ⟨r, hr, rfl⟩ := List.mem_map.mp hd
      have h0 : 0 < r.2.1.length := List.length_pos_iff.mpr (hp.own r hr).1
      simp_all_arith [wipeS, ↓d_row0, ↓d_row1]
      have hlen := own_len5 hp hr
      refine CallOk.mono (pickT_ok hdr f4 (by rw [ofInts_len]; exact h0) (by rw [ofInts_len]; omega)) fun v m5' h5 => ?_
      obtain ⟨f5, d, hd', rfl⟩ := h5
      obtain ⟨k, hk, rfl⟩ := List.mem_map.mp hd'
      simp_all_arith []
      exact ⟨f5, r, hr, rfl, k, hk, rfl⟩
    · obtain ⟨l, e1, e2⟩ := pairs_of_rows hp hol hoo
      rw [e1]
      exact mid l e2 _ _ _ f4
  · simp_all_arith [c]
    exact mid _ (due_full hp ho) _ _ _ f3
end
end FG

namespace FO
open PySem Fb FA FL FG
theorem gcd_step {a b : Int} : Int.gcd b (a % b) = Int.gcd a b := by
  have e : a % b = a - (a / b) * b := by have := Int.mul_ediv_add_emod a b; rw [Int.mul_comm] at this; omega
  rw [e, Int.gcd_sub_mul_right_right, Int.gcd_comm]
section
variable {many : Int} {eds ends : List PyData} {rows : List Row} {m : Mu} {w : World} {l : List Pr}
theorem common_D {a b : Int} (ha : 0 ≤ a) (hb : 0 < b) (h1 : a ≤ 1000) : D g_law_common [.dat (.int a), .dat (.int b)] m (.dat (.int (Int.gcd b a))) := by
  rw [g_law_common, D.run, b_law_common]
  simp_all_arith []
  rw [evS]
  refine whl_inv (fun k s => ∃ (x y : Int), 0 ≤ x ∧ 0 < y ∧ x.toNat = k ∧ Int.gcd y x = Int.gcd b a ∧ s = ⟨[.val (.int x), .val (.int y)], m⟩) ?_ _ a.toNat _ (by show _ < 100000; omega) ⟨a, b, ha, hb, rfl, rfl, rfl⟩
  rintro k s ⟨x, y, hx, hy, hk, hg, rfl⟩
  rw [w_bind]
  by_cases c : 0 < x
  · simp_all_arith [c]
    refine ⟨(y % x).toNat, ?_, _, _, Int.emod_nonneg _ (by omega), c, rfl, ?_, rfl⟩
    · have := Int.emod_lt_of_pos y c
      have := Int.emod_nonneg y (show x ≠ 0 by omega)
      omega
    · rw [← hg]
      exact gcd_step
  · simp_all_arith [c]
    have : x = 0 := by omega
    subst this
    rw [← hg, Int.gcd_zero_right]
    have : ((y.natAbs : Nat) : Int) = y := by omega
    rw [this]
theorem how_D (hp : Plan many rows) (he : (eds.length : Int) = many) (h : Cho rows l) : D (g_how_many_orders w) [.dat (bookD eds rows ends), .dat (.tuple (l.map pairD))] m (.dat (.int (cnt many rows l))) := by
  rw [g_how_many_orders, D.run, b_how_many_orders]
  simp_all_arith [(choice_D (eds := eds) (ends := ends) (m := m) hp h).iff, want_D.iff, (orders_D (eds := eds) (ends := ends) (m := m) (w := w) hp he fun q hq => (h.each q hq).1).iff]
theorem cho_nil : Cho rows [] := ⟨List.Pairwise.nil, fun q hq => (by cases hq), Nat.zero_le _⟩
theorem cnt_nil (hp : Plan many rows) : cnt many rows [] = (allT many).length := by
  rw [cnt_eq hp cho_nil]
  congr 1
  exact List.filter_eq_self.mpr fun p _ => rfl
theorem cnt_le (hp : Plan many rows) (h : Cho rows l) : cnt many rows l ≤ 120 := by
  rw [cnt_eq hp h]
  exact Nat.le_trans (List.length_filter_le _ _) (allT_len hp.m1 hp.m5).2
theorem share_D (hp : Plan many rows) (he : (eds.length : Int) = many) (h : Cho rows l) : D (g_share_of_orders w) [.dat (bookD eds rows ends), .dat (.tuple (l.map pairD))] m (.dat (.tuple [.int ((cnt many rows l : Int) / (Int.gcd (allT many).length (cnt many rows l) : Nat)), .int (((allT many).length : Int) / (Int.gcd (allT many).length (cnt many rows l) : Nat))])) := by
  have o0 := orders_D (eds := eds) (ends := ends) (m := m) (w := w) (l := []) hp he (fun q hq => (by cases hq))
  rw [cnt_nil hp] at o0
  have e0 : List.map pairD [] = [] := rfl
  rw [e0] at o0
  have hl := allT_len hp.m1 hp.m5
  have hc := cnt_le hp h
  rw [g_share_of_orders, D.run, b_share_of_orders]
  simp_all_arith [(choice_D (eds := eds) (ends := ends) (m := m) hp h).iff, want_D.iff, (orders_D (eds := eds) (ends := ends) (m := m) (w := w) hp he fun q hq => (h.each q hq).1).iff, o0.iff]
  generalize hn : (cnt many rows l : Int) = n
  generalize hN : ((allT many).length : Int) = N
  rw [evS]
  refine whl_inv (fun k s => ∃ (x y : Int), 0 < x ∧ 0 ≤ y ∧ x ≤ 120 ∧ y ≤ 120 ∧ y.toNat = k ∧ Int.gcd x y = Int.gcd N n ∧ s = ⟨[.val (bookD eds rows ends), .val (.tuple (l.map pairD)), .val (.int n), .val (.int N), .val (.int x), .val (.int y)], m⟩) ?_ _ n.toNat _ (by show _ < 100000; omega) ⟨N, n, by omega, by omega, by omega, by omega, rfl, rfl, rfl⟩
  rintro k s ⟨x, y, hx, hy, hx1, hy1, hk, hg, rfl⟩
  rw [w_bind]
  by_cases c : 0 < y
  · simp_all_arith [c]
    have hm := Int.emod_lt_of_pos x c
    have hm0 := Int.emod_nonneg x (show y ≠ 0 by omega)
    refine ⟨(x % y).toNat, by omega, _, _, c, hm0, hy1, by omega, rfl, ?_, rfl⟩
    rw [← hg]
    exact gcd_step
  · simp_all_arith [c]
    have : y = 0 := by omega
    subst this
    have eg : ((Int.gcd N n : Nat) : Int) = x := by rw [← hg, Int.gcd_zero_right]; omega
    rw [eg]
    exact ⟨⟨hx, by omega⟩, ⟨hx, by omega⟩, rfl⟩
end
end FO

namespace K27
open PySem Fb FA FL FG FO
theorem q_draw : g_law_draw = FA.g_draw 4406 73617 1052 21783 393 625 41 := rfl
theorem hdr : DrawOk g_law_draw := by rw [q_draw]; exact draw_ok (by decide) (by decide) (by decide)
theorem q_plan : g_law_plan = FA.g_law_plan g_law_draw := rfl
theorem q_same : g_law_same = FA.g_law_same := rfl
theorem q_byturns : g_law_by_turns = FA.g_law_by_turns := rfl
theorem q_all : g_law_all_turns = FA.g_law_all_turns := rfl
theorem q_feed : g_law_feed = FA.g_feed := rfl
theorem q_chosen : g_law_chosen = FG.g_law_chosen g_law_draw := rfl
theorem q_how {w : World} : g_how_many_orders w = FO.g_how_many_orders w := rfl
theorem q_share {w : World} : g_share_of_orders w = FO.g_share_of_orders w := rfl
theorem q_common : g_law_common = FO.g_law_common := rfl
section
variable {many : Int} {eds ends : List PyData} {rows : List Row} {m : Mu} {w : World} {l : List Pr}
theorem all_D (h0 : 1 ≤ many) (h1 : many ≤ 5) : D FA.g_law_all_turns [.dat (.int many)] m (.uni (.list ((allT many).map fun p => .tuple (ofInts p)))) := by
  have hc : many = 1 ∨ many = 2 ∨ many = 3 ∨ many = 4 ∨ many = 5 := by omega
  rcases hc with rfl | rfl | rfl | rfl | rfl <;> exact D.eq (by kernel_rfl)
theorem quot_le {a g : Nat} : 0 ≤ (a : Int) / (g : Int) ∧ (a : Int) / (g : Int) ≤ a := by
  have e : (a : Int) / (g : Int) = ((a / g : Nat) : Int) := rfl
  rw [e]
  exact ⟨Int.natCast_nonneg _, Int.ofNat_le.mpr (Nat.div_le_self a g)⟩
theorem fine_i {i : Int} (h0 : 0 ≤ i) (h1 : i ≤ 120) : Fine 0 122 (.int i) := fine_int (B := 120) (by omega) (by decide)
theorem fine_res {a b c : Int} (ha : 0 ≤ a ∧ a ≤ 120) (hb : 0 ≤ b ∧ b ≤ 120) (hc : 0 ≤ c ∧ c ≤ 120) : Fine 3 509 (.list [.int a, .tuple [.int b, .int c]]) := by
  refine (fine_two (n := 251) ((fine_i ha.1 ha.2).mono (by decide) (by decide)) ((fine_tup (k := 0) (n := 122) (ds := [.int b, .int c]) fun d hd => ?_  ).mono (by decide) (by show 2 * (122 + 2) + 3 ≤ 251; decide))).mono (by decide) (by decide)
  simp only [List.mem_cons, List.not_mem_nil, or_false] at hd
  rcases hd with rfl | rfl
  · exact fine_i hb.1 hb.2
  · exact fine_i hc.1 hc.2
theorem right_D (hp : Plan many rows) (he : (eds.length : Int) = many) (h : Cho rows l) : D (g_law_is_right w) [.dat (bookD eds rows ends), .dat (.tuple (l.map pairD)), .dat (.list ((allT many).map (encO rows)))] m (.dat (.bool true)) := by
  have hlen := allT_len hp.m1 hp.m5
  have hn := h.nm hp
  have hl := h.len
  rw [g_law_is_right, D.run, b_law_is_right, q_how, q_share, q_common, q_same]
  simp_all_arith []
  refine w_lcF (encO rows) (allT many) (fun p => l.all fun q => decide (q ∈ dueP p rows)) (encO rows) ?_
  simp_all_arith []
  refine ⟨rfl, by show _ ≤ 16777216; omega, fun p hpm => ?_, ?_⟩
  · simp_all_arith [wipeS]
    refine w_lcF pairD l (fun q => !decide (q ∈ dueP p rows)) pairD ?_
    simp_all_arith []
    refine ⟨rfl, by show _ ≤ 16777216; omega, fun q hq => ?_, ?_⟩
    · have e : encO rows p = .tuple ((dueP p rows).map pairD) := rfl
      simp_all_arith [wipeS, e, shaped_pr (hn q hq), shaped_tpairs (due_names hp), inD_prs, ite_self]
    · have e : decide (l.filter (fun q => !decide (q ∈ dueP p rows)) = []) = l.all fun q => decide (q ∈ dueP p rows) := by
        rw [Bool.eq_iff_iff, decide_eq_true_eq, List.filter_eq_nil_iff, List.all_eq_true]
        exact ⟨fun h q hq => by have := h q hq; simpa using this, fun h q hq => by have := h q hq; simpa using this⟩
      simp_all_arith [wipeS, shaped_lpairs fun q hq => hn q (List.mem_filter.mp hq).1, shaped_nil, FG.eqv_nilP, e, ite_self]
  · have ec : ((((allT many).filter fun p => l.all fun q => decide (q ∈ dueP p rows)).map (encO rows)).length : Int) = (cnt many rows l : Int) := by rw [List.length_map, cnt_eq hp h]
    have eN : (((allT many).map (encO rows)).length : Int) = ((allT many).length : Int) := by rw [List.length_map]
    have hc := cnt_le hp h
    have hg : 0 < (Int.gcd ((allT many).length : Int) (cnt many rows l : Int)) := Int.gcd_pos_of_ne_zero_left _ (by omega)
    have hg2 : Int.gcd ((allT many).length : Int) (cnt many rows l : Int) ≤ (allT many).length := by
      have := Int.gcd_dvd_left ((allT many).length : Int) (cnt many rows l : Int)
      have := Int.le_of_dvd (by omega) this
      omega
    simp_all_arith [ec, eN, (common_D (m := m) (a := cnt many rows l) (b := (allT many).length) (by omega) (by omega) (by omega)).iff]
    have hD := how_D (eds := eds) (ends := ends) (m := m) (w := w) hp he h
    have sD := share_D (eds := eds) (ends := ends) (m := m) (w := w) hp he h
    have fr := fine_res (a := cnt many rows l) (b := (cnt many rows l : Int) / (Int.gcd (allT many).length (cnt many rows l) : Nat)) (c := ((allT many).length : Int) / (Int.gcd (allT many).length (cnt many rows l) : Nat)) ⟨by omega, by omega⟩ ⟨quot_le.1, Int.le_trans quot_le.2 (by omega)⟩ ⟨quot_le.1, Int.le_trans quot_le.2 (by omega)⟩
    refine ⟨⟨by omega, by omega⟩, ⟨by omega, by omega⟩, ?_⟩
    simp_all_arith [hD.iff, sD.iff, (D.kw hD).iff, (D.kw sD).iff, (same_D (m := m) fr (by decide) (by decide)).iff]
end
end K27

namespace K27
open PySem Fb FA FL FG FO
def R3 : List Row := [("a", [0, 1], "copy"), ("b", [1, 2], "copy"), ("c", [0, 2], "copy")]
def L3 : List Pr := [("a", 0), ("b", 1), ("c", 2)]
def R5 : List Row := [("a", [0, 1, 2, 3, 4], "copy"), ("b", [1, 3], "copy")]
def R1 : List Row := [("a", [0], "copy")]
def planB (many : Int) (rows : List Row) : Bool := decide (1 ≤ many) && decide (many ≤ 5) && decide (rows.length ≤ 5) && (rows.all fun r => okName r.1) && (rows.all fun r => decide (r.2.1 ≠ []) && decide (r.2.1.Pairwise (· < ·)) && r.2.1.all fun k => decide (0 ≤ k) && decide (k < many)) && decide ((rows.map (·.1)).Pairwise SLt) && rows.all fun r => decide (r.2.2 = "copy")
theorem plan_of {many : Int} {rows : List Row} (h : planB many rows = true) : Plan many rows := by
  unfold planB at h
  simp only [Bool.and_eq_true, decide_eq_true_eq, List.all_eq_true] at h
  obtain ⟨⟨⟨⟨⟨⟨h1, h2⟩, h3⟩, h4⟩, h5⟩, h6⟩, h7⟩ := h
  exact ⟨h1, h2, h3, h4, fun r hr => ⟨(h5 r hr).1.1, (h5 r hr).1.2, (h5 r hr).2⟩, h6, fun r hr => .inl (h7 r hr)⟩
def choB (rows : List Row) (l : List Pr) : Bool := decide ((l.map (·.1)).Pairwise SLt) && (l.all fun q => decide (q.1 ∈ rows.map (·.1)) && decide (q.2 ∈ ownOf rows q.1)) && decide (l.length ≤ 100)
theorem cho_of {rows : List Row} {l : List Pr} (h : choB rows l = true) : Cho rows l := by
  unfold choB at h
  simp only [Bool.and_eq_true, decide_eq_true_eq, List.all_eq_true] at h
  exact ⟨h.1.1, h.1.2, h.2⟩
section
variable {m : Mu} {w : World}
theorem handH {many : Int} {eds : List PyData} {rows : List Row} {l : List Pr} {c : Int} (hp : planB many rows = true) (he : (eds.length : Int) = many) (h : choB rows l = true) (hc : (cnt many rows l : Int) = c) : D (FO.g_how_many_orders w) [.dat (bookD eds rows []), .dat (.tuple (l.map pairD))] m (.dat (.int c)) := by
  rw [← hc]; exact how_D (plan_of hp) he (cho_of h)
theorem handS {many : Int} {eds : List PyData} {rows : List Row} {l : List Pr} {a b : Int} (hp : planB many rows = true) (he : (eds.length : Int) = many) (h : choB rows l = true) (ha : (cnt many rows l : Int) / (Int.gcd (allT many).length (cnt many rows l) : Nat) = a) (hb : ((allT many).length : Int) / (Int.gcd (allT many).length (cnt many rows l) : Nat) = b) :
    D (FO.g_share_of_orders w) [.dat (bookD eds rows []), .dat (.tuple (l.map pairD))] m (.dat (.tuple [.int a, .int b])) := by
  rw [← ha, ← hb]; exact share_D (plan_of hp) he (cho_of h)
theorem round_D : D g_law_round_plan [.dat (.int 3), .dat (.str "")] m (.dat (.tuple [bookD [.tuple [], .tuple [], .tuple []] R3 [], .tuple (L3.map pairD)])) := D.eq (by kernel_rfl)
theorem hand_D : D (g_law_by_hand w) [] m (.dat (.bool true)) := by
  have a1 := handH (m := m) (w := w) (many := 3) (eds := [.tuple [], .tuple [], .tuple []]) (rows := R3) (l := L3) (c := 0) (by decide +kernel) rfl (by decide +kernel) (by decide +kernel)
  have a2 := handS (m := m) (w := w) (many := 3) (eds := [.tuple [], .tuple [], .tuple []]) (rows := R3) (l := L3) (a := 0) (b := 1) (by decide +kernel) rfl (by decide +kernel) (by decide +kernel) (by decide +kernel)
  have a3 := handH (m := m) (w := w) (many := 3) (eds := [.tuple [], .tuple [], .tuple []]) (rows := R3) (l := L3.take 2) (c := 1) (by decide +kernel) rfl (by decide +kernel) (by decide +kernel)
  have a4 := handS (m := m) (w := w) (many := 3) (eds := [.tuple [], .tuple [], .tuple []]) (rows := R3) (l := L3.take 2) (a := 1) (b := 6) (by decide +kernel) rfl (by decide +kernel) (by decide +kernel) (by decide +kernel)
  have a5 := handH (m := m) (w := w) (many := 3) (eds := [.tuple [], .tuple [], .tuple []]) (rows := R3) (l := []) (c := 6) (by decide +kernel) rfl (by decide +kernel) (by decide +kernel)
  have a6 := handS (m := m) (w := w) (many := 3) (eds := [.tuple [], .tuple [], .tuple []]) (rows := R3) (l := []) (a := 1) (b := 1) (by decide +kernel) rfl (by decide +kernel) (by decide +kernel) (by decide +kernel)
  have b1 := handH (m := m) (w := w) (many := 5) (eds := [.tuple [], .tuple [], .tuple [], .tuple [], .tuple []]) (rows := R5) (l := [("a", 4)]) (c := 24) (by decide +kernel) rfl (by decide +kernel) (by decide +kernel)
  have b2 := handS (m := m) (w := w) (many := 5) (eds := [.tuple [], .tuple [], .tuple [], .tuple [], .tuple []]) (rows := R5) (l := [("a", 4)]) (a := 1) (b := 5) (by decide +kernel) rfl (by decide +kernel) (by decide +kernel) (by decide +kernel)
  have b3 := handS (m := m) (w := w) (many := 5) (eds := [.tuple [], .tuple [], .tuple [], .tuple [], .tuple []]) (rows := R5) (l := [("b", 3)]) (a := 1) (b := 2) (by decide +kernel) rfl (by decide +kernel) (by decide +kernel) (by decide +kernel)
  have b4 := handH (m := m) (w := w) (many := 5) (eds := [.tuple [], .tuple [], .tuple [], .tuple [], .tuple []]) (rows := R5) (l := [("a", 2), ("b", 1)]) (c := 12) (by decide +kernel) rfl (by decide +kernel) (by decide +kernel)
  have b5 := handS (m := m) (w := w) (many := 5) (eds := [.tuple [], .tuple [], .tuple [], .tuple [], .tuple []]) (rows := R5) (l := [("a", 1), ("b", 3)]) (a := 0) (b := 1) (by decide +kernel) rfl (by decide +kernel) (by decide +kernel) (by decide +kernel)
  have c1 := handH (m := m) (w := w) (many := 1) (eds := [.tuple []]) (rows := R1) (l := [("a", 0)]) (c := 1) (by decide +kernel) rfl (by decide +kernel) (by decide +kernel)
  have c2 := handS (m := m) (w := w) (many := 1) (eds := [.tuple []]) (rows := R1) (l := [("a", 0)]) (a := 1) (b := 1) (by decide +kernel) rfl (by decide +kernel) (by decide +kernel) (by decide +kernel)
  have s1 := same_D (m := m) (d := .list [.int 0, .tuple [.int 0, .int 1], .int 1, .tuple [.int 1, .int 6], .int 6, .tuple [.int 1, .int 1]]) (k := 60) (n := 16777216) ⟨by decide +kernel, by decide +kernel, by decide +kernel, by decide +kernel⟩ (by decide) (by decide)
  have s2 := same_D (m := m) (d := .list [.int 24, .tuple [.int 1, .int 5], .tuple [.int 1, .int 2], .int 12, .tuple [.int 0, .int 1]]) (k := 60) (n := 16777216) ⟨by decide +kernel, by decide +kernel, by decide +kernel, by decide +kernel⟩ (by decide) (by decide)
  have s3 := same_D (m := m) (d := .list [.int 1, .tuple [.int 1, .int 1]]) (k := 60) (n := 16777216) ⟨by decide +kernel, by decide +kernel, by decide +kernel, by decide +kernel⟩ (by decide) (by decide)
  have e1 : cutD (L3.map pairD) none (some 2) = (L3.take 2).map pairD := rfl
  have e2 : ∀ (s : S) (Q : QV), W (lift (O2.den .mul (.tuple [.tuple []]) (.int 5))) s Q ↔ Q (.dat (.tuple [.tuple [], .tuple [], .tuple [], .tuple [], .tuple []])) s := fun s Q => by
    have : O2.den .mul (.tuple [.tuple []]) (.int 5) = some (.dat (.tuple [.tuple [], .tuple [], .tuple [], .tuple [], .tuple []])) := by kernel_rfl
    rw [this, w_lift_some]
  have e5 : PyData.tuple [.tuple [.tuple [], .tuple [], .tuple [], .tuple [], .tuple []], .tuple [.tuple [.str "a", .tuple [.int 0, .int 1, .int 2, .int 3, .int 4], .str "copy"], .tuple [.str "b", .tuple [.int 1, .int 3], .str "copy"]], .tuple []] = bookD [.tuple [], .tuple [], .tuple [], .tuple [], .tuple []] R5 [] := rfl
  have e6 : PyData.tuple [.tuple [.tuple []], .tuple [.tuple [.str "a", .tuple [.int 0], .str "copy"]], .tuple []] = bookD [.tuple []] R1 [] := rfl
  have pn : List.map pairD [] = [] := rfl
  have p1 : ∀ (x : Str) (k : Int), List.map pairD [(x, k)] = [.tuple [.str x, .int k]] := fun _ _ => rfl
  have p2 : ∀ (x y : Str) (k j : Int), List.map pairD [(x, k), (y, j)] = [.tuple [.str x, .int k], .tuple [.str y, .int j]] := fun _ _ _ _ => rfl
  rw [pn] at a5 a6
  rw [p1] at b1 b2 b3 c1 c2
  rw [p2] at b4 b5
  rw [g_law_by_hand, D.run, b_law_by_hand, q_how, q_share, q_same]
  simp_all_arith [round_D.iff, a1.iff, a2.iff, e1, a3.iff, a4.iff, a5.iff, a6.iff, s1.iff, e2, e5, b1.iff, b2.iff, b3.iff, b4.iff, b5.iff, s2.iff, e6, c1.iff, c2.iff, s3.iff]
  exact ⟨by show 6 ≤ 16777216; decide, by show 5 ≤ 16777216; decide⟩
end
end K27

namespace K27
open PySem Fb FA FL FG FO
theorem pure (w : World) (ns : List Int) : ∃ s, lawGo 7 1 e_law (b_law w) ns = .ok (.ret (.dat (.bool true)), s) := by
  rw [e_law, q_feed]
  refine law_pure (by decide) (fun ns m hm => ?_) ns
  rw [b_law, q_plan, q_all, q_byturns, q_chosen]
  simp_all_arith [(hand_D (m := m) (w := w)).iff]
  refine ⟨rg_small (by omega) (by omega) (by omega) (by omega), ?_⟩
  refine for_inv (fun i s => ∃ (a b c d e : Fb.Slot) (m' : Mu), isOwn e = false ∧ s = ⟨[.val (.list (ofInts ns)), .sto 0, a, b, c, d, e], m'⟩ ∧ Feed m') _ 0 _ ⟨_, _, _, _, _, _, rfl, rfl, hm⟩ ?_ ?_
  · rintro i x s hx ⟨a, b, c, d, e, m', ho, rfl, hf⟩
    simp_all_arith []
    refine CallOk.mono (plan_ok hdr hf (by decide) (by decide) (by decide) (by decide)) fun v m1 h => ?_
    obtain ⟨f1, pl, rfl, eds, ends, many, rows, rfl, he, hp, h4, _⟩ := h
    have m1' := hp.m1
    have m5' := hp.m5
    have hlen := allT_len m1' m5'
    simp_all_arith []
    refine w_lcM (fun p => .tuple (ofInts p)) (allT many) (encO rows) ?_
    simp_all_arith [↓d_bk0, he, (all_D (m := m1) m1' m5').iff]
    refine ⟨(Bool.or_false _).trans ho, by show _ ≤ 16777216; omega, fun p hpm => ?_, ?_⟩
    · simp_all_arith [wipeS, (byturns_D (eds := eds) (ends := ends) (m := m1) hp (allT_order m1' m5' p hpm)).iff]
      rfl
    · refine ⟨rg_small (by omega) (by omega) (by omega) (by omega), ?_⟩
      refine for_inv (fun i s => ∃ (c d e : Fb.Slot) (m' : Mu), (c = .own (.list ((allT many).map (encO rows))) ∨ c = .val (.list ((allT many).map (encO rows)))) ∧ isOwn e = false ∧ s = ⟨[.val (.list (ofInts ns)), .sto 0, .val x, .val (bookD eds rows ends), c, d, e], m'⟩ ∧ Feed m') _ 0 _ ⟨_, _, _, _, .inl rfl, ho, rfl, f1⟩ ?_ ?_
      · rintro j y s hy ⟨c, d, e, m2, hc, ho2, rfl, f2⟩
        simp_all_arith []
        refine CallOk.mono (chosen_ok (eds := eds) (ends := ends) hdr hp he f2) fun v m3 h => ?_
        obtain ⟨f3, l, rfl, hl⟩ := h
        have rD := right_D (ends := ends) (m := m3) (w := w) hp he hl
        rcases hc with rfl | rfl
        · simp_all_arith [rD.iff]
          exact ⟨_, _, _, _, .inr rfl, ho2, rfl, f3⟩
        · simp_all_arith [rD.iff]
          exact ⟨_, _, _, _, .inr rfl, ho2, rfl, f3⟩
      · rintro s ⟨c, d, e, m2, hc, ho2, rfl, f2⟩
        have rD := right_D (ends := ends) (m := m2) (w := w) hp he cho_nil
        have pn : List.map pairD [] = [] := rfl
        rw [pn] at rD
        rcases hc with rfl | rfl
        · simp_all_arith [rD.iff]
          exact ⟨_, _, _, _, _, _, ho2, rfl, f2⟩
        · simp_all_arith [rD.iff]
          exact ⟨_, _, _, _, _, _, ho2, rfl, f2⟩
  · rintro s ⟨a, b, c, d, e, m', ho, rfl, hf⟩
    simp_all_arith []
end K27
theorem PySem.Challenge.cw_firstbrought_k27_orders_counted_holds : PySem.Challenge.rw_firstbrought_k27_orders_counted.Holds := by
  exact K27_holds_of fun w ns _ _ => K27.pure w ns
