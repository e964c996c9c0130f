import PyProof.Rows.All
import Wide.All
import OpenK.AllK
import Wide.FinOn
import HandS.ForMost
import HandS.List
import KE.SortData
import KE.SortKeyHeap
import KE.KDictKeyed
import HandS.Exc
import HandS.Lambda
import HandS.Star
import HandS.Wide
import HandS.TupAny
import HandS.TupMul
import HandS.Style
import HandS.Deep
import HandS.IsInst
import PyProof.ListMulRoad
import HandS.TupLen
import KE.DataCmp
import HandS.Flow
import HandS.Walk
import HandS.Zip
import HandS.Comp
import KE.GoesMore
import HandS.Conv
import HandS.SortKw
import KE.LtData
import KE.KSortTup
import HandS.More
import HandS.DictComp
import PyProof.SumAny
import PyProof.ListOps
import HandS.RaiseMore
import PyProof.ReprReads
import PyProof.FString2
import PyProof.FString4
import HandS.ExcOwn
import HandS.SetFor
import KE.KExcSuper
import HandS.ExcValue
import HandS.Small
import HandS.TryMany
import HandS.ExcField
import KE.KDflt
import HandS.Defaults
import HandS.HeadHook2
import HandS.Words
import HandS.NestedK
import HandS.Head2
import HandS.EndTab
import HandS.EndBits
import KE.KExcInit
import KE.KExcLine
import HandS.Head0
import HandS.Head1
import HandS.HeadEnd
import HandS.HeadHook1
import PySem.Challenge.RW_stairpowers_k15_errors_of_primes
set_option Elab.async false
set_option linter.all false
set_option maxRecDepth 100000
/-! EvA: plain data, the small language, its evaluator. -/
namespace Ev
open PySem

/-- what a place may hold -/
inductive Wd where
  | d (x : PyData)
  | st (xs : List PyData)
  | fn (i : Nat)
  | sc (xs : List Int)
  | clo (b : Nat) (cap : List (Option PyData))
  | ex (c : Nat) (v : Option PyData)
/-- a place: empty, a value, a list of its own, a list lent to it, a lent list that is shared by now, a list that is only looked at -/
inductive Sl where
  | un | va (w : Wd) | ow (x : PyData) | le (x : PyData) | ls (x : PyData) | lk (x : PyData)
abbrev Env := List Sl
/-- a result: a value, or a new list that nobody else holds -/
inductive Rs where
  | v (w : Wd) | o (x : PyData)
inductive Op where
  | sl (i : Nat) | rs (r : Rs)
inductive Ou (α : Type) where
  | ok (a : α) (e : Env) | er (c : Nat) (v : Option PyData) (e : Env)
abbrev R (α : Type) := Option (Ou α)
inductive CO where
  | ok (r : Rs) (as : Env) | er (c : Nat) (v : Option PyData) (as : Env)

def R.bind {α β : Type} (m : R α) (f : α → Env → R β) : R β :=
  match m with
  | none => none
  | some (.ok a e) => f a e
  | some (.er c v e) => some (.er c v e)

inductive Ty where
  | int | bool | str | tuple | list | dict
inductive P where
  | add | sub | mul | fdiv | mod | pow | neg
  | eq | ne | lt | le | gt | ge | isin | notin | isN | notN | isB (b : Bool) | notB (b : Bool)
  | idx | cut | back
  | len | sum | sumL | max1 | max2 | min1 | min2 | abs | all | any | int | list | tuple | sorted | sortSum | set | repr | isi (t : Ty) | dict
  | get | count | index | fld | lrg | trg
inductive Mt where
  | append | extend | pop | popl | setdef
inductive T where
  | nm (i : Nat) | tp (l : List T)
inductive It where
  | seq | rng | enm | zip | itm | vls
inductive E where
  | var (i : Nat)
  | lit (w : Wd)
  | prim (p : P) (es : List E)
  | tup (es : List E)
  | lst (es : List E)
  | star (e : E)
  | dic (ks vs : List E)
  | bo (a : Bool) (es : List E)
  | no (e : E)
  | ch (p q : P) (a b c : E)
  | ife (t a b : E)
  | call (k : Nat) (es : List E)
  | capp (i : Nat)
  | mut (m : Mt) (i : Nat) (es : List E)
  | cmp (elt : E) (t : T) (it : It) (src ifs : List E) (own : List Nat)
  | cmp2 (elt : E) (t : T) (it : It) (src ifs : List E) (t' : T) (it' : It) (src' ifs' : List E) (own : List Nat)
  | dcm (k v : E) (t : T) (it : It) (src ifs : List E) (own : List Nat)
  | get (i : Nat) (y z : E)
  | dcmI (k v : E) (t : T) (it : It) (src ifs : List E) (own : List Nat)
  | lcall (k b : Nat) (free : List Nat)
  | cut (x l h : E)
inductive S where
  | set (t : T) (e : E)
  | par (is : List Nat) (es : List E)
  | parL (is : List Nat) (es : List E)
  | parO (i j : Nat) (x y : E)
  | six (i : Nat) (ix e : E)
  | aug (i : Nat) (p : P) (e : E)
  | augx (i : Nat) (ix : E) (p : P) (e : E)
  | expr (e : E)
  | ret (e : E)
  | retN
  | ife (t : E) (a b : List S)
  | fo (t : T) (it : It) (src : List E) (body : List S)
  | wh (t : E) (body : List S)
  | rai (c : Nat) (e : Option E)
  | tr (body : List S) (hs : List (Nat × Option Nat × E))
  | pas

/-! ### places -/
def Sl.peek : Sl → Option Wd
  | .va w => some w | .ow x => some (.d x) | .le x => some (.d x) | .ls x => some (.d x) | .lk x => some (.d x) | .un => none
def Sl.frz : Sl → Sl
  | .ow x => .va (.d x) | .le x => .ls x | s => s
/-- a list that a place holds -/
def Sl.own : Sl → Bool
  | .ow _ => true | .le _ => true | .lk _ => true | _ => false
/-- a list that is lent to a place -/
def Sl.lent : Sl → Bool
  | .lk _ => true | .ls _ => true | .le _ => true | _ => false
def Sl.here : Sl → Bool
  | .un => false | _ => true
def peek (e : Env) (i : Nat) : Option Wd := (e[i]?).bind Sl.peek
def Rs.w : Rs → Wd
  | .v w => w | .o x => .d x
def Op.w (e : Env) : Op → Option Wd
  | .sl i => peek e i
  | .rs r => some r.w
def opsW (e : Env) : List Op → Option (List Wd)
  | [] => some []
  | o :: os => match o.w e, opsW e os with | some w, some ws => some (w :: ws) | _, _ => none
def Wd.data : Wd → Option PyData
  | .d x => some x | _ => none
/-- a name's value given away: its list is nobody's own from then on -/
def takeN (e : Env) (i : Nat) : R Rs :=
  match e[i]? with
  | none => none
  | some (.lk _) => none
  | some s => match s.peek with
    | none => none
    | some w => some (.ok (.v w) (e.set i s.frz))
def take (e : Env) (i : Nat) : R Rs :=
  match e[i]? with
  | some (.va w) => some (.ok (.v w) e)
  | some (.ls x) => some (.ok (.v (.d x)) e)
  | some (.ow x) => some (.ok (.v (.d x)) (e.set i (.va (.d x))))
  | some (.le x) => some (.ok (.v (.d x)) (e.set i (.ls x)))
  | _ => none
theorem set_here {α : Type} : ∀ {e : List α} {i : Nat} {s : α}, e[i]? = some s → e.set i s = e
  | [], _, _, h => by cases h
  | a :: r, 0, s, h => by cases h; rfl
  | a :: r, i + 1, s, h => congrArg (a :: ·) (set_here (e := r) (by simpa using h))
theorem take_eq (e : Env) (i : Nat) : take e i = takeN e i := by
  unfold take takeN
  cases h : e[i]? with
  | none => rfl
  | some s =>
    cases s with
    | va w => exact congrArg (fun z => some (Ou.ok (Rs.v w) z)) (set_here h).symm
    | ls x => exact congrArg (fun z => some (Ou.ok (Rs.v (.d x)) z)) (set_here h).symm
    | _ => rfl
/-- a name's list handed back for good -/
def moved (e : Env) (i : Nat) : R Rs :=
  match e[i]? with
  | some (.ow x) => some (.ok (.o x) (e.set i .un))
  | _ => take e i
/-- a place stored to -/
def put (e : Env) (i : Nat) (r : Rs) : Option Env :=
  match e[i]? with
  | none => none
  | some (.le _) => none
  | some (.ls _) => none
  | some (.lk _) => none
  | some _ => some (e.set i (match r with | .v w => .va w | .o x => .ow x))

/-! ### operators on data -/
def lim : Nat := 16777216
def datas : List Wd → Option (List PyData)
  | [] => some []
  | .d x :: r => match datas r with | some xs => some (x :: xs) | none => none
  | _ :: _ => none
def intsOf : List PyData → Option (List Int)
  | [] => some []
  | .int i :: r => match intsOf r with | some xs => some (i :: xs) | none => none
  | _ :: _ => none
def boolsOf : List PyData → Option (List Bool)
  | [] => some []
  | .bool i :: r => match boolsOf r with | some xs => some (i :: xs) | none => none
  | _ :: _ => none
def seqOf : PyData → Option (List PyData)
  | .list xs => some xs | .tuple xs => some xs | _ => none
def flat : PyData → Bool
  | .int _ => true | .str _ => true | _ => false
/-- a dict's key: a tuple of whole numbers and texts -/
def nkF : PyData → Option NestedKey
  | .int i => some (.num i) | .str x => some (.text x) | _ => none
def nkAll : List PyData → Option (List NestedKey)
  | [] => some []
  | x :: xs => match nkF x, nkAll xs with | some k, some ks => some (k :: ks) | _, _ => none
def nkOf : PyData → Option NestedKey
  | .tuple xs => (match nkAll xs with | some ks => some (.tup ks) | none => none)
  | _ => none
def keyOk (x : PyData) : Bool := (nkOf x).isSome
def keySame (x y : PyData) : Bool := match nkOf x, nkOf y with | some a, some b => NestedKey.beq a b | _, _ => false
def keysOf (kvs : List (PyData × PyData)) : List PyData := kvs.map (·.1)
def truth : Wd → Option Bool
  | .d .none => some false
  | .d (.bool b) => some b
  | .d (.int i) => some (i != 0)
  | .d (.str s) => if s.length ≤ lim then some (s.length != 0) else none
  | .d (.list xs) => some (!xs.isEmpty)
  | .d (.tuple xs) => some (!xs.isEmpty)
  | _ => none
def vI (i : Int) : Option Rs := some (.v (.d (.int i)))
def vB (b : Bool) : Option Rs := some (.v (.d (.bool b)))
def cutL {α : Type} (xs : List α) (lo hi : Option Int) : List α := (xs.drop (HT.sIx xs.length 0 lo)).take (HT.sIx xs.length xs.length hi - HT.sIx xs.length 0 lo)
def optI : PyData → Option (Option Int)
  | .none => some none | .int i => some (some i) | _ => none
def maxI : Int → List Int → Int
  | m, [] => m | m, x :: r => maxI (if x > m then x else m) r
def minI : Int → List Int → Int
  | m, [] => m | m, x :: r => minI (if x < m then x else m) r
/-- put into a stable sorted list, by an order -/
def insB {α : Type} (lt : α → α → Bool) (x : α) : List α → List α
  | [] => [x]
  | y :: r => if lt x y then x :: y :: r else y :: insB lt x r
def isort {α : Type} (lt : α → α → Bool) : List α → List α
  | [] => []
  | x :: r => insF x (isort lt r)
where
  /-- x stands ahead of what is not less than it -/
  insF (x : α) : List α → List α
  | [] => [x]
  | y :: r => if lt y x then y :: insF x r else x :: y :: r
mutual
def dlt : PyData → PyData → Bool
  | .bool a, .bool b => !a && b
  | .int a, .int b => decide (a < b)
  | .str a, .str b => decide (a.cps.toList < b.cps.toList)
  | .list xs, .list ys => dltAll xs ys
  | .tuple xs, .tuple ys => dltAll xs ys
  | _, _ => false
def dltAll : List PyData → List PyData → Bool
  | [], [] => false
  | [], _ :: _ => true
  | _ :: _, [] => false
  | x :: xs, y :: ys => if PyData.eqv x y then dltAll xs ys else dlt x y
end
def alikeTo (x : PyData) : List PyData → Bool
  | [] => true
  | y :: r => PySem.W.alike x y && PySem.W.alike y x && alikeTo x r
def allAlike : List PyData → Bool
  | [] => true
  | x :: r => PySem.W.alike x x && alikeTo x r && allAlike r
def sumsOf : List PyData → Option (List (Int × PyData))
  | [] => some []
  | .tuple xs :: r => match intsOf xs, sumsOf r with | some is, some ps => some ((is.sum, .tuple xs) :: ps) | _, _ => none
  | _ :: _ => none
def dput (k v : PyData) : List (PyData × PyData) → List (PyData × PyData)
  | [] => [(k, v)]
  | p :: r => if keySame p.1 k then (p.1, v) :: r else p :: dput k v r
def dget (k : PyData) : List (PyData × PyData) → Option PyData
  | [] => none
  | p :: r => if keySame p.1 k then some p.2 else dget k r
def tyIs : Ty → PyData → Bool
  | .int, .int _ => true | .int, .bool _ => true | .bool, .bool _ => true | .str, .str _ => true | .tuple, .tuple _ => true | .list, .list _ => true | .dict, .dict _ => true | _, _ => false
def shp (x : PyData) : Bool := SeqAt.shaped x
def uniq : List PyData → List PyData
  | [] => []
  | x :: r => if r.any (PyData.eqv x) then uniq r else x :: uniq r
def mulOk (i j : Int) : Bool := decide (i.natAbs.log2 + j.natAbs.log2 < 100000)
def qAdd : List Wd → Option Rs
  | [.d (.int i), .d (.int j)] => vI (i + j)
  | [.d (.str a), .d (.str b)] => if a.length + b.length ≤ lim then some (.v (.d (.str (a ++ b)))) else none
  | [.d (.list a), .d (.list b)] => if a.length + b.length ≤ lim then some (.o (.list (a ++ b))) else none
  | [.d (.tuple a), .d (.tuple b)] => if a.length + b.length ≤ lim then some (.v (.d (.tuple (a ++ b)))) else none
  | _ => none
def qSub : List Wd → Option Rs
  | [.d (.int i), .d (.int j)] => vI (i - j)
  | _ => none
def qMul : List Wd → Option Rs
  | [.d (.int i), .d (.int j)] => if mulOk i j then vI (i * j) else none
  | [.d (.list a), .d (.int j)] => if a.length * j.toNat ≤ lim ∧ j < 1000000 ∧ -1000000 < j then some (.o (.list (List.flatten (List.replicate j.toNat a)))) else none
  | [.d (.tuple a), .d (.int j)] => if j = 1 then some (.v (.d (.tuple a))) else if a ≠ [] ∧ 2 ≤ j ∧ j ≤ 1000 ∧ a.length ≤ 1000 then some (.v (.d (.tuple (List.flatten (List.replicate j.toNat a))))) else none
  | _ => none
def qFdiv : List Wd → Option Rs
  | [.d (.int i), .d (.int j)] => if 0 < j ∧ j.natAbs.log2 < 9000 then vI (i / j) else none
  | _ => none
def qMod : List Wd → Option Rs
  | [.d (.int i), .d (.int j)] => if 0 < j then vI (i % j) else none
  | _ => none
def qPow : List Wd → Option Rs
  | [.d (.int i), .d (.int j)] => if 0 ≤ j ∧ j ≤ 1000 ∧ i.natAbs < 2 ^ 1000 then vI (i ^ j.toNat) else none
  | _ => none
def qNeg : List Wd → Option Rs
  | [.d (.int i)] => vI (-i)
  | _ => none
def qEq : List Wd → Option Rs
  | [.d x, .d y] => if shp x && shp y then vB (PyData.eqv x y) else none
  | _ => none
def qNe : List Wd → Option Rs
  | [.d x, .d y] => if shp x && shp y then vB (!PyData.eqv x y) else none
  | _ => none
def nn : PyData → Bool
  | .none => false | _ => true
def qLt : List Wd → Option Rs
  | [.d x, .d y] => if PySem.W.alike x y && shp x && shp y && nn x then vB (dlt x y) else none
  | _ => none
def qGt : List Wd → Option Rs
  | [.d x, .d y] => if PySem.W.alike x y && PySem.W.alike y x && shp x && shp y && nn x then vB (dlt y x) else none
  | _ => none
def qLe : List Wd → Option Rs
  | [.d (.int i), .d (.int j)] => vB (decide (i ≤ j))
  | _ => none
def qGe : List Wd → Option Rs
  | [.d (.int i), .d (.int j)] => vB (decide (j ≤ i))
  | _ => none
def qIsin : List Wd → Option Rs
  | [.d x, .d (.list xs)] => if shp x && shp (.list xs) then vB (xs.any fun y => PyData.eqv y x) else none
  | [.d x, .d (.tuple xs)] => if shp x && shp (.tuple xs) then vB (xs.any fun y => PyData.eqv y x) else none
  | [.d x, .d (.dict kvs)] => if keyOk x && kvs.all (fun p => keyOk p.1) then vB (kvs.any fun p => keySame p.1 x) else none
  | _ => none
def qNotin : List Wd → Option Rs
  | [.d x, .d (.list xs)] => if shp x && shp (.list xs) then vB (!xs.any fun y => PyData.eqv y x) else none
  | [.d x, .d (.tuple xs)] => if shp x && shp (.tuple xs) then vB (!xs.any fun y => PyData.eqv y x) else none
  | [.d x, .d (.dict kvs)] => if keyOk x && kvs.all (fun p => keyOk p.1) then vB (!kvs.any fun p => keySame p.1 x) else none
  | _ => none
def qIsN : List Wd → Option Rs
  | [.d x] => vB (match x with | .none => true | _ => false)
  | _ => none
def qNotN : List Wd → Option Rs
  | [.d x] => vB (match x with | .none => false | _ => true)
  | _ => none
def qIsB (b : Bool) : List Wd → Option Rs
  | [.d x] => vB (match x with | .bool c => b == c | _ => false)
  | _ => none
def qNotB (b : Bool) : List Wd → Option Rs
  | [.d x] => vB (match x with | .bool c => !(b == c) | _ => true)
  | _ => none
def qIdx : List Wd → Option Rs
  | [.sc xs, .d (.int i)] => match L2.atI xs i with | some x => vI x | none => none
  | [.d (.list xs), .d (.int i)] => match L2.atI xs i with | some x => some (.v (.d x)) | none => none
  | [.d (.tuple xs), .d (.int i)] => match L2.atI xs i with | some x => some (.v (.d x)) | none => none
  | _ => none
def qCut : List Wd → Option Rs
  | [.d (.list xs), .d lo, .d hi] => match optI lo, optI hi with | some a, some b => some (.o (.list (cutL xs a b))) | _, _ => none
  | [.d (.tuple xs), .d lo, .d hi] => match optI lo, optI hi with | some a, some b => some (.v (.d (.tuple (cutL xs a b)))) | _, _ => none
  | _ => none
def qBack : List Wd → Option Rs
  | [.d (.list xs)] => some (.o (.list xs.reverse))
  | _ => none
def qLen : List Wd → Option Rs
  | [.sc xs] => vI xs.length
  | [.d (.list xs)] => vI xs.length
  | [.d (.tuple xs)] => vI xs.length
  | [.d (.str s)] => if s.length ≤ lim then vI s.length else none
  | [.d (.dict kvs)] => vI kvs.length
  | _ => none
def qSum : List Wd → Option Rs
  | [.d x] => match (seqOf x).bind intsOf with | some is => vI is.sum | none => none
  | _ => none
def listsOf : List PyData → Option (List (List PyData))
  | [] => some []
  | .list ys :: r => match listsOf r with | some yss => some (ys :: yss) | none => none
  | _ :: _ => none
/-- lists put together, from an empty one on -/
def qSumL : List Wd → Option Rs
  | [.d (.list xs), .d (.list [])] => match listsOf xs with | some yss => if !xs.isEmpty && decide (yss.flatten.length ≤ lim) then some (.o (.list yss.flatten)) else none | none => none
  | _ => none
def qMax1 : List Wd → Option Rs
  | [.d x] => match (seqOf x).bind intsOf with | some (m :: r) => vI (maxI m r) | _ => none
  | _ => none
def qMin1 : List Wd → Option Rs
  | [.d x] => match (seqOf x).bind intsOf with | some (m :: r) => vI (minI m r) | _ => none
  | _ => none
def qMax2 : List Wd → Option Rs
  | [.d (.int i), .d (.int j)] => vI (if j > i then j else i)
  | _ => none
def qMin2 : List Wd → Option Rs
  | [.d (.int i), .d (.int j)] => vI (if j < i then j else i)
  | _ => none
def qAbs : List Wd → Option Rs
  | [.d (.int i)] => vI (if i < 0 then -i else i)
  | _ => none
def qAll : List Wd → Option Rs
  | [.d (.list xs)] => match boolsOf xs with | some bs => vB (bs.all id) | none => none
  | _ => none
def qAny : List Wd → Option Rs
  | [.d (.list xs)] => match boolsOf xs with | some bs => vB (bs.any id) | none => none
  | _ => none
def qInt : List Wd → Option Rs
  | [.d (.int i)] => vI i
  | [.d (.bool b)] => vI (if b then 1 else 0)
  | _ => none
def qList : List Wd → Option Rs
  | [.d (.list xs)] => some (.o (.list xs))
  | [.d (.tuple xs)] => some (.o (.list xs))
  | _ => none
def qTuple : List Wd → Option Rs
  | [.d (.list xs)] => some (.v (.d (.tuple xs)))
  | [.d (.tuple xs)] => some (.v (.d (.tuple xs)))
  | _ => none
/-- what the model sorts: tuples that are not empty, or no tuple and no None -/
def fullTup : PyData → Bool
  | .tuple (_ :: _) => true | _ => false
def noTup : PyData → Bool
  | .tuple _ => false | .none => false | _ => true
/-- the empty tuple alone -/
def soleNil : List PyData → Bool
  | [.tuple []] => true | _ => false
def sortB (xs : List PyData) : Bool := allAlike xs && shp (.list xs) && ((xs.all fullTup || xs.all noTup) || soleNil xs)
def qSorted : List Wd → Option Rs
  | [.d (.list xs)] => if sortB xs then some (.o (.list (isort dlt xs))) else none
  | [.d (.dict kvs)] => if sortB (keysOf kvs) then some (.o (.list (isort dlt (keysOf kvs)))) else none
  | _ => none
def qSortSum : List Wd → Option Rs
  | [.d (.dict kvs)] => match sumsOf (keysOf kvs) with | some ps => some (.o (.list ((isort (fun p q => decide (p.1 < q.1)) ps).map (·.2)))) | none => none
  | [.d (.list xs)] => match sumsOf xs with | some ps => some (.o (.list ((isort (fun p q => decide (p.1 < q.1)) ps).map (·.2)))) | none => none
  | _ => none
def qSet : List Wd → Option Rs
  | [.d x] => match seqOf x with | some xs => if xs.all keyOk && xs.length < 4000 then some (.v (.st (uniq xs))) else none | none => none
  | _ => none
def repOk : PyData → Bool
  | .int i => decide (i.natAbs.log2 < 1920)
  | .dict _ => false
  | _ => true
def qRepr : List Wd → Option Rs
  | [.d x] => if repOk x && shp x && x.showable && !x.hasDict && decide (x.shown.length ≤ lim) then some (.v (.d (.str x.shown))) else none
  | _ => none
def rangeI (lo : Int) (n : Nat) : List PyData := (List.range n).map fun (k : Nat) => .int (lo + (k : Int))
/-- the items of a range that is made a list or a tuple -/
def rgOf : List Wd → Option (List PyData)
  | [.d (.int j)] => if j < 1000000 ∧ -1000000 < j then some (rangeI 0 j.toNat) else none
  | [.d (.int i), .d (.int j)] => if j < 1000000 ∧ -1000000 < j ∧ i < 1000000 ∧ -1000000 < i then some (rangeI i (j - i).toNat) else none
  | _ => none
def qLrg (ws : List Wd) : Option Rs := match rgOf ws with | some xs => some (.o (.list xs)) | none => none
def qTrg (ws : List Wd) : Option Rs := match rgOf ws with | some xs => some (.v (.d (.tuple xs))) | none => none
def qIsi (t : Ty) : List Wd → Option Rs
  | [.d x] => vB (tyIs t x)
  | _ => none
def qGet : List Wd → Option Rs
  | [.d (.dict kvs), .d k, .d z] => if keyOk k then some (.v (.d ((dget k kvs).getD z))) else none
  | _ => none
def qCount : List Wd → Option Rs
  | [.d (.list xs), .d (.int k)] => match intsOf xs with | some is => vI (is.count k) | none => none
  | _ => none
def P.run : P → List Wd → Option Rs
  | .add => qAdd
  | .sub => qSub
  | .mul => qMul
  | .fdiv => qFdiv
  | .mod => qMod
  | .pow => qPow
  | .neg => qNeg
  | .eq => qEq
  | .ne => qNe
  | .lt => qLt
  | .gt => qGt
  | .le => qLe
  | .ge => qGe
  | .isin => qIsin
  | .notin => qNotin
  | .isN => qIsN
  | .notN => qNotN
  | .isB b => qIsB b
  | .notB b => qNotB b
  | .idx => qIdx
  | .cut => qCut
  | .back => qBack
  | .len => qLen
  | .sum => qSum
  | .max1 => qMax1
  | .min1 => qMin1
  | .max2 => qMax2
  | .min2 => qMin2
  | .abs => qAbs
  | .all => qAll
  | .any => qAny
  | .int => qInt
  | .list => qList
  | .tuple => qTuple
  | .sorted => qSorted
  | .sortSum => qSortSum
  | .set => qSet
  | .repr => qRepr
  | .isi t => qIsi t
  | .get => qGet
  | .count => qCount
  | .lrg => qLrg
  | .trg => qTrg
  | .sumL => qSumL
  | .dict => fun _ => none
  | .index => fun _ => none
  | .fld => fun _ => none
/-- a list or dict changed: what it is then, and what the call gives -/
def Mt.run : Mt → PyData → List PyData → Option (PyData × PyData)
  | .append, .list xs, [x] => if xs.length < lim then some (.list (xs ++ [x]), .none) else none
  | .extend, .list xs, [.list ys] => if xs.length + ys.length ≤ lim then some (.list (xs ++ ys), .none) else none
  | .pop, .list xs, [.int i] => if xs.length ≤ lim then (match seqIndex? i xs.length with
    | some k => match xs[k]? with | some x => some (.list (xs.eraseIdx k), x) | none => none
    | none => none) else none
  | .popl, .list xs, [] => match xs[xs.length - 1]? with | some x => some (.list xs.dropLast, x) | none => none
  | _, _, _ => none
def lstAt (e : Env) (i : Nat) : Bool := match e[i]? with | some (.ow (.list _)) => true | some (.le (.list _)) => true | _ => false
def setAt (c ix x : PyData) : Option PyData :=
  match c, ix with
  | .list xs, .int i => match L2.ixN xs.length i with
    | some k => some (.list (xs.set k x))
    | none => none
  | .dict kvs, k => if keyOk k && kvs.all (fun p => keyOk p.1) && decide (kvs.length < lim) then some (.dict (dput k x kvs)) else none
  | _, _ => none
def iSeq : List Wd → Option (List PyData)
  | [.d (.list xs)] => some xs
  | [.d (.tuple xs)] => some xs
  | _ => none
def iRng : List Wd → Option (List PyData)
  | [.d (.int j)] => if j < 1000000 ∧ -1000000 < j then some (rangeI 0 j.toNat) else none
  | [.d (.int i), .d (.int j)] => if j < 1000000 ∧ -1000000 < j ∧ i < 1000000 ∧ -1000000 < i then some (rangeI i (j - i).toNat) else none
  | _ => none
def enmOf (xs : List PyData) : List PyData := (List.zip (List.range xs.length) xs).map fun (p : Nat × PyData) => .tuple [.int (p.1 : Int), p.2]
def iEnm : List Wd → Option (List PyData)
  | [.d (.list xs)] => some (enmOf xs)
  | [.d (.tuple xs)] => some (enmOf xs)
  | _ => none
def iZip : List Wd → Option (List PyData)
  | [.d (.list xs), .d (.list ys)] => some ((xs.zip ys).map fun p => .tuple [p.1, p.2])
  | [.d (.tuple xs), .d (.tuple ys)] => some ((xs.zip ys).map fun p => .tuple [p.1, p.2])
  | _ => none
def itemsOf : It → List Wd → Option (List PyData)
  | .seq => iSeq
  | .rng => iRng
  | .enm => iEnm
  | .zip => iZip
  | .itm => fun _ => none
  | .vls => fun _ => none

/-! ### the evaluator -/
mutual
def bindT : T → PyData → Env → Option Env
  | .nm i, x, e => put e i (.v (.d x))
  | .tp ts, .tuple xs, e => bindTs ts xs e
  | .tp _, _, _ => none
def bindTs : List T → List PyData → Env → Option Env
  | [], [], e => some e
  | t :: ts, x :: xs, e => match bindT t x e with | some e' => bindTs ts xs e' | none => none
  | _, _, _ => none
end
mutual
/-- the places that a target stores to -/
def T.slots : T → List Nat
  | .nm i => [i]
  | .tp ts => slotsAll ts
def slotsAll : List T → List Nat
  | [] => []
  | t :: ts => t.slots ++ slotsAll ts
end
/-- a block's places: its own ones empty -/
def wipeE (e : Env) : List Nat → Env
  | [] => e
  | i :: r => (wipeE e r).set i .un
/-- behind a block: its own places as they were -/
def backE (e f : Env) : List Nat → Env
  | [] => f
  | i :: r => match e[i]? with | some s => (backE e f r).set i s | none => backE e f r
section
variable (call : Nat → Env → Option CO) (clo : Nat → List (Option PyData) → Option CO)
abbrev Ev := Bool → E → Env → R Rs
def evOp (rec : Ev) (x : E) (e : Env) : R Op :=
  match x with
  | .var i => match peek e i with | some _ => some (.ok (.sl i) e) | none => none
  | x => R.bind (rec false x e) fun r e' => some (.ok (.rs r) e')
def evOps (rec : Ev) : List E → Env → R (List Op)
  | [], e => some (.ok [] e)
  | x :: xs, e => R.bind (evOp rec x e) fun o e1 => R.bind (evOps rec xs e1) fun os e2 => some (.ok (o :: os) e2)
/-- a value given away -/
def evGive (rec : Ev) (x : E) (e : Env) : R PyData :=
  R.bind (rec false x e) fun r e' => match r.w with | .d x => some (.ok x e') | _ => none
def evGives (rec : Ev) : List E → Env → R (List PyData)
  | [], e => some (.ok [] e)
  | .star x :: xs, e => R.bind (evOp rec x e) fun o e1 => match (o.w e1) with
    | some (.d y) => (match seqOf y with
      | some ys => R.bind (evGives rec xs e1) fun zs e2 => some (.ok (ys ++ zs) e2)
      | none => none)
    | _ => none
  | x :: xs, e => R.bind (evGive rec x e) fun y e1 => R.bind (evGives rec xs e1) fun zs e2 => some (.ok (y :: zs) e2)
/-- a result's truth; of a test it is a bool -/
def truR (tst : Bool) (r : Rs) : Option Bool :=
  match tst with
  | true => (match r with | .v (.d (.bool b)) => some b | _ => none)
  | false => truth r.w
def evBo (rec : Ev) (tst a : Bool) : List E → Env → R Rs
  | [], _ => none
  | [x], e => rec tst x e
  | x :: xs, e => R.bind (rec tst x e) fun r e1 => match truR tst r with
    | some t => if t == a then evBo rec tst a xs e1 else some (.ok r e1)
    | none => none
def argsOf (e : Env) : List Op → Option Env
  | [] => some []
  | .rs r :: os => match argsOf e os with | some as => some (.va r.w :: as) | none => none
  | .sl i :: os => match e[i]? with
    | some (.va w) => (match argsOf e os with | some as => some (.va w :: as) | none => none)
    | some (.ls x) => (match argsOf e os with | some as => some (.va (.d x) :: as) | none => none)
    | some (.ow x) => (match argsOf (e.set i .un) os with | some as => some (.le x :: as) | none => none)
    | some (.le x) => (match argsOf (e.set i .un) os with | some as => some (.le x :: as) | none => none)
    | some (.lk x) => (match argsOf (e.set i .un) os with | some as => some (.lk x :: as) | none => none)
    | _ => none
/-- what a lent place has become -/
def backS : Sl → Sl → Option Sl
  | .ow _, .le y => some (.ow y)
  | .ow _, .ls y => some (.va (.d y))
  | .le _, .le y => some (.le y)
  | .le _, .ls y => some (.ls y)
  | .lk _, .lk y => some (.lk y)
  | _, _ => none
def backTo (e : Env) : List Op → Env → Option Env
  | [], [] => some e
  | .rs _ :: os, _ :: bs => backTo e os bs
  | .sl i :: os, b :: bs => match backTo e os bs, e[i]? with
    | some e', some s => (match s.own with
      | true => (match backS s b with | some t => some (e'.set i t) | none => none)
      | false => some e')
    | _, _ => none
  | _, _ => none
def evIfs (rec : Ev) : List E → Env → R Bool
  | [], e => some (.ok true e)
  | x :: xs, e => R.bind (rec true x e) fun r e1 => match r with
    | .v (.d (.bool true)) => evIfs rec xs e1
    | .v (.d (.bool false)) => some (.ok false e1)
    | _ => none
/-- a block may let no exception out -/
def noEr {α : Type} (m : R α) : R α := match m with | some (.er _ _ _) => none | m => m
def cmpGo (one : PyData → Env → R (List PyData)) : List PyData → Env → R (List PyData)
  | [], e => some (.ok [] e)
  | x :: xs, e => R.bind (one x e) fun ys e1 => R.bind (cmpGo one xs e1) fun zs e2 => some (.ok (ys ++ zs) e2)
/-- the walked places, locked: (place, is it lent) -/
def lockOps (e : Env) : List Op → Env × List (Nat × Bool)
  | [] => (e, [])
  | .rs _ :: os => lockOps e os
  | .sl i :: os => match e[i]? with
    | some (.ow x) => let r := lockOps (e.set i (.lk x)) os; (r.1, (i, false) :: r.2)
    | some (.le x) => let r := lockOps (e.set i (.lk x)) os; (r.1, (i, true) :: r.2)
    | _ => lockOps e os
def unlock (e : Env) : List (Nat × Bool) → Env
  | [] => e
  | (i, l) :: r => match (unlock e r)[i]? with
    | some (.lk x) => (unlock e r).set i (if l then .le x else .ow x)
    | _ => unlock e r
def evIt2 (it : It) (os : List Op) (e1 : Env) : R (List PyData × List (Nat × Bool)) :=
  match opsW e1 os with
  | some ws => (match itemsOf it ws with | some xs => some (.ok (xs, (lockOps e1 os).2) (lockOps e1 os).1) | none => none)
  | none => none
def evIt (rec : Ev) (it : It) (src : List E) (e : Env) : R (List PyData × List (Nat × Bool)) := R.bind (evOps rec src e) (evIt2 it)
def cmpOne (rec : Ev) (elt : E) (t : T) (ifs : List E) (own : List Nat) (x : PyData) (e : Env) : R (List PyData) :=
  match bindT t x e with
  | none => none
  | some e1 => R.bind (evIfs rec ifs e1) fun b e2 =>
    if b then R.bind (evGive rec elt e2) fun y e3 => some (.ok [y] (wipeE e3 own)) else some (.ok [] (wipeE e2 own))
def dcmGo (one : PyData → Env → R (Option (PyData × PyData))) : List PyData → List (PyData × PyData) → Env → R (List (PyData × PyData))
  | [], acc, e => some (.ok acc e)
  | x :: xs, acc, e => R.bind (one x e) fun kv e1 => match kv with
    | none => dcmGo one xs acc e1
    | some (k, v) => if keyOk k && acc.length < lim then dcmGo one xs (dput k v acc) e1 else none
/-- keys that are whole numbers or texts -/
def atomK : PyData → Option L2.Key
  | .int i => some (.inl i) | .str x => some (.inr x) | _ => none
def keyP : L2.Key → PyData
  | .inl i => .int i | .inr x => .str x
def keyE : L2.Key → L2.Key → Bool
  | .inl i, .inl j => decide (i = j) | .inr x, .inr y => decide (x = y) | _, _ => false
def putD {α : Type} : List (L2.Key × α) → L2.Key → α → List (L2.Key × α)
  | [], k, v => [(k, v)]
  | p :: r, k, v => if keyE p.1 k then (p.1, v) :: r else p :: putD r k v
def dcmGoI (one : PyData → Env → R (Option (PyData × PyData))) : List PyData → List (L2.Key × PyData) → Env → R (List (L2.Key × PyData))
  | [], acc, e => some (.ok acc e)
  | x :: xs, acc, e => R.bind (one x e) fun kv e1 => match kv with
    | none => dcmGoI one xs acc e1
    | some (k, v) => match atomK k with
      | some nk => if acc.length < lim then dcmGoI one xs (putD acc nk v) e1 else none
      | none => none
/-- a value, or its truth -/
def tested (tst : Bool) (m : R Rs) : R Rs :=
  match tst with
  | false => m
  | true => R.bind m fun r e1 => match truth r.w with | some b => some (.ok (.v (.d (.bool b))) e1) | none => none
def eVar (tst : Bool) (i : Nat) (e : Env) : R Rs :=
  match tst with
  | false => take e i
  | true => match peek e i with | some w => (match truth w with | some b => some (.ok (.v (.d (.bool b))) e) | none => none) | none => none
def eRun (p : P) (os : List Op) (e1 : Env) : R Rs :=
  match opsW e1 os with
  | some ws => (match p.run ws with | some r => some (.ok r e1) | none => none)
  | none => none
def ePrim (rec : Ev) (p : P) (es : List E) (e : Env) : R Rs := R.bind (evOps rec es e) (eRun p)
def isPart (e : Env) (p : Op) : Bool := match p.w e with | some (.d .none) => true | some (.d (.int _)) => true | _ => false
def eCut3 (o p : Op) (r : Op) (e3 : Env) : R Rs := eRun .cut [o, p, r] e3
def eCut2 (rec : Ev) (o : Op) (h : E) (p : Op) (e2 : Env) : R Rs := match isPart e2 p with | true => R.bind (evOp rec h e2) (eCut3 o p) | false => none
def eCut1 (rec : Ev) (l h : E) (o : Op) (e1 : Env) : R Rs := R.bind (evOp rec l e1) (eCut2 rec o h)
def eCut (rec : Ev) (x l h : E) (e : Env) : R Rs := R.bind (evOp rec x e) (eCut1 rec l h)
/-- d.get(k, z), d a place's dict with tuple keys -/
def eGet2 (i : Nat) (k z : PyData) (e2 : Env) : R Rs :=
  match peek e2 i with
  | some (.d (.dict kvs)) => if keyOk k && kvs.all (fun p => keyOk p.1) then some (.ok (.v (.d ((dget k kvs).getD z))) e2) else none
  | _ => none
def eGet (rec : Ev) (i : Nat) (y z : E) (e : Env) : R Rs :=
  match peek e i with
  | some (.d (.dict _)) => R.bind (evGive rec y e) fun k e1 => R.bind (evGive rec z e1) (eGet2 i k)
  | _ => none
def eTup (rec : Ev) (es : List E) (e : Env) : R Rs := R.bind (evGives rec es e) fun ds e1 => if ds.length ≤ lim then some (.ok (.v (.d (.tuple ds))) e1) else none
def eLst (rec : Ev) (es : List E) (e : Env) : R Rs := R.bind (evGives rec es e) fun ds e1 => if ds.length ≤ lim then some (.ok (.o (.list ds)) e1) else none
def eDic (ks vs : List E) (e : Env) : R Rs := match ks, vs with | [], [] => some (.ok (.o (.dict [])) e) | _, _ => none
def eNo (rec : Ev) (tst : Bool) (y : E) (e : Env) : R Rs :=
  match tst with
  | true => R.bind (rec true y e) fun r e1 => match r with | .v (.d (.bool b)) => some (.ok (.v (.d (.bool (!b)))) e1) | _ => none
  | false => R.bind (evOp rec y e) fun o e1 => match (o.w e1).bind truth with | some b => some (.ok (.v (.d (.bool (!b)))) e1) | none => none
def eCh2 (rec : Ev) (q : P) (ob : Op) (c : E) (e1 : Env) : R Rs :=
  R.bind (evOp rec c e1) fun o e2 => match opsW e2 [ob, o] with
    | some ws' => (match q.run ws' with | some (.v (.d (.bool b))) => some (.ok (.v (.d (.bool b))) e2) | _ => none)
    | none => none
def eCh (rec : Ev) (p q : P) (a b c : E) (e : Env) : R Rs :=
  R.bind (evOp rec a e) fun oa e0 => R.bind (evOp rec b e0) fun ob e1 => match opsW e1 [oa, ob] with
    | some ws => (match p.run ws with
      | some (.v (.d (.bool true))) => eCh2 rec q ob c e1
      | some (.v (.d (.bool false))) => some (.ok (.v (.d (.bool false))) e1)
      | _ => none)
    | none => none
def eIfe (rec : Ev) (tst : Bool) (t a b : E) (e : Env) : R Rs :=
  R.bind (rec true t e) fun r e1 => match r with
  | .v (.d (.bool true)) => rec tst a e1
  | .v (.d (.bool false)) => rec tst b e1
  | _ => none
def eBack (os : List Op) (e1 : Env) : Option CO → R Rs
  | some (.ok r as') => (match backTo e1 os as' with | some e2 => some (.ok r e2) | none => none)
  | some (.er c v as') => (match backTo e1 os as' with | some e2 => some (.er c v e2) | none => none)
  | none => none
def eCall2 (k : Nat) (os : List Op) (e1 : Env) : R Rs :=
  match argsOf e1 os with
  | some as => eBack os e1 (call k as)
  | none => none
def eCall (rec : Ev) (k : Nat) (es : List E) (e : Env) : R Rs := R.bind (evOps rec es e) (eCall2 call k)
def eCapp (i : Nat) (e : Env) : R Rs :=
  match peek e i with
  | some (.clo b cap) => (match clo b cap with
    | some (.ok r _) => some (.ok r e)
    | some (.er c v _) => some (.er c v e)
    | none => none)
  | _ => none
def eMut2 (m : Mt) (i : Nat) (ds : List PyData) (e1 : Env) : R Rs :=
  match e1[i]? with
  | some (.ow c) => (match m.run c ds with | some (c', r) => some (.ok (.v (.d r)) (e1.set i (.ow c'))) | none => none)
  | some (.le c) => (match m.run c ds with | some (c', r) => some (.ok (.v (.d r)) (e1.set i (.le c'))) | none => none)
  | _ => none
def eMut (rec : Ev) (m : Mt) (i : Nat) (es : List E) (e : Env) : R Rs :=
  match lstAt e i with
  | true => R.bind (evGives rec es e) (eMut2 m i)
  | false => none
/-- behind a comprehension: its own places as they were, the walked ones free again -/
def eEnd (own : List Nat) (e1 : Env) (held : List (Nat × Bool)) (ys : List PyData) (e2 : Env) : R Rs :=
  if ys.length ≤ lim then some (.ok (.o (.list ys)) (unlock (backE e1 e2 own) held)) else none
def eCmpL (one : PyData → Env → R (List PyData)) (own : List Nat) (xs : List PyData × List (Nat × Bool)) (e1 : Env) : R Rs :=
  R.bind (noEr (cmpGo one xs.1 (wipeE e1 own))) (eEnd own e1 xs.2)
def eCmp (rec : Ev) (elt : E) (t : T) (it : It) (src ifs : List E) (own : List Nat) (e : Env) : R Rs :=
  R.bind (evIt rec it src e) (eCmpL (cmpOne rec elt t ifs own) own)
def cmp2One (rec : Ev) (elt : E) (t : T) (ifs : List E) (t' : T) (it' : It) (src' ifs' : List E) (own : List Nat) (x : PyData) (e : Env) : R (List PyData) :=
  match bindT t x e with
  | none => none
  | some f1 => R.bind (evIfs rec ifs f1) fun b f2 => match b with
    | true => R.bind (evIt rec it' src' f2) fun xs' f3 => R.bind (cmpGo (cmpOne rec elt t' ifs' t'.slots) xs'.1 (wipeE f3 t'.slots)) fun ys f4 => some (.ok ys (wipeE (unlock (backE f3 f4 t'.slots) xs'.2) own))
    | false => some (.ok [] (wipeE f2 own))
def eCmp2 (rec : Ev) (elt : E) (t : T) (it : It) (src ifs : List E) (t' : T) (it' : It) (src' ifs' : List E) (own : List Nat) (e : Env) : R Rs :=
  R.bind (evIt rec it src e) (eCmpL (cmp2One rec elt t ifs t' it' src' ifs' own) own)
def dcmOne (rec : Ev) (k v : E) (t : T) (ifs : List E) (own : List Nat) (x : PyData) (e : Env) : R (Option (PyData × PyData)) :=
  match bindT t x e with
  | none => none
  | some f1 => R.bind (evIfs rec ifs f1) fun b f2 => match b with
    | true => R.bind (evGive rec k f2) fun y f3 => R.bind (evGive rec v f3) fun z f4 => some (.ok (some (y, z)) (wipeE f4 own))
    | false => some (.ok none (wipeE f2 own))
def eDcm2 (rec : Ev) (k v : E) (t : T) (ifs : List E) (own : List Nat) (xs : List PyData × List (Nat × Bool)) (e1 : Env) : R Rs :=
  R.bind (noEr (dcmGo (dcmOne rec k v t ifs own) xs.1 [] (wipeE e1 own))) fun kvs e2 => some (.ok (.o (.dict kvs)) (unlock (backE e1 e2 own) xs.2))
def eDcmI2 (rec : Ev) (k v : E) (t : T) (ifs : List E) (own : List Nat) (xs : List PyData × List (Nat × Bool)) (e1 : Env) : R Rs :=
  R.bind (noEr (dcmGoI (dcmOne rec k v t ifs own) xs.1 [] (wipeE e1 own))) fun kvs e2 => some (.ok (.o (.dict (kvs.map fun p => (keyP p.1, p.2)))) (unlock (backE e1 e2 own) xs.2))
def eDcmI (rec : Ev) (k v : E) (t : T) (it : It) (src ifs : List E) (own : List Nat) (e : Env) : R Rs := R.bind (evIt rec it src e) (eDcmI2 rec k v t ifs own)
def eDcm (rec : Ev) (k v : E) (t : T) (it : It) (src ifs : List E) (own : List Nat) (e : Env) : R Rs := R.bind (evIt rec it src e) (eDcm2 rec k v t ifs own)
/-- what a lambda captures is given away -/
def capGo : List Nat → Env → Option Env
  | [], e => some e
  | i :: r, e => match take e i with | some (.ok _ e1) => capGo r e1 | _ => none
/-- a datum that stays -/
def Sl.cap : Sl → Option PyData
  | .va (.d x) => some x | .ls x => some x | _ => none
def capOf (free : List Nat) : Nat → Env → List (Option PyData)
  | _, [] => []
  | k, s :: e => (if free.contains k then s.cap else none) :: capOf free (k + 1) e
/-- a def called with a lambda alone: it lets no error out -/
def eLcall (k b : Nat) (free : List Nat) (e : Env) : R Rs :=
  match capGo free e with
  | some e1 => (match call k [.va (.clo b (capOf free 0 e1))] with
    | some (.ok (.v (.d y)) _) => some (.ok (.v (.d y)) e1)
    | some (.ok (.o y) _) => some (.ok (.o y) e1)
    | _ => none)
  | none => none
def stepE (rec : Ev) (tst : Bool) (x : E) (e : Env) : R Rs :=
  match x with
  | .var i => eVar tst i e
  | .lit w => tested tst (some (.ok (.v w) e))
  | .prim p es => tested tst (ePrim rec p es e)
  | .cut x l h => tested tst (eCut rec x l h e)
  | .tup es => tested tst (eTup rec es e)
  | .lst es => tested tst (eLst rec es e)
  | .dic ks vs => tested tst (eDic ks vs e)
  | .bo a es => evBo rec tst a es e
  | .no y => eNo rec tst y e
  | .ch p q a b c => eCh rec p q a b c e
  | .ife t a b => eIfe rec tst t a b e
  | .call k es => tested tst (eCall call rec k es e)
  | .capp i => tested tst (eCapp clo i e)
  | .mut m i es => tested tst (eMut rec m i es e)
  | .cmp elt t it src ifs own => tested tst (eCmp rec elt t it src ifs own e)
  | .cmp2 elt t it src ifs t' it' src' ifs' own => tested tst (eCmp2 rec elt t it src ifs t' it' src' ifs' own e)
  | .dcm k v t it src ifs own => tested tst (eDcm rec k v t it src ifs own e)
  | .get i y z => tested tst (eGet rec i y z e)
  | .dcmI k v t it src ifs own => tested tst (eDcmI rec k v t it src ifs own e)
  | .lcall k b free => tested tst (eLcall call k b free e)
  | .star _ => none
def ev : Nat → Ev
  | 0 => fun _ _ _ => none
  | n + 1 => stepE call clo (ev n)

/-! ### statements -/
inductive Fl where
  | nx | rt (r : Rs)
def storeT (t : T) (r : Rs) (e : Env) : Option Env :=
  match t with
  | .nm i => put e i r
  | t => match r.w with | .d x => bindT t x e | _ => none
def parGo : List Nat → List Rs → Env → Option Env
  | [], [], e => some e
  | i :: is, r :: rs, e => match parGo is rs e with | some e' => put e' i r | none => none
  | _, _, _ => none
def parGoL : List Nat → List Rs → Env → Option Env
  | [], [], e => some e
  | i :: is, r :: rs, e => match put e i r with | some e' => parGoL is rs e' | none => none
  | _, _, _ => none
def evAll (rec : Ev) : List E → Env → R (List Rs)
  | [], e => some (.ok [] e)
  | x :: xs, e => R.bind (rec false x e) fun r e1 => R.bind (evAll rec xs e1) fun rs e2 => some (.ok (r :: rs) e2)
variable (sub : Nat → Nat → Bool)
def handle (c : Nat) : List (Nat × Option Nat × E) → Option (Option Nat × E)
  | [] => none
  | (h, n, b) :: r => if sub c h then some (n, b) else handle c r
/-- what an except suite gives back: of constants and the caught error's field v -/
def evH (v : Option PyData) : E → Option PyData
  | .lit (.d x) => some x
  | .prim .fld [.var _] => v
  | .prim .repr [x] => match evH v x with | some y => (match P.run .repr [.d y] with | some (.v (.d z)) => some z | _ => none) | none => none
  | .prim .add [x, y] => match evH v x, evH v y with
    | some a, some b => (match P.run .add [.d a, .d b] with | some (.v (.d z)) => some z | _ => none)
    | _, _ => none
  | .tup [x] => match evH v x with | some a => some (.tuple [a]) | none => none
  | .tup [x, y] => match evH v x, evH v y with | some a, some b => some (.tuple [a, b]) | _, _ => none
  | _ => none
def unName : Option Nat → Env → Option Env
  | none, e => some e
  | some i, e => match e[i]? with | some .un => some e | some (.va _) => some (e.set i .un) | _ => none
def foGo (one : PyData → Env → R Fl) : List PyData → Env → R Fl
  | [], e => some (.ok .nx e)
  | x :: xs, e => R.bind (one x e) fun f e1 => match f with
    | .nx => foGo one xs e1
    | .rt r => some (.ok (.rt r) e1)
def contS (m : R Fl) (k : Env → R Fl) : R Fl :=
  R.bind m fun f e => match f with | .nx => k e | .rt r => some (.ok (.rt r) e)
def sSet2 (t : T) (r : Rs) (e1 : Env) : R Fl := match storeT t r e1 with | some e2 => some (.ok .nx e2) | none => none
def sSet (rec : Ev) (t : T) (y : E) (e : Env) : R Fl := R.bind (rec false y e) (sSet2 t)
def parV : List Nat → List PyData → Env → Option Env
  | [], [], e => some e
  | i :: is, x :: xs, e => match put e i (.v (.d x)) with | some e' => parV is xs e' | none => none
  | _, _, _ => none
def sPar2 (is : List Nat) (ds : List PyData) (e1 : Env) : R Fl := match parV is ds e1 with | some e2 => some (.ok .nx e2) | none => none
def sPar (rec : Ev) (is : List Nat) (es : List E) (e : Env) : R Fl := R.bind (evGives rec es e) (sPar2 is)
/-- a, b = x, []: the new list in the last place -/
def sParL2 : List Nat → List PyData → Env → R Fl
  | [i, j], [d], e1 => match put e1 j (.o (.list [])) with
    | some e2 => match put e2 i (.v (.d d)) with | some e3 => some (.ok .nx e3) | none => none
    | none => none
  | [i, j, l], [d, d'], e1 => match put e1 l (.o (.list [])) with
    | some e2 => match put e2 i (.v (.d d)) with
      | some e3 => match put e3 j (.v (.d d')) with | some e4 => some (.ok .nx e4) | none => none
      | none => none
    | none => none
  | _, _, _ => none
def sParL (rec : Ev) (is : List Nat) (es : List E) (e : Env) : R Fl :=
  match es with
  | [y] => R.bind (evGive rec y e) fun d e1 => sParL2 is [d] e1
  | [y, z] => R.bind (evGive rec y e) fun d e1 => R.bind (evGive rec z e1) fun d' e2 => sParL2 is [d, d'] e2
  | _ => none
def storeAt (i : Nat) (v k : PyData) (e : Env) : R Fl :=
  match e[i]? with
  | some (.ow c) => (match setAt c k v with | some c' => some (.ok .nx (e.set i (.ow c'))) | none => none)
  | some (.le c) => (match setAt c k v with | some c' => some (.ok .nx (e.set i (.le c'))) | none => none)
  | _ => none
def sSix2 (rec : Ev) (i : Nat) (ix : E) (v : PyData) (e1 : Env) : R Fl := match peek e1 i with | some _ => R.bind (evGive rec ix e1) (storeAt i v) | none => none
def sSix (rec : Ev) (i : Nat) (ix y : E) (e : Env) : R Fl := R.bind (evGive rec y e) (sSix2 rec i ix)
/-- in-place, of ints -/
def augI : P → Int → Int → Option Int
  | .add, i, j => some (i + j)
  | .sub, i, j => some (i - j)
  | .mul, i, j => if (-(2 ^ 64) < i ∧ i < 2 ^ 64) ∨ (-(2 ^ 64) < j ∧ j < 2 ^ 64) then some (i * j) else none
  | _, _, _ => none
def sAug2 (i : Nat) (p : P) (a : Int) (o : Op) (e1 : Env) : R Fl :=
  match o.w e1 with
  | some (.d (.int b)) => (match augI p a b with
    | some c => (match put e1 i (.v (.d (.int c))) with | some e2 => some (.ok .nx e2) | none => none)
    | none => none)
  | _ => none
def sAug (rec : Ev) (i : Nat) (p : P) (y : E) (e : Env) : R Fl :=
  match peek e i with
  | some (.d (.int a)) => R.bind (evOp rec y e) (sAug2 i p a)
  | _ => none
def sAugx2 (i : Nat) (kk : Int) (p : P) (old : Int) (o : Op) (e2 : Env) : R Fl :=
  match o.w e2 with
  | some (.d (.int z)) => (match augI p old z with
    | some new => storeAt i (.int new) (.int kk) e2
    | none => none)
  | _ => none
def sAugx1 (rec : Ev) (i : Nat) (p : P) (y : E) (k : PyData) (e1 : Env) : R Fl :=
  match k with
  | .int kk => if 0 ≤ kk ∧ kk < 2 ^ 60 then (match peek e1 i with
    | some (.d (.list xs)) => (match xs[kk.toNat]? with
      | some (.int old) => R.bind (evOp rec y e1) (sAugx2 i kk p old)
      | _ => none)
    | _ => none) else none
  | _ => none
def sAugx (rec : Ev) (i : Nat) (ix : E) (p : P) (y : E) (e : Env) : R Fl :=
  match peek e i with
  | some (.d (.list _)) => R.bind (evGive rec ix e) (sAugx1 rec i p y)
  | _ => none
def rtR (r : Rs) (e1 : Env) : R Fl := some (.ok (.rt r) e1)
def nxR {α : Type} (_ : α) (e1 : Env) : R Fl := some (.ok .nx e1)
def sRet (rec : Ev) (y : E) (e : Env) : R Fl :=
  match y with
  | .var i => R.bind (moved e i) rtR
  | y => R.bind (rec false y e) rtR
def sIfe2 (exs : List S → Env → R Fl) (a b : List S) (r : Rs) (e1 : Env) : R Fl :=
  match r with
  | .v (.d (.bool true)) => exs a e1
  | .v (.d (.bool false)) => exs b e1
  | _ => none
def sIfe (exs : List S → Env → R Fl) (rec : Ev) (t : E) (a b : List S) (e : Env) : R Fl := R.bind (rec true t e) (sIfe2 exs a b)
def foOne (exs : List S → Env → R Fl) (t : T) (body : List S) (x : PyData) (e : Env) : R Fl := match bindT t x e with | some e2 => exs body e2 | none => none
/-- behind a walk: its places free again, an error's too -/
def unlkR {α : Type} (held : List (Nat × Bool)) : R α → R α
  | none => none
  | some (.ok a e) => some (.ok a (unlock e held))
  | some (.er c v e) => some (.er c v (unlock e held))
def sFo2 (exs : List S → Env → R Fl) (t : T) (body : List S) (xs : List PyData × List (Nat × Bool)) (e1 : Env) : R Fl := unlkR xs.2 (foGo (foOne exs t body) xs.1 e1)
def sFo (exs : List S → Env → R Fl) (rec : Ev) (t : T) (it : It) (src : List E) (body : List S) (e : Env) : R Fl := R.bind (evIt rec it src e) (sFo2 exs t body)
def sWh (exs : List S → Env → R Fl) (rec : Ev) (t : E) (body : List S) (e : Env) : R Fl :=
  R.bind (rec true t e) fun r e1 => match r with
  | .v (.d (.bool true)) => contS (exs body e1) fun e2 => exs [.wh t body] e2
  | .v (.d (.bool false)) => some (.ok .nx e1)
  | _ => none
/-- a, b = x, y, each kept as it is -/
def sParO2 (i j : Nat) (r1 r2 : Rs) (e2 : Env) : R Fl := match put e2 i r1 with
  | some e3 => (match put e3 j r2 with | some e4 => some (.ok .nx e4) | none => none)
  | none => none
def sParO (rec : Ev) (i j : Nat) (x y : E) (e : Env) : R Fl := R.bind (rec false x e) fun r1 e1 => R.bind (rec false y e1) fun r2 e2 => sParO2 i j r1 r2 e2
def sRai (rec : Ev) (c : Nat) (y : Option E) (e : Env) : R Fl :=
  match y with
  | none => some (.er c none e)
  | some y => R.bind (evGive rec y e) fun v e1 => some (.er c (some v) e1)
def sTr (exs : List S → Env → R Fl) (body : List S) (hs : List (Nat × Option Nat × E)) (e : Env) : R Fl :=
  match exs body e with
  | some (.er c v e1) => (match handle sub c hs with
    | none => some (.er c v e1)
    | some (n, y) => (match evH v y, unName n e1 with
      | some z, some e2 => some (.ok (.rt (.v (.d z))) e2)
      | _, _ => none))
  | m => m
def stepS (exs : List S → Env → R Fl) (rec : Ev) (x : S) (e : Env) : R Fl :=
  match x with
  | .set t y => sSet rec t y e
  | .par is es => sPar rec is es e
  | .parL is es => sParL rec is es e
  | .parO i j x y => sParO rec i j x y e
  | .six i ix y => sSix rec i ix y e
  | .aug i p y => sAug rec i p y e
  | .augx i ix p y => sAugx rec i ix p y e
  | .expr y => R.bind (rec false y e) nxR
  | .ret y => sRet rec y e
  | .retN => some (.ok (.rt (.v (.d .none))) e)
  | .ife t a b => sIfe exs rec t a b e
  | .fo t it src body => sFo exs rec t it src body e
  | .wh t body => sWh exs rec t body e
  | .rai c y => sRai rec c y e
  | .tr body hs => sTr sub exs body hs e
  | .pas => some (.ok .nx e)
def exGo (one : S → Env → R Fl) : List S → Env → R Fl
  | [], e => some (.ok .nx e)
  | x :: xs, e => contS (one x e) (exGo one xs)
def exs : Nat → List S → Env → R Fl
  | 0 => fun _ _ => none
  | n + 1 => exGo (stepS sub (exs n) (ev call clo n))
end

/-! ### defs -/
structure Df where
  np : Nat
  star : Bool
  ns : Nat
  body : List S
structure Prg where
  defs : List Df
  lams : List E
  sub : Nat → Nat → Bool
def fuel : Nat := 1000000
/-- what the frame's parameters hold: with a star, the last one a tuple of what is left over -/
def starArgs (f : Df) (as : Env) : Option Env :=
  match f.star with
  | true => if f.np ≤ as.length + 1 ∧ 0 < f.np then (match datas ((as.drop (f.np - 1)).map fun s => match s with | .va w => w | _ => .fn 0) with | some ds => if ds.length ≤ lim then some (as.take (f.np - 1) ++ [.va (.d (.tuple ds))]) else none | none => none) else none
  | false => if as.length = f.np then some as else none
/-- what lent arguments have become -/
def retE : Env → Env → Env
  | [], _ => []
  | _ :: as, [] => .un :: retE as []
  | a :: as, b :: es => (if a.lent then b else .un) :: retE as es
def fin (as : Env) (m : R Fl) : Option CO :=
  match m with
  | none => none
  | some (.ok .nx e) => some (.ok (.v (.d .none)) (retE as e))
  | some (.ok (.rt r) e) => some (.ok r (retE as e))
  | some (.er c v e) => some (.er c v (retE as e))
def capE (cap : List (Option PyData)) : Env := cap.map fun o => match o with | some x => .va (.d x) | none => .un
mutual
def callD (p : Prg) : Nat → Nat → Env → Option CO
  | 0, _, _ => none
  | d + 1, k, as => match p.defs[k]? with
    | none => none
    | some f => match starArgs f as with
      | none => none
      | some as' => fin as (exs (callD p d) (cloD p d) p.sub fuel f.body (as' ++ List.replicate (f.ns - f.np) .un))
def cloD (p : Prg) : Nat → Nat → List (Option PyData) → Option CO
  | 0, _, _ => none
  | d + 1, b, cap => match p.lams[b]? with
    | none => none
    | some x => match ev (callD p d) (cloD p d) fuel false x (capE cap) with
      | none => none
      | some (.ok r _) => some (.ok r [])
      | some (.er c v _) => some (.er c v [])
end
end Ev
set_option Elab.async false
set_option linter.all false
set_option maxRecDepth 100000
set_option maxHeartbeats 1000000
/-! EvB: what a heap holds of plain data; places; steps. -/
namespace Ev
open PySem PySem.Spec PyProof.Rows L2

/-- the text's own facts: where its defs and error classes stand, what a closure or a caught error is -/
structure G where
  prog : Program
  w : World
  K : PySem.W.Frag
  fa : Nat → Option Addr
  ca : Nat → Option Addr
  fld : Nat → Option Str
  C : V → Wd → Hp → Prop
  T : List (Addr × Str)

def Sub (F H : Hp) : Prop := ∀ a o, F a = some o → H a = some o
theorem Sub.refl (F : Hp) : Sub F F := fun _ _ h => h
theorem Sub.trans {F F1 F2 : Hp} (a : Sub F F1) (b : Sub F1 F2) : Sub F F2 := fun c o h => b c o (a c o h)
theorem Sub.new {F : Hp} {a : Addr} {o : HO} (h : F a = none) : Sub F (upd F a o) := fun b u e => by
  rw [upd_ne (ne_of_none e h)]
  exact e
theorem Sub.new2 {F H : Hp} {a : Addr} {o : HO} (s : Sub F H) (h : H a = none) : Sub F (upd H a o) := s.trans (Sub.new h)
theorem Sub.both {F H : Hp} {a : Addr} {o : HO} (s : Sub F H) : Sub (L2.upd F a o) (L2.upd H a o) := fun b u e => by
  by_cases hb : b = a
  · rw [hb, upd_same] at e ⊢
    exact e
  · rw [upd_ne hb] at e ⊢
    exact s _ _ e
theorem rd_sub {F H : Hp} (s : Sub F H) {a : Addr} {u : HO} (r : Rd F a u) : Rd H a u := by
  rcases r with r | ⟨o, r⟩
  · exact .inl (s _ _ r)
  · exact .inr ⟨o, s _ _ r⟩
theorem sl_sub {K : PySem.W.Frag} {F H : Hp} (s : Sub F H) {a : Addr} {xs : List V} (r : SqL K F a xs) : SqL K H a xs := r.imp (rd_sub s) id
theorem st_sub {K : PySem.W.Frag} {F H : Hp} (s : Sub F H) {a : Addr} {xs : List V} (r : SqT K F a xs) : SqT K H a xs := r.imp (rd_sub s) id

/-! ### dicts whose keys are tuples -/
mutual
def keyD : NestedKey → PyData
  | .none => .none
  | .num i => .int i
  | .text x => .str x
  | .tup ks => .tuple (keyDs ks)
def keyDs : List NestedKey → List PyData
  | [] => []
  | k :: ks => keyD k :: keyDs ks
end
def ent (ks : List (NestedKey × Addr)) (us : List Value) : List (NestedKey × Addr × Value) := (ks.zip us).map fun p => (p.1.1, p.1.2, p.2)
/-- at a: a dict of the keys ks (with the places of their tuples) and the values vs -/
def DicO (P : Program) (w : World) (a : Addr) (ks : List (NestedKey × Addr)) (vs : List V) : HO := .ext fun h =>
  (a == sysModules) = false ∧ ks.length ≤ sizeLine ∧ ks.length = vs.length ∧ (ks.map (·.1)).Nodup ∧ (∀ p ∈ ks, p.1.depth ≤ 8) ∧ ∃ us : List Value, Vals vs us ∧
    ∃ o es ep, h.get? a = some o ∧ o.ExactDict ∧ o.data = .dict es ep ∧ es.toList = (ent ks us).map (entryOfKey (nestedKind P w))

section
variable (g : G)
mutual
/-- v is the datum, and nothing of it changes any more -/
inductive Rep (F : Hp) : V → PyData → Prop
  | non : Rep F .non .none
  | bl (b : Bool) : Rep F (.bl b) (.bool b)
  | int (i : Int) : Rep F (.int i) (.int i)
  | str (x : Str) : Rep F (.str x) (.str x)
  | lst {a : Addr} {xs : List V} {ds : List PyData} : F a = some (.lst xs) → RepAll F xs ds → Rep F (.ref a) (.list ds)
  | tup {a : Addr} {xs : List V} {ds : List PyData} : SqT g.K F a xs → RepAll F xs ds → Rep F (.ref a) (.tuple ds)
  | dicK {a : Addr} {kv : List (Key × V)} {kds vds : List PyData} : Rd F a (.dK kv) → RepAll F (kv.map fun p => kV p.1) kds → RepAll F (kv.map (·.2)) vds → Rep F (.ref a) (.dict (kds.zip vds))
  | dicT {a : Addr} {ks : List (NestedKey × Addr)} {vs : List V} {vds : List PyData} : Rd F a (DicO g.prog g.w a ks vs) → RepAll F (ks.map fun p => .ref p.2) (ks.map fun p => keyD p.1) → RepAll F vs vds →
      Rep F (.ref a) (.dict ((ks.map fun p => keyD p.1).zip vds))
inductive RepAll (F : Hp) : List V → List PyData → Prop
  | nil : RepAll F [] []
  | cons {v : V} {vs : List V} {d : PyData} {ds : List PyData} : Rep F v d → RepAll F vs ds → RepAll F (v :: vs) (d :: ds)
end
end
section
variable {g : G} {F F' H H' : Hp}
theorem RepAll.length : ∀ {vs : List V} {ds : List PyData}, RepAll g F vs ds → vs.length = ds.length
  | _, _, .nil => rfl
  | _, _, .cons _ t => by rw [List.length_cons, List.length_cons, RepAll.length t]
theorem rep_mono (s : Sub F F') : (∀ {v : V} {d : PyData}, Rep g F v d → Rep g F' v d) ∧ (∀ {vs : List V} {ds : List PyData}, RepAll g F vs ds → RepAll g F' vs ds) := by
  constructor
  · intro v d r
    refine Rep.rec (motive_1 := fun v d _ => Rep g F' v d) (motive_2 := fun vs ds _ => RepAll g F' vs ds) ?_ ?_ ?_ ?_ ?_ ?_ ?_ ?_ ?_ ?_ r
    · exact .non
    · exact .bl
    · exact .int
    · exact .str
    · exact fun q _ i => .lst (s _ _ q) i
    · exact fun q _ i => .tup (st_sub s q) i
    · exact fun q _ _ i j => .dicK (rd_sub s q) i j
    · exact fun q _ _ i j => .dicT (rd_sub s q) i j
    · exact .nil
    · exact fun _ _ i j => .cons i j
  · intro vs ds r
    refine RepAll.rec (motive_1 := fun v d _ => Rep g F' v d) (motive_2 := fun vs ds _ => RepAll g F' vs ds) ?_ ?_ ?_ ?_ ?_ ?_ ?_ ?_ ?_ ?_ r
    · exact .non
    · exact .bl
    · exact .int
    · exact .str
    · exact fun q _ i => .lst (s _ _ q) i
    · exact fun q _ i => .tup (st_sub s q) i
    · exact fun q _ _ i j => .dicK (rd_sub s q) i j
    · exact fun q _ _ i j => .dicT (rd_sub s q) i j
    · exact .nil
    · exact fun _ _ i j => .cons i j
theorem Rep.mono (s : Sub F F') {v : V} {d : PyData} (r : Rep g F v d) : Rep g F' v d := (rep_mono s).1 r
theorem RepAll.mono (s : Sub F F') {vs : List V} {ds : List PyData} (r : RepAll g F vs ds) : RepAll g F' vs ds := (rep_mono s).2 r
theorem RepAll.append : ∀ {vs us : List V} {ds es : List PyData}, RepAll g F vs ds → RepAll g F us es → RepAll g F (vs ++ us) (ds ++ es)
  | _, _, _, _, .nil, r => r
  | _, _, _, _, .cons r t, q => .cons r (RepAll.append t q)
theorem RepAll.get : ∀ {vs : List V} {ds : List PyData} {i : Nat} {d : PyData}, RepAll g F vs ds → ds[i]? = some d → ∃ v, vs[i]? = some v ∧ Rep g F v d
  | _, _, _, _, .nil, e => by simp at e
  | _, _, 0, _, .cons r _, e => by
    simp at e
    subst e
    exact ⟨_, rfl, r⟩
  | _, _, i + 1, d, .cons _ t, e => by
    obtain ⟨v, h1, h2⟩ := RepAll.get (i := i) (d := d) t (by simpa using e)
    exact ⟨v, by simpa using h1, h2⟩
theorem RepAll.getV : ∀ {vs : List V} {ds : List PyData} {i : Nat} {v : V}, RepAll g F vs ds → vs[i]? = some v → ∃ d, ds[i]? = some d ∧ Rep g F v d
  | _, _, _, _, .nil, e => by simp at e
  | _, _, 0, _, .cons r _, e => by
    simp at e
    subst e
    exact ⟨_, rfl, r⟩
  | _, _, i + 1, d, .cons _ t, e => by
    obtain ⟨v, h1, h2⟩ := RepAll.getV (i := i) (v := d) t (by simpa using e)
    exact ⟨v, by simpa using h1, h2⟩
theorem RepAll.set {v : V} {d : PyData} (r : Rep g F v d) : ∀ {vs : List V} {ds : List PyData} (i : Nat), RepAll g F vs ds → RepAll g F (vs.set i v) (ds.set i d)
  | _, _, _, .nil => .nil
  | _, _, 0, .cons _ t => .cons r t
  | _, _, i + 1, .cons q t => .cons q (RepAll.set r i t)
theorem RepAll.take : ∀ {vs : List V} {ds : List PyData} (n : Nat), RepAll g F vs ds → RepAll g F (vs.take n) (ds.take n)
  | _, _, 0, _ => .nil
  | _, _, _ + 1, .nil => .nil
  | _, _, n + 1, .cons r t => .cons r (RepAll.take n t)
theorem RepAll.drop : ∀ {vs : List V} {ds : List PyData} (n : Nat), RepAll g F vs ds → RepAll g F (vs.drop n) (ds.drop n)
  | _, _, 0, r => r
  | _, _, _ + 1, .nil => .nil
  | _, _, n + 1, .cons _ t => RepAll.drop n t
theorem RepAll.reverse {vs : List V} {ds : List PyData} (r : RepAll g F vs ds) : RepAll g F vs.reverse ds.reverse := by
  induction r using RepAll.rec (motive_1 := fun _ _ _ => True) with
  | nil => exact .nil
  | cons r t _ ih =>
    rw [List.reverse_cons, List.reverse_cons]
    exact ih.append (.cons r .nil)
  | _ => trivial
theorem RepAll.one {v : V} {d : PyData} (r : Rep g F v d) : RepAll g F [v] [d] := .cons r .nil

/-! ### words -/
def RepW (g : G) (F : Hp) (v : V) : Wd → Prop
  | .d x => Rep g F v x
  | .fn i => ∃ a, g.fa i = some a ∧ v = .ref a
  | .st _ => False
  | .sc ns => ∃ a, v = .ref a ∧ SqL g.K F a (ns.map V.int)
  | w => ∃ F0, g.C v w F0 ∧ Sub F0 F
theorem RepW.mono (s : Sub F F') {v : V} : ∀ {w : Wd}, RepW g F v w → RepW g F' v w
  | .d _, r => Rep.mono s r
  | .fn _, r => r
  | .st _, r => r
  | .sc _, r => let ⟨a, e, q⟩ := r; ⟨a, e, sl_sub s q⟩
  | .clo _ _, r => let ⟨F0, h, z⟩ := r; ⟨F0, h, z.trans s⟩
  | .ex _ _, r => let ⟨F0, h, z⟩ := r; ⟨F0, h, z.trans s⟩
/-- a list or dict at a, by the heap H, its items by F -/
def OwnAt (g : G) (F H : Hp) (a : Addr) : PyData → Prop
  | .list ds => ∃ xs, H a = some (.lst xs) ∧ RepAll g F xs ds
  | .dict kvs => (∃ (kv : List (Key × V)) (kds vds : List PyData), H a = some (.dK kv) ∧ RepAll g F (kv.map fun p => kV p.1) kds ∧ RepAll g F (kv.map (·.2)) vds ∧ kvs = kds.zip vds) ∨
      ∃ (ks : List (NestedKey × Addr)) (vs : List V) (vds : List PyData), H a = some (DicO g.prog g.w a ks vs) ∧ RepAll g F (ks.map fun p => .ref p.2) (ks.map fun p => keyD p.1) ∧ RepAll g F vs vds ∧
        kvs = (ks.map fun p => keyD p.1).zip vds
  | _ => False
theorem lst_not (xs : List V) : (∀ ps, HO.lst xs ≠ .tbl ps) ∧ (∀ ob z, HO.lst xs ≠ .frz ob z) := ⟨fun _ q => (by cases q), fun _ _ q => (by cases q)⟩
theorem dK_not (xs : List (Key × V)) : (∀ ps, HO.dK xs ≠ .tbl ps) ∧ (∀ ob z, HO.dK xs ≠ .frz ob z) := ⟨fun _ q => (by cases q), fun _ _ q => (by cases q)⟩
theorem dic_not {P : Program} {w : World} {a : Addr} {ks : List (NestedKey × Addr)} {vs : List V} : (∀ ps, DicO P w a ks vs ≠ .tbl ps) ∧ (∀ ob z, DicO P w a ks vs ≠ .frz ob z) := by
  unfold DicO
  exact ⟨fun _ q => (by cases q), fun _ _ q => (by cases q)⟩
theorem OwnAt.here {a : Addr} {x : PyData} (o : OwnAt g F H a x) : ∃ u, H a = some u ∧ (∀ ps, u ≠ .tbl ps) ∧ (∀ ob z, u ≠ .frz ob z) := by
  cases x with
  | list ds =>
    obtain ⟨xs, h, _⟩ := o
    exact ⟨_, h, lst_not xs⟩
  | dict kvs =>
    rcases o with ⟨kv, _, _, h, _⟩ | ⟨ks, vs, _, h, _⟩
    · exact ⟨_, h, dK_not kv⟩
    · exact ⟨_, h, dic_not⟩
  | _ => exact o.elim
theorem OwnAt.move (s : Sub F F') {a : Addr} {x : PyData} (o : OwnAt g F H a x) (e : H' a = H a) : OwnAt g F' H' a x := by
  cases x with
  | list ds =>
    obtain ⟨xs, h, r⟩ := o
    exact ⟨xs, e.trans h, r.mono s⟩
  | dict kvs =>
    rcases o with ⟨kv, k1, k2, h, r1, r2, q⟩ | ⟨ks, k1, k2, h, r1, r2, q⟩
    · exact .inl ⟨kv, k1, k2, e.trans h, r1.mono s, r2.mono s, q⟩
    · exact .inr ⟨ks, k1, k2, e.trans h, r1.mono s, r2.mono s, q⟩
  | _ => exact o.elim
/-- frozen: it is a datum from then on -/
theorem OwnAt.rep {a : Addr} {x : PyData} (o : OwnAt g F H a x) (hn : F a = none) {u : HO} (hu : H a = some u) : Rep g (upd F a u) (.ref a) x := by
  have s : Sub F (upd F a u) := Sub.new hn
  cases x with
  | list ds =>
    obtain ⟨xs, h, r⟩ := o
    rw [hu] at h
    cases h
    exact .lst upd_same (r.mono s)
  | dict kvs =>
    rcases o with ⟨kv, k1, k2, h, r1, r2, q⟩ | ⟨ks, k1, k2, h, r1, r2, q⟩
    · rw [hu] at h
      cases h
      rw [q]
      exact .dicK (.inl upd_same) (r1.mono s) (r2.mono s)
    · rw [hu] at h
      cases h
      rw [q]
      exact .dicT (.inl upd_same) (r1.mono s) (r2.mono s)
  | _ => exact o.elim
/-- what an operator sees: the thing itself by H, its items by F -/
def TopW (g : G) (F H : Hp) (v : V) : Wd → Prop
  | .d (.list ds) => ∃ a xs, v = .ref a ∧ H a = some (.lst xs) ∧ RepAll g F xs ds
  | .sc ns => ∃ a, v = .ref a ∧ SqL g.K H a (ns.map V.int)
  | .d (.dict kvs) => ∃ a, v = .ref a ∧ (∃ u, Rd H a u ∧ OwnAt g F (upd H a u) a (.dict kvs))
  | w => RepW g F v w
theorem TopW.of (s : Sub F H) {v : V} : ∀ {w : Wd}, RepW g F v w → TopW g F H v w
  | .d (.list _), r => by
    cases r with
    | lst q r => exact ⟨_, _, rfl, s _ _ q, r⟩
  | .d (.dict _), r => by
    cases r with
    | dicK q r1 r2 => exact ⟨_, rfl, _, rd_sub s q, .inl ⟨_, _, _, upd_same, r1, r2, rfl⟩⟩
    | dicT q r1 r2 => exact ⟨_, rfl, _, rd_sub s q, .inr ⟨_, _, _, upd_same, r1, r2, rfl⟩⟩
  | .d .none, r => r
  | .d (.bool _), r => r
  | .d (.int _), r => r
  | .d (.str _), r => r
  | .d (.tuple _), r => r
  | .fn _, r => r
  | .st _, r => r
  | .sc _, r => let ⟨a, e, q⟩ := r; ⟨a, e, sl_sub s q⟩
  | .clo _ _, r => r
  | .ex _ _, r => r
theorem OwnAt.top {a : Addr} {x : PyData} (o : OwnAt g F H a x) : TopW g F H (.ref a) (.d x) := by
  cases x with
  | list ds =>
    obtain ⟨xs, h, r⟩ := o
    exact ⟨a, xs, rfl, h, r⟩
  | dict kvs =>
    obtain ⟨u, hu, _⟩ := OwnAt.here o
    exact ⟨a, rfl, u, .inl hu, o.move (Sub.refl F) (by rw [upd_same, hu])⟩
  | _ => exact o.elim
end

/-! ### places -/
def SlOk (g : G) (F H : Hp) (o : Option V) : Sl → Prop
  | .un => True
  | .va w => ∃ v, o = some v ∧ RepW g F v w
  | .ls x => ∃ v, o = some v ∧ Rep g F v x
  | .ow x => ∃ a, o = some (.ref a) ∧ F a = none ∧ OwnAt g F H a x
  | .le x => ∃ a, o = some (.ref a) ∧ F a = none ∧ OwnAt g F H a x
  | .lk x => ∃ a, o = some (.ref a) ∧ F a = none ∧ OwnAt g F H a x
def slot (σ : L2.St) (i : Nat) : Option V := (σ[i]?).join
/-- a is the place of a list that a place holds for its own -/
def Own (σ : L2.St) (e : Env) (a : Addr) : Prop := ∃ i s, e[i]? = some s ∧ s.own = true ∧ slot σ i = some (.ref a)
structure Ok (g : G) (F : Hp) (σ : L2.St) (H : Hp) (e : Env) : Prop where
  sub : Sub F H
  len : e.length = σ.length
  pl : ∀ i s, e[i]? = some s → SlOk g F H (slot σ i) s
  apart : ∀ i j s t a, i ≠ j → e[i]? = some s → e[j]? = some t → s.own = true → t.own = true → slot σ i = some (.ref a) → slot σ j ≠ some (.ref a)
  tab : LamX.Tabs g.T H ∧ ∀ p ∈ g.T, F p.1 = none
theorem tab_upd {T : List (Addr × Str)} {F H : Hp} {a : Addr} {u : HO} (t : LamX.Tabs T H ∧ ∀ p ∈ T, F p.1 = none) (hu : H a = some u) (hn : ∀ ps, u ≠ .tbl ps) : LamX.Tabs T H ∧ ∀ p ∈ T, upd F a u p.1 = none :=
  ⟨t.1, fun p hp => by
    rw [upd_ne]
    · exact t.2 p hp
    · intro z
      obtain ⟨ps, h, _⟩ := t.1 p hp
      rw [z, hu] at h
      exact hn ps (Option.some.inj h)⟩
/-- what a lent place may become -/
def Held : Sl → Sl → Prop
  | .lk x, t => t = .lk x
  | .ls x, t => t = .ls x
  | .le _, t => ∃ y, t = .le y ∨ t = .ls y
  | _, _ => True
structure Stp (F : Hp) (σ : L2.St) (H : Hp) (e : Env) (F' : Hp) (σ' : L2.St) (H' : Hp) (e' : Env) : Prop where
  fz : Sub F F'
  keep : ∀ a o, H a = some o → ¬ Own σ e a → (∀ ps, o ≠ .tbl ps) → H' a = some o
  there : ∀ a, H a ≠ none → H' a ≠ none
  newF : ∀ a, F' a ≠ none → F a ≠ none ∨ Own σ e a ∨ H a = none
  newO : ∀ a, Own σ' e' a → Own σ e a ∨ H a = none
  held : ∀ i s, e[i]? = some s → s.lent = true → slot σ' i = slot σ i ∧ ∃ t, e'[i]? = some t ∧ Held s t
theorem Held.trans {s t u : Sl} (a : Held s t) (b : t.lent = true → Held t u) (hs : s.lent = true) : Held s u := by
  cases s with
  | lk x =>
    have e : t = .lk x := a
    subst e
    exact b rfl
  | ls x =>
    have e : t = .ls x := a
    subst e
    exact b rfl
  | le x =>
    obtain ⟨y, e | e⟩ := a
    · subst e
      exact b rfl
    · subst e
      have z : u = .ls y := b rfl
      exact ⟨y, .inr z⟩
  | _ => cases hs
theorem Held.lent {s t : Sl} (a : Held s t) (hs : s.lent = true) : t.lent = true := by
  cases s with
  | lk x =>
    have e : t = .lk x := a
    rw [e]
    rfl
  | ls x =>
    have e : t = .ls x := a
    rw [e]
    rfl
  | le x =>
    obtain ⟨y, e | e⟩ := a <;> (rw [e]; rfl)
  | _ => cases hs
section
variable {g : G} {F F1 F2 H H1 H2 : Hp} {σ σ1 σ2 : L2.St} {e e1 e2 : Env}
theorem Stp.refl : Stp F σ H e F σ H e := ⟨Sub.refl F, fun _ _ h _ _ => h, fun _ h => h, fun _ h => .inl h, fun _ h => .inl h, fun i s h _ => ⟨rfl, s, h, by cases s <;> first | rfl | trivial | exact ⟨_, .inl rfl⟩⟩⟩
theorem Stp.trans (a : Stp F σ H e F1 σ1 H1 e1) (b : Stp F1 σ1 H1 e1 F2 σ2 H2 e2) : Stp F σ H e F2 σ2 H2 e2 where
  fz := a.fz.trans b.fz
  keep := fun c o h n t => b.keep c o (a.keep c o h n t) (fun z => (a.newO c z).elim n fun q => by rw [q] at h; cases h) t
  there := fun c h => b.there c (a.there c h)
  newF := fun c h => by
    rcases b.newF c h with h | h | h
    · exact a.newF c h
    · exact .inr (a.newO c h)
    · by_cases q : H c = none
      · exact .inr (.inr q)
      · exact absurd h (a.there c q)
  newO := fun c h => by
    rcases b.newO c h with h | h
    · exact a.newO c h
    · by_cases q : H c = none
      · exact .inr q
      · exact absurd h (a.there c q)
  held := fun i s h l => by
    obtain ⟨q, t, h1, k⟩ := a.held i s h l
    obtain ⟨q2, u, h2, k2⟩ := b.held i t h1 (k.lent l)
    exact ⟨q2.trans q, u, h2, k.trans (fun _ => k2) l⟩
/-- a list that nobody else holds stays through a step -/
structure Tmp (F : Hp) (σ : L2.St) (H : Hp) (e : Env) (a : Addr) : Prop where
  nf : F a = none
  no : ¬ Own σ e a
  th : H a ≠ none
theorem Tmp.step {a : Addr} (t : Tmp F σ H e a) (s : Stp F σ H e F1 σ1 H1 e1) : Tmp F1 σ1 H1 e1 a where
  nf := by
    cases q : F1 a with
    | none => rfl
    | some o =>
      rcases s.newF a (by rw [q]; simp) with h | h | h
      · exact absurd t.nf h
      · exact absurd h t.no
      · exact absurd h t.th
  no := fun z => (s.newO a z).elim t.no t.th
  th := s.there a t.th
theorem OwnAt.step {a : Addr} {x : PyData} (o : OwnAt g F H a x) (t : Tmp F σ H e a) (s : Stp F σ H e F1 σ1 H1 e1) : OwnAt g F1 H1 a x := by
  obtain ⟨u, hu, h1, _⟩ := o.here
  exact o.move s.fz ((s.keep a u hu t.no h1).trans hu.symm)
theorem Ok.own (k : Ok g F σ H e) {i : Nat} {s : Sl} (h : e[i]? = some s) (ho : s.own = true) : ∃ a x, slot σ i = some (.ref a) ∧ F a = none ∧ OwnAt g F H a x ∧ (s = .ow x ∨ s = .le x ∨ s = .lk x) := by
  have q := k.pl i s h
  cases s with
  | ow x =>
    obtain ⟨a, h1, h2, h3⟩ := q
    exact ⟨a, x, h1, h2, h3, .inl rfl⟩
  | le x =>
    obtain ⟨a, h1, h2, h3⟩ := q
    exact ⟨a, x, h1, h2, h3, .inr (.inl rfl)⟩
  | lk x =>
    obtain ⟨a, h1, h2, h3⟩ := q
    exact ⟨a, x, h1, h2, h3, .inr (.inr rfl)⟩
  | _ => cases ho
theorem Ok.ownF (k : Ok g F σ H e) {a : Addr} (h : Own σ e a) : F a = none := by
  obtain ⟨i, s, h1, h2, h3⟩ := h
  obtain ⟨b, x, h4, h5, _⟩ := k.own h1 h2
  rw [h3] at h4
  cases h4
  exact h5
theorem Ok.ownH (k : Ok g F σ H e) {a : Addr} (h : Own σ e a) : H a ≠ none := by
  obtain ⟨i, s, h1, h2, h3⟩ := h
  obtain ⟨b, x, h4, _, o, _⟩ := k.own h1 h2
  rw [h3] at h4
  cases h4
  obtain ⟨u, hu, _⟩ := o.here
  rw [hu]
  simp
theorem peek_ok (k : Ok g F σ H e) {i : Nat} {w : Wd} (h : peek e i = some w) : ∃ v, slot σ i = some v ∧ TopW g F H v w := by
  unfold peek at h
  cases q : e[i]? with
  | none => rw [q] at h; cases h
  | some s =>
    rw [q] at h
    have p := k.pl i s q
    cases s with
    | un => cases h
    | va w' =>
      cases h
      obtain ⟨v, h1, h2⟩ := p
      exact ⟨v, h1, .of k.sub h2⟩
    | ls x =>
      cases h
      obtain ⟨v, h1, h2⟩ := p
      exact ⟨v, h1, .of k.sub (w := .d x) h2⟩
    | ow x =>
      cases h
      obtain ⟨a, h1, _, h2⟩ := p
      exact ⟨_, h1, h2.top⟩
    | le x =>
      cases h
      obtain ⟨a, h1, _, h2⟩ := p
      exact ⟨_, h1, h2.top⟩
    | lk x =>
      cases h
      obtain ⟨a, h1, _, h2⟩ := p
      exact ⟨_, h1, h2.top⟩
theorem get_set {e : Env} {i j : Nat} {s t : Sl} (h : (e.set i s)[j]? = some t) : (j = i ∧ t = s) ∨ (j ≠ i ∧ e[j]? = some t) := by
  by_cases q : i = j
  · subst q
    rw [List.getElem?_set] at h
    rw [if_pos rfl] at h
    split at h
    · exact .inl ⟨rfl, (Option.some.inj h).symm⟩
    · cases h
  · rw [List.getElem?_set_ne q] at h
    exact .inr ⟨fun z => q z.symm, h⟩
theorem set_get {e : Env} {i : Nat} {s t : Sl} (h : e[i]? = some s) : (e.set i t)[i]? = some t := by
  obtain ⟨hl, _⟩ := List.getElem?_eq_some_iff.mp h
  rw [List.getElem?_set]
  rw [if_pos rfl, if_pos hl]
/-- a name's value is given away -/
theorem take_ok (k : Ok g F σ H e) {i : Nat} {r : Rs} (h : take e i = some (.ok r e1)) : ∃ v F1, slot σ i = some v ∧ Stp F σ H e F1 σ H e1 ∧ Ok g F1 σ H e1 ∧ ∃ w, r = .v w ∧ RepW g F1 v w := by
  rw [take_eq] at h
  unfold takeN at h
  cases q : e[i]? with
  | none => rw [q] at h; cases h
  | some s =>
    rw [q] at h
    have p := k.pl i s q
    -- a value as it stands
    have same : ∀ {w : Wd} {v : V}, slot σ i = some v → RepW g F v w → e1 = e.set i s → r = .v w → ∃ v F1, slot σ i = some v ∧ Stp F σ H e F1 σ H e1 ∧ Ok g F1 σ H e1 ∧ ∃ w, r = .v w ∧ RepW g F1 v w := by
      intro w v h1 h2 h3 h4
      have e2 : e.set i s = e := by
        apply List.ext_getElem?
        intro j
        by_cases hj : i = j
        · subst hj
          rw [set_get q, q]
        · rw [List.getElem?_set_ne hj]
      rw [h3, e2]
      exact ⟨v, F, h1, .refl, k, w, h4, h2⟩
    -- a list that is frozen
    have froz : ∀ {x : PyData} {a : Addr} {t : Sl}, s.own = true → slot σ i = some (.ref a) → F a = none → OwnAt g F H a x → e1 = e.set i t → r = .v (.d x) → t.own = false → (∀ F', Rep g F' (.ref a) x → SlOk g F' H (slot σ i) t) → (s.lent = true → Held s t) →
        ∃ v F1, slot σ i = some v ∧ Stp F σ H e F1 σ H e1 ∧ Ok g F1 σ H e1 ∧ ∃ w, r = .v w ∧ RepW g F1 v w := by
      intro x a t hs h1 h2 h3 h4 h5 h6 h7 h8
      obtain ⟨u, hu, hnt, _⟩ := h3.here
      have rep := h3.rep h2 hu
      have sb : Sub F (upd F a u) := Sub.new h2
      have ow : Own σ e a := ⟨i, s, q, hs, h1⟩
      refine ⟨.ref a, upd F a u, h1, ⟨sb, fun _ _ h _ _ => h, fun _ h => h, fun b hb => ?_, fun b hb => ?_, fun j sj hj lj => ?_⟩, ⟨fun b o hb => ?_, by rw [h4, List.length_set]; exact k.len, fun j sj hj => ?_, fun j l sj sl b hjl hj hl oj ol hb => ?_, tab_upd k.tab hu hnt⟩, .d x, h5, rep⟩
      · by_cases q2 : b = a
        · rw [q2]
          exact .inr (.inl ow)
        · rw [upd_ne q2] at hb
          exact .inl hb
      · obtain ⟨j, sj, hj, oj, pj⟩ := hb
        rw [h4] at hj
        rcases get_set hj with ⟨_, z⟩ | ⟨_, z⟩
        · rw [z, h6] at oj
          cases oj
        · exact .inl ⟨j, sj, z, oj, pj⟩
      · refine ⟨rfl, ?_⟩
        rw [h4]
        by_cases z : i = j
        · subst z
          rw [q] at hj
          cases hj
          exact ⟨t, set_get q, h8 lj⟩
        · refine ⟨sj, by rw [List.getElem?_set_ne z]; exact hj, ?_⟩
          cases sj <;> first | rfl | trivial | exact ⟨_, .inl rfl⟩
      · by_cases q2 : b = a
        · rw [q2, upd_same] at hb
          rw [q2, hu]
          exact hb
        · rw [upd_ne q2] at hb
          exact k.sub b o hb
      · rw [h4] at hj
        rcases get_set hj with ⟨z1, z2⟩ | ⟨z1, z⟩
        · rw [z1, z2]
          exact h7 _ rep
        · have pj := k.pl j sj z
          have other : ∀ b y, slot σ j = some (.ref b) → sj.own = true → F b = none → OwnAt g F H b y → upd F a u b = none ∧ OwnAt g (upd F a u) H b y := by
            intro b y hb oj nb ob
            have ne : b ≠ a := fun z3 => k.apart j i sj s b z1 z q oj hs hb (by rw [z3]; exact h1)
            exact ⟨by rw [upd_ne ne]; exact nb, ob.move sb rfl⟩
          cases sj with
          | un => trivial
          | va w =>
            obtain ⟨v, g1, g2⟩ := pj
            exact ⟨v, g1, g2.mono sb⟩
          | ls y =>
            obtain ⟨v, g1, g2⟩ := pj
            exact ⟨v, g1, g2.mono sb⟩
          | ow y =>
            obtain ⟨b, g1, g2, g3⟩ := pj
            exact ⟨b, g1, other b y g1 rfl g2 g3⟩
          | le y =>
            obtain ⟨b, g1, g2, g3⟩ := pj
            exact ⟨b, g1, other b y g1 rfl g2 g3⟩
          | lk y =>
            obtain ⟨b, g1, g2, g3⟩ := pj
            exact ⟨b, g1, other b y g1 rfl g2 g3⟩
      · rw [h4] at hj hl
        rcases get_set hj with ⟨z1, z2⟩ | ⟨z1, z⟩
        · rw [z2, h6] at oj
          cases oj
        · rcases get_set hl with ⟨y1, y2⟩ | ⟨y1, y⟩
          · rw [y2, h6] at ol
            cases ol
          · exact k.apart j l sj sl b hjl z y oj ol hb
    cases s with
    | un => cases h
    | lk x => cases h
    | va w =>
      cases h
      obtain ⟨v, h1, h2⟩ := p
      exact same h1 h2 rfl rfl
    | ls x =>
      cases h
      obtain ⟨v, h1, h2⟩ := p
      exact same (w := .d x) h1 h2 rfl rfl
    | ow x =>
      cases h
      obtain ⟨a, h1, h2, h3⟩ := p
      exact froz (t := .va (.d x)) rfl h1 h2 h3 rfl rfl rfl (fun F' r' => ⟨_, h1, r'⟩) fun z => by cases z
    | le x =>
      cases h
      obtain ⟨a, h1, h2, h3⟩ := p
      exact froz (t := .ls x) rfl h1 h2 h3 rfl rfl rfl (fun F' r' => ⟨_, h1, r'⟩) fun _ => ⟨x, .inr rfl⟩
end
end Ev
set_option Elab.async false
set_option linter.all false
set_option maxRecDepth 100000
set_option maxHeartbeats 1000000
/-! EvC: what an evaluation says of the machine. -/
namespace Ev
open PySem PySem.Spec PyProof.Rows L2

/-- where the text's own things stand -/
structure Qn where
  fa : Nat → Option Addr
  ca : Nat → Option Addr
  fld : Nat → Option Str
  T : List (Addr × Str)
  ok : Program → World → PySem.W.Frag → (Str → Option Value) → Heap → Prop
abbrev Qn.at (q : Qn) (X : Cx) (C : V → Wd → Hp → Prop) : G := ⟨X.prog, X.w, X.K, q.fa, q.ca, q.fld, C, q.T⟩

theorem slot_iff {σ : L2.St} {i : Nat} {v : V} : slot σ i = some v ↔ σ[i]? = some (some v) := by
  unfold slot
  cases σ[i]? with
  | none => simp
  | some o => simp

/-! ### outcomes -/
/-- an error that flies: its class, its own dict, what it keeps -/
def ExOk (g : G) (F : Hp) (cls : Value) (dd : Option Addr) (c : Nat) (v : Option PyData) : Prop :=
  ∃ a, g.ca c = some a ∧ cls = .ref a ∧ match v with
    | none => dd = none
    | some x => ∃ d u f, dd = some d ∧ g.fld c = some f ∧ F d = some (.xd [(f, u)]) ∧ Rep g F u x
def Out {α : Type} (g : G) (F : Hp) (σ : L2.St) (H : Hp) (e : Env) (m : R α) (W : WX) (k : α → Env → Prop) : Prop :=
  match m with
  | none => False
  | some (.ok a e') => k a e'
  | some (.er c v e') => ∀ F' H', Stp F σ H e F' σ H' e' → Ok g F' σ H' e' → ∀ cls dd, ExOk g F' cls dd c v → W cls dd σ H'
section
variable {α β : Type} {g : G} {F F1 H H1 : Hp} {σ : L2.St} {e e1 : Env} {W : WX} {m : R α} {k k' : α → Env → Prop}
theorem Out.imp (o : Out g F σ H e m W k) (h : ∀ a e', m = some (.ok a e') → k a e' → k' a e') : Out g F σ H e m W k' := by
  cases m with
  | none => exact o
  | some u =>
    cases u with
    | ok a e' => exact h a e' rfl o
    | er c v e' => exact o
theorem Out.step (o : Out g F σ H e m W k) (s : Stp F σ H e F1 σ H1 e1) : Out g F1 σ H1 e1 m W k := by
  cases m with
  | none => exact o
  | some u =>
    cases u with
    | ok a e' => exact o
    | er c v e' => exact fun F' H' s' k' => o F' H' (s.trans s') k'
theorem Out.bind {f : α → Env → R β} {k : β → Env → Prop} (o : Out g F σ H e (R.bind m f) W k) : Out g F σ H e m W fun a e1 => Out g F σ H e (f a e1) W k := by
  cases m with
  | none => exact o
  | some u =>
    cases u with
    | ok a e' => exact o
    | er c v e' => exact o
theorem Out.wish {W' : WX} (o : Out g F σ H e m W k) (h : ∀ cls dd H', W cls dd σ H' → W' cls dd σ H') : Out g F σ H e m W' k := by
  cases m with
  | none => exact o
  | some u =>
    cases u with
    | ok a e' => exact o
    | er c v e' => exact fun F' H' s k cls dd x => h _ _ _ (o F' H' s k cls dd x)
end

/-! ### results -/
/-- new, as seen from a state -/
def Bs (σ : L2.St) (H : Hp) (e : Env) (a : Addr) : Prop := Own σ e a ∨ H a = none
theorem Stp.bs {F F1 H H1 : Hp} {σ σ1 : L2.St} {e e1 : Env} (s : Stp F σ H e F1 σ1 H1 e1) {a : Addr} (b : Bs σ1 H1 e1 a) : Bs σ H e a := by
  rcases b with b | b
  · exact s.newO a b
  · by_cases q : H a = none
    · exact .inr q
    · exact absurd b (s.there a q)
def RsOk (g : G) (B : Addr → Prop) (F : Hp) (σ : L2.St) (H : Hp) (e : Env) (v : V) : Rs → Prop
  | .v w => RepW g F v w
  | .o x => ∃ a, v = .ref a ∧ Tmp F σ H e a ∧ OwnAt g F H a x ∧ B a
def OpOk (g : G) (B : Addr → Prop) (F : Hp) (σ : L2.St) (H : Hp) (e : Env) (v : V) : Op → Prop
  | .sl i => slot σ i = some v
  | .rs r => RsOk g B F σ H e v r
section
variable {g : G} {F F1 H H1 : Hp} {σ : L2.St} {e e1 : Env} {v : V}
theorem RsOk.base {B B' : Addr → Prop} {r : Rs} (o : RsOk g B F σ H e v r) (h : ∀ a, B a → B' a) : RsOk g B' F σ H e v r := by
  cases r with
  | v w => exact o
  | o x =>
    obtain ⟨a, h1, h2, h3, h4⟩ := o
    exact ⟨a, h1, h2, h3, h a h4⟩
theorem RsOk.step {B : Addr → Prop} {r : Rs} (o : RsOk g B F σ H e v r) (s : Stp F σ H e F1 σ H1 e1) : RsOk g B F1 σ H1 e1 v r := by
  cases r with
  | v w => exact RepW.mono s.fz o
  | o x =>
    obtain ⟨a, h1, h2, h3, h4⟩ := o
    exact ⟨a, h1, h2.step s, h3.step h2 s, h4⟩
theorem RsOk.top {B : Addr → Prop} {r : Rs} (k : Ok g F σ H e) (o : RsOk g B F σ H e v r) : TopW g F H v r.w := by
  cases r with
  | v w => exact .of k.sub o
  | o x =>
    obtain ⟨a, h1, h2, h3, _⟩ := o
    subst h1
    exact h3.top
theorem OpOk.step {B : Addr → Prop} {o : Op} (h : OpOk g B F σ H e v o) (s : Stp F σ H e F1 σ H1 e1) : OpOk g B F1 σ H1 e1 v o := by
  cases o with
  | sl i => exact h
  | rs r => exact RsOk.step h s
theorem OpOk.base {B B' : Addr → Prop} {o : Op} (h : OpOk g B F σ H e v o) (hb : ∀ a, B a → B' a) : OpOk g B' F σ H e v o := by
  cases o with
  | sl i => exact h
  | rs r => exact RsOk.base h hb
theorem OpOk.top {B : Addr → Prop} {o : Op} {w : Wd} (k : Ok g F σ H e) (h : OpOk g B F σ H e v o) (hw : o.w e = some w) : TopW g F H v w := by
  cases o with
  | sl i =>
    obtain ⟨u, h1, h2⟩ := peek_ok k hw
    have z : slot σ i = some v := h
    rw [z] at h1
    cases h1
    exact h2
  | rs r =>
    have z : r.w = w := Option.some.inj hw
    rw [← z]
    exact RsOk.top k h
theorem ops_top {B : Addr → Prop} (k : Ok g F σ H e) : ∀ {os : List Op} {vs : List V} {ws : List Wd}, Paired (OpOk g B F σ H e) vs os → opsW e os = some ws → Paired (TopW g F H) vs ws
  | [], _, _, .nil, h => by
    cases h
    exact .nil
  | o :: os, _, ws, .cons r t, h => by
    unfold opsW at h
    cases q : o.w e with
    | none => rw [q] at h; cases h
    | some w =>
      cases q2 : opsW e os with
      | none => rw [q, q2] at h; cases h
      | some ws' =>
        rw [q, q2] at h
        cases h
        exact .cons (r.top k q) (ops_top k t q2)
theorem paired_base {B B' : Addr → Prop} {os : List Op} {vs : List V} (p : Paired (OpOk g B F σ H e) vs os) (hb : ∀ a, B a → B' a) : Paired (OpOk g B' F σ H e) vs os := by
  induction p with
  | nil => exact .nil
  | cons r _ ih => exact .cons (OpOk.base r hb) ih
theorem paired_step {B : Addr → Prop} {os : List Op} {vs : List V} (p : Paired (OpOk g B F σ H e) vs os) (s : Stp F σ H e F1 σ H1 e1) : Paired (OpOk g B F1 σ H1 e1) vs os := by
  induction p with
  | nil => exact .nil
  | cons r _ ih => exact .cons (OpOk.step r s) ih
end

/-! ### readings -/
section
variable (g : G) (W : WX)
/-- an evaluation that gives a result -/
def tR (m : Env → R Rs) : TE := fun σ H Q => ∃ F e, Ok g F σ H e ∧ Out g F σ H e (m e) W fun r e' => ∀ v F' H', Stp F σ H e F' σ H' e' → Ok g F' σ H' e' → RsOk g (Bs σ H e) F' σ H' e' v r → Q v H'
def tO (m : Env → R Op) : TE := fun σ H Q => ∃ F e, Ok g F σ H e ∧ Out g F σ H e (m e) W fun o e' => ∀ v F' H', Stp F σ H e F' σ H' e' → Ok g F' σ H' e' → OpOk g (Bs σ H e) F' σ H' e' v o → Q v H'
def tOs (m : Env → R (List Op)) : TA := fun σ H Q => ∃ F e, Ok g F σ H e ∧ Out g F σ H e (m e) W fun os e' => ∀ vs F' H', Stp F σ H e F' σ H' e' → Ok g F' σ H' e' → Paired (OpOk g (Bs σ H e) F' σ H' e') vs os → Q vs H'
/-- a value given away -/
def tG (m : Env → R PyData) : TE := fun σ H Q => ∃ F e, Ok g F σ H e ∧ Out g F σ H e (m e) W fun x e' => ∀ v F' H', Stp F σ H e F' σ H' e' → Ok g F' σ H' e' → Rep g F' v x → Q v H'
def tGs (m : Env → R (List PyData)) : TA := fun σ H Q => ∃ F e, Ok g F σ H e ∧ Out g F σ H e (m e) W fun xs e' => ∀ vs F' H', Stp F σ H e F' σ H' e' → Ok g F' σ H' e' → RepAll g F' vs xs → Q vs H'
/-- a test -/
def tB (m : Env → R Rs) : TT := fun σ H Q => ∃ F e, Ok g F σ H e ∧ Out g F σ H e (m e) W fun r e' => ∃ b, r = .v (.d (.bool b)) ∧ ∀ F' H', Stp F σ H e F' σ H' e' → Ok g F' σ H' e' → Q b H'
end
/-- no star -/
def NoStar : Expr → Prop
  | .Starred _ _ => False
  | _ => True
theorem star_cons {e : Expr} {es : List Expr} {env : PySem.Env} (h : NoStar e) : starEach (e :: es) env = (false, PySem.eval e env) :: starEach es env := by
  cases e <;> first | rfl | exact h.elim
/-- behind a step from a start: a new list that nobody holds is frozen -/
theorem freeze_ok {g : G} {F0 H0 F H : Hp} {σ : L2.St} {e0 e : Env} {a : Addr} {x : PyData} (s : Stp F0 σ H0 e0 F σ H e) (k : Ok g F σ H e) (t : Tmp F σ H e a) (o : OwnAt g F H a x) (b : Bs σ H0 e0 a) :
    ∃ F1, Sub F F1 ∧ Stp F0 σ H0 e0 F1 σ H e ∧ Ok g F1 σ H e ∧ Rep g F1 (.ref a) x ∧ ∀ c, F1 c ≠ none → F c ≠ none ∨ c = a := by
  obtain ⟨u, hu, hnt, _⟩ := o.here
  have sb : Sub F (upd F a u) := Sub.new t.nf
  have only : ∀ c, upd F a u c ≠ none → F c ≠ none ∨ c = a := fun c hc => by
    by_cases q : c = a
    · exact .inr q
    · rw [upd_ne q] at hc
      exact .inl hc
  have move : ∀ b y, Own σ e b → F b = none → OwnAt g F H b y → upd F a u b = none ∧ OwnAt g (upd F a u) H b y := fun b y ob nb o => by
    have ne : b ≠ a := fun z => t.no (z ▸ ob)
    exact ⟨by rw [upd_ne ne]; exact nb, o.move sb rfl⟩
  refine ⟨upd F a u, sb, ⟨s.fz.trans sb, s.keep, s.there, fun c hc => ?_, s.newO, s.held⟩, ⟨fun c o hc => ?_, k.len, fun i sl hi => ?_, k.apart, tab_upd k.tab hu hnt⟩, o.rep t.nf hu, only⟩
  · rcases only c hc with h | h
    · exact s.newF c h
    · rw [h]
      rcases b with b | b
      · exact .inr (.inl b)
      · exact .inr (.inr b)
  · by_cases q : c = a
    · rw [q, upd_same] at hc
      rw [q, hu]
      exact hc
    · rw [upd_ne q] at hc
      exact k.sub c o hc
  · have p := k.pl i sl hi
    cases sl with
    | un => trivial
    | va w =>
      obtain ⟨v, h1, h2⟩ := p
      exact ⟨v, h1, h2.mono sb⟩
    | ls y =>
      obtain ⟨v, h1, h2⟩ := p
      exact ⟨v, h1, h2.mono sb⟩
    | ow y =>
      obtain ⟨b, h1, h2, h3⟩ := p
      exact ⟨b, h1, move b y ⟨i, _, hi, rfl, h1⟩ h2 h3⟩
    | le y =>
      obtain ⟨b, h1, h2, h3⟩ := p
      exact ⟨b, h1, move b y ⟨i, _, hi, rfl, h1⟩ h2 h3⟩
    | lk y =>
      obtain ⟨b, h1, h2, h3⟩ := p
      exact ⟨b, h1, move b y ⟨i, _, hi, rfl, h1⟩ h2 h3⟩
theorem pe_of {X : Cx} {e : Expr} {t t' : TE} (h : PE X e t) (i : ∀ σ H Q, t' σ H Q → t σ H Q) : PE X e t' := ⟨fun pins s σ H Q I q => h.run pins s σ H Q I (i σ H Q q)⟩
theorem pt_of {X : Cx} {e : Expr} {t t' : TT} (h : PT X e t) (i : ∀ σ H Q, t' σ H Q → t σ H Q) : PT X e t' := ⟨fun pins s σ H Q I q => h.run pins s σ H Q I (i σ H Q q)⟩
theorem pa_of {X : Cx} {es : List Expr} {t t' : TA} (h : PA X es t) (i : ∀ σ H Q, t' σ H Q → t σ H Q) : PA X es t' := ⟨fun pos pins s σ H Q I q => h.run pos pins s σ H Q I (i σ H Q q)⟩
theorem ps_of {X : Cx} {st : Stmt} {t t' : TS} (h : PS X st t) (i : ∀ D σ H, t' D σ H → t D σ H) : PS X st t' := ⟨fun pins s σ H D I q => h.run pins s σ H D I (i D σ H q)⟩
theorem pss_of {X : Cx} {st : List Stmt} {t t' : TS} (h : PSs X st t) (i : ∀ D σ H, t' D σ H → t D σ H) : PSs X st t' := ⟨fun pins s σ H D I q => h.run pins s σ H D I (i D σ H q)⟩
theorem out_eq {α : Type} {g : G} {F H : Hp} {σ : L2.St} {e e' : Env} {m : R α} {a : α} {W : WX} {k : α → Env → Prop} (o : Out g F σ H e m W k) (h : m = some (.ok a e')) : k a e' := by
  rw [h] at o
  exact o
theorem out_none {α : Type} {g : G} {F H : Hp} {σ : L2.St} {e : Env} {m : R α} {W : WX} {k : α → Env → Prop} (o : Out g F σ H e m W k) (h : m = none) : False := by
  rw [h] at o
  exact o

section
variable {g : G} {W : WX} {X : Cx} {rv : Ev}
/-- a value given away -/
theorem give_of {a : Expr} {x : E} (h : PE X a (tR g W (rv false x))) : PE X a (tG g W (evGive rv x)) := by
  refine pe_of h fun σ H Q ⟨F, e, k, o⟩ => ⟨F, e, k, o.bind.imp fun r e1 _ o1 v F1 H1 s1 k1 r1 => ?_⟩
  cases r with
  | v w =>
    cases w with
    | d y => exact o1 v F1 H1 s1 k1 r1
    | _ => exact o1.elim
  | o y =>
    obtain ⟨b, h1, h2, h3, h4⟩ := r1
    subst h1
    obtain ⟨F2, _, s2, k2, r2, _⟩ := freeze_ok s1 k1 h2 h3 h4
    exact o1 _ F2 H1 s2 k2 r2
/-- a name as an operand -/
theorem op_var {i : Nat} {x : Str} {pos : Pos} (h : PE X (.Name x pos) (tVar i)) : PE X (.Name x pos) (tO g W (evOp rv (.var i))) := by
  refine pe_of h fun σ H Q ⟨F, e, k, o⟩ => ?_
  have o' : Out g F σ H e (match peek e i with | some _ => some (.ok (.sl i) e) | none => none) W fun o e' => ∀ v F' H', Stp F σ H e F' σ H' e' → Ok g F' σ H' e' → OpOk g (Bs σ H e) F' σ H' e' v o → Q v H' := o
  cases q : peek e i with
  | none => rw [q] at o'; exact o'.elim
  | some w =>
    rw [q] at o'
    obtain ⟨v, h1, _⟩ := peek_ok k q
    exact ⟨v, slot_iff.mp h1, o' v F H .refl k h1⟩
theorem op_other {a : Expr} {x : E} (h : PE X a (tR g W (rv false x))) (hx : ∀ i, x ≠ .var i) : PE X a (tO g W (evOp rv x)) := by
  have e0 : ∀ e, evOp rv x e = R.bind (rv false x e) fun r e' => some (.ok (.rs r) e') := fun e => by
    cases x <;> first | rfl | exact absurd rfl (hx _)
  refine pe_of h fun σ H Q ⟨F, e, k, o⟩ => ⟨F, e, k, ?_⟩
  rw [e0] at o
  exact o.bind.imp fun r e1 _ o1 v F1 H1 s1 k1 r1 => o1 v F1 H1 s1 k1 r1
/-- operands in a row -/
theorem ops_nil : PA X [] (tOs g W (evOps rv [])) := pa_of pa_nil fun σ H Q ⟨F, e, k, o⟩ => (show ∀ vs F' H', _ from o) [] F H .refl k .nil
theorem ops_cons {a : Expr} {as : List Expr} {x : E} {xs : List E} (hn : NoStar a) (h1 : PE X a (tO g W (evOp rv x))) (h2 : PA X as (tOs g W (evOps rv xs))) : PA X (a :: as) (tOs g W (evOps rv (x :: xs))) := by
  refine pa_of (pa_cons h1 h2 (star_cons hn)) fun σ H Q ⟨F, e, k, o⟩ => ⟨F, e, k, ?_⟩
  have o' : Out g F σ H e (R.bind (evOp rv x e) fun o e1 => R.bind (evOps rv xs e1) fun os e2 => some (.ok (o :: os) e2)) W _ := o
  refine o'.bind.imp fun p e1 _ o1 v F1 H1 s1 k1 r1 => ⟨F1, e1, k1, ((o1.step s1).bind).imp fun ps e2 _ o2 vs F2 H2 s2 k2 r2 => ?_⟩
  exact o2 (v :: vs) F2 H2 (s1.trans s2) k2 (.cons (r1.step s2) (paired_base r2 fun a h => s1.bs h))
/-- values given away, in a row; a star's items -/
theorem gives_nil : PA X [] (tGs g W (evGives rv [])) := pa_of pa_nil fun σ H Q ⟨F, e, k, o⟩ => (show ∀ vs F' H', _ from o) [] F H .refl k .nil
theorem gives_cons {a : Expr} {as : List Expr} {x : E} {xs : List E} (hn : NoStar a) (hx : ∀ y, x ≠ .star y) (h1 : PE X a (tG g W (evGive rv x))) (h2 : PA X as (tGs g W (evGives rv xs))) : PA X (a :: as) (tGs g W (evGives rv (x :: xs))) := by
  have e0 : ∀ e, evGives rv (x :: xs) e = R.bind (evGive rv x e) fun y e1 => R.bind (evGives rv xs e1) fun zs e2 => some (.ok (y :: zs) e2) := fun e => by
    cases x <;> first | rfl | exact absurd rfl (hx _)
  refine pa_of (pa_cons h1 h2 (star_cons hn)) fun σ H Q ⟨F, e, k, o⟩ => ⟨F, e, k, ?_⟩
  rw [e0] at o
  refine o.bind.imp fun p e1 _ o1 v F1 H1 s1 k1 r1 => ⟨F1, e1, k1, ((o1.step s1).bind).imp fun ps e2 _ o2 vs F2 H2 s2 k2 r2 => ?_⟩
  exact o2 (v :: vs) F2 H2 (s1.trans s2) k2 (.cons (r1.mono s2.fz) r2)
theorem top_seq {F H : Hp} {v : V} {y : PyData} {ys : List PyData} (t : TopW g F H v (.d y)) (h : seqOf y = some ys) (sb : Sub F H) : ∃ a xs, v = .ref a ∧ (SqT g.K H a xs ∨ SqL g.K H a xs) ∧ RepAll g F xs ys := by
  cases y with
  | list zs =>
    cases h
    obtain ⟨a, xs, h1, h2, h3⟩ := t
    exact ⟨a, xs, h1, .inr (.of h2), h3⟩
  | tuple zs =>
    cases h
    have t' : Rep g F v (.tuple ys) := t
    cases t' with
    | tup q r => exact ⟨_, _, rfl, .inl (st_sub sb q), r⟩
  | _ => cases h
end
section
variable {q : Qn} {C : V → Wd → Hp → Prop} {W : WX} {X : Cx} {rv : Ev}
theorem gives_star {a : Expr} {as : List Expr} {x : E} {xs : List E} {p : Pos} (h1 : PE X a (tO (q.at X C) W (evOp rv x))) (h2 : PA X as (tGs (q.at X C) W (evGives rv xs))) : PA X (.Starred a p :: as) (tGs (q.at X C) W (evGives rv (.star x :: xs))) := by
  refine pa_of (StX.pa_star h1 h2) fun σ H Q ⟨F, e, k, o⟩ => ⟨F, e, k, ?_⟩
  have o' : Out (q.at X C) F σ H e (R.bind (evOp rv x e) fun o e1 => match (o.w e1) with
    | some (.d y) => (match seqOf y with
      | some ys => R.bind (evGives rv xs e1) fun zs e2 => some (.ok (ys ++ zs) e2)
      | none => none)
    | _ => none) W _ := o
  refine o'.bind.imp fun op e1 _ o1 v F1 H1 s1 k1 r1 => ?_
  cases hw : op.w e1 with
  | none => rw [hw] at o1; exact o1.elim
  | some w =>
    cases w with
    | d y =>
      cases hy : seqOf y with
      | none => rw [hw] at o1; simp only [hy] at o1; exact o1.elim
      | some ys =>
        rw [hw] at o1
        simp only [hy] at o1
        obtain ⟨b, vs, e3, h3, r3⟩ := top_seq (r1.top k1 hw) hy k1.sub
        refine ⟨b, vs, e3, h3, F1, e1, k1, ((o1.step s1).bind).imp fun zs e2 _ o2 us F2 H2 s2 k2 r2 => ?_⟩
        exact o2 (vs ++ us) F2 H2 (s1.trans s2) k2 ((r3.mono s2.fz).append r2)
    | _ => rw [hw] at o1; exact o1.elim
end

/-! ### operators: what is asked of the data, what comes of it -/
/-- objects are added, nothing else changes -/
theorem tab_new {T : List (Addr × Str)} {F H F' : Hp} (t : LamX.Tabs T H ∧ ∀ p ∈ T, F p.1 = none) (n : ∀ a, F' a ≠ none → F a ≠ none ∨ H a = none) : ∀ p ∈ T, F' p.1 = none := fun p hp => by
  cases z : F' p.1 with
  | none => rfl
  | some u =>
    obtain ⟨ps, h, _⟩ := t.1 p hp
    rcases n p.1 (by rw [z]; simp) with y | y
    · exact absurd (t.2 p hp) y
    · rw [h] at y
      cases y
structure Pst (F H F' H' : Hp) : Prop where
  fz : Sub F F'
  sub : Sub F' H'
  keep : Sub H H'
  new : ∀ a, F' a ≠ none → F a ≠ none ∨ H a = none
def NwOk (g : G) (F H F' H' : Hp) (v : V) : Rs → Prop
  | .v w => RepW g F' v w
  | .o x => ∃ a, v = .ref a ∧ H a = none ∧ F' a = none ∧ OwnAt g F' H' a x
section
variable {g : G} {F H F' H' : Hp} {σ : L2.St} {e : Env} {v : V}
theorem Pst.refl (s : Sub F H) : Pst F H F H := ⟨.refl F, s, .refl H, fun _ h => .inl h⟩
theorem Pst.ok (p : Pst F H F' H') (k : Ok g F σ H e) : Stp F σ H e F' σ H' e ∧ Ok g F' σ H' e := by
  have mv : ∀ b y, Own σ e b → F b = none → OwnAt g F H b y → F' b = none ∧ OwnAt g F' H' b y := fun b y ob nb o => by
    obtain ⟨u, hu, _⟩ := o.here
    refine ⟨?_, o.move p.fz ((p.keep b u hu).trans hu.symm)⟩
    cases q : F' b with
    | none => rfl
    | some z =>
      rcases p.new b (by rw [q]; simp) with h | h
      · exact absurd nb h
      · rw [hu] at h
        cases h
  refine ⟨⟨p.fz, fun a o h _ _ => p.keep a o h, fun a h => ?_, fun a h => ?_, fun a h => .inl h, fun i s h l => ⟨rfl, s, h, ?_⟩⟩, ⟨p.sub, k.len, fun i s h => ?_, k.apart, k.tab.1.ext p.keep, tab_new k.tab p.new⟩⟩
  · cases q : H a with
    | none => exact absurd q h
    | some o =>
      rw [p.keep a o q]
      simp
  · rcases p.new a h with z | z
    · exact .inl z
    · exact .inr (.inr z)
  · cases s <;> first | rfl | trivial | exact ⟨_, .inl rfl⟩
  · have pl := k.pl i s h
    cases s with
    | un => trivial
    | va w =>
      obtain ⟨v, h1, h2⟩ := pl
      exact ⟨v, h1, h2.mono p.fz⟩
    | ls y =>
      obtain ⟨v, h1, h2⟩ := pl
      exact ⟨v, h1, h2.mono p.fz⟩
    | ow y =>
      obtain ⟨b, h1, h2, h3⟩ := pl
      exact ⟨b, h1, mv b y ⟨i, _, h, rfl, h1⟩ h2 h3⟩
    | le y =>
      obtain ⟨b, h1, h2, h3⟩ := pl
      exact ⟨b, h1, mv b y ⟨i, _, h, rfl, h1⟩ h2 h3⟩
    | lk y =>
      obtain ⟨b, h1, h2, h3⟩ := pl
      exact ⟨b, h1, mv b y ⟨i, _, h, rfl, h1⟩ h2 h3⟩
theorem NwOk.rs {r : Rs} (n : NwOk g F H F' H' v r) (k : Ok g F σ H e) (s : Stp F σ H e F' σ H' e) {B : Addr → Prop} (hB : ∀ a, H a = none → B a) : RsOk g B F' σ H' e v r := by
  cases r with
  | v w => exact n
  | o x =>
    obtain ⟨a, h1, h2, h3, h4⟩ := n
    obtain ⟨u, hu, _⟩ := h4.here
    exact ⟨a, h1, ⟨h3, fun z => k.ownH z h2, by rw [hu]; simp⟩, h4, hB a h2⟩
end
def rP (g : G) (p : P) : List V → Hp → VK → Prop := fun vs H Q => ∃ F ws r, Sub F H ∧ Paired (TopW g F H) vs ws ∧ p.run ws = some r ∧ ∀ v F' H', Pst F H F' H' → NwOk g F H F' H' v r → Q v H'
abbrev rP2 (g : G) (p : P) : R2 := fun x y H Q => rP g p [x, y] H Q
section
variable {g : G} {W : WX} {X : Cx} {rv : Ev}
/-- behind the operands -/
theorem run_ok {B : Addr → Prop} {p : P} {os : List Op} {vs : List V} {F F1 H H1 F0 H0 : Hp} {σ : L2.St} {e e1 e0 : Env} {Q : VK} (s1 : Stp F σ H e F1 σ H1 e1) (k1 : Ok g F1 σ H1 e1) (r1 : Paired (OpOk g B F1 σ H1 e1) vs os)
    (o : Out g F0 σ H0 e0 (eRun p os e1) W fun r e' => ∀ v F' H', Stp F σ H e F' σ H' e' → Ok g F' σ H' e' → RsOk g (Bs σ H e) F' σ H' e' v r → Q v H') : rP g p vs H1 Q := by
  unfold eRun at o
  cases hw : opsW e1 os with
  | none => rw [hw] at o; exact o.elim
  | some ws =>
    rw [hw] at o
    simp only at o
    cases hr : p.run ws with
    | none => rw [hr] at o; exact o.elim
    | some r =>
      rw [hr] at o
      refine ⟨F1, ws, r, k1.sub, ops_top k1 r1 hw, hr, fun v F' H' ps n => ?_⟩
      obtain ⟨s2, k2⟩ := ps.ok k1
      exact o v F' H' (s1.trans s2) k2 (n.rs k1 s2 fun a h => s1.bs (.inr h))
theorem prim_bin {a b : Expr} {xa xb : E} {op : Operator} {pos : Pos} {p : P} (ha : PE X a (tO g W (evOp rv xa))) (hb : PE X b (tO g W (evOp rv xb))) (ho : OpR X (binaryOp op) (rP2 g p)) : PE X (.BinOp a op b pos) (tR g W (ePrim rv p [xa, xb])) := by
  refine pe_of (pe_op ho ha hb) fun σ H Q ⟨F, e, k, o⟩ => ⟨F, e, k, ?_⟩
  have o' : Out g F σ H e (R.bind (R.bind (evOp rv xa e) fun o e1 => R.bind (R.bind (evOp rv xb e1) fun o e1 => R.bind (some (.ok [] e1)) fun os e2 => some (.ok (o :: os) e2)) fun os e2 => some (.ok (o :: os) e2)) (eRun p)) W _ := o
  refine o'.bind.bind.imp fun p1 e1 _ o1 v F1 H1 s1 k1 r1 => ⟨F1, e1, k1, (((o1.step s1).bind).bind).imp fun p2 e2 _ o2 w F2 H2 s2 k2 r2 => ?_⟩
  exact run_ok (s1.trans s2) k2 (.cons (r1.step s2) (.cons (r2.base fun a h => s1.bs h) .nil)) o2
theorem prim_cmp {a b : Expr} {xa xb : E} {op : CmpOp} {pos : Pos} {p : P} (ha : PE X a (tO g W (evOp rv xa))) (hb : PE X b (tO g W (evOp rv xb))) (ho : OpR X (compareOp op) (rP2 g p)) (hm : behindInMarks op b = false) :
    PE X (.Compare a [op] [b] pos) (tR g W (ePrim rv p [xa, xb])) := by
  refine pe_of (pe_cmpR ho ha hb hm) fun σ H Q ⟨F, e, k, o⟩ => ⟨F, e, k, ?_⟩
  have o' : Out g F σ H e (R.bind (R.bind (evOp rv xa e) fun o e1 => R.bind (R.bind (evOp rv xb e1) fun o e1 => R.bind (some (.ok [] e1)) fun os e2 => some (.ok (o :: os) e2)) fun os e2 => some (.ok (o :: os) e2)) (eRun p)) W _ := o
  refine o'.bind.bind.imp fun p1 e1 _ o1 v F1 H1 s1 k1 r1 => ⟨F1, e1, k1, (((o1.step s1).bind).bind).imp fun p2 e2 _ o2 w F2 H2 s2 k2 r2 => ?_⟩
  exact run_ok (s1.trans s2) k2 (.cons (r1.step s2) (.cons (r2.base fun a h => s1.bs h) .nil)) o2
theorem prim_call {x : Str} {p0 pos : Pos} {a : Expr} {as : List Expr} {xs : List E} {p : P} (h : ∀ t, PA X (a :: as) t → PE X (.Call (.Name x p0) (a :: as) [] pos) (tCB (rP g p) t)) (ha : PA X (a :: as) (tOs g W (evOps rv xs))) :
    PE X (.Call (.Name x p0) (a :: as) [] pos) (tR g W (ePrim rv p xs)) := by
  refine pe_of (h _ ha) fun σ H Q ⟨F, e, k, o⟩ => ⟨F, e, k, ?_⟩
  exact o.bind.imp fun os e1 _ o1 vs F1 H1 s1 k1 r1 => run_ok s1 k1 r1 o1
theorem tup_ok {es : List Expr} {xs : List E} {k0 : Nat} {pos : Pos} (h : PA X es (tGs g W (evGives rv xs))) : PE X (.Tuple es k0 pos) (tR g W (eTup rv xs)) := by
  refine pe_of (pe_tup h) fun σ H Q ⟨F, e, k, o⟩ => ⟨F, e, k, ?_⟩
  refine (show Out g F σ H e (R.bind (evGives rv xs e) fun ds e1 => if ds.length ≤ lim then some (Ou.ok (Rs.v (Wd.d (PyData.tuple ds))) e1) else none) W _ from o).bind.imp fun ds e1 _ o1 vs F1 H1 s1 k1 r1 => ?_
  by_cases hl : ds.length ≤ lim
  · rw [if_pos hl] at o1
    refine ⟨by rw [r1.length, sizeLine_eq]; exact hl, fun p hp => ?_⟩
    have hF : F1 p = none := by
      cases q : F1 p with
      | none => rfl
      | some u =>
        have z := k1.sub p u q
        rw [hp] at z
        cases z
    have ps : Pst F1 H1 (upd F1 p (.tup vs)) (upd H1 p (.tup vs)) := ⟨Sub.new hF, k1.sub.both, Sub.new hp, fun a ha => by
      by_cases q : a = p
      · rw [q]
        exact .inr hp
      · rw [upd_ne q] at ha
        exact .inl ha⟩
    obtain ⟨s2, k2⟩ := ps.ok k1
    exact o1 (.ref p) _ _ (s1.trans s2) k2 (.tup (.inl (.inl upd_same)) (r1.mono ps.fz))
  · rw [if_neg hl] at o1
    exact o1.elim
theorem lst_ok {es : List Expr} {xs : List E} {pos : Pos} (h : PA X es (tGs g W (evGives rv xs))) : PE X (.List es pos) (tR g W (eLst rv xs)) := by
  refine pe_of (pe_lst h) fun σ H Q ⟨F, e, k, o⟩ => ⟨F, e, k, ?_⟩
  refine (show Out g F σ H e (R.bind (evGives rv xs e) fun ds e1 => if ds.length ≤ lim then some (Ou.ok (Rs.o (PyData.list ds)) e1) else none) W _ from o).bind.imp fun ds e1 _ o1 vs F1 H1 s1 k1 r1 => ?_
  by_cases hl : ds.length ≤ lim
  · rw [if_pos hl] at o1
    refine ⟨by rw [r1.length, sizeLine_eq]; exact hl, fun p hp => ?_⟩
    have hF : F1 p = none := by
      cases q : F1 p with
      | none => rfl
      | some u =>
        have z := k1.sub p u q
        rw [hp] at z
        cases z
    have ps : Pst F1 H1 F1 (upd H1 p (.lst vs)) := ⟨.refl _, k1.sub.new2 hp, Sub.new hp, fun a ha => .inl ha⟩
    obtain ⟨s2, k2⟩ := ps.ok k1
    exact o1 (.ref p) _ _ (s1.trans s2) k2 (NwOk.rs (r := .o (.list ds)) ⟨p, rfl, hp, hF, vs, upd_same, r1⟩ k1 s2 fun a h => s1.bs (.inr h))
  · rw [if_neg hl] at o1
    exact o1.elim
end
end Ev
set_option Elab.async false
set_option linter.all false
set_option maxRecDepth 100000
set_option maxHeartbeats 1000000
/-! EvD: the operators. -/
namespace Ev
open PySem PySem.Spec PyProof.Rows L2

/-! ### what stands there, from the word -/
section
variable {g : G} {F H : Hp} {v : V}
theorem top_int {i : Int} (t : TopW g F H v (.d (.int i))) : v = .int i := by
  have t' : Rep g F v (.int i) := t
  cases t'
  rfl
theorem top_str {i : Str} (t : TopW g F H v (.d (.str i))) : v = .str i := by
  have t' : Rep g F v (.str i) := t
  cases t'
  rfl
theorem top_bl {i : Bool} (t : TopW g F H v (.d (.bool i))) : v = .bl i := by
  have t' : Rep g F v (.bool i) := t
  cases t'
  rfl
theorem top_non (t : TopW g F H v (.d .none)) : v = .non := by
  have t' : Rep g F v .none := t
  cases t'
  rfl
theorem top_tup {ds : List PyData} (sb : Sub F H) (t : TopW g F H v (.d (.tuple ds))) : ∃ a xs, v = .ref a ∧ SqT g.K F a xs ∧ SqT g.K H a xs ∧ RepAll g F xs ds := by
  have t' : Rep g F v (.tuple ds) := t
  cases t' with
  | tup q r => exact ⟨_, _, rfl, q, st_sub sb q, r⟩
theorem RepAll.ints : ∀ {xs : List V} {ds : List PyData} {is : List Int}, RepAll g F xs ds → intsOf ds = some is → xs = is.map V.int
  | _, _, _, .nil, h => by
    cases h
    rfl
  | _, d :: ds, is, .cons r t, h => by
    cases d with
    | int i =>
      unfold intsOf at h
      cases q : intsOf ds with
      | none => rw [q] at h; cases h
      | some js =>
        rw [q] at h
        cases h
        rw [List.map_cons, RepAll.ints t q]
        cases r
        rfl
    | _ => cases h
theorem RepAll.bools : ∀ {xs : List V} {ds : List PyData} {is : List Bool}, RepAll g F xs ds → boolsOf ds = some is → xs = is.map V.bl
  | _, _, _, .nil, h => by
    cases h
    rfl
  | _, d :: ds, is, .cons r t, h => by
    cases d with
    | bool i =>
      unfold boolsOf at h
      cases q : boolsOf ds with
      | none => rw [q] at h; cases h
      | some js =>
        rw [q] at h
        cases h
        rw [List.map_cons, RepAll.bools t q]
        cases r
        rfl
    | _ => cases h
end

/-! ### new objects -/
section
variable {g : G} {F H : Hp} {Q : VK}
theorem new_lst {r : Rs} (sb : Sub F H) {xs : List V} {ds : List PyData} (r0 : RepAll g F xs ds) (hr : r = .o (.list ds)) (k : ∀ v F' H', Pst F H F' H' → NwOk g F H F' H' v r → Q v H') (p : Addr) (hp : H p = none) : Q (.ref p) (upd H p (.lst xs)) := by
  subst hr
  have hF : F p = none := by
    cases q : F p with
    | none => rfl
    | some u =>
      have z := sb p u q
      rw [hp] at z
      cases z
  exact k (.ref p) F _ ⟨.refl _, sb.new2 hp, Sub.new hp, fun a ha => .inl ha⟩ ⟨p, rfl, hp, hF, xs, upd_same, r0⟩
theorem new_tup {r : Rs} (sb : Sub F H) {xs : List V} {ds : List PyData} (r0 : RepAll g F xs ds) (hr : r = .v (.d (.tuple ds))) (k : ∀ v F' H', Pst F H F' H' → NwOk g F H F' H' v r → Q v H') (p : Addr) (hp : H p = none) : Q (.ref p) (upd H p (.tup xs)) := by
  subst hr
  have hF : F p = none := by
    cases q : F p with
    | none => rfl
    | some u =>
      have z := sb p u q
      rw [hp] at z
      cases z
  have s1 : Sub F (upd F p (.tup xs)) := Sub.new hF
  exact k (.ref p) (upd F p (.tup xs)) _ ⟨s1, sb.both, Sub.new hp, fun a ha => by
    by_cases q : a = p
    · rw [q]
      exact .inr hp
    · rw [upd_ne q] at ha
      exact .inl ha⟩ (.tup (.inl (.inl upd_same)) (r0.mono s1))
theorem old_val {r : Rs} (sb : Sub F H) {v : V} {w : Wd} (r0 : RepW g F v w) (hr : r = .v w) (k : ∀ v F' H', Pst F H F' H' → NwOk g F H F' H' v r → Q v H') : Q v H := by
  subst hr
  exact k v F H (.refl sb) r0
theorem old_int {r : Rs} (sb : Sub F H) {i : Int} (hr : vI i = some r) (k : ∀ v F' H', Pst F H F' H' → NwOk g F H F' H' v r → Q v H') : Q (.int i) H :=
  old_val sb (w := .d (.int i)) (Rep.int i) (Option.some.inj hr).symm k
theorem old_bl {r : Rs} (sb : Sub F H) {i : Bool} (hr : vB i = some r) (k : ∀ v F' H', Pst F H F' H' → NwOk g F H F' H' v r → Q v H') : Q (.bl i) H :=
  old_val sb (w := .d (.bool i)) (Rep.bl i) (Option.some.inj hr).symm k
end

/-! ### from the kit's rules -/
theorem opr_of {X : Cx} {f : Value → Value → Sem Value} {r r' : R2} (h : OpR X f r) (i : ∀ x y H Q, r' x y H Q → r x y H Q) : OpR X f r' := fun pins s σ H x y v u Q I rx ry q => h pins s σ H x y v u Q I rx ry (i x y H Q q)
theorem cr_of {X : Cx} {f : Value} {r r' : List V → Hp → VK → Prop} (h : CallR X f r) (i : ∀ x H Q, r' x H Q → r x H Q) : CallR X f r' := fun pins s σ H xs us Q I rx q => h pins s σ H xs us Q I rx (i xs H Q q)
theorem ixr_of {X : Cx} {r r' : R2} (h : IxR X r) (i : ∀ x y H Q, r' x y H Q → r x y H Q) : IxR X r' := fun a b pins s σ H x y v u Q I rx ry q => h a b pins s σ H x y v u Q I rx ry (i x y H Q q)
/-- two operands' words -/
theorem two {g : G} {F H : Hp} {x y : V} {ws : List Wd} (p : Paired (TopW g F H) [x, y] ws) : ∃ a b, ws = [a, b] ∧ TopW g F H x a ∧ TopW g F H y b := by
  cases p with
  | cons h t =>
    cases t with
    | cons h2 t2 =>
      cases t2
      exact ⟨_, _, rfl, h, h2⟩
theorem one {g : G} {F H : Hp} {x : List V} {a : Wd} (p : Paired (TopW g F H) x [a]) : ∃ v, x = [v] ∧ TopW g F H v a := by
  cases p with
  | cons h t =>
    cases t
    exact ⟨_, rfl, h⟩
theorem two' {g : G} {F H : Hp} {x : List V} {a b : Wd} (p : Paired (TopW g F H) x [a, b]) : ∃ v u, x = [v, u] ∧ TopW g F H v a ∧ TopW g F H u b := by
  cases p with
  | cons h t =>
    cases t with
    | cons h2 t2 =>
      cases t2
      exact ⟨_, _, rfl, h, h2⟩
theorem lim_eq : lim = sizeLine := by rw [sizeLine_eq]; rfl

section
variable {q : Qn} {X : Cx} {C : V → Wd → Hp → Prop}
theorem p_add : OpR X (binaryOp .Add) (rP2 (q.at X C) .add) := by
  refine opr_of (op_add.or (op_add_str.or (op_cat.or op_catA))) fun x y H Q ⟨F, ws, r, sb, pr, hr, k⟩ => ?_
  obtain ⟨a, b, rfl, ta, tb⟩ := two pr
  have hr' : qAdd [a, b] = some r := hr
  unfold qAdd at hr'
  split at hr'
  · next i j e =>
    cases e
    exact .inl ⟨i, j, top_int ta, top_int tb, old_int sb hr' k⟩
  · next i j e =>
    cases e
    split at hr'
    · next hl => exact .inr (.inl ⟨i, j, top_str ta, top_str tb, by rw [sizeLine_eq]; exact hl, old_val sb (w := .d (.str (i ++ j))) (Rep.str _) (Option.some.inj hr').symm k⟩)
    · cases hr'
  · next i j e =>
    cases e
    split at hr'
    · next hl =>
      obtain ⟨l, xs, e1, h1, r1⟩ := ta
      obtain ⟨m, zs, e2, h2, r2⟩ := tb
      exact .inr (.inr (.inl ⟨l, m, xs, zs, e1, e2, h1, h2, by rw [r1.length, r2.length, sizeLine_eq]; exact hl, new_lst sb (r1.append r2) (Option.some.inj hr').symm k⟩))
    · cases hr'
  · next i j e =>
    cases e
    split at hr'
    · next hl =>
      obtain ⟨l, xs, e1, f1, h1, r1⟩ := top_tup sb ta
      obtain ⟨m, zs, e2, f2, h2, r2⟩ := top_tup sb tb
      have er := (Option.some.inj hr').symm
      refine .inr (.inr (.inr ⟨l, m, xs, zs, e1, e2, h1, h2, by rw [r1.length, r2.length, sizeLine_eq]; exact hl, fun z => ?_, fun _ z => ?_, fun _ _ p hp => new_tup sb (r1.append r2) er k p hp⟩))
      · subst z
        cases r1
        exact old_val sb (w := .d (.tuple j)) (Rep.tup f2 r2) er k
      · subst z
        cases r2
        rw [List.append_nil] at er
        exact old_val sb (w := .d (.tuple i)) (Rep.tup f1 r1) er k
    · cases hr'
  · cases hr'
theorem p_sub : OpR X (binaryOp .Sub) (rP2 (q.at X C) .sub) := by
  refine opr_of op_sub fun x y H Q ⟨F, ws, r, sb, pr, hr, k⟩ => ?_
  obtain ⟨a, b, rfl, ta, tb⟩ := two pr
  have hr' : qSub [a, b] = some r := hr
  unfold qSub at hr'
  split at hr'
  · next i j e =>
    cases e
    exact ⟨i, j, top_int ta, top_int tb, old_int sb hr' k⟩
  · cases hr'
theorem p_fdiv : OpR X (binaryOp .FloorDiv) (rP2 (q.at X C) .fdiv) := by
  refine opr_of op_fdivW fun x y H Q ⟨F, ws, r, sb, pr, hr, k⟩ => ?_
  obtain ⟨a, b, rfl, ta, tb⟩ := two pr
  have hr' : qFdiv [a, b] = some r := hr
  unfold qFdiv at hr'
  split at hr'
  · next i j e =>
    cases e
    split at hr'
    · next h => exact ⟨i, j, top_int ta, top_int tb, h, old_int sb hr' k⟩
    · cases hr'
  · cases hr'
theorem p_mod : OpR X (binaryOp .Mod) (rP2 (q.at X C) .mod) := by
  refine opr_of op_mod fun x y H Q ⟨F, ws, r, sb, pr, hr, k⟩ => ?_
  obtain ⟨a, b, rfl, ta, tb⟩ := two pr
  have hr' : qMod [a, b] = some r := hr
  unfold qMod at hr'
  split at hr'
  · next i j e =>
    cases e
    split at hr'
    · next h => exact ⟨i, j, top_int ta, top_int tb, h, old_int sb hr' k⟩
    · cases hr'
  · cases hr'
theorem bits_ok {i : Int} (h : i.natAbs < 2 ^ 1000) : Builtin.Int.intBits i ≤ 1000 := by
  unfold Builtin.Int.intBits
  by_cases hz : i = 0
  · subst hz
    decide
  · have z : (i == 0) = false := by simpa using hz
    rw [z]
    have y := (Nat.log2_lt (n := i.natAbs) (k := 1000) (by omega)).mpr h
    show i.natAbs.log2 + 1 ≤ 1000
    omega
theorem op_powB : OpR X (binaryOp .Pow) (rI (fun i j => 0 ≤ j ∧ j ≤ 1000 ∧ i.natAbs < 2 ^ 1000) fun i j => .int (i ^ j.toNat)) := by
  intro pins s σ H x y v u Q I rx ry ⟨i, j, e1, e2, ⟨h1, h2, h3⟩, q⟩
  subst e1
  subst e2
  obtain ⟨t, rfl⟩ := rx
  obtain ⟨t2, rfl⟩ := ry
  have b := bits_ok h3
  refine pow_int h1 ?_ ⟨.int (i ^ j.toNat), H, I.kept (t' := s.toks + 1) fun _ _ z => z, ⟨s.toks, rfl⟩, q⟩
  have z : ((Builtin.Int.intBits i : Nat) : Int) * j ≤ 1000 * 1000 := Int.mul_le_mul (by omega) h2 h1 (by omega)
  have y : (2 : Int) ^ 27 = 134217728 := by decide
  rw [y]
  omega
theorem p_pow : OpR X (binaryOp .Pow) (rP2 (q.at X C) .pow) := by
  refine opr_of op_powB fun x y H Q ⟨F, ws, r, sb, pr, hr, k⟩ => ?_
  obtain ⟨a, b, rfl, ta, tb⟩ := two pr
  have hr' : qPow [a, b] = some r := hr
  unfold qPow at hr'
  split at hr'
  · next i j e =>
    cases e
    split at hr'
    · next h => exact ⟨i, j, top_int ta, top_int tb, h, old_int sb hr' k⟩
    · cases hr'
  · cases hr'
theorem RepAll.rep {g : G} {F : Hp} {xs : List V} {ds : List PyData} (r : RepAll g F xs ds) : ∀ n : Nat, RepAll g F (List.replicate n xs).flatten (List.replicate n ds).flatten
  | 0 => .nil
  | n + 1 => by
    rw [List.replicate_succ, List.replicate_succ, List.flatten_cons, List.flatten_cons]
    exact r.append (RepAll.rep r n)
theorem p_neg : UnR X (unaryOp .USub) (fun x H Q => rP (q.at X C) .neg [x] H Q) := by
  intro pins s σ H x v Q I rx ⟨F, ws, r, sb, pr, hr, k⟩
  cases pr with
  | cons ta t =>
    cases t
    rename_i a
    have hr' : qNeg [a] = some r := hr
    unfold qNeg at hr'
    split at hr'
    · next i e =>
      cases e
      exact un_neg pins s σ H x v Q I rx ⟨i, top_int ta, old_int sb hr' k⟩
    · cases hr'
end
end Ev
/-! EvDo: a tuple times 1 is itself. -/
set_option Elab.async false
set_option linter.all false
set_option maxRecDepth 100000
set_option maxHeartbeats 4000000
namespace Ev
open PySem PySem.Spec PyProof.Rows AutoSeq1 L2
theorem tuple_mul1 (l : Addr) (items : Array Value) (n : Nat) (dd : Option Addr) (sl : Array (Option Value)) (u : Tok) :
    Meets (Builtin.«tuple.__mul__» ⟨[.ref l, .int 1 u], []⟩) (fun _ R s => s.heap.get? l = some { cls := .type "tuple", dict := dd, data := .seq items n, slots := sl } ∧ R (.ok (.ret (Value.ref l))) s) :=
  .of_wp fun prog w A R s h => by
    obtain ⟨hp, g, d, tk, os⟩ := s
    obtain ⟨ht, h⟩ := h
    wp_walk using wpAny_loadPart' ht
    exact ⟨_, rfl, h⟩
def rRep1 (K : PySem.W.Frag) : R2 := fun x y H Q => ∃ l xs, x = .ref l ∧ y = .int 1 ∧ SqT K H l xs ∧ Q (.ref l) H
theorem op_rep1 {X : Cx} : OpR X (binaryOp .Mult) (rRep1 X.K) := by
  intro pins s σ H x y v u Q I rx ry h
  obtain ⟨l, xs, rfl, rfl, hT, q⟩ := h
  cases rx
  obtain ⟨t, rfl⟩ := ry
  obtain ⟨its, r, ⟨⟨cls, dd, data, sl⟩, ho, hc, n, hd⟩, hs⟩ := I.tuple hT
  simp only at hc hd
  subst hc hd
  exact wpAny_binaryOp_repeat_ref (T := "tuple") (U := "int") (by decide) ⟨_, ho, rfl⟩ (fun s' => typeIs_int s' 1 t) noFill_tuple_mul F.fills_int_mul F.slot_int_rmul repeat_tuple F.slot_int_index.lookup
    (call_meets F.slot_int_rmul (typeIs_int s 1 t) F.entry_int_rmul (F.args_int_rmul_2 _ _) (int_rmul_tuple 1 t l its.toArray n dd sl)
      ⟨ho, rfl, ⟨_, ho, rfl⟩, call_meets F.slot_tuple_mul ⟨_, ho, rfl⟩ F.entry_tuple_mul (F.args_tuple_mul_2 _ _) (tuple_mul1 l its.toArray n dd sl t) ⟨ho, .ref l, H, I, rfl, q⟩⟩)
end Ev
set_option Elab.async false
set_option linter.all false
set_option maxRecDepth 100000
set_option maxHeartbeats 1000000
/-! EvE: comparisons, subscripts, builtins. -/
namespace Ev
open PySem PySem.Spec PyProof.Rows L2

/-! ### data that can be laid -/
theorem dp_rep {g : G} {F H : Hp} (sb : Sub F H) : (∀ {v : V} {d : PyData}, Rep g F v d → d.canLay0 = true → Dp g.K H v d) ∧ (∀ {vs : List V} {ds : List PyData}, RepAll g F vs ds → PyData.canLayAll0 ds = true → DpAll g.K H vs ds) := by
  constructor
  · intro v d r
    refine Rep.rec (motive_1 := fun v d _ => d.canLay0 = true → Dp g.K H v d) (motive_2 := fun vs ds _ => PyData.canLayAll0 ds = true → DpAll g.K H vs ds) ?_ ?_ ?_ ?_ ?_ ?_ ?_ ?_ ?_ ?_ r
    · exact fun _ => .non
    · exact fun b _ => .bl b
    · exact fun b _ => .int b
    · exact fun b _ => .str b
    · exact fun q _ i h => .lst (.inl (.inl (sb _ _ q))) (i (by simpa [PyData.canLay0] using h))
    · exact fun q _ i h => .tup (st_sub sb q) (i (by simpa [PyData.canLay0] using h))
    · exact fun _ _ _ _ _ h => by simp [PyData.canLay0] at h
    · exact fun _ _ _ _ _ h => by simp [PyData.canLay0] at h
    · exact fun _ => .nil
    · intro v vs d ds _ _ i j h
      rw [PyData.canLayAll0, Bool.and_eq_true] at h
      exact .cons (i h.1) (j h.2)
  · intro v d r
    refine RepAll.rec (motive_1 := fun v d _ => d.canLay0 = true → Dp g.K H v d) (motive_2 := fun vs ds _ => PyData.canLayAll0 ds = true → DpAll g.K H vs ds) ?_ ?_ ?_ ?_ ?_ ?_ ?_ ?_ ?_ ?_ r
    · exact fun _ => .non
    · exact fun b _ => .bl b
    · exact fun b _ => .int b
    · exact fun b _ => .str b
    · exact fun q _ i h => .lst (.inl (.inl (sb _ _ q))) (i (by simpa [PyData.canLay0] using h))
    · exact fun q _ i h => .tup (st_sub sb q) (i (by simpa [PyData.canLay0] using h))
    · exact fun _ _ _ _ _ h => by simp [PyData.canLay0] at h
    · exact fun _ _ _ _ _ h => by simp [PyData.canLay0] at h
    · exact fun _ => .nil
    · intro v vs d ds _ _ i j h
      rw [PyData.canLayAll0, Bool.and_eq_true] at h
      exact .cons (i h.1) (j h.2)
theorem top_dp {g : G} {F H : Hp} {v : V} {d : PyData} (sb : Sub F H) (t : TopW g F H v (.d d)) (h : shp d = true) : Dp g.K H v d := by
  have c : d.canLay0 = true := SeqAt.canLay_of_shaped h
  cases d with
  | list ds =>
    obtain ⟨a, xs, e, h1, r⟩ := t
    subst e
    exact .lst (.inl (.inl h1)) ((dp_rep sb).2 r (by simpa [PyData.canLay0] using c))
  | dict kvs => simp [PyData.canLay0] at c
  | _ => exact (dp_rep sb).1 (show Rep g F v _ from t) c

section
variable {q : Qn} {X : Cx} {C : V → Wd → Hp → Prop}
theorem p_mul : OpR X (binaryOp .Mult) (rP2 (q.at X C) .mul) := by
  refine opr_of (op_mulW.or (op_rep.or (op_repT.or op_rep1))) fun x y H Q ⟨F, ws, r, sb, pr, hr, k⟩ => ?_
  obtain ⟨a, b, rfl, ta, tb⟩ := two pr
  have hr' : qMul [a, b] = some r := hr
  unfold qMul at hr'
  split at hr'
  · next i j e =>
    cases e
    split at hr'
    · next h =>
      refine .inl ⟨i, j, top_int ta, top_int tb, ?_, old_int sb hr' k⟩
      have z : i.natAbs.log2 + j.natAbs.log2 < 100000 := of_decide_eq_true h
      show i.natAbs.log2 + j.natAbs.log2 < 1000000
      omega
    · cases hr'
  · next i j e =>
    cases e
    split at hr'
    · next h =>
      obtain ⟨l, xs, e1, h1, r1⟩ := ta
      exact .inr (.inl ⟨l, j, xs, e1, top_int tb, h1, by omega, by omega, by rw [r1.length, sizeLine_eq]; exact h.1, new_lst sb (r1.rep j.toNat) (Option.some.inj hr').symm k⟩)
    · cases hr'
  · next i j e =>
    cases e
    split at hr'
    · next h =>
      subst h
      obtain ⟨l, xs, e1, rl, h1, r1⟩ := top_tup sb ta
      exact .inr (.inr (.inr ⟨l, xs, e1, top_int tb, h1, old_val sb (w := .d (.tuple i)) (Rep.tup rl r1) (Option.some.inj hr').symm k⟩))
    split at hr'
    · next h =>
      obtain ⟨l, xs, e1, _, h1, r1⟩ := top_tup sb ta
      refine .inr (.inr (.inl ⟨l, j, xs, e1, top_int tb, h1, fun z => ?_, h.2.1, h.2.2.1, by rw [r1.length]; exact h.2.2.2, new_tup sb (r1.rep j.toNat) (Option.some.inj hr').symm k⟩))
      subst z
      cases r1
      exact h.1 rfl
    · cases hr'
  · cases hr'
theorem p_eq (hu : X.A.units + 64 < cLine) : OpR X (compareOp .Eq) (rP2 (q.at X C) .eq) := by
  refine opr_of (op_eqD hu) fun x y H Q ⟨F, ws, r, sb, pr, hr, k⟩ => ?_
  obtain ⟨a, b, rfl, ta, tb⟩ := two pr
  have hr' : qEq [a, b] = some r := hr
  unfold qEq at hr'
  split at hr'
  · next d e z =>
    cases z
    split at hr'
    · next h =>
      rw [Bool.and_eq_true] at h
      exact ⟨d, e, top_dp sb ta h.1, top_dp sb tb h.2, h.1, h.2, old_bl sb hr' k⟩
    · cases hr'
  · cases hr'
theorem p_ne (hu : X.A.units + 64 < cLine) : OpR X (compareOp .NotEq) (rP2 (q.at X C) .ne) := by
  refine opr_of (op_neD hu) fun x y H Q ⟨F, ws, r, sb, pr, hr, k⟩ => ?_
  obtain ⟨a, b, rfl, ta, tb⟩ := two pr
  have hr' : qNe [a, b] = some r := hr
  unfold qNe at hr'
  split at hr'
  · next d e z =>
    cases z
    split at hr'
    · next h =>
      rw [Bool.and_eq_true] at h
      exact ⟨d, e, top_dp sb ta h.1, top_dp sb tb h.2, h.1, h.2, old_bl sb hr' k⟩
    · cases hr'
  · cases hr'
theorem p_le : OpR X (compareOp .LtE) (rP2 (q.at X C) .le) := by
  refine opr_of op_le fun x y H Q ⟨F, ws, r, sb, pr, hr, k⟩ => ?_
  obtain ⟨a, b, rfl, ta, tb⟩ := two pr
  have hr' : qLe [a, b] = some r := hr
  unfold qLe at hr'
  split at hr'
  · next i j e =>
    cases e
    exact ⟨i, j, top_int ta, top_int tb, old_bl sb hr' k⟩
  · cases hr'
theorem p_ge : OpR X (compareOp .GtE) (rP2 (q.at X C) .ge) := by
  refine opr_of op_ge fun x y H Q ⟨F, ws, r, sb, pr, hr, k⟩ => ?_
  obtain ⟨a, b, rfl, ta, tb⟩ := two pr
  have hr' : qGe [a, b] = some r := hr
  unfold qGe at hr'
  split at hr'
  · next i j e =>
    cases e
    exact ⟨i, j, top_int ta, top_int tb, old_bl sb hr' k⟩
  · cases hr'

/-! ### less, of alike data -/
mutual
theorem dlt_ok : ∀ (x y : PyData), PySem.W.alike x y = true → PySem.W.dataLt x y = dlt x y
  | .none, y, h => by
    cases y with
    | none => rfl
    | _ => simp [PySem.W.alike] at h
  | .bool a, y, h => by
    cases y with
    | bool b =>
      rw [PySem.W.dataLt_bool]
      cases a <;> cases b <;> rfl
    | _ => simp [PySem.W.alike] at h
  | .int a, y, h => by
    cases y with
    | int b => rw [PySem.W.dataLt_int]; rfl
    | _ => simp [PySem.W.alike] at h
  | .str a, y, h => by
    cases y with
    | str b => rw [PySem.W.dataLt_str]; rfl
    | _ => simp [PySem.W.alike] at h
  | .list xs, y, h => by
    cases y with
    | list ys => rw [PySem.W.dataLt_list, dltAll_ok xs ys (by simpa [PySem.W.alike] using h), dlt]
    | _ => simp [PySem.W.alike] at h
  | .tuple xs, y, h => by
    cases y with
    | tuple ys => rw [PySem.W.dataLt_tuple, dltAll_ok xs ys (by simpa [PySem.W.alike] using h), dlt]
    | _ => simp [PySem.W.alike] at h
  | .dict _, y, h => by cases y <;> simp [PySem.W.alike] at h
theorem dltAll_ok : ∀ (xs ys : List PyData), PySem.W.alikeAll xs ys = true → PyProof.Rows.lexLt PyProof.Rows.itemOrd (PySem.W.keyToksAll xs) (PySem.W.keyToksAll ys) = dltAll xs ys
  | [], [], _ => by
    rw [dltAll]
    decide
  | [], y :: ys, _ => by
    rw [dltAll, PySem.W.toks_all_cons]
    rfl
  | x :: xs, [], _ => by
    rw [dltAll, PySem.W.toks_all_cons]
    rfl
  | x :: xs, y :: ys, h => by
    obtain ⟨h1, h2⟩ := PySem.W.alike_all_cons h
    rw [PySem.W.dataLt_cons h1, dltAll, dltAll_ok xs ys h2, dlt_ok x y h1]
end
end
end Ev
set_option Elab.async false
set_option linter.all false
set_option maxRecDepth 100000
set_option maxHeartbeats 1000000
/-! EvF: less, in, is, subscripts, builtins. -/
namespace Ev
open PySem PySem.Spec PyProof.Rows L2
section
variable {q : Qn} {X : Cx} {C : V → Wd → Hp → Prop}
theorem p_gt (hu : X.A.units + 64 < cLine) : OpR X (compareOp .Gt) (rP2 (q.at X C) .gt) := by
  intro pins s σ H x y v u Q I rx ry ⟨F, ws, r, sb, pr, hr, k⟩
  obtain ⟨a, b, rfl, ta, tb⟩ := two pr
  have hr' : qGt [a, b] = some r := hr
  unfold qGt at hr'
  split at hr'
  · next d e z =>
    cases z
    split at hr'
    · next h =>
      rw [Bool.and_eq_true, Bool.and_eq_true, Bool.and_eq_true, Bool.and_eq_true] at h
      obtain ⟨⟨⟨⟨ha, hb⟩, hd⟩, he⟩, hz⟩ := h
      obtain ⟨as, r1⟩ := Dp.reads I d x v (top_dp sb ta hd) rx
      obtain ⟨bs, r2⟩ := Dp.reads I e y u (top_dp sb tb he) ry
      have hn : d ≠ .none := fun e => by
        subst e
        cases hz
      have z := PySem.W.rcGt_alike d e X.A s v u as bs r1 r2 ha hn (SeqAt.room_of_shaped hd hu)
      refine z X.prog X.w X.xe _ ?_
      rw [dlt_ok e d hb]
      exact ⟨.bl _, H, I, rfl, old_bl sb hr' k⟩
    · cases hr'
  · cases hr'
theorem p_lt (hu : X.A.units + 64 < cLine) : OpR X (compareOp .Lt) (rP2 (q.at X C) .lt) := by
  intro pins s σ H x y v u Q I rx ry ⟨F, ws, r, sb, pr, hr, k⟩
  obtain ⟨a, b, rfl, ta, tb⟩ := two pr
  have hr' : qLt [a, b] = some r := hr
  unfold qLt at hr'
  split at hr'
  · next d e z =>
    cases z
    split at hr'
    · next h =>
      rw [Bool.and_eq_true, Bool.and_eq_true, Bool.and_eq_true] at h
      obtain ⟨⟨⟨ha, hd⟩, he⟩, hz⟩ := h
      obtain ⟨as, r1⟩ := Dp.reads I d x v (top_dp sb ta hd) rx
      obtain ⟨bs, r2⟩ := Dp.reads I e y u (top_dp sb tb he) ry
      have hn : d ≠ .none := fun e => by
        subst e
        cases hz
      have z : SeqAt.RcLt X.A s v u (PySem.W.dataLt d e) := PySem.W.rcLt_alike d e X.A s v u as bs r1 r2 ha hn (SeqAt.room_of_shaped hd hu)
      refine z X.prog X.w X.xe _ ?_
      rw [dlt_ok d e ha]
      exact ⟨.bl _, H, I, rfl, old_bl sb hr' k⟩
    · cases hr'
  · cases hr'
theorem any_in {d : PyData} {ds : List PyData} : (ds.any fun y => PyData.eqv y d) = ds.any fun z => PyData.eqv z d := rfl
theorem p_isN : OpR X (compareOp .Is) (fun x y H Q => y = .non ∧ rP (q.at X C) .isN [x] H Q) := by
  refine opr_of op_isN fun x y H Q ⟨e, F, ws, r, sb, pr, hr, k⟩ => ⟨e, ?_⟩
  cases pr with
  | cons ta t =>
    cases t
    rename_i a
    have hr' : qIsN [a] = some r := hr
    unfold qIsN at hr'
    split at hr'
    · next d z =>
      cases z
      cases d with
      | none =>
        rw [top_non ta]
        exact old_bl sb hr' k
      | int i =>
        rw [top_int ta]
        exact old_bl sb hr' k
      | bool i =>
        rw [top_bl ta]
        exact old_bl sb hr' k
      | str i =>
        rw [top_str ta]
        exact old_bl sb hr' k
      | list ds =>
        obtain ⟨a, xs, e, _⟩ := ta
        subst e
        exact old_bl sb hr' k
      | tuple ds =>
        obtain ⟨a, xs, e, _⟩ := top_tup sb ta
        subst e
        exact old_bl sb hr' k
      | dict ds =>
        obtain ⟨a, e, _⟩ := ta
        subst e
        exact old_bl sb hr' k
    · cases hr'
theorem p_notN : OpR X (compareOp .IsNot) (fun x y H Q => y = .non ∧ rP (q.at X C) .notN [x] H Q) := by
  refine opr_of op_notN fun x y H Q ⟨e, F, ws, r, sb, pr, hr, k⟩ => ⟨e, ?_⟩
  cases pr with
  | cons ta t =>
    cases t
    rename_i a
    have hr' : qNotN [a] = some r := hr
    unfold qNotN at hr'
    split at hr'
    · next d z =>
      cases z
      cases d with
      | none =>
        rw [top_non ta]
        exact old_bl sb hr' k
      | int i =>
        rw [top_int ta]
        exact old_bl sb hr' k
      | bool i =>
        rw [top_bl ta]
        exact old_bl sb hr' k
      | str i =>
        rw [top_str ta]
        exact old_bl sb hr' k
      | list ds =>
        obtain ⟨a, xs, e, _⟩ := ta
        subst e
        exact old_bl sb hr' k
      | tuple ds =>
        obtain ⟨a, xs, e, _⟩ := top_tup sb ta
        subst e
        exact old_bl sb hr' k
      | dict ds =>
        obtain ⟨a, e, _⟩ := ta
        subst e
        exact old_bl sb hr' k
    · cases hr'
/-- what a datum's value is no bool -/
theorem top_nob {g : G} {F H : Hp} {v : V} {d : PyData} {u : Value} (sb : Sub F H) (t : TopW g F H v (.d d)) (hd : ∀ b, d ≠ .bool b) (rv : RelV v u) (b : Bool) : plainIs u (.bool b) = true ∧ u ≠ .bool b := by
  cases d with
  | none =>
    rw [top_non t] at rv
    cases rv
    exact ⟨rfl, nofun⟩
  | int i =>
    rw [top_int t] at rv
    obtain ⟨t, rfl⟩ := rv
    exact ⟨rfl, nofun⟩
  | bool i => exact absurd rfl (hd i)
  | str i =>
    rw [top_str t] at rv
    obtain ⟨t, rfl⟩ := rv
    exact ⟨rfl, nofun⟩
  | list ds =>
    obtain ⟨a, xs, e, _⟩ := t
    subst e
    cases rv
    exact ⟨rfl, nofun⟩
  | tuple ds =>
    obtain ⟨a, xs, e, _⟩ := top_tup sb t
    subst e
    cases rv
    exact ⟨rfl, nofun⟩
  | dict ds =>
    obtain ⟨a, e, _⟩ := t
    subst e
    cases rv
    exact ⟨rfl, nofun⟩
theorem p_isB {b : Bool} : OpR X (compareOp .Is) (fun x y H Q => y = .bl b ∧ rP (q.at X C) (.isB b) [x] H Q) := by
  intro pins s σ H x y v u Q I rx ry ⟨e, F, ws, r, sb, pr, hr, k⟩
  subst e
  cases pr with
  | cons ta t =>
    cases t
    rename_i a
    have hr' : qIsB b [a] = some r := hr
    unfold qIsB at hr'
    split at hr'
    · next d z =>
      cases z
      cases ry
      by_cases hb : ∃ c, d = .bool c
      · obtain ⟨c, rfl⟩ := hb
        rw [top_bl ta] at rx
        refine op_isBl pins s σ H (.bl c) (.bl b) v (.bool b) Q I rx rfl ⟨c, b, rfl, rfl, ?_⟩
        have z : vB (decide (c = b)) = some r := by
          rw [← hr']
          cases b <;> cases c <;> rfl
        exact old_bl sb z k
      · have hd : ∀ b, d ≠ .bool b := fun c e => hb ⟨c, e⟩
        obtain ⟨h1, h2⟩ := top_nob sb ta hd rx b
        have z : vB false = some r := by
          rw [← hr']
          cases d <;> first | rfl | exact absurd rfl (hd _)
        exact wpAny_is_other h1 h2 ⟨.bl false, H, I, rfl, old_bl sb z k⟩
    · cases hr'
theorem p_notB {b : Bool} : OpR X (compareOp .IsNot) (fun x y H Q => y = .bl b ∧ rP (q.at X C) (.notB b) [x] H Q) := by
  intro pins s σ H x y v u Q I rx ry ⟨e, F, ws, r, sb, pr, hr, k⟩
  subst e
  cases pr with
  | cons ta t =>
    cases t
    rename_i a
    have hr' : qNotB b [a] = some r := hr
    unfold qNotB at hr'
    split at hr'
    · next d z =>
      cases z
      cases ry
      by_cases hb : ∃ c, d = .bool c
      · obtain ⟨c, rfl⟩ := hb
        rw [top_bl ta] at rx
        refine op_notBl pins s σ H (.bl c) (.bl b) v (.bool b) Q I rx rfl ⟨c, b, rfl, rfl, ?_⟩
        have z : vB (!decide (c = b)) = some r := by
          rw [← hr']
          cases b <;> cases c <;> rfl
        exact old_bl sb z k
      · have hd : ∀ b, d ≠ .bool b := fun c e => hb ⟨c, e⟩
        obtain ⟨h1, h2⟩ := top_nob sb ta hd rx b
        have z : vB true = some r := by
          rw [← hr']
          cases d <;> first | rfl | exact absurd rfl (hd _)
        exact wpAny_isNot_other h1 h2 ⟨.bl true, H, I, rfl, old_bl sb z k⟩
    · cases hr'

/-! ### slices -/
theorem RepAll.cut {g : G} {F : Hp} {xs : List V} {ds : List PyData} (r : RepAll g F xs ds) (lo hi : Option Int) : RepAll g F (cutV xs lo hi) (cutL ds lo hi) := by
  unfold cutV cutL
  rw [r.length]
  exact (r.drop _).take _
def optV : Option Int → V
  | none => .non
  | some i => .int i
theorem p_cut : SlR X (fun x lo hi H Q => rP (q.at X C) .cut [x, optV lo, optV hi] H Q) := by
  intro pins s σ H x v vl vu lo hi sl Q I rx hs pl pu ⟨F, ws, r, sb, pr, hr, k⟩
  cases pr with
  | cons ta t =>
    cases t with
    | cons tb t =>
      cases t with
      | cons tc t =>
        cases t
        rename_i a b c
        have hb : ∀ {o : Option Int} {w : Wd} {y : PyData} {z : Option Int}, TopW (q.at X C) F H (optV o) w → w = .d y → optI y = some z → o = z := by
          intro o w y z t e h
          subst e
          unfold optI at h
          split at h
          · cases h
            have t' := top_non t
            cases o <;> first | rfl | cases t'
          · cases h
            have t' := top_int t
            cases o <;> cases t'
            rfl
          · cases h
        have hr' : qCut [a, b, c] = some r := hr
        unfold qCut at hr'
        split at hr'
        · next ds l h e =>
          cases e
          split at hr'
          · next l' h' e1 e2 =>
            obtain ⟨p, xs, e3, h3, r3⟩ := ta
            cases hb tb rfl e1
            cases hb tc rfl e2
            exact sl_list pins s σ H x v vl vu lo hi sl Q I rx hs pl pu ⟨p, xs, e3, .of h3, new_lst sb (r3.cut lo hi) (Option.some.inj hr').symm k⟩
          · cases hr'
        · next ds l h e =>
          cases e
          split at hr'
          · next l' h' e1 e2 =>
            obtain ⟨p, xs, e3, f3, h3, r3⟩ := top_tup sb ta
            cases hb tb rfl e1
            cases hb tc rfl e2
            have er := (Option.some.inj hr').symm
            refine sl_tupA pins s σ H x v vl vu lo hi sl Q I rx hs pl pu ⟨p, xs, e3, h3, fun z => ?_, fun _ => new_tup sb (r3.cut lo hi) er k⟩
            have ec : cutL ds lo hi = ds := by
              unfold cutL
              rw [← r3.length, z.1, z.2, List.drop_zero, Nat.sub_zero, r3.length]
              exact List.take_length
            rw [ec] at er
            exact old_val sb (w := .d (.tuple ds)) (Rep.tup f3 r3) er k
          · cases hr'
        · cases hr'

/-! ### builtins -/
theorem top_seq2 {g : G} {F H : Hp} {v : V} {y : PyData} {ys : List PyData} (t : TopW g F H v (.d y)) (h : seqOf y = some ys) (sb : Sub F H) : ∃ a xs, v = .ref a ∧ (SqL g.K H a xs ∨ SqT g.K H a xs) ∧ RepAll g F xs ys := by
  obtain ⟨a, xs, h1, h2, h3⟩ := top_seq t h sb
  exact ⟨a, xs, h1, h2.symm, h3⟩
theorem p_abs : CallR X (.builtin "abs") (rP (q.at X C) .abs) := by
  refine cr_of call_abs fun x H Q ⟨F, ws, r, sb, pr, hr, k⟩ => ?_
  have hr' : qAbs ws = some r := hr
  unfold qAbs at hr'
  split at hr'
  · obtain ⟨v, rfl, ta⟩ := one pr
    exact ⟨_, by rw [top_int ta], old_int sb hr' k⟩
  · cases hr'
theorem p_max2 (hc : X.calm = true) : CallR X (.builtin "max") (rP (q.at X C) .max2) := by
  refine cr_of (call_max2 hc) fun x H Q ⟨F, ws, r, sb, pr, hr, k⟩ => ?_
  have hr' : qMax2 ws = some r := hr
  unfold qMax2 at hr'
  split at hr'
  · obtain ⟨v, u, rfl, ta, tb⟩ := two' pr
    exact ⟨_, _, by rw [top_int ta, top_int tb], old_int sb hr' k⟩
  · cases hr'
theorem p_min2 (hc : X.calm = true) : CallR X (.builtin "min") (rP (q.at X C) .min2) := by
  refine cr_of (call_min2 hc) fun x H Q ⟨F, ws, r, sb, pr, hr, k⟩ => ?_
  have hr' : qMin2 ws = some r := hr
  unfold qMin2 at hr'
  split at hr'
  · obtain ⟨v, u, rfl, ta, tb⟩ := two' pr
    exact ⟨_, _, by rw [top_int ta, top_int tb], old_int sb hr' k⟩
  · cases hr'
theorem p_int : CallR X (.type "int") (rP (q.at X C) .int) := by
  refine cr_of call_int1 fun x H Q ⟨F, ws, r, sb, pr, hr, k⟩ => ?_
  have hr' : qInt ws = some r := hr
  unfold qInt at hr'
  split at hr'
  · obtain ⟨v, rfl, ta⟩ := one pr
    exact .inl ⟨_, by rw [top_int ta], old_int sb hr' k⟩
  · obtain ⟨v, rfl, ta⟩ := one pr
    exact .inr ⟨_, by rw [top_bl ta], old_int sb hr' k⟩
  · cases hr'
theorem p_all (hc : X.calm = true) : CallR X (.builtin "all") (rP (q.at X C) .all) := by
  refine cr_of (cr_all hc) fun x H Q ⟨F, ws, r, sb, pr, hr, k⟩ => ?_
  have hr' : qAll ws = some r := hr
  unfold qAll at hr'
  split at hr'
  · obtain ⟨v, rfl, a, xs, e, h1, r1⟩ := one pr
    subst e
    split at hr'
    · next bs hb => exact ⟨a, bs, rfl, by rw [← r1.bools hb]; exact .of h1, old_bl sb hr' k⟩
    · cases hr'
  · cases hr'
theorem p_any (hc : X.calm = true) : CallR X (.builtin "any") (rP (q.at X C) .any) := by
  refine cr_of (cr_any hc) fun x H Q ⟨F, ws, r, sb, pr, hr, k⟩ => ?_
  have hr' : qAny ws = some r := hr
  unfold qAny at hr'
  split at hr'
  · obtain ⟨v, rfl, a, xs, e, h1, r1⟩ := one pr
    subst e
    split at hr'
    · next bs hb => exact ⟨a, bs, rfl, by rw [← r1.bools hb]; exact .of h1, old_bl sb hr' k⟩
    · cases hr'
  · cases hr'
theorem p_tuple : CallR X (.type "tuple") (rP (q.at X C) .tuple) := by
  refine cr_of call_tuple_of fun x H Q ⟨F, ws, r, sb, pr, hr, k⟩ => ?_
  have hr' : qTuple ws = some r := hr
  unfold qTuple at hr'
  split at hr'
  · obtain ⟨v, rfl, a, xs, e, h1, r1⟩ := one pr
    subst e
    exact ⟨a, xs, rfl, .inl ⟨.of h1, new_tup sb r1 (Option.some.inj hr').symm k⟩⟩
  · obtain ⟨v, rfl, ta⟩ := one pr
    obtain ⟨a, xs, e, f1, h1, r1⟩ := top_tup sb ta
    subst e
    exact ⟨a, xs, rfl, .inr ⟨h1, old_val sb (w := .d (.tuple _)) (Rep.tup f1 r1) (Option.some.inj hr').symm k⟩⟩
  · cases hr'
end
end Ev
set_option Elab.async false
set_option linter.all false
set_option maxRecDepth 100000
set_option maxHeartbeats 1000000
/-! EvG: subscripts, lengths, sums, membership, classes. -/
namespace Ev
open PySem PySem.Spec PyProof.Rows L2
theorem RepAll.atI {g : G} {F : Hp} {xs : List V} {ds : List PyData} {i : Int} {d : PyData} (r : RepAll g F xs ds) (h : L2.atI ds i = some d) : ∃ v, L2.atI xs i = some v ∧ Rep g F v d := by
  unfold L2.atI at h ⊢
  rw [r.length]
  cases q : L2.ixN ds.length i with
  | none => rw [q] at h; cases h
  | some j =>
    rw [q] at h
    exact r.get h
theorem atI_map {xs : List Int} {i j : Int} (h : L2.atI xs i = some j) : L2.atI (xs.map V.int) i = some (.int j) := by
  unfold L2.atI at h ⊢
  rw [List.length_map]
  cases q : L2.ixN xs.length i with
  | none => rw [q] at h; cases h
  | some k =>
    rw [q] at h
    have h' : xs[k]? = some j := h
    show (xs.map V.int)[k]? = some (.int j)
    rw [List.getElem?_map, h']
    rfl
theorem maxI_mem : ∀ (l : List Int) (m : Int), maxI m l ∈ m :: l ∧ ∀ y ∈ m :: l, y ≤ maxI m l
  | [], m => ⟨by simp [maxI], fun y h => by simp [maxI] at h ⊢; omega⟩
  | x :: r, m => by
    by_cases hx : x > m
    · obtain ⟨h1, h2⟩ := maxI_mem r x
      have e : maxI m (x :: r) = maxI x r := by show maxI (if x > m then x else m) r = _; rw [if_pos hx]
      rw [e]
      refine ⟨List.mem_cons_of_mem _ h1, fun y hy => ?_⟩
      rcases List.mem_cons.mp hy with h | h
      · have h3 := h2 x List.mem_cons_self
        omega
      · exact h2 y h
    · obtain ⟨h1, h2⟩ := maxI_mem r m
      have e : maxI m (x :: r) = maxI m r := by show maxI (if x > m then x else m) r = _; rw [if_neg hx]
      rw [e]
      refine ⟨?_, fun y hy => ?_⟩
      · rcases List.mem_cons.mp h1 with h | h
        · rw [h]
          exact List.mem_cons_self
        · exact List.mem_cons_of_mem _ (List.mem_cons_of_mem _ h)
      · have h3 := h2 m List.mem_cons_self
        rcases List.mem_cons.mp hy with h | h
        · omega
        · rcases List.mem_cons.mp h with h | h
          · omega
          · exact h2 y (List.mem_cons_of_mem _ h)
theorem minI_mem : ∀ (l : List Int) (m : Int), minI m l ∈ m :: l ∧ ∀ y ∈ m :: l, minI m l ≤ y
  | [], m => ⟨by simp [minI], fun y h => by simp [minI] at h ⊢; omega⟩
  | x :: r, m => by
    by_cases hx : x < m
    · obtain ⟨h1, h2⟩ := minI_mem r x
      have e : minI m (x :: r) = minI x r := by show minI (if x < m then x else m) r = _; rw [if_pos hx]
      rw [e]
      refine ⟨List.mem_cons_of_mem _ h1, fun y hy => ?_⟩
      rcases List.mem_cons.mp hy with h | h
      · have h3 := h2 x List.mem_cons_self
        omega
      · exact h2 y h
    · obtain ⟨h1, h2⟩ := minI_mem r m
      have e : minI m (x :: r) = minI m r := by show minI (if x < m then x else m) r = _; rw [if_neg hx]
      rw [e]
      refine ⟨?_, fun y hy => ?_⟩
      · rcases List.mem_cons.mp h1 with h | h
        · rw [h]
          exact List.mem_cons_self
        · exact List.mem_cons_of_mem _ (List.mem_cons_of_mem _ h)
      · have h3 := h2 m List.mem_cons_self
        rcases List.mem_cons.mp hy with h | h
        · omega
        · rcases List.mem_cons.mp h with h | h
          · omega
          · exact h2 y (List.mem_cons_of_mem _ h)

/-! ### sum, max, min of a tuple of ints -/
section
variable {prog : Program} {w : World} {A : Around} {E : Value → Shared → Prop} {s : Shared} {t : Addr} {zs : Array (Int × Tok)} {R : Value → Shared → Prop}
theorem iterT (ht : s.heap.IsTuple t (intItems zs))
    (h : ∀ s2 : Shared, s2 = { s with heap := s.heap.push { cls := .type "tuple_iterator", data := .fields #[.ref t, .int 0 0] } } → s2.heap.IsTuple t (intItems zs) → t ≠ s.heap.objs.size → t < s.heap.objs.size → R (.ref s.heap.objs.size) s2) : wpAny (model prog w) A (pyIter (.ref t)) R E s := by
  have hlt : t < s.heap.objs.size := by obtain ⟨_, e, _⟩ := ht; exact Heap.lt_size e
  exact wpAny_pyIter_tuple ht (h _ rfl (ht.push _) (Nat.ne_of_lt hlt) hlt)
theorem oldT {o : Obj} {h' : Heap} (hk : ∀ b u, b ∉ [s.heap.objs.size] → (s.heap.push o).get? b = some u → h'.get? b = some u) (b : Addr) (u : Obj) (e : s.heap.get? b = some u) : h'.get? b = some u :=
  hk b u (fun hm => by
    rw [List.mem_singleton] at hm
    have z := Heap.lt_size e
    rw [hm] at z
    exact Nat.lt_irrefl _ z) (Heap.get?_push_of_some _ e)
theorem belowT {o : Obj} (hlt : t < s.heap.objs.size) : ∀ b ∈ [s.heap.objs.size, t], b < (s.heap.push o).objs.size := fun b hb => by
  rw [Heap.size_push]
  simp only [List.mem_cons, List.not_mem_nil, or_false] at hb
  rcases hb with z | z
  · rw [z]
    exact Nat.lt_succ_self _
  · rw [z]
    exact Nat.lt_succ_of_lt hlt
theorem sumT (hh : A.handled = none) (ht : s.heap.IsTuple t (intItems zs)) (h : ∀ h' tk t', (∀ b o, s.heap.get? b = some o → h'.get? b = some o) → R (.int (preSum (numAt zs) zs.size) t') { s with heap := h', toks := tk }) :
    wpAny (model prog w) A (call (.builtin "sum") [.ref t]) R E s := by
  refine call_sum_walkG (iterT ht fun s2 e st hne hlt => ?_)
  subst e
  refine ⟨_, _, _, _, _, _, numAt zs, rfl, Walks.tuple (A := A.in1) hh _ t hne (intItems zs), ⟨⟨_, Heap.get?_push_size _ rfl, rfl, rfl⟩, st⟩, belowT hlt, (fun _ _ => intItems_at), fun h' tk t' hk => ?_⟩
  have z := h h' tk t' (oldT hk)
  simpa [intItems] using z
theorem maxT (hh : A.handled = none) (ht : s.heap.IsTuple t (intItems zs)) (hne0 : 0 < zs.size)
    (h : ∀ v h' tk, (intItems zs)[argBest (fun i j => decide (numAt zs i > numAt zs j)) (zs.size - 1)]? = some v → (∀ b o, s.heap.get? b = some o → h'.get? b = some o) → R v { s with heap := h', toks := tk }) :
    wpAny (model prog w) A (call (.builtin "max") [.ref t]) R E s := by
  refine call_max_walk (iterT ht fun s2 e st hne hlt => ?_)
  subst e
  refine ⟨_, _, _, _, _, _, _, rfl, Walks.tuple (A := A.in1) hh _ t hne (intItems zs), ⟨⟨_, Heap.get?_push_size _ rfl, rfl, rfl⟩, st⟩, belowT hlt, by simpa [intItems] using hne0, CmpOf.ints_gt (numAt zs) (fun _ _ => intItems_at), fun v h' tk hP hk => ?_⟩
  exact h v h' tk (by simpa [intItems] using hP) (oldT hk)
theorem minT (hh : A.handled = none) (ht : s.heap.IsTuple t (intItems zs)) (hne0 : 0 < zs.size)
    (h : ∀ v h' tk, (intItems zs)[argBest (fun i j => decide (numAt zs i < numAt zs j)) (zs.size - 1)]? = some v → (∀ b o, s.heap.get? b = some o → h'.get? b = some o) → R v { s with heap := h', toks := tk }) :
    wpAny (model prog w) A (call (.builtin "min") [.ref t]) R E s := by
  refine call_min_walk (iterT ht fun s2 e st hne hlt => ?_)
  subst e
  refine ⟨_, _, _, _, _, _, _, rfl, Walks.tuple (A := A.in1) hh _ t hne (intItems zs), ⟨⟨_, Heap.get?_push_size _ rfl, rfl, rfl⟩, st⟩, belowT hlt, by simpa [intItems] using hne0, CmpOf.ints_lt (numAt zs) (fun _ _ => intItems_at), fun v h' tk hP hk => ?_⟩
  exact h v h' tk (by simpa [intItems] using hP) (oldT hk)
end
section
variable {X : Cx}
theorem cr_sumT (hc : X.calm = true) : CallR X (.builtin "sum") (fun vs H Q => ∃ (a : Addr) (ns : List Int), vs = [V.ref a] ∧ SqT X.K H a (ns.map V.int) ∧ Q (.int ns.sum) H) := by
  intro pins s σ H vs us Q I r ⟨a, ns, e, hs, q⟩
  subst e
  obtain ⟨its, rv, ht, _⟩ := I.tuple hs
  rw [Vals.ref1 r]
  have hi := rv.ints
  obtain ⟨zs, ez⟩ := hi.allInts.items
  have hn : numsOf (intItems zs).toList = ns := by rw [← ez]; exact hi.numsOf
  rw [nums_intItems] at hn
  have ht' : s.heap.IsTuple a (intItems zs) := by rw [← ez]; exact ht
  refine sumT (I.ok.hd hc) ht' fun h' tk t' hk => ?_
  refine ⟨.int ns.sum, H, I.kept hk, ⟨t', ?_⟩, q⟩
  rw [preSum_eq, List.take_of_length_le (by simp), hn]
theorem cr_maxT (hc : X.calm = true) : CallR X (.builtin "max") (fun vs H Q => ∃ (a : Addr) (ns : List Int), vs = [V.ref a] ∧ SqT X.K H a (ns.map V.int) ∧ 0 < ns.length ∧ ∀ m, m ∈ ns → (∀ y, y ∈ ns → y ≤ m) → Q (.int m) H) := by
  intro pins s σ H vs us Q I r ⟨a, ns, e, hs, hl, q⟩
  subst e
  obtain ⟨its, rv, ht, _⟩ := I.tuple hs
  rw [Vals.ref1 r]
  have hi := rv.ints
  obtain ⟨zs, ez⟩ := hi.allInts.items
  have hn : numsOf (intItems zs).toList = ns := by rw [← ez]; exact hi.numsOf
  rw [nums_intItems] at hn
  subst hn
  have ht' : s.heap.IsTuple a (intItems zs) := by rw [← ez]; exact ht
  have hsz : 0 < zs.size := by simpa using hl
  refine maxT (I.ok.hd hc) ht' hsz fun v h' tk hv hk => ?_
  obtain ⟨t, rfl⟩ := intItems_at hv
  obtain ⟨h1, h2⟩ := argBest_gt (numAt zs) (zs.size - 1)
  refine ⟨.int _, H, I.kept hk, ⟨t, rfl⟩, q _ ?_ fun y hy => ?_⟩
  · rw [numAt_eq]
    exact PySem.getD_mem (by rw [List.length_map, Array.length_toList]; omega)
  · obtain ⟨j, hj, rfl⟩ := mem_getD hy
    rw [List.length_map, Array.length_toList] at hj
    rw [← numAt_eq]
    exact h2 j (by omega)
theorem cr_minT (hc : X.calm = true) : CallR X (.builtin "min") (fun vs H Q => ∃ (a : Addr) (ns : List Int), vs = [V.ref a] ∧ SqT X.K H a (ns.map V.int) ∧ 0 < ns.length ∧ ∀ m, m ∈ ns → (∀ y, y ∈ ns → m ≤ y) → Q (.int m) H) := by
  intro pins s σ H vs us Q I r ⟨a, ns, e, hs, hl, q⟩
  subst e
  obtain ⟨its, rv, ht, _⟩ := I.tuple hs
  rw [Vals.ref1 r]
  have hi := rv.ints
  obtain ⟨zs, ez⟩ := hi.allInts.items
  have hn : numsOf (intItems zs).toList = ns := by rw [← ez]; exact hi.numsOf
  rw [nums_intItems] at hn
  subst hn
  have ht' : s.heap.IsTuple a (intItems zs) := by rw [← ez]; exact ht
  have hsz : 0 < zs.size := by simpa using hl
  refine minT (I.ok.hd hc) ht' hsz fun v h' tk hv hk => ?_
  obtain ⟨t, rfl⟩ := intItems_at hv
  obtain ⟨h1, h2⟩ := argBest_lt (numAt zs) (zs.size - 1)
  refine ⟨.int _, H, I.kept hk, ⟨t, rfl⟩, q _ ?_ fun y hy => ?_⟩
  · rw [numAt_eq]
    exact PySem.getD_mem (by rw [List.length_map, Array.length_toList]; omega)
  · obtain ⟨j, hj, rfl⟩ := mem_getD hy
    rw [List.length_map, Array.length_toList] at hj
    rw [← numAt_eq]
    exact h2 j (by omega)
end
section
variable {q : Qn} {X : Cx} {C : V → Wd → Hp → Prop}
theorem p_idx : IxR X (rP2 (q.at X C) .idx) := by
  refine ixr_of (ix_list.or ix_tup) fun x y H Q ⟨F, ws, r, sb, pr, hr, k⟩ => ?_
  obtain ⟨a, b, rfl, ta, tb⟩ := two pr
  have hr' : qIdx [a, b] = some r := hr
  unfold qIdx at hr'
  split at hr'
  · next ns i e =>
    cases e
    split at hr'
    · next n hn =>
      obtain ⟨p, e, h1⟩ := ta
      exact .inl ⟨p, _, i, .int n, e, top_int tb, h1, atI_map hn, old_int sb hr' k⟩
    · cases hr'
  · next ds i e =>
    cases e
    split at hr'
    · next n hn =>
      obtain ⟨p, xs, e, h1, r1⟩ := ta
      obtain ⟨v, hv, r2⟩ := r1.atI hn
      exact .inl ⟨p, xs, i, v, e, top_int tb, .of h1, hv, old_val sb (w := .d n) r2 (Option.some.inj hr').symm k⟩
    · cases hr'
  · next ds i e =>
    cases e
    split at hr'
    · next n hn =>
      obtain ⟨p, xs, e, _, h1, r1⟩ := top_tup sb ta
      obtain ⟨v, hv, r2⟩ := r1.atI hn
      exact .inr ⟨p, xs, i, v, e, top_int tb, h1, hv, old_val sb (w := .d n) r2 (Option.some.inj hr').symm k⟩
    · cases hr'
  · cases hr'
theorem p_len0 : CallR X (.builtin "len") (fun x H Q => ∃ F ws r, Sub F H ∧ Paired (TopW (q.at X C) F H) x ws ∧ qLen ws = some r ∧ (∀ v F' H', Pst F H F' H' → NwOk (q.at X C) F H F' H' v r → Q v H') ∧ ∀ kvs, ws ≠ [.d (.dict kvs)]) := by
  intro pins s σ H x us Q I rv ⟨F, ws, r, sb, pr, hr, k, hn⟩
  have old := (call_len_seq.or call_len_str) pins s σ H x us Q I rv
  have hr' := hr
  unfold qLen at hr'
  split at hr'
  · obtain ⟨v, rfl, a, e, h1⟩ := one pr
    subst e
    exact old (.inl ⟨a, _, rfl, .inl h1, by rw [List.length_map]; exact old_int sb hr' k⟩)
  · obtain ⟨v, rfl, a, xs, e, h1, r1⟩ := one pr
    subst e
    exact old (.inl ⟨a, xs, rfl, .inl (.of h1), by rw [r1.length]; exact old_int sb hr' k⟩)
  · obtain ⟨v, rfl, ta⟩ := one pr
    obtain ⟨a, xs, e, f1, h1, r1⟩ := top_tup sb ta
    subst e
    exact old (.inl ⟨a, xs, rfl, .inr h1, by rw [r1.length]; exact old_int sb hr' k⟩)
  · split at hr'
    · next h =>
      obtain ⟨v, rfl, ta⟩ := one pr
      exact old (.inr ⟨_, by rw [top_str ta], by rw [sizeLine_eq]; exact h, old_int sb hr' k⟩)
    · cases hr'
  · next kvs => exact absurd rfl (hn kvs)
  · cases hr'
theorem p_list : CallR X (.type "list") (rP (q.at X C) .list) := by
  refine cr_of call_list_of fun x H Q ⟨F, ws, r, sb, pr, hr, k⟩ => ?_
  have hr' : qList ws = some r := hr
  unfold qList at hr'
  split at hr'
  · obtain ⟨v, rfl, a, xs, e, h1, r1⟩ := one pr
    subst e
    exact ⟨a, xs, rfl, .inl (.of h1), new_lst sb r1 (Option.some.inj hr').symm k⟩
  · obtain ⟨v, rfl, ta⟩ := one pr
    obtain ⟨a, xs, e, f1, h1, r1⟩ := top_tup sb ta
    subst e
    exact ⟨a, xs, rfl, .inr h1, new_lst sb r1 (Option.some.inj hr').symm k⟩
  · cases hr'
theorem seq_ints {F H : Hp} {v : V} {x : PyData} {is : List Int} (sb : Sub F H) (t : TopW (q.at X C) F H v (.d x)) (h : (seqOf x).bind intsOf = some is) : ∃ a, v = .ref a ∧ (SqL X.K H a (is.map V.int) ∨ SqT X.K H a (is.map V.int)) := by
  cases hs : seqOf x with
  | none => rw [hs] at h; cases h
  | some ys =>
    rw [hs] at h
    have h' : intsOf ys = some is := h
    obtain ⟨a, xs, e, h1, r1⟩ := top_seq2 t hs sb
    rw [r1.ints h'] at h1
    exact ⟨a, e, h1⟩
theorem p_sum (hc : X.calm = true) : CallR X (.builtin "sum") (rP (q.at X C) .sum) := by
  refine cr_of ((cr_sum hc).or (cr_sumT hc)) fun x H Q ⟨F, ws, r, sb, pr, hr, k⟩ => ?_
  have hr' : qSum ws = some r := hr
  unfold qSum at hr'
  split at hr'
  · split at hr'
    · next is hi =>
      obtain ⟨v, rfl, ta⟩ := one pr
      obtain ⟨a, e, h1 | h1⟩ := seq_ints sb ta hi
      · exact .inl ⟨a, is, by rw [e], h1, old_int sb hr' k⟩
      · exact .inr ⟨a, is, by rw [e], h1, old_int sb hr' k⟩
    · cases hr'
  · cases hr'
theorem p_max1 (hc : X.calm = true) : CallR X (.builtin "max") (rP (q.at X C) .max1) := by
  refine cr_of ((cr_max hc).or (cr_maxT hc)) fun x H Q ⟨F, ws, r, sb, pr, hr, k⟩ => ?_
  have hr' : qMax1 ws = some r := hr
  unfold qMax1 at hr'
  split at hr'
  · split at hr'
    · next m is hi =>
      obtain ⟨v, rfl, ta⟩ := one pr
      obtain ⟨hm1, hm2⟩ := maxI_mem is m
      have z : ∀ n, n ∈ m :: is → (∀ y, y ∈ m :: is → y ≤ n) → Q (.int n) H := fun n h1 h2 => by
        have e : n = maxI m is := by
          have a1 := hm2 n h1
          have a2 := h2 _ hm1
          omega
        subst e
        exact old_int sb hr' k
      obtain ⟨a, e, h1 | h1⟩ := seq_ints sb ta hi
      · exact .inl ⟨a, m :: is, by rw [e], h1, by simp, z⟩
      · exact .inr ⟨a, m :: is, by rw [e], h1, by simp, z⟩
    · cases hr'
  · cases hr'
theorem p_min1 (hc : X.calm = true) : CallR X (.builtin "min") (rP (q.at X C) .min1) := by
  refine cr_of ((cr_min hc).or (cr_minT hc)) fun x H Q ⟨F, ws, r, sb, pr, hr, k⟩ => ?_
  have hr' : qMin1 ws = some r := hr
  unfold qMin1 at hr'
  split at hr'
  · split at hr'
    · next m is hi =>
      obtain ⟨v, rfl, ta⟩ := one pr
      obtain ⟨hm1, hm2⟩ := minI_mem is m
      have z : ∀ n, n ∈ m :: is → (∀ y, y ∈ m :: is → n ≤ y) → Q (.int n) H := fun n h1 h2 => by
        have e : n = minI m is := by
          have a1 := hm2 n h1
          have a2 := h2 _ hm1
          omega
        subst e
        exact old_int sb hr' k
      obtain ⟨a, e, h1 | h1⟩ := seq_ints sb ta hi
      · exact .inl ⟨a, m :: is, by rw [e], h1, by simp, z⟩
      · exact .inr ⟨a, m :: is, by rw [e], h1, by simp, z⟩
    · cases hr'
  · cases hr'

/-! ### membership -/
theorem p_isin0 (hu : X.A.units + 65 < cLine) : OpR X (compareOp .In) (fun x y H Q => ∃ F ws r, Sub F H ∧ Paired (TopW (q.at X C) F H) [x, y] ws ∧ qIsin ws = some r ∧ (∀ v F' H', Pst F H F' H' → NwOk (q.at X C) F H F' H' v r → Q v H') ∧ ∀ d kvs, ws ≠ [.d d, .d (.dict kvs)]) := by
  intro pins s σ H x y v u Q I rx ry ⟨F, ws, r, sb, pr, hr, k, hn⟩
  obtain ⟨a, b, rfl, ta, tb⟩ := two pr
  have hr' : qIsin [a, b] = some r := hr
  unfold qIsin at hr'
  split at hr'
  · next d ds e =>
    cases e
    split at hr'
    · next h =>
      rw [Bool.and_eq_true] at h
      exact op_inD hu pins s σ H x y v u Q I rx ry ⟨d, ds, top_dp sb ta h.1, top_dp sb tb h.2, h.1, h.2, old_bl sb hr' k⟩
    · cases hr'
  · next d ds e =>
    cases e
    split at hr'
    · next h =>
      rw [Bool.and_eq_true] at h
      obtain ⟨as, r1⟩ := Dp.reads I d x v (top_dp sb ta h.1) rx
      obtain ⟨bs, r2⟩ := Dp.reads I (.tuple ds) y u (top_dp sb tb h.2) ry
      exact SeqAt.in_tuple_reads r2 r1 (SeqAt.canLay_of_shaped h.2) (SeqAt.canLay_of_shaped h.1) (room_in_shaped h.1 hu) ⟨.bl _, H, I, rfl, old_bl sb hr' k⟩
    · cases hr'
  · next d kvs e => exact absurd e (hn d kvs)
  · cases hr'
theorem p_notin0 (hu : X.A.units + 65 < cLine) : OpR X (compareOp .NotIn) (fun x y H Q => ∃ F ws r, Sub F H ∧ Paired (TopW (q.at X C) F H) [x, y] ws ∧ qNotin ws = some r ∧ (∀ v F' H', Pst F H F' H' → NwOk (q.at X C) F H F' H' v r → Q v H') ∧ ∀ d kvs, ws ≠ [.d d, .d (.dict kvs)]) := by
  intro pins s σ H x y v u Q I rx ry ⟨F, ws, r, sb, pr, hr, k, hn⟩
  obtain ⟨a, b, rfl, ta, tb⟩ := two pr
  have hr' : qNotin [a, b] = some r := hr
  unfold qNotin at hr'
  split at hr'
  · next d ds e =>
    cases e
    split at hr'
    · next h =>
      rw [Bool.and_eq_true] at h
      exact op_notInD hu pins s σ H x y v u Q I rx ry ⟨d, ds, top_dp sb ta h.1, top_dp sb tb h.2, h.1, h.2, old_bl sb hr' k⟩
    · cases hr'
  · next d ds e =>
    cases e
    split at hr'
    · next h =>
      rw [Bool.and_eq_true] at h
      obtain ⟨as, r1⟩ := Dp.reads I d x v (top_dp sb ta h.1) rx
      obtain ⟨bs, r2⟩ := Dp.reads I (.tuple ds) y u (top_dp sb tb h.2) ry
      exact SeqAt.notIn_tuple_reads r2 r1 (SeqAt.canLay_of_shaped h.2) (SeqAt.canLay_of_shaped h.1) (room_in_shaped h.1 hu) ⟨.bl _, H, I, rfl, old_bl sb hr' k⟩
    · cases hr'
  · next d kvs e => exact absurd e (hn d kvs)
  · cases hr'
end
end Ev
set_option Elab.async false
set_option linter.all false
set_option maxRecDepth 100000
set_option maxHeartbeats 1000000
/-! EvH: names, constants, tests, and, or, not, chains, choices. -/
namespace Ev
open PySem PySem.Spec PyProof.Rows L2
theorem top_tru {g : G} {F H : Hp} {v : V} {w : Wd} {b : Bool} (sb : Sub F H) (t : TopW g F H v w) (h : truth w = some b) : TruV g.K v H b := by
  unfold truth at h
  split at h
  · cases h
    rw [top_non t]
    exact rfl
  · cases h
    rw [top_bl t]
    exact rfl
  · cases h
    rw [top_int t]
    exact rfl
  · split at h
    · next hl =>
      cases h
      rw [top_str t]
      refine ⟨by rw [sizeLine_eq]; exact hl, ?_⟩
      rename_i x
      rw [Bool.eq_iff_iff]
      simp
    · cases h
  · cases h
    obtain ⟨a, xs, e, h1, r1⟩ := t
    subst e
    refine .inl ⟨xs, .of h1, ?_⟩
    cases r1 <;> rfl
  · cases h
    obtain ⟨a, xs, e, _, h1, r1⟩ := top_tup sb t
    subst e
    refine .inr (.inl ⟨xs, h1, ?_⟩)
    cases r1 <;> rfl
  · cases h
section
variable {q : Qn} {X : Cx} {C : V → Wd → Hp → Prop} {W : WX} {rv : Ev}
/-- a test whose truth is its value's -/
theorem pt_plain {a : Expr} {m : Env → R Rs} (h : PE X a (tR (q.at X C) W m)) (he : ∀ whole, isTrue a X.env whole = (do let v ← whole; standAt a.pos; holding [v] (truthy v))) : PT X a (tB (q.at X C) W fun e => tested true (m e)) := by
  refine pt_of (pt_truth h he) fun σ H Q ⟨F, e, k, o⟩ => ⟨F, e, k, ?_⟩
  refine (show Out (q.at X C) F σ H e (R.bind (β := Rs) (m e) fun r e1 => match truth r.w with | some b => some (.ok (.v (.d (.bool b))) e1) | none => none) W _ from o).bind.imp fun r e1 _ o1 v F1 H1 s1 k1 r1 => ?_
  cases ht : truth r.w with
  | none =>
    rw [ht] at o1
    exact o1.elim
  | some b =>
    rw [ht] at o1
    obtain ⟨c, ec, kc⟩ := o1
    cases ec
    exact ⟨b, top_tru k1.sub (r1.top k1) ht, kc F1 H1 s1 k1⟩
/-- a name read for good -/
theorem var_ok {i : Nat} {x : Str} {pos : Pos} (h : PE X (.Name x pos) (tVar i)) : PE X (.Name x pos) (tR (q.at X C) W fun e => eVar false i e) := by
  refine pe_of h fun σ H Q ⟨F, e, k, o⟩ => ?_
  have o' : Out (q.at X C) F σ H e (take e i) W _ := o
  cases ht : take e i with
  | none => rw [ht] at o'; exact o'.elim
  | some u =>
    cases u with
    | er c v e' =>
      rw [take_eq] at ht
      unfold takeN at ht
      split at ht
      · cases ht
      · cases ht
      · split at ht <;> cases ht
    | ok r e' =>
      rw [ht] at o'
      obtain ⟨v, F1, h1, s1, k1, w, er, rw'⟩ := take_ok k ht
      subst er
      exact ⟨v, slot_iff.mp h1, o' v F1 H s1 k1 rw'⟩
theorem var_test {i : Nat} {x : Str} {pos : Pos} (h : PE X (.Name x pos) (tVar i)) : PT X (.Name x pos) (tB (q.at X C) W fun e => eVar true i e) := by
  refine pt_of (pt_truth h fun _ => rfl) fun σ H Q ⟨F, e, k, o⟩ => ?_
  have o' : Out (α := Rs) (q.at X C) F σ H e (match peek e i with | some w => (match truth w with | some b => some (.ok (.v (.d (.bool b))) e) | none => none) | none => none) W fun r e' => ∃ b, r = .v (.d (.bool b)) ∧ ∀ F' H', Stp F σ H e F' σ H' e' → Ok (q.at X C) F' σ H' e' → Q b H' := o
  cases hp : peek e i with
  | none => rw [hp] at o'; exact o'.elim
  | some w =>
    rw [hp] at o'
    cases ht : truth w with
    | none => simp only [ht] at o'; exact o'.elim
    | some b =>
      simp only [ht] at o'
      obtain ⟨v, h1, h2⟩ := peek_ok k hp
      obtain ⟨c, ec, kc⟩ := o'
      cases ec
      exact ⟨v, slot_iff.mp h1, b, top_tru k.sub h2 ht, kc F H .refl k⟩
/-- a value that is always there -/
theorem const_ok {a : Expr} {v : V} {w : Wd} (h : PE X a (tC v)) (hr : ∀ F, RepW (q.at X C) F v w) : PE X a (tR (q.at X C) W fun e => some (.ok (.v w) e)) := by
  refine pe_of h fun σ H Q ⟨F, e, k, o⟩ => ?_
  exact (show ∀ v F' H', Stp F σ H e F' σ H' e → Ok (q.at X C) F' σ H' e → RsOk (q.at X C) (Bs σ H e) F' σ H' e v (.v w) → Q v H' from o) v F H .refl k (hr F)

/-! ### not -/
theorem no_val {a : Expr} {x : E} {pos : Pos} (h : PE X a (tO (q.at X C) W (evOp rv x))) : PE X (.UnaryOp .Not a pos) (tR (q.at X C) W fun e => eNo rv false x e) := by
  refine pe_of (pe_notT h) fun σ H Q ⟨F, e, k, o⟩ => ⟨F, e, k, ?_⟩
  refine (show Out (q.at X C) F σ H e (R.bind (β := Rs) (evOp rv x e) fun o e1 => match (o.w e1).bind truth with | some b => some (.ok (.v (.d (.bool (!b)))) e1) | none => none) W _ from o).bind.imp fun p e1 _ o1 v F1 H1 s1 k1 r1 => ?_
  cases hw : p.w e1 with
  | none => rw [hw] at o1; exact o1.elim
  | some w =>
    rw [hw] at o1
    cases ht : truth w with
    | none => simp only [Option.bind_some, ht] at o1; exact o1.elim
    | some b =>
      simp only [Option.bind_some, ht] at o1
      exact ⟨b, top_tru k1.sub (r1.top k1 hw) ht, o1 (.bl (!b)) F1 H1 s1 k1 (Rep.bl _)⟩
theorem no_test {a : Expr} {x : E} {pos : Pos} (h : PT X a (tB (q.at X C) W (rv true x))) : PT X (.UnaryOp .Not a pos) (tB (q.at X C) W fun e => eNo rv true x e) := by
  refine pt_of (pt_not h) fun σ H Q ⟨F, e, k, o⟩ => ⟨F, e, k, ?_⟩
  refine (show Out (q.at X C) F σ H e (R.bind (β := Rs) (rv true x e) fun r e1 => match r with | .v (.d (.bool b)) => some (.ok (.v (.d (.bool (!b)))) e1) | _ => none) W _ from o).bind.imp fun r e1 _ o1 => ?_
  split at o1
  · next b _ =>
    obtain ⟨c, ec, kc⟩ := o1
    cases ec
    exact ⟨b, rfl, fun F1 H1 s1 k1 => kc F1 H1 s1 k1⟩
  · exact o1.elim

/-! ### a if t else b -/
theorem ife_val {t a b : Expr} {x y z : E} {pos : Pos} (ht : PT X t (tB (q.at X C) W (rv true x))) (ha : PE X a (tR (q.at X C) W (rv false y))) (hb : PE X b (tR (q.at X C) W (rv false z))) : PE X (.IfExp t a b pos) (tR (q.at X C) W fun e => eIfe rv false x y z e) := by
  refine pe_of (pe_ifExp ht ha hb) fun σ H Q ⟨F, e, k, o⟩ => ⟨F, e, k, ?_⟩
  refine (show Out (q.at X C) F σ H e (R.bind (β := Rs) (rv true x e) fun r e1 => match r with
    | .v (.d (.bool true)) => rv false y e1
    | .v (.d (.bool false)) => rv false z e1
    | _ => none) W _ from o).bind.imp fun r e1 _ o1 => ?_
  split at o1
  · refine ⟨true, rfl, fun F1 H1 s1 k1 => ?_⟩
    show tR (q.at X C) W (rv false y) σ H1 Q
    exact ⟨F1, e1, k1, (o1.step s1).imp fun r e2 _ o2 v F2 H2 s2 k2 r2 => o2 v F2 H2 (s1.trans s2) k2 (r2.base fun a h => s1.bs h)⟩
  · refine ⟨false, rfl, fun F1 H1 s1 k1 => ?_⟩
    show tR (q.at X C) W (rv false z) σ H1 Q
    exact ⟨F1, e1, k1, (o1.step s1).imp fun r e2 _ o2 v F2 H2 s2 k2 r2 => o2 v F2 H2 (s1.trans s2) k2 (r2.base fun a h => s1.bs h)⟩
  · exact o1.elim

/-! ### and, or -/
def bop (a : Bool) : BoolOp := if a then .And else .Or
theorem bo_one {a : Bool} {y : Expr} {x : E} {pos : Pos} (h : PE X y (tR (q.at X C) W (rv false x))) : PE X (.BoolOp (bop a) [y] pos) (tR (q.at X C) W (evBo rv false a [x])) := pe_of (pe_one h) fun σ H Q o => o
theorem bo_cons {a : Bool} {y b : Expr} {bs : List Expr} {x z : E} {zs : List E} {pos : Pos} (h : PE X y (tR (q.at X C) W (rv false x))) (h2 : PE X (.BoolOp (bop a) (b :: bs) pos) (tR (q.at X C) W (evBo rv false a (z :: zs)))) :
    PE X (.BoolOp (bop a) (y :: b :: bs) pos) (tR (q.at X C) W (evBo rv false a (x :: z :: zs))) := by
  have key : ∀ σ H Q, tR (q.at X C) W (evBo rv false a (x :: z :: zs)) σ H Q → tR (q.at X C) W (rv false x) σ H fun v H1 => ∃ k, TruV X.K v H1 k ∧ if (k == a) = true then tR (q.at X C) W (evBo rv false a (z :: zs)) σ H1 Q else Q v H1 := by
    intro σ H Q ⟨F, e, k, o⟩
    refine ⟨F, e, k, ?_⟩
    refine (show Out (q.at X C) F σ H e (R.bind (β := Rs) (rv false x e) fun r e1 => match truth r.w with
      | some t => if t == a then evBo rv false a (z :: zs) e1 else some (.ok r e1)
      | none => none) W _ from o).bind.imp fun r e1 _ o1 v F1 H1 s1 k1 r1 => ?_
    cases ht : truth r.w with
    | none => rw [ht] at o1; exact o1.elim
    | some b =>
      rw [ht] at o1
      refine ⟨b, top_tru k1.sub (r1.top k1) ht, ?_⟩
      simp only at o1
      by_cases hb : (b == a) = true
      · rw [if_pos hb] at o1 ⊢
        exact ⟨F1, e1, k1, (o1.step s1).imp fun r e2 _ o2 v F2 H2 s2 k2 r2 => o2 v F2 H2 (s1.trans s2) k2 (r2.base fun a h => s1.bs h)⟩
      · rw [if_neg hb] at o1 ⊢
        exact o1 v F1 H1 s1 k1 r1
  cases a with
  | true =>
    refine pe_of (pe_andT h h2) fun σ H Q o => ?_
    obtain ⟨F, e, k, o⟩ := key σ H Q o
    refine ⟨F, e, k, o.imp fun r e1 _ o1 v F1 H1 s1 k1 r1 => ?_⟩
    obtain ⟨b, hb, hi⟩ := o1 v F1 H1 s1 k1 r1
    refine ⟨b, hb, ?_⟩
    cases b <;> simpa using hi
  | false =>
    refine pe_of (pe_orT h h2) fun σ H Q o => ?_
    obtain ⟨F, e, k, o⟩ := key σ H Q o
    refine ⟨F, e, k, o.imp fun r e1 _ o1 v F1 H1 s1 k1 r1 => ?_⟩
    obtain ⟨b, hb, hi⟩ := o1 v F1 H1 s1 k1 r1
    refine ⟨b, hb, ?_⟩
    cases b <;> simpa using hi
theorem bo_tone {a : Bool} {y : Expr} {x : E} {pos : Pos} (h : PT X y (tB (q.at X C) W (rv true x))) : PW X (.BoolOp (bop a) [y] pos) (tB (q.at X C) W (evBo rv true a [x])) := by
  cases a with
  | true => exact pw_and1 h
  | false => exact pw_or1 h
theorem pw_of {e : Expr} {t t' : TT} (h : PW X e t) (i : ∀ σ H Q, t' σ H Q → t σ H Q) : PW X e t' := ⟨fun wh pins s σ H Q I q => h.run wh pins s σ H Q I (i σ H Q q)⟩
theorem bo_tcons {a : Bool} {y b : Expr} {bs : List Expr} {x z : E} {zs : List E} {pos : Pos} (h : PT X y (tB (q.at X C) W (rv true x))) (h2 : PW X (.BoolOp (bop a) (b :: bs) pos) (tB (q.at X C) W (evBo rv true a (z :: zs)))) :
    PW X (.BoolOp (bop a) (y :: b :: bs) pos) (tB (q.at X C) W (evBo rv true a (x :: z :: zs))) := by
  have key : ∀ σ H Q, tB (q.at X C) W (evBo rv true a (x :: z :: zs)) σ H Q → tB (q.at X C) W (rv true x) σ H fun k H1 => if (k == a) = true then tB (q.at X C) W (evBo rv true a (z :: zs)) σ H1 Q else Q k H1 := by
    intro σ H Q ⟨F, e, k, o⟩
    refine ⟨F, e, k, ?_⟩
    refine (show Out (q.at X C) F σ H e (R.bind (β := Rs) (rv true x e) fun r e1 => match truR true r with
      | some t => if t == a then evBo rv true a (z :: zs) e1 else some (.ok r e1)
      | none => none) W _ from o).bind.imp fun r e1 hm o1 => ?_
    cases hb : truR true r with
    | none => rw [hb] at o1; exact o1.elim
    | some b =>
      have er : r = .v (.d (.bool b)) := by
        cases r with
        | o y => cases hb
        | v w =>
          cases w with
          | d y =>
            cases y with
            | bool c =>
              cases hb
              rfl
            | _ => cases hb
          | _ => cases hb
      subst er
      refine ⟨b, rfl, fun F1 H1 s1 k1 => ?_⟩
      rw [hb] at o1
      simp only at o1
      by_cases hb : (b == a) = true
      · rw [if_pos hb] at o1 ⊢
        exact ⟨F1, e1, k1, (o1.step s1).imp fun r e2 _ ⟨c, ec, o2⟩ => ⟨c, ec, fun F2 H2 s2 k2 => o2 F2 H2 (s1.trans s2) k2⟩⟩
      · rw [if_neg hb] at o1 ⊢
        obtain ⟨c, ec, kc⟩ := o1
        cases ec
        exact kc F1 H1 s1 k1
  cases a with
  | true =>
    refine pw_of (pw_and h h2) fun σ H Q o => ?_
    · obtain ⟨F, e, k, o⟩ := key σ H Q o
      refine ⟨F, e, k, o.imp fun r e1 _ ⟨b, er, o1⟩ => ⟨b, er, fun F1 H1 s1 k1 => ?_⟩⟩
      have hi := o1 F1 H1 s1 k1
      cases b <;> simpa using hi
  | false =>
    refine pw_of (pw_or h h2) fun σ H Q o => ?_
    · obtain ⟨F, e, k, o⟩ := key σ H Q o
      refine ⟨F, e, k, o.imp fun r e1 _ ⟨b, er, o1⟩ => ⟨b, er, fun F1 H1 s1 k1 => ?_⟩⟩
      have hi := o1 F1 H1 s1 k1
      cases b <;> simpa using hi

/-! ### choices and chains, as tests -/
theorem ife_test {t a b : Expr} {x y z : E} {pos : Pos} (ht : PT X t (tB (q.at X C) W (rv true x))) (ha : PT X a (tB (q.at X C) W (rv true y))) (hb : PT X b (tB (q.at X C) W (rv true z))) : PT X (.IfExp t a b pos) (tB (q.at X C) W fun e => eIfe rv true x y z e) := by
  refine ⟨fun pins s σ H Q I ⟨F, e, k, o⟩ => ?_⟩
  have h1 : tB (q.at X C) W (rv true x) σ H fun c H1 => if c = true then tB (q.at X C) W (rv true y) σ H1 Q else tB (q.at X C) W (rv true z) σ H1 Q := by
    refine ⟨F, e, k, ?_⟩
    refine (show Out (q.at X C) F σ H e (R.bind (β := Rs) (rv true x e) fun r e1 => match r with
      | .v (.d (.bool true)) => rv true y e1
      | .v (.d (.bool false)) => rv true z e1
      | _ => none) W _ from o).bind.imp fun r e1 _ o1 => ?_
    split at o1
    · refine ⟨true, rfl, fun F1 H1 s1 k1 => ?_⟩
      show tB (q.at X C) W (rv true y) σ H1 Q
      exact ⟨F1, e1, k1, (o1.step s1).imp fun r e2 _ ⟨c, ec, o2⟩ => ⟨c, ec, fun F2 H2 s2 k2 => o2 F2 H2 (s1.trans s2) k2⟩⟩
    · refine ⟨false, rfl, fun F1 H1 s1 k1 => ?_⟩
      show tB (q.at X C) W (rv true z) σ H1 Q
      exact ⟨F1, e1, k1, (o1.step s1).imp fun r e2 _ ⟨c, ec, o2⟩ => ⟨c, ec, fun F2 H2 s2 k2 => o2 F2 H2 (s1.trans s2) k2⟩⟩
    · exact o1.elim
  refine isTrue_IfExp (thn (ht.run pins s σ H _ I h1) fun d s1 ⟨H1, I1, q1⟩ => ?_)
  cases d with
  | true => exact ha.run pins s1 σ H1 Q I1 q1
  | false => exact hb.run pins s1 σ H1 Q I1 q1
/-- what comes of a chain of two -/
theorem chain_key {a b c : E} {p p' : P} {σ : L2.St} {H : Hp} {Q : VK} (i : tR (q.at X C) W (fun e => eCh rv p p' a b c e) σ H Q) : tChain (rP2 (q.at X C) p) (rP2 (q.at X C) p') (tO (q.at X C) W (evOp rv a)) (tO (q.at X C) W (evOp rv b)) (tO (q.at X C) W (evOp rv c)) σ H Q := by
  obtain ⟨F, e, k, o⟩ := i
  refine ⟨F, e, k, ?_⟩
  refine (show Out (q.at X C) F σ H e (R.bind (β := Rs) (evOp rv a e) fun oa e0 => R.bind (evOp rv b e0) fun ob e1 => match opsW e1 [oa, ob] with
    | some ws => (match p.run ws with
      | some (.v (.d (.bool true))) => eCh2 rv p' ob c e1
      | some (.v (.d (.bool false))) => some (.ok (.v (.d (.bool false))) e1)
      | _ => none)
    | none => none) W _ from o).bind.imp fun oa e0 _ o1 va F0 H0 s0 k0 r0 => ⟨F0, e0, k0, ((o1.step s0).bind).imp fun ob e1 _ o2 vb F1 H1 s1 k1 r1 => ?_⟩
  have ra := r0.step s1
  cases hw : opsW e1 [oa, ob] with
  | none => rw [hw] at o2; exact o2.elim
  | some ws =>
    rw [hw] at o2
    simp only at o2
    have tw := ops_top k1 (.cons ra (.cons (r1.base fun a h => s0.bs h) .nil)) hw
    have s01 := s0.trans s1
    split at o2
    · next hr =>
      refine ⟨F1, ws, _, k1.sub, tw, hr, fun v F2 H2 p2 n2 => ?_⟩
      obtain ⟨s2, k2⟩ := p2.ok k1
      have n2' : Rep (q.at X C) F2 v (.bool true) := n2
      cases n2'
      refine ⟨true, rfl, ?_⟩
      rw [if_pos rfl]
      refine ⟨F2, e1, k2, ?_⟩
      refine ((show Out (q.at X C) F0 σ H0 e0 (R.bind (β := Rs) (evOp rv c e1) fun o e2 => match opsW e2 [ob, o] with
        | some ws' => (match p'.run ws' with | some (.v (.d (.bool b))) => some (.ok (.v (.d (.bool b))) e2) | _ => none)
        | none => none) W _ from o2).step (s1.trans s2)).bind.imp fun oc e2 _ o3 vc F3 H3 s3 k3 r3 => ?_
      cases hw' : opsW e2 [ob, oc] with
      | none => rw [hw'] at o3; exact o3.elim
      | some ws' =>
        rw [hw'] at o3
        simp only at o3
        split at o3
        · next b hr' =>
          refine ⟨F3, ws', _, k3.sub, ops_top (B := fun _ => True) k3 (.cons (((r1.step s2).step s3).base fun _ _ => trivial) (.cons (r3.base fun _ _ => trivial) .nil)) hw', hr', fun v F4 H4 p4 n4 => ?_⟩
          obtain ⟨s4, k4⟩ := p4.ok k3
          exact o3 v F4 H4 (((s01.trans s2).trans s3).trans s4) k4 n4
        · exact o3.elim
    · next hr =>
      refine ⟨F1, ws, _, k1.sub, tw, hr, fun v F2 H2 p2 n2 => ?_⟩
      obtain ⟨s2, k2⟩ := p2.ok k1
      have n2' : Rep (q.at X C) F2 v (.bool false) := n2
      cases n2'
      refine ⟨false, rfl, ?_⟩
      rw [if_neg Bool.false_ne_true]
      exact o2 (.bl false) F2 H2 (s01.trans s2) k2 (Rep.bl false)
    · exact o2.elim
theorem ch_val {a b c : Expr} {x y z : E} {op op' : CmpOp} {pos : Pos} {p p' : P} (ho : OpR X (compareOp op) (rP2 (q.at X C) p)) (ho' : OpR X (compareOp op') (rP2 (q.at X C) p')) (ha : PE X a (tO (q.at X C) W (evOp rv x))) (hb : PE X b (tO (q.at X C) W (evOp rv y))) (hc : PE X c (tO (q.at X C) W (evOp rv z)))
    (hm : lastMarks [op, op'] [b, c] = false) : PE X (.Compare a [op, op'] [b, c] pos) (tR (q.at X C) W fun e => eCh rv p p' x y z e) := pe_of (pe_chain ho ho' ha hb hc hm) fun σ H Q o => chain_key o
/-- results that are bools, as tests -/
theorem bool_key {m : Env → R Rs} {σ : L2.St} {H : Hp} {Q : Bool → Hp → Prop} (i : tB (q.at X C) W m σ H Q) : tR (q.at X C) W m σ H fun v H1 => ∃ b, v = .bl b ∧ Q b H1 := by
  obtain ⟨F, e, k, o⟩ := i
  refine ⟨F, e, k, o.imp fun r e1 _ ⟨b, er, o1⟩ v F1 H1 s1 k1 r1 => ?_⟩
  subst er
  have r1' : Rep (q.at X C) F1 v (.bool b) := r1
  cases r1'
  exact ⟨b, rfl, o1 F1 H1 s1 k1⟩
theorem ch_test {a b c : Expr} {x y z : E} {op op' : CmpOp} {pos : Pos} {p p' : P} (ho : OpR X (compareOp op) (rP2 (q.at X C) p)) (ho' : OpR X (compareOp op') (rP2 (q.at X C) p')) (ha : PE X a (tO (q.at X C) W (evOp rv x))) (hb : PE X b (tO (q.at X C) W (evOp rv y))) (hc : PE X c (tO (q.at X C) W (evOp rv z)))
    (hm : lastMarks [op, op'] [b, c] = false) : PT X (.Compare a [op, op'] [b, c] pos) (tB (q.at X C) W fun e => eCh rv p p' x y z e) := pt_of (pt_chain ho ho' ha hb hc hm) fun σ H Q o => chain_key (bool_key o)
/-- a prim's own truth, as a test: its result is tested -/
theorem cmp_test {a b : Expr} {xa xb : E} {op : CmpOp} {pos : Pos} {p : P} (ha : PE X a (tO (q.at X C) W (evOp rv xa))) (hb : PE X b (tO (q.at X C) W (evOp rv xb))) (ho : OpR X (compareOp op) (rP2 (q.at X C) p)) (hm : behindInMarks op b = false)
    (hp : ∀ ws r, p.run ws = some r → ∃ c, r = .v (.d (.bool c))) : PT X (.Compare a [op] [b] pos) (tB (q.at X C) W fun e => tested true (ePrim rv p [xa, xb] e)) := by
  refine pt_of (pt_cmpR ho ha hb hm) fun σ H Q ⟨F, e, k, o⟩ => ⟨F, e, k, ?_⟩
  have o' : Out (q.at X C) F σ H e (R.bind (β := Rs) (R.bind (R.bind (evOp rv xa e) fun o e1 => R.bind (R.bind (evOp rv xb e1) fun o e1 => R.bind (some (.ok [] e1)) fun os e2 => some (.ok (o :: os) e2)) fun os e2 => some (.ok (o :: os) e2)) (eRun p)) fun r e1 => match truth r.w with | some b => some (.ok (.v (.d (.bool b))) e1) | none => none) W _ := o
  refine o'.bind.bind.bind.imp fun p1 e1 _ o1 v F1 H1 s1 k1 r1 => ⟨F1, e1, k1, (((o1.step s1).bind).bind).imp fun p2 e2 _ o2 w F2 H2 s2 k2 r2 => ?_⟩
  have s12 := s1.trans s2
  have o3 : Out (q.at X C) F σ H e (eRun p [p1, p2] e2) W _ := o2
  refine run_ok (os := [p1, p2]) s12 k2 (.cons (r1.step s2) (.cons (r2.base fun a h => s1.bs h) .nil)) (o3.imp fun r e3 he o4 v F4 H4 s4 k4 r4 => ?_)
  have hb : ∃ c, r = .v (.d (.bool c)) := by
    unfold eRun at he
    cases hw : opsW e2 [p1, p2] with
    | none => rw [hw] at he; cases he
    | some ws =>
      rw [hw] at he
      simp only at he
      cases hr : p.run ws with
      | none => rw [hr] at he; cases he
      | some r' =>
        rw [hr] at he
        cases he
        exact hp ws _ hr
  obtain ⟨c, er⟩ := hb
  subst er
  have r4' : Rep (q.at X C) F4 v (.bool c) := r4
  cases r4'
  obtain ⟨d, ed, o5⟩ := (show ∃ d, Rs.v (.d (.bool c)) = .v (.d (.bool d)) ∧ ∀ F' H', Stp F σ H e F' σ H' e3 → Ok (q.at X C) F' σ H' e3 → Q d H' from o4)
  cases ed
  exact ⟨c, rfl, o5 F4 H4 s4 k4⟩
/-- one operand -/
theorem prim_neg {a : Expr} {x : E} {pos : Pos} (ha : PE X a (tO (q.at X C) W (evOp rv x))) : PE X (.UnaryOp .USub a pos) (tR (q.at X C) W (ePrim rv .neg [x])) := by
  refine pe_of (pe_un (p_neg (q := q) (C := C)) ha) fun σ H Q ⟨F, e, k, o⟩ => ⟨F, e, k, ?_⟩
  refine (show Out (q.at X C) F σ H e (R.bind (R.bind (evOp rv x e) fun o e1 => R.bind (some (.ok [] e1)) fun os e2 => some (.ok (o :: os) e2)) (eRun .neg)) W _ from o).bind.bind.imp fun p e1 _ o1 v F1 H1 s1 k1 r1 => ?_
  exact run_ok (os := [p]) s1 k1 (.cons r1 .nil) o1
theorem one_key {p : P} {x : E} {m : Env → R Rs} (hm : ∀ e, m e = R.bind (evOp rv x e) fun o e1 => eRun p [o] e1) {σ : L2.St} {H : Hp} {Q : VK} (i : tR (q.at X C) W m σ H Q) : tO (q.at X C) W (evOp rv x) σ H fun v H1 => rP (q.at X C) p [v] H1 Q := by
  obtain ⟨F, e, k, o⟩ := i
  refine ⟨F, e, k, ?_⟩
  rw [hm] at o
  refine o.bind.imp fun p e1 _ o1 v F1 H1 s1 k1 r1 => ?_
  exact run_ok (os := [p]) s1 k1 (.cons r1 .nil) o1
theorem prim1 {p : P} {x : E} {e : Env} : ePrim rv p [x] e = R.bind (evOp rv x e) fun o e1 => eRun p [o] e1 := by
  unfold ePrim
  show R.bind (R.bind (evOp rv x e) fun o e1 => R.bind (some (.ok [] e1)) fun os e2 => some (.ok (o :: os) e2)) (eRun p) = _
  cases evOp rv x e with
  | none => rfl
  | some u => cases u <;> rfl
/-- is None, is True, and not so: the right side a constant -/
theorem prim_is {a b : Expr} {x : E} {op : CmpOp} {pos : Pos} {p : P} {c : V} (ho : OpR X (compareOp op) (fun x y H Q => y = c ∧ rP (q.at X C) p [x] H Q)) (ha : PE X a (tO (q.at X C) W (evOp rv x))) (hb : PE X b (tC c)) (hm : behindInMarks op b = false) :
    PE X (.Compare a [op] [b] pos) (tR (q.at X C) W (ePrim rv p [x])) := by
  refine pe_of (pe_cmpR ho ha hb hm) fun σ H Q i => ?_
  obtain ⟨F, e, k, o⟩ := one_key (fun e => prim1) i
  exact ⟨F, e, k, o.imp fun r e1 _ o1 v F1 H1 s1 k1 r1 => ⟨rfl, o1 v F1 H1 s1 k1 r1⟩⟩
theorem is_test {a b : Expr} {x : E} {op : CmpOp} {pos : Pos} {p : P} {c : V} (ho : OpR X (compareOp op) (fun x y H Q => y = c ∧ rP (q.at X C) p [x] H Q)) (ha : PE X a (tO (q.at X C) W (evOp rv x))) (hb : PE X b (tC c)) (hm : behindInMarks op b = false)
    (hp : ∀ ws r, p.run ws = some r → ∃ c, r = .v (.d (.bool c))) : PT X (.Compare a [op] [b] pos) (tB (q.at X C) W fun e => tested true (ePrim rv p [x] e)) := by
  refine pt_of (pt_cmpR ho ha hb hm) fun σ H Q ⟨F, e, k, o⟩ => ?_
  have z : tR (q.at X C) W (ePrim rv p [x]) σ H fun v H1 => ∃ d, v = .bl d ∧ Q d H1 := by
    refine ⟨F, e, k, ?_⟩
    have o' : Out (q.at X C) F σ H e (R.bind (β := Rs) (ePrim rv p [x] e) fun r e1 => match truth r.w with | some b => some (.ok (.v (.d (.bool b))) e1) | none => none) W _ := o
    refine o'.bind.imp fun r e1 he o1 v F1 H1 s1 k1 r1 => ?_
    have hb : ∃ c, r = .v (.d (.bool c)) := by
      rw [prim1] at he
      cases hx : evOp rv x e with
      | none => rw [hx] at he; cases he
      | some u =>
        rw [hx] at he
        cases u with
        | er c v e' => cases he
        | ok o2 e2 =>
          have he' : eRun p [o2] e2 = some (.ok r e1) := he
          unfold eRun at he'
          cases hw : opsW e2 [o2] with
          | none => rw [hw] at he'; cases he'
          | some ws =>
            rw [hw] at he'
            simp only at he'
            cases hr : p.run ws with
            | none => rw [hr] at he'; cases he'
            | some r' =>
              rw [hr] at he'
              cases he'
              exact hp ws _ hr
    obtain ⟨c, er⟩ := hb
    subst er
    have r1' : Rep (q.at X C) F1 v (.bool c) := r1
    cases r1'
    obtain ⟨d, ed, o5⟩ := (show ∃ d, Rs.v (.d (.bool c)) = .v (.d (.bool d)) ∧ ∀ F' H', Stp F σ H e F' σ H' e1 → Ok (q.at X C) F' σ H' e1 → Q d H' from o1)
    cases ed
    exact ⟨c, rfl, o5 F1 H1 s1 k1⟩
  obtain ⟨F, e, k, o⟩ := one_key (fun e => prim1) z
  exact ⟨F, e, k, o.imp fun r e1 _ o1 v F1 H1 s1 k1 r1 => ⟨rfl, o1 v F1 H1 s1 k1 r1⟩⟩
theorem prim_ix {a b : Expr} {xa xb : E} {pos : Pos} (ha : PE X a (tO (q.at X C) W (evOp rv xa))) (hb : PE X b (tO (q.at X C) W (evOp rv xb))) (hs : PlainIx b) : PE X (.Subscript a b pos) (tR (q.at X C) W (ePrim rv .idx [xa, xb])) := by
  refine pe_of (pe_ix (p_idx (q := q) (C := C)) ha hb hs) fun σ H Q ⟨F, e, k, o⟩ => ⟨F, e, k, ?_⟩
  have o' : Out (q.at X C) F σ H e (R.bind (R.bind (evOp rv xa e) fun o e1 => R.bind (R.bind (evOp rv xb e1) fun o e1 => R.bind (some (.ok [] e1)) fun os e2 => some (.ok (o :: os) e2)) fun os e2 => some (.ok (o :: os) e2)) (eRun .idx)) W _ := o
  refine o'.bind.bind.imp fun p1 e1 _ o1 v F1 H1 s1 k1 r1 => ⟨F1, e1, k1, (((o1.step s1).bind).bind).imp fun p2 e2 _ o2 w F2 H2 s2 k2 r2 => ?_⟩
  exact run_ok (os := [p1, p2]) (s1.trans s2) k2 (.cons (r1.step s2) (.cons (r2.base fun a h => s1.bs h) .nil)) o2
end
end Ev
set_option Elab.async false
set_option linter.all false
set_option maxRecDepth 100000
set_option maxHeartbeats 1000000
/-! EvI: a list of one's own is changed. -/
namespace Ev
open PySem PySem.Spec PyProof.Rows L2
section
variable {g : G} {F H : Hp} {σ : L2.St} {e : Env}
/-- at a place of its own stands something else now -/
theorem write_ok {i : Nat} {s s' : Sl} {a : Addr} {u : HO} {c c' : PyData} (k : Ok g F σ H e) (hi : e[i]? = some s) (hs : (s = .ow c ∧ s' = .ow c') ∨ (s = .le c ∧ s' = .le c')) (ha : slot σ i = some (.ref a)) (o : OwnAt g F (upd H a u) a c')
    (tab : LamX.Tabs g.T (upd H a u)) : Stp F σ H e F σ (upd H a u) (e.set i s') ∧ Ok g F σ (upd H a u) (e.set i s') := by
  have os : s.own = true := by
    rcases hs with ⟨z, _⟩ | ⟨z, _⟩ <;> rw [z] <;> rfl
  have os' : s'.own = true := by
    rcases hs with ⟨_, z⟩ | ⟨_, z⟩ <;> rw [z] <;> rfl
  have ow : Own σ e a := ⟨i, s, hi, os, ha⟩
  have nF : F a = none := k.ownF ow
  have sl : SlOk g F (upd H a u) (slot σ i) s' := by
    rcases hs with ⟨_, z⟩ | ⟨_, z⟩ <;> (rw [z]; exact ⟨a, ha, nF, o⟩)
  constructor
  · refine ⟨.refl F, fun b v hb nb _ => ?_, fun b hb => ?_, fun b hb => .inl hb, fun b hb => ?_, fun j t hj lj => ⟨rfl, ?_⟩⟩
    · rw [upd_ne (fun z => nb (by rw [z]; exact ow))]
      exact hb
    · by_cases q : b = a
      · rw [q, upd_same]
        simp
      · rw [upd_ne q]
        exact hb
    · obtain ⟨j, t, hj, ot, pj⟩ := hb
      rcases get_set hj with ⟨z1, z2⟩ | ⟨z1, z2⟩
      · subst z1
        exact .inl ⟨j, s, hi, os, pj⟩
      · exact .inl ⟨j, t, z2, ot, pj⟩
    · by_cases z : i = j
      · subst z
        rw [hi] at hj
        cases hj
        refine ⟨s', set_get hi, ?_⟩
        rcases hs with ⟨z1, z2⟩ | ⟨z1, z2⟩
        · rw [z1] at lj
          cases lj
        · rw [z1, z2]
          exact ⟨c', .inl rfl⟩
      · refine ⟨t, by rw [List.getElem?_set_ne z]; exact hj, ?_⟩
        cases t <;> first | rfl | trivial | exact ⟨_, .inl rfl⟩
  · refine ⟨fun b v hb => ?_, by rw [List.length_set]; exact k.len, fun j t hj => ?_, fun j l t t' b hjl hj hl oj ol hb => ?_, tab, k.tab.2⟩
    · have nb : b ≠ a := fun z => by
        rw [z, nF] at hb
        cases hb
      rw [upd_ne nb]
      exact k.sub b v hb
    · rcases get_set hj with ⟨z1, z2⟩ | ⟨z1, z2⟩
      · rw [z1, z2]
        exact sl
      · have pj := k.pl j t z2
        have other : ∀ b y, slot σ j = some (.ref b) → t.own = true → OwnAt g F H b y → OwnAt g F (upd H a u) b y := by
          intro b y hb oj ob
          have ne : b ≠ a := fun z3 => k.apart j i t s b z1 z2 hi oj os hb (by rw [z3]; exact ha)
          exact ob.move (.refl F) (upd_ne ne)
        cases t with
        | un => trivial
        | va w => exact pj
        | ls y => exact pj
        | ow y =>
          obtain ⟨b, g1, g2, g3⟩ := pj
          exact ⟨b, g1, g2, other b y g1 rfl g3⟩
        | le y =>
          obtain ⟨b, g1, g2, g3⟩ := pj
          exact ⟨b, g1, g2, other b y g1 rfl g3⟩
        | lk y =>
          obtain ⟨b, g1, g2, g3⟩ := pj
          exact ⟨b, g1, g2, other b y g1 rfl g3⟩
    · have back : ∀ {m : Nat} {t : Sl}, (e.set i s')[m]? = some t → t.own = true → ∃ t, e[m]? = some t ∧ t.own = true := fun {m t} h ot => by
        rcases get_set h with ⟨z1, _⟩ | ⟨_, z2⟩
        · rw [z1]
          exact ⟨s, hi, os⟩
        · exact ⟨t, z2, ot⟩
      obtain ⟨t1, h1, o1⟩ := back hj oj
      obtain ⟨t2, h2, o2⟩ := back hl ol
      exact k.apart j l t1 t2 b hjl h1 h2 o1 o2 hb
theorem tabs_lst {T : List (Addr × Str)} {a : Addr} {xs : List V} {u : HO} (t : LamX.Tabs T H) (h : H a = some (.lst xs)) : LamX.Tabs T (upd H a u) := fun p hp => by
  obtain ⟨ps, h1, h2, h3⟩ := t p hp
  refine ⟨ps, ?_, h2, fun pos cv hc => ?_⟩
  · rw [upd_ne (fun z => by rw [z, h] at h1; cases h1)]
    exact h1
  · obtain ⟨c, e1, e2⟩ := h3 pos cv hc
    refine ⟨c, e1, ?_⟩
    rw [upd_ne (fun z => by rw [z, h] at e2; unfold LamX.CodeO at e2; cases e2)]
    exact e2
theorem RepAll.dropLast {xs : List V} {ds : List PyData} (r : RepAll g F xs ds) : RepAll g F xs.dropLast ds.dropLast := by
  rw [List.dropLast_eq_take, List.dropLast_eq_take, r.length]
  exact r.take _
theorem RepAll.eraseIdx : ∀ {xs : List V} {ds : List PyData} (i : Nat), RepAll g F xs ds → RepAll g F (xs.eraseIdx i) (ds.eraseIdx i)
  | _, _, _, .nil => .nil
  | _, _, 0, .cons _ t => t
  | _, _, i + 1, .cons r t => .cons r (RepAll.eraseIdx i t)
end
/-- what a change asks of the place and gives -/
def rMt (g : G) (m : Mt) : V → List V → Hp → VK → Prop := fun x vs H Q => ∃ F a c ds c' r, Sub F H ∧ x = .ref a ∧ OwnAt g F H a c ∧ RepAll g F vs ds ∧ m.run c ds = some (c', r) ∧ ∃ xs, H a = some (.lst xs) ∧ ∀ v u, Rep g F v r → OwnAt g F (upd H a u) a c' → Q v (upd H a u)
section
variable {q : Qn} {X : Cx} {C : V → Wd → Hp → Prop} {W : WX} {rv : Ev}
theorem mtm_of {id : String} {r r' : V → List V → Hp → VK → Prop} (h : MtM X id r) (i : ∀ x y H Q, r' x y H Q → r x y H Q) : MtM X id r' := fun pins s σ H x y v u Q I rx ry q => h pins s σ H x y v u Q I rx ry (i x y H Q q)
theorem m_append : MtM X "list.append" (rMt (q.at X C) .append) := by
  refine mtm_of mt_append fun x vs H Q ⟨F, a, c, ds, c', r, sb, ex, o, rv, hr, xs, hx, k⟩ => ?_
  unfold Mt.run at hr
  split at hr
  · next d ds' y hc =>
    split at hr
    · next hl =>
      cases hr
      obtain ⟨ys, hy, r1⟩ := o
      rw [hx] at hy
      cases hy
      cases rv with
      | cons r2 t =>
        cases t
        exact ⟨a, xs, _, ex, rfl, hx, by rw [r1.length, sizeLine_eq]; exact hl, k .non _ .non ⟨_, upd_same, r1.append (.cons r2 .nil)⟩⟩
    · cases hr
  all_goals first | (next h => cases h) | cases hr
theorem m_extend : MtM X "list.extend" (rMt (q.at X C) .extend) := by
  refine mtm_of mt_extend fun x vs H Q ⟨F, a, c, ds, c', r, sb, ex, o, rv, hr, xs, hx, k⟩ => ?_
  unfold Mt.run at hr
  split at hr
  · next h => cases h
  · next d ds' y hc =>
    split at hr
    · next hl =>
      cases hr
      obtain ⟨ys, hy, r1⟩ := o
      rw [hx] at hy
      cases hy
      cases rv with
      | cons r2 t =>
        cases t
        cases r2 with
        | lst e2 r2 => exact ⟨a, _, xs, _, ex, rfl, hx, sb _ _ e2, by rw [r1.length, r2.length, sizeLine_eq]; exact hl, k .non _ .non ⟨_, upd_same, r1.append r2⟩⟩
    · cases hr
  all_goals first | (next h => cases h) | cases hr
theorem m_popl : MtM X "list.pop" (rMt (q.at X C) .popl) := by
  refine mtm_of mt_pop fun x vs H Q ⟨F, a, c, ds, c', r, sb, ex, o, rv, hr, xs, hx, k⟩ => ?_
  unfold Mt.run at hr
  split at hr
  · next h => cases h
  · next h => cases h
  · next h => cases h
  · next ds' hc =>
    split at hr
    · next y hl =>
      cases hr
      obtain ⟨ys, hy, r1⟩ := o
      rw [hx] at hy
      cases hy
      cases rv
      obtain ⟨v, h1, h2⟩ := r1.get hl
      exact ⟨a, xs, v, ex, rfl, hx, by rw [r1.length]; exact h1, k v _ h2 ⟨_, upd_same, r1.dropLast⟩⟩
    · cases hr
  · cases hr
theorem m_pop : MtM X "list.pop" (rMt (q.at X C) .pop) := by
  refine mtm_of mt_popAt fun x vs H Q ⟨F, a, c, ds, c', r, sb, ex, o, rv, hr, xs, hx, k⟩ => ?_
  unfold Mt.run at hr
  split at hr
  · next h => cases h
  · next h => cases h
  · next ds' i hc =>
    split at hr
    · next hz =>
      split at hr
      · next j hj =>
        split at hr
        · next y hl =>
          cases hr
          obtain ⟨ys, hy, r1⟩ := o
          rw [hx] at hy
          cases hy
          cases rv with
          | cons r2 t =>
            cases t
            obtain ⟨v, h1, h2⟩ := r1.get hl
            cases r2
            have hb : -(2 ^ 63) ≤ i ∧ i < 2 ^ 63 := by
              have hz' : ds'.length ≤ 16777216 := hz
              unfold seqIndex? at hj
              simp only at hj
              split at hj
              · split at hj
                · next h3 =>
                  rw [Bool.and_eq_true] at h3
                  have h4 := of_decide_eq_true h3.1
                  have h5 := of_decide_eq_true h3.2
                  constructor <;> omega
                · cases hj
              · split at hj
                · next h3 =>
                  rw [Bool.and_eq_true] at h3
                  have h4 := of_decide_eq_true h3.1
                  have h5 := of_decide_eq_true h3.2
                  constructor <;> omega
                · cases hj
            exact ⟨a, xs, i, j, v, ex, rfl, hx, hb.1, hb.2, by rw [r1.length]; exact hj, h1, k v _ h2 ⟨_, upd_same, r1.eraseIdx j⟩⟩
        · cases hr
      · cases hr
    · cases hr
  · next h => cases h
  · cases hr
/-- x.m(..) of a list of one's own -/
theorem mut_key {m : Mt} {i : Nat} {xs : List E} {σ : L2.St} {H : Hp} {Q : VK} (h : tR (q.at X C) W (eMut rv m i xs) σ H Q) : tBM X.K "list" (rMt (q.at X C) m) (tVar i) (tGs (q.at X C) W (evGives rv xs)) σ H Q := by
  obtain ⟨F, e, k, o⟩ := h
  unfold eMut at o
  cases hl : lstAt e i with
  | false => rw [hl] at o; exact o.elim
  | true =>
    rw [hl] at o
    have o' : Out (q.at X C) F σ H e (R.bind (evGives rv xs e) (eMut2 m i)) W _ := o
    have hs : ∃ a ys, slot σ i = some (.ref a) ∧ H a = some (.lst ys) := by
      unfold lstAt at hl
      split at hl
      · next z =>
        obtain ⟨a, h1, _, ys, h2, _⟩ := k.pl i _ z
        exact ⟨a, ys, h1, h2⟩
      · next z =>
        obtain ⟨a, h1, _, ys, h2, _⟩ := k.pl i _ z
        exact ⟨a, ys, h1, h2⟩
      · cases hl
    obtain ⟨a, ys, ha, hy⟩ := hs
    refine ⟨.ref a, slot_iff.mp ha, .inl ⟨rfl, ys, .of hy⟩, F, e, k, o'.bind.imp fun ds e1 _ o1 vs F1 H1 s1 k1 r1 => ?_⟩
    have fin : ∀ {c c' r : PyData} {s s' : Sl}, e1[i]? = some s → ((s = .ow c ∧ s' = .ow c') ∨ (s = .le c ∧ s' = .le c')) → m.run c ds = some (c', r) → Out (q.at X C) F σ H e (some (.ok (.v (.d r)) (e1.set i s'))) W (fun r e' => ∀ v F' H', Stp F σ H e F' σ H' e' → Ok (q.at X C) F' σ H' e' → RsOk (q.at X C) (Bs σ H e) F' σ H' e' v r → Q v H') → rMt (q.at X C) m (.ref a) vs H1 Q := by
      intro c c' r s s' hi hs hm o2
      have own : OwnAt (q.at X C) F1 H1 a c := by
        have pi := k1.pl i s hi
        rcases hs with ⟨z, _⟩ | ⟨z, _⟩ <;> (rw [z] at pi; obtain ⟨b, h1, _, h3⟩ := pi; rw [ha] at h1; cases h1; exact h3)
      have hc : ∃ zs, c = .list zs := by
        cases m <;> (unfold Mt.run at hm; split at hm) <;> first | exact ⟨_, rfl⟩ | cases hm
      obtain ⟨zs, rfl⟩ := hc
      obtain ⟨us, hu, ru⟩ := id own
      refine ⟨F1, a, _, ds, c', r, k1.sub, rfl, own, r1, hm, us, hu, fun v u rr ou => ?_⟩
      obtain ⟨s2, k2⟩ := write_ok k1 hi hs ha ou (tabs_lst k1.tab.1 hu)
      exact (show ∀ v F' H', _ from o2) v F1 _ (s1.trans s2) k2 rr
    unfold eMut2 at o1
    split at o1
    · next c hi =>
      split at o1
      · next c' r hm => exact fin hi (.inl ⟨rfl, rfl⟩) hm o1
      · exact o1.elim
    · next c hi =>
      split at o1
      · next c' r hm => exact fin hi (.inr ⟨rfl, rfl⟩) hm o1
      · exact o1.elim
    · exact o1.elim
theorem star1 {a : Expr} {env : PySem.Env} (h : NoStar a) : starEach [a] env = [(false, PySem.eval a env)] := star_cons h
theorem mut1 {m : Mt} {name id : String} {i : Nat} {x : Str} {a : Expr} {xs : List E} {p apos cpos : Pos} (slot : Slot "list" name id) (hty : typeOf (.builtin id) = pure (.type "method_descriptor")) (hm : MtM X id (rMt (q.at X C) m)) (hx : PE X (.Name x p) (tVar i))
    (hn : NoStar a) (ha : PA X [a] (tGs (q.at X C) W (evGives rv xs))) (hl : (apos.endLine == cpos.line) = true) : PE X (.Call (.Attribute (.Name x p) name apos) [a] [] cpos) (tR (q.at X C) W (eMut rv m i xs)) :=
  pe_of (pe_bm PySem.F.plainAttrs_list slot hty hm hx ha (hline := hl) (hfew := by rw [star1 hn]; rfl) (hs := star_cons hn)) fun σ H Q o => mut_key o
theorem mut0 {m : Mt} {name id : String} {i : Nat} {x : Str} {p apos cpos : Pos} (slot : Slot "list" name id) (hty : typeOf (.builtin id) = pure (.type "method_descriptor")) (hm : MtM X id (rMt (q.at X C) m)) (hx : PE X (.Name x p) (tVar i))
    (hl : (apos.endLine == cpos.line) = true) : PE X (.Call (.Attribute (.Name x p) name apos) [] [] cpos) (tR (q.at X C) W (eMut rv m i [])) :=
  pe_of (pe_bm0 PySem.F.plainAttrs_list slot hty hm hx (hline := hl)) fun σ H Q o => by
    obtain ⟨v, h1, h2, F, e, k, h3⟩ := mut_key o
    exact ⟨v, h1, h2, (show ∀ vs F' H', Stp F σ H e F' σ H' e → Ok (q.at X C) F' σ H' e → RepAll (q.at X C) F' vs [] → rMt (q.at X C) m v vs H' Q from h3) [] F H .refl k .nil⟩
theorem call_append {i : Nat} {x : Str} {a : Expr} {xs : List E} {p apos cpos : Pos} (hx : PE X (.Name x p) (tVar i)) (hn : NoStar a) (ha : PA X [a] (tGs (q.at X C) W (evGives rv xs))) (hl : (apos.endLine == cpos.line) = true) :
    PE X (.Call (.Attribute (.Name x p) "append" apos) [a] [] cpos) (tR (q.at X C) W (eMut rv .append i xs)) := mut1 PySem.F.slot_list_append PySem.F.type_list_append m_append hx hn ha hl
theorem call_extend {i : Nat} {x : Str} {a : Expr} {xs : List E} {p apos cpos : Pos} (hx : PE X (.Name x p) (tVar i)) (hn : NoStar a) (ha : PA X [a] (tGs (q.at X C) W (evGives rv xs))) (hl : (apos.endLine == cpos.line) = true) :
    PE X (.Call (.Attribute (.Name x p) "extend" apos) [a] [] cpos) (tR (q.at X C) W (eMut rv .extend i xs)) := mut1 PySem.F.slot_list_extend PySem.F.type_list_extend m_extend hx hn ha hl
theorem call_pop {i : Nat} {x : Str} {a : Expr} {xs : List E} {p apos cpos : Pos} (hx : PE X (.Name x p) (tVar i)) (hn : NoStar a) (ha : PA X [a] (tGs (q.at X C) W (evGives rv xs))) (hl : (apos.endLine == cpos.line) = true) :
    PE X (.Call (.Attribute (.Name x p) "pop" apos) [a] [] cpos) (tR (q.at X C) W (eMut rv .pop i xs)) := mut1 PySem.F.slot_list_pop PySem.F.type_list_pop m_pop hx hn ha hl
theorem call_popl {i : Nat} {x : Str} {p apos cpos : Pos} (hx : PE X (.Name x p) (tVar i)) (hl : (apos.endLine == cpos.line) = true) :
    PE X (.Call (.Attribute (.Name x p) "pop" apos) [] [] cpos) (tR (q.at X C) W (eMut rv .popl i [])) := mut0 PySem.F.slot_list_pop PySem.F.type_list_pop m_popl hx hl

/-! ### slices -/
theorem opt_const {o : Option Int} {F : Hp} : ∃ d, optI d = some o ∧ Rep (q.at X C) F (optV o) d := by
  cases o with
  | none => exact ⟨.none, rfl, .non⟩
  | some i => exact ⟨.int i, rfl, .int i⟩
/-- an end of a slice: left out, or an expression -/
inductive Part (X : Cx) (q : Qn) (C : V → Wd → Hp → Prop) (W : WX) (rv : Ev) : Option Expr → E → Prop
  | no : Part X q C W rv none (.lit (.d .none))
  | yes {a : Expr} {x : E} : PE X a (tO (q.at X C) W (evOp rv x)) → Part X q C W rv (some a) x
def tPO (g : G) (W : WX) (m : Env → R Op) : TO := fun σ H Q => tO g W m σ H fun v H1 => ∃ i, v = optV i ∧ Q i H1
theorem part_ok {o : Option Expr} {x : E} (hl : ∀ d e, rv false (.lit (.d d)) e = none ∨ rv false (.lit (.d d)) e = some (.ok (.v (.d d)) e)) (p : Part X q C W rv o x) : PO X o (tPO (q.at X C) W (evOp rv x)) := by
  cases p with
  | no =>
    refine ⟨fun pins s σ H Q I ⟨F, e, k, o⟩ => po_none.run pins s σ H Q I ?_⟩
    have o' : Out (q.at X C) F σ H e (R.bind (β := Op) (rv false (.lit (.d .none)) e) fun r e' => some (.ok (.rs r) e')) W _ := o
    rcases hl .none e with z | z
    · rw [z] at o'
      exact o'.elim
    · rw [z] at o'
      obtain ⟨i, e1, h1⟩ := (show ∀ v F' H', Stp F σ H e F' σ H' e → Ok (q.at X C) F' σ H' e → OpOk (q.at X C) (Bs σ H e) F' σ H' e v (.rs (.v (.d .none))) → ∃ i, v = optV i ∧ Q i H' from o') .non F H .refl k (show Rep (q.at X C) F .non .none from .non)
      cases i with
      | none => exact h1
      | some i => cases e1
  | yes h =>
    refine ⟨fun pins s σ H Q I i => ?_⟩
    show wpAny (model X.prog X.w) X.A (eval _ X.env) _ X.xe s
    refine thn (h.run pins s σ H _ I i) fun u s1 ⟨v, H1, I1, r1, j, ev, q1⟩ => ⟨j, H1, I1, ?_, q1⟩
    subst ev
    cases j with
    | none =>
      cases r1
      exact .none
    | some j =>
      obtain ⟨t, rfl⟩ := r1
      exact .int j t
theorem part_w {B : Addr → Prop} {F H : Hp} {σ : L2.St} {e : Env} {p : Op} {v : V} (k : Ok (q.at X C) F σ H e) (r : OpOk (q.at X C) B F σ H e v p) (h : isPart e p = true) : ∃ i, v = optV i := by
  unfold isPart at h
  split at h
  · next z => exact ⟨none, top_non (r.top k z)⟩
  · next i z => exact ⟨some i, top_int (r.top k z)⟩
  · cases h
theorem cut_part {H : Hp} {x u : V} {i : Option Int} {Q : VK} (i : rP (q.at X C) .cut [x, optV i, u] H Q) : ∃ j, u = optV j := by
  obtain ⟨F, ws, r, sb, pr, hr, k⟩ := i
  have hr' : qCut ws = some r := hr
  have fin : ∀ {c : PyData} {w : Option Int}, optI c = some w → TopW (q.at X C) F H u (.d c) → ∃ j, u = optV j := by
    intro c w h t
    unfold optI at h
    split at h
    · exact ⟨none, top_non t⟩
    · exact ⟨some _, top_int t⟩
    · cases h
  unfold qCut at hr'
  split at hr'
  · split at hr'
    · next h1 h2 =>
      cases pr with
      | cons a pr => cases pr with
        | cons b pr => cases pr with
          | cons c pr => exact fin h2 c
    · cases hr'
  · split at hr'
    · next h1 h2 =>
      cases pr with
      | cons a pr => cases pr with
        | cons b pr => cases pr with
          | cons c pr => exact fin h2 c
    · cases hr'
  · cases hr'
theorem slice_ok {a : Expr} {lo hi : Option Expr} {x l h : E} {p2 pos : Pos} (hlit : ∀ d e, rv false (.lit (.d d)) e = none ∨ rv false (.lit (.d d)) e = some (.ok (.v (.d d)) e)) (ha : PE X a (tO (q.at X C) W (evOp rv x))) (hl : Part X q C W rv lo l) (hh : Part X q C W rv hi h) :
    PE X (.Subscript a (.Slice lo hi none p2) pos) (tR (q.at X C) W (eCut rv x l h)) := by
  refine pe_of (pe_slice (p_cut (q := q) (C := C)) ha (part_ok hlit hl) (part_ok hlit hh)) fun σ H Q ⟨F, e, k, o⟩ => ⟨F, e, k, ?_⟩
  refine (show Out (q.at X C) F σ H e (R.bind (evOp rv x e) (eCut1 rv l h)) W _ from o).bind.imp fun px e1 _ o1 v F1 H1 s1 k1 r1 => ⟨F1, e1, k1, ?_⟩
  refine ((show Out (q.at X C) F σ H e (R.bind (evOp rv l e1) (eCut2 rv px h)) W _ from o1).step s1).bind.imp fun pl e2 _ o2 u F2 H2 s2 k2 r2 => ?_
  unfold eCut2 at o2
  cases hp : isPart e2 pl with
  | false => rw [hp] at o2; exact o2.elim
  | true =>
    rw [hp] at o2
    obtain ⟨i, hi⟩ := part_w k2 r2 hp
    refine ⟨i, hi, F2, e2, k2, ?_⟩
    refine ((show Out (q.at X C) F1 σ H1 e1 (R.bind (evOp rv h e2) (eCut3 px pl)) W _ from o2).step s2).bind.imp fun ph e3 _ o3 w F3 H3 s3 k3 r3 => ?_
    have z := run_ok (os := [px, pl, ph]) ((s1.trans s2).trans s3) k3 (.cons ((r1.step s2).step s3) (.cons ((r2.step s3).base fun a h => s1.bs h) (.cons (r3.base fun a h => s1.bs (s2.bs h)) .nil))) (show Out (q.at X C) F2 σ H2 e2 (eRun .cut [px, pl, ph] e3) W _ from o3)
    subst hi
    obtain ⟨j, hj⟩ := cut_part z
    subst hj
    exact ⟨j, rfl, z⟩
end
end Ev
set_option Elab.async false
set_option linter.all false
set_option maxRecDepth 100000
set_option maxHeartbeats 1000000
/-! EvJ: what is walked. -/
namespace Ev
open PySem PySem.Spec PyProof.Rows L2
open AutoSeq1 (wpAny_loadPart')
/-! ### enumerate(tuple) -/
theorem enumT_new (t : Addr) (items : Array Value) (n : Nat) (dct : Option Addr) (sl : Array (Option Value)) :
    Meets (Builtin.«enumerate.__new__» ⟨[.type "enumerate", .ref t], []⟩) (fun _ R s => s.heap.get? t = some { cls := .type "tuple", dict := dct, data := .seq items n, slots := sl } ∧
      R (.ok (.ret (.ref (s.heap.push { cls := .type "tuple_iterator", data := .fields #[.ref t, .int 0 0] }).objs.size)))
        { s with heap := (s.heap.push { cls := .type "tuple_iterator", data := .fields #[.ref t, .int 0 0] }).push { cls := .type "enumerate", data := .fields #[.none, .bool false, .ref s.heap.objs.size, rawInt 0, .none, .none] } }) :=
  .of_wp fun prog w A R s h => by
    obtain ⟨hp, g, d, tk, os⟩ := s
    obtain ⟨ht, h⟩ := h
    have hsub := sub_enumerate
    have hT : Heap.IsTuple (Shared.heap ⟨hp, g, d, tk, os⟩) t items := ⟨_, ht, rfl, n, rfl⟩
    wp_walk using wpAny_loadPart' ht
    refine wpAny_stack_any fun st => wpAny_pure ?_
    split
    · rename_i c _ _ _ _ _
      cases (c == Value.type "enumerate") <;> (wp_walk using wpAny_loadPart' ht, wpAny_pyIter_tuple hT; exact ⟨_, rfl, h⟩)
    · wp_walk using wpAny_loadPart' ht, wpAny_pyIter_tuple hT
      exact ⟨_, rfl, h⟩
section
variable {prog : Program} {w : World} {A : Around} {E : Value → Shared → Prop} {s : Shared}
theorem call_enumT {t : Addr} {items : Array Value} {R : Value → Shared → Prop} (hT : s.heap.IsTuple t items)
    (h : ∀ h', IsEnum h' (s.heap.objs.size + 1) s.heap.objs.size 0 .none → h'.IsTupleIter s.heap.objs.size t 0 → h'.objs.size = s.heap.objs.size + 2 → (∀ b o, s.heap.get? b = some o → h'.get? b = some o) → R (.ref (s.heap.objs.size + 1)) { s with heap := h' }) :
    wpAny (model prog w) A (call (.type "enumerate") [.ref t]) R E s := by
  obtain ⟨⟨c, dct, dt, sl⟩, ht, hc, n, hd⟩ := hT
  simp only at hc hd
  subst hc hd
  refine callType_new F.called_enumerate (by decide) (F.typeCall_enumerate_1 _) (F.newCall_enumerate_1 _) (fun obj => F.args_object_init_2 obj _) F.entry_enumerate_new (enumT_new t items n dct sl) ⟨ht, ?_⟩
  have hz : (s.heap.push { cls := .type "tuple_iterator", data := .fields #[.ref t, .int 0 0] }).objs.size = s.heap.objs.size + 1 := Heap.size_push ..
  show _ ∧ _
  rw [hz]
  have he := Heap.get?_push_size (s.heap.push { cls := .type "tuple_iterator", data := .fields #[.ref t, .int 0 0] }) (o := { cls := .type "enumerate", data := .fields #[.none, .bool false, .ref s.heap.objs.size, rawInt 0, .none, .none] }) rfl
  rw [hz] at he
  exact ⟨⟨_, he, rfl⟩, h _ he ⟨_, Heap.get?_push_of_some _ (Heap.get?_push_size _ rfl), rfl, rfl⟩ (by rw [Heap.size_push, hz]) fun b o x => Heap.get?_push_of_some _ (Heap.get?_push_of_some _ x)⟩
end
/-- the tuple at a, each item in a new pair -/
def IteT (K : PySem.W.Frag) (a : Addr) : L2.It :=
  ⟨fun i H => ∃ (xs : List V) (x : V), SqT K H a xs ∧ xs[i]? = some x, fun i H v H' => ∃ T x, v = .ref T ∧ H T = none ∧ H' = upd H T (.tup [.int (i : Nat), x]) ∧ ∀ xs, SqT K H a xs → xs[i]? = some x, fun i H => ∃ xs : List V, SqT K H a xs ∧ xs.length ≤ i⟩
theorem turn_enumT {P : Program} {w : World} {K : PySem.W.Frag} {elts : List Expr} {kk : Nat} {tpos : Pos} (a e it : Addr) :
    Turn P w K (.Tuple elts kk tpos) (IteT K a) [e, it] e (fun i h => (∃ old, IsEnum h e it ((i : Nat) : Int) old) ∧ h.IsTupleIter it a i ∧ e ≠ it) where
  mem := by simp
  obj := fun i h st b hb => by
    obtain ⟨⟨old, he⟩, ⟨o, ho, hc, hd⟩, _⟩ := st
    have e' : b = e ∨ b = it := by simpa using hb
    rcases e' with z | z
    · rw [z]
      exact ⟨_, he, fun v q => nomatch q⟩
    · rw [z]
      exact ⟨o, ho, fun v q => by rw [hd] at q; cases q⟩
  keep := fun i h h' st k => let ⟨⟨old, he⟩, hi, hne⟩ := st; ⟨⟨old, k e (by simp) _ he⟩, hi.at fun o q => k it (by simp) o q, hne⟩
  item := by
    intro X hP hw hK hc i pins s σ H E I hf st hg
    subst hP hw hK
    obtain ⟨⟨old, he⟩, hit, hne⟩ := st
    obtain ⟨xs, x, hq, hx⟩ := hg
    obtain ⟨its, rv, p, hz⟩ := I.tuple hq
    obtain ⟨u, hu, ru⟩ := rv.get hx
    have hel : e < s.heap.objs.size := Heap.lt_size he
    have hil : it < s.heap.objs.size := by obtain ⟨_, q, _⟩ := hit; exact Heap.lt_size q
    have hai : a ≠ it := fun z => by
      obtain ⟨o1, e1, c1, _⟩ := hit
      obtain ⟨o2, e2, c2, _⟩ := p
      rw [z, e1] at e2
      cases e2
      rw [c1] at c2
      exact absurd c2 (by decide)
    have hea : e ≠ a := fun z => by
      obtain ⟨o2, e2, c2, _⟩ := p
      rw [← z, he] at e2
      cases e2
      have c3 : Value.type "enumerate" = Value.type "tuple" := c2
      exact absurd c3 (by decide)
    have D := Draws.tuple (prog := X.prog) (w := X.w) (A := X.A.in1) (I.ok.hd hc) it a hai its.toArray
    have hlt : i < its.toArray.size := by
      obtain ⟨hl, _⟩ := List.getElem?_eq_some_iff.mp hu
      simpa using hl
    refine wpAny_pyNext_enum_itemD D he ⟨hit, p⟩ hlt hne (by simp; exact ⟨hne, hea⟩) fun y h' tk hy ho hst' hT hsz hk => ?_
    have ey : y = u := by
      have z : its.toArray[i]? = some u := by simpa using hu
      rw [z] at hy
      exact (Option.some.inj hy).symm
    subst ey
    refine ⟨_, rfl, wpAny_letOwnedTupleGo_enum (s := { s with heap := h', toks := tk + 1 }) ho fun h'' he' sb => ?_⟩
    have hT2 : h''.get? s.heap.objs.size = some { cls := .type "tuple", data := .seq #[.int i tk, y] } := (sb.2 _ (Nat.ne_of_gt hel)).trans hT
    have new : ObjOk X.prog X.w (upd H s.heap.objs.size (.tup [.int (i : Nat), x])) h'' s.heap.objs.size (.tup [.int (i : Nat), x]) :=
      ⟨by show 2 ≤ sizeLine; decide, [.int i tk, y], .cons ⟨_, rfl⟩ (.cons ru .nil), ⟨_, hT2, rfl, _, rfl⟩⟩
    have I1 : Inv X pins σ (upd H s.heap.objs.size (.tup [.int (i : Nat), x])) { s with heap := h'', toks := tk + 1 } :=
      I.turnedNew (ch := [e, it]) (fun b ob hb q => (sb.2 b (fun z => hb (by simp [z]))).trans (hk b ob (fun z => hb (by simp [z])) (fun z => hb (by simp [z])) q)) hf (Nat.le_refl _) new
    refine ⟨.ref s.heap.objs.size, _, I1, rfl, ⟨_, x, rfl, I.hok.fresh (Nat.le_refl _), rfl, fun ys hy => by rw [I.tuple_inj hy hq]; exact hx⟩, ⟨⟨y, ?_⟩, hst'.1.at fun o q => (sb.2 it (Ne.symm hne)).trans q, hne⟩, fun b hb => ?_⟩
    · have e1 : ((i + 1 : Nat) : Int) = (i : Int) + 1 := by omega
      rw [e1]
      exact he'
    · have hb' : b < s.heap.objs.size := by
        have e' : b = e ∨ b = it := by simpa using hb
        rcases e' with z | z
        · rw [z]
          exact hel
        · rw [z]
          exact hil
      rw [upd_ne (Nat.ne_of_lt hb')]
      exact (hf b hb).1
  done := by
    intro X hP hw hK hc i pins s σ H E I hf st hg
    subst hP hw hK
    obtain ⟨⟨old, he⟩, hit, hne⟩ := st
    obtain ⟨xs, hq, hx⟩ := hg
    obtain ⟨its, rv, p, hz⟩ := I.tuple hq
    obtain ⟨f0, f1, f2, f3, f4, f5⟩ := hf it (by simp)
    have hl := rv.length
    have hT : s.TypeIs (.ref e) "enumerate" := ⟨_, he, rfl⟩
    unfold pyNext
    refine wpAny_bind (wpAny_attempt (wpAny_callSpecial?_slot (name := Str.ofString "__next__") hT F.slot_enumerate_next (wpAny_call_entry F.slot_enumerate_next hT F.entry_enumerate_next ?_ (F.args_enumerate_next_1 _))))
    show wpAny _ _ (field (.ref e) 2 >>= _) _ _ _
    refine wpAny_bind (wpAny_field he rfl (x := .ref it) rfl ?_)
    refine wpAny_bind (wpAny_nextOf_tuple_end (I.ok.hd hc) hit p (by simp; omega) fun h' x he' hx' => ?_)
    obtain ⟨o, ho, hco⟩ := hx'
    refine wpAny_bind (wpAny_isInstance (T := "StopIteration") (b := true) ⟨o, ho, hco⟩ isSubtype_stop ?_)
    exact wpAny_pure ⟨rfl, I.turned (t' := s.toks) (fun b o hb q => he' b o hb q) f0 f1 f3 f4 f5⟩
  self := fun A i s Q E st h => let ⟨⟨_, he⟩, _⟩ := st; wpAny_pyIter_enum he h

/-! ### sources -/
section
variable {X : Cx} {tg : Expr}
/-- enumerate(x), of a list or a tuple -/
def iEn (K : PySem.W.Frag) (ta : TA) : TI := fun σ H R => ta σ H fun vs H1 => ∃ a, vs = [.ref a] ∧ ((∃ xs, SqL K H1 a xs ∧ R (Ite K a) H1) ∨ ∃ xs, SqT K H1 a xs ∧ R (IteT K a) H1)
theorem pi_en {e : Expr} {ta : TA} {p pos tpos : Pos} {elts : List Expr} {kk : Nat} (hg : Gl X "enumerate") (hm : X.mg "enumerate" = none) (ha : PA X [e] ta) (hs : starEach [e] X.env = [(false, eval e X.env)]) :
    PI X (.Tuple elts kk tpos) (.Call (.Name "enumerate" p) [e] [] pos) (iEn X.K ta) := by
  refine ⟨fun pins s σ H R I h => ?_⟩
  refine Call_ (ld_blt I hg hm boot_enumerate (PyProof.Rows.callWith_type1 (thn (ha.run pos pins s σ H _ I h) fun us s1 ⟨vs, H1, I1, r1, q1⟩ => ?_) hs rfl))
  obtain ⟨a, ex, q1⟩ := q1
  subst ex
  have fresh : ∀ b ∈ [s1.heap.objs.size + 1, s1.heap.objs.size], FpOk X pins H1 b := fun b hb => by
    have e' : b = s1.heap.objs.size + 1 ∨ b = s1.heap.objs.size := by simpa using hb
    have hle : s1.heap.objs.size ≤ b := by
      rcases e' with z | z
      · rw [z]
        exact Nat.le_add_right _ _
      · rw [z]
        exact Nat.le_refl _
    exact I1.fpOk hle (I1.hok.fresh hle)
  cases r1 with
  | cons r rr =>
    cases rr
    cases r
    rcases q1 with ⟨xs, hq, q⟩ | ⟨xs, hq, q⟩
    · obtain ⟨its, rv, p', hz⟩ := I1.list hq
      refine call_enumerate_list p'.isList fun h' he hit hsz hk => wpAny_pyIter_enum he ?_
      exact ⟨s1.heap.objs.size + 1, [s1.heap.objs.size + 1, s1.heap.objs.size], _, _, H1, rfl, I1.kept (t' := s1.toks) hk, turn_enum a (s1.heap.objs.size + 1) s1.heap.objs.size, ⟨⟨.none, he⟩, hit, Nat.succ_ne_self _⟩, fresh, q⟩
    · obtain ⟨its, rv, p', hz⟩ := I1.tuple hq
      refine call_enumT p' fun h' he hit hsz hk => wpAny_pyIter_enum he ?_
      exact ⟨s1.heap.objs.size + 1, [s1.heap.objs.size + 1, s1.heap.objs.size], _, _, H1, rfl, I1.kept (t' := s1.toks) hk, turn_enumT a (s1.heap.objs.size + 1) s1.heap.objs.size, ⟨⟨.none, he⟩, hit, Nat.succ_ne_self _⟩, fresh, q⟩
/-- a list or a tuple -/
def iSq (K : PySem.W.Frag) (tl : TE) : TI := fun σ H R => tl σ H fun x H1 => ∃ a, x = .ref a ∧ ((∃ xs, SqL K H1 a xs ∧ R (Itl K a) H1) ∨ ∃ xs, SqT K H1 a xs ∧ R (Itt K a) H1)
theorem pi_sq {l : Expr} {tl : TE} (hl : PE X l tl) : PI X tg l (iSq X.K tl) := by
  refine ⟨fun pins s σ H R I h => ?_⟩
  refine thn (hl.run pins s σ H _ I h) fun v s1 ⟨x, H1, I1, r1, q1⟩ => ?_
  obtain ⟨a, e, q1⟩ := q1
  subst e
  cases r1
  have fresh : ∀ b ∈ [s1.heap.objs.size], FpOk X pins H1 b := fun b hb => by
    have e : b = s1.heap.objs.size := by simpa using hb
    subst e
    exact I1.fpOk (Nat.le_refl _) (I1.hok.fresh (Nat.le_refl _))
  rcases q1 with ⟨xs, hq, q⟩ | ⟨xs, hq, q⟩
  · obtain ⟨its, rv, p, hz⟩ := I1.list hq
    refine wpAny_pyIter_list p.isList ?_
    exact ⟨s1.heap.objs.size, [s1.heap.objs.size], _, _, H1, rfl, I1.kept (t' := s1.toks) fun b o e => Heap.get?_push_of_some _ e, turn_list a _, ⟨_, Heap.get?_push_size _ rfl, rfl, rfl⟩, fresh, q⟩
  · obtain ⟨its, rv, p, hz⟩ := I1.tuple hq
    refine wpAny_pyIter_tuple (show s1.heap.IsTuple a its.toArray from p) ?_
    exact ⟨s1.heap.objs.size, [s1.heap.objs.size], _, _, H1, rfl, I1.kept (t' := s1.toks) fun b o e => Heap.get?_push_of_some _ e, turn_tuple a _, ⟨_, Heap.get?_push_size _ rfl, rfl, rfl⟩, fresh, q⟩
end
/-- what a walk needs of what happens in its turns: frozen things stay, lent places stay -/
structure Lk (F : Hp) (σ : L2.St) (e : Env) (F' : Hp) (σ' : L2.St) (e' : Env) : Prop where
  fz : Sub F F'
  held : ∀ i s, e[i]? = some s → s.lent = true → slot σ' i = slot σ i ∧ ∃ t, e'[i]? = some t ∧ Held s t
theorem Stp.lk {F H F' H' : Hp} {σ σ' : L2.St} {e e' : Env} (s : Stp F σ H e F' σ' H' e') : Lk F σ e F' σ' e' := ⟨s.fz, s.held⟩
/-- from the start (F1, σ1, H1, e1) on: J gives the data ds, one after another -/
structure Wk (g : G) (F1 : Hp) (σ1 : L2.St) (H1 : Hp) (e1 : Env) (J : L2.It) (ds : List PyData) : Prop where
  go : ∀ i F σ H e, i < ds.length → Lk F1 σ1 e1 F σ e → Ok g F σ H e → J.go i H
  stop : ∀ F σ H e, Lk F1 σ1 e1 F σ e → Ok g F σ H e → J.stop ds.length H
  yld : ∀ i F σ H e x H', i < ds.length → Lk F1 σ1 e1 F σ e → Ok g F σ H e → J.yld i H x H' → ∃ F' d, ds[i]? = some d ∧ Pst F H F' H' ∧ Rep g F' x d
section
variable {g : G} {F1 H1 : Hp} {σ1 : L2.St} {e1 : Env} {a b : Addr} {ds es : List PyData}
def StL (g : G) (F1 : Hp) (σ1 : L2.St) (H1 : Hp) (e1 : Env) (a : Addr) (ds : List PyData) : Prop := ∀ F σ H e, Lk F1 σ1 e1 F σ e → Ok g F σ H e → ∃ xs, SqL g.K H a xs ∧ RepAll g F xs ds
def StT (g : G) (F1 : Hp) (σ1 : L2.St) (H1 : Hp) (e1 : Env) (a : Addr) (ds : List PyData) : Prop := ∀ F σ H e, Lk F1 σ1 e1 F σ e → Ok g F σ H e → ∃ xs, SqT g.K H a xs ∧ RepAll g F xs ds
theorem wk_list (s : StL g F1 σ1 H1 e1 a ds) : Wk g F1 σ1 H1 e1 (Itl g.K a) ds where
  go := fun i F σ H e hi st k => by
    obtain ⟨xs, q, r⟩ := s F σ H e st k
    exact (walk_list (xs := xs)).goes i H (by rw [r.length]; exact hi) q
  stop := fun F σ H e st k => by
    obtain ⟨xs, q, r⟩ := s F σ H e st k
    rw [← r.length]
    exact (walk_list (xs := xs)).stops H q
  yld := fun i F σ H e x H' hi st k y => by
    obtain ⟨xs, q, r⟩ := s F σ H e st k
    obtain ⟨h1, h2⟩ := (walk_list (xs := xs)).yields i H x H' (by rw [r.length]; exact hi) q y
    obtain ⟨d, h3, h4⟩ := r.getV h2
    rw [h1]
    exact ⟨F, d, h3, .refl k.sub, h4⟩
theorem wk_tup (s : StT g F1 σ1 H1 e1 a ds) : Wk g F1 σ1 H1 e1 (Itt g.K a) ds where
  go := fun i F σ H e hi st k => by
    obtain ⟨xs, q, r⟩ := s F σ H e st k
    exact (walk_tup (xs := xs)).goes i H (by rw [r.length]; exact hi) q
  stop := fun F σ H e st k => by
    obtain ⟨xs, q, r⟩ := s F σ H e st k
    rw [← r.length]
    exact (walk_tup (xs := xs)).stops H q
  yld := fun i F σ H e x H' hi st k y => by
    obtain ⟨xs, q, r⟩ := s F σ H e st k
    obtain ⟨h1, h2⟩ := (walk_tup (xs := xs)).yields i H x H' (by rw [r.length]; exact hi) q y
    obtain ⟨d, h3, h4⟩ := r.getV h2
    rw [h1]
    exact ⟨F, d, h3, .refl k.sub, h4⟩
/-- a new pair -/
theorem pair_st {F H : Hp} {T : Addr} {x y : V} {c d : PyData} (sb : Sub F H) (hT : H T = none) (rx : Rep g F x c) (ry : Rep g F y d) : ∃ F', Pst F H F' (upd H T (.tup [x, y])) ∧ Rep g F' (.ref T) (.tuple [c, d]) := by
  have hF : F T = none := by
    cases q : F T with
    | none => rfl
    | some u =>
      have z := sb T u q
      rw [hT] at z
      cases z
  have s1 : Sub F (upd F T (.tup [x, y])) := Sub.new hF
  exact ⟨upd F T (.tup [x, y]), ⟨s1, sb.both, Sub.new hT, fun a ha => by
    by_cases q : a = T
    · rw [q]
      exact .inr hT
    · rw [upd_ne q] at ha
      exact .inl ha⟩, .tup (.inl (.inl upd_same)) (.cons (rx.mono s1) (.cons (ry.mono s1) .nil))⟩
theorem enm_len (ds : List PyData) : ((List.zip (List.range ds.length) ds).map fun (p : Nat × PyData) => PyData.tuple [.int (p.1 : Int), p.2]).length = ds.length := by simp
theorem enm_at {ds : List PyData} {i : Nat} {d : PyData} (h : ds[i]? = some d) : ((List.zip (List.range ds.length) ds).map fun (p : Nat × PyData) => PyData.tuple [.int (p.1 : Int), p.2])[i]? = some (.tuple [.int (i : Int), d]) := by
  obtain ⟨hl, _⟩ := List.getElem?_eq_some_iff.mp h
  have e1 : (List.range ds.length)[i]? = some i := by simp [hl]
  have e2 : (List.zip (List.range ds.length) ds)[i]? = some (i, d) := List.getElem?_zip_eq_some.mpr ⟨e1, h⟩
  rw [List.getElem?_map, e2]
  rfl
theorem wk_enL (s : StL g F1 σ1 H1 e1 a ds) : Wk g F1 σ1 H1 e1 (Ite g.K a) ((List.zip (List.range ds.length) ds).map fun (p : Nat × PyData) => PyData.tuple [.int (p.1 : Int), p.2]) where
  go := fun i F σ H e hi st k => by
    obtain ⟨xs, q, r⟩ := s F σ H e st k
    exact (walk_enum (xs := xs)).goes i H (by rw [r.length, ← enm_len ds]; exact hi) q
  stop := fun F σ H e st k => by
    obtain ⟨xs, q, r⟩ := s F σ H e st k
    rw [enm_len, ← r.length]
    exact (walk_enum (xs := xs)).stops H q
  yld := fun i F σ H e x H' hi st k y => by
    obtain ⟨xs, q, r⟩ := s F σ H e st k
    obtain ⟨T, u, h1, h2, h3, h4⟩ := y
    obtain ⟨d, h6, h7⟩ := r.getV (h4 xs q)
    obtain ⟨F', p, rr⟩ := pair_st (F := F) k.sub h2 (Rep.int (i : Nat)) h7
    rw [h1, h3]
    exact ⟨F', _, enm_at h6, p, rr⟩
theorem wk_enT (s : StT g F1 σ1 H1 e1 a ds) : Wk g F1 σ1 H1 e1 (IteT g.K a) ((List.zip (List.range ds.length) ds).map fun (p : Nat × PyData) => PyData.tuple [.int (p.1 : Int), p.2]) where
  go := fun i F σ H e hi st k => by
    obtain ⟨xs, q, r⟩ := s F σ H e st k
    have hl : i < xs.length := by rw [r.length, ← enm_len ds]; exact hi
    exact ⟨xs, xs[i], q, by simp [hl]⟩
  stop := fun F σ H e st k => by
    obtain ⟨xs, q, r⟩ := s F σ H e st k
    rw [enm_len, ← r.length]
    exact ⟨xs, q, Nat.le_refl _⟩
  yld := fun i F σ H e x H' hi st k y => by
    obtain ⟨xs, q, r⟩ := s F σ H e st k
    obtain ⟨T, u, h1, h2, h3, h4⟩ := y
    obtain ⟨d, h6, h7⟩ := r.getV (h4 xs q)
    obtain ⟨F', p, rr⟩ := pair_st (F := F) k.sub h2 (Rep.int (i : Nat)) h7
    rw [h1, h3]
    exact ⟨F', _, enm_at h6, p, rr⟩
theorem zip_len (ds es : List PyData) : ((ds.zip es).map fun p => PyData.tuple [p.1, p.2]).length = min ds.length es.length := by simp
theorem zip_at {ds es : List PyData} {i : Nat} {c d : PyData} (h : ds[i]? = some c) (h2 : es[i]? = some d) : ((ds.zip es).map fun p => PyData.tuple [p.1, p.2])[i]? = some (.tuple [c, d]) := by
  have e2 : (ds.zip es)[i]? = some (c, d) := List.getElem?_zip_eq_some.mpr ⟨h, h2⟩
  rw [List.getElem?_map, e2]
  rfl
theorem wk_zipL (s : StL g F1 σ1 H1 e1 a ds) (s' : StL g F1 σ1 H1 e1 b es) : Wk g F1 σ1 H1 e1 (Itz g.K a b) ((ds.zip es).map fun p => PyData.tuple [p.1, p.2]) where
  go := fun i F σ H e hi st k => by
    obtain ⟨xs, q, r⟩ := s F σ H e st k
    obtain ⟨ys, q', r'⟩ := s' F σ H e st k
    rw [zip_len, ← r.length, ← r'.length] at hi
    exact (walk_zip rfl).goes i H hi ⟨q, q'⟩
  stop := fun F σ H e st k => by
    obtain ⟨xs, q, r⟩ := s F σ H e st k
    obtain ⟨ys, q', r'⟩ := s' F σ H e st k
    rw [zip_len, ← r.length, ← r'.length]
    exact (walk_zip rfl).stops H ⟨q, q'⟩
  yld := fun i F σ H e x H' hi st k y => by
    obtain ⟨xs, q, r⟩ := s F σ H e st k
    obtain ⟨ys, q', r'⟩ := s' F σ H e st k
    obtain ⟨T, u, v, h1, h2, h3, h4, h5⟩ := y
    obtain ⟨c, h6, h7⟩ := r.getV (h4 xs q)
    obtain ⟨d, h8, h9⟩ := r'.getV (h5 ys q')
    obtain ⟨F', p, rr⟩ := pair_st (F := F) k.sub h2 h7 h9
    rw [h1, h3]
    exact ⟨F', _, zip_at h6 h8, p, rr⟩
theorem wk_zipT (s : StT g F1 σ1 H1 e1 a ds) (s' : StT g F1 σ1 H1 e1 b es) : Wk g F1 σ1 H1 e1 (RZ.ItzT g.K a b) ((ds.zip es).map fun p => PyData.tuple [p.1, p.2]) where
  go := fun i F σ H e hi st k => by
    obtain ⟨xs, q, r⟩ := s F σ H e st k
    obtain ⟨ys, q', r'⟩ := s' F σ H e st k
    rw [zip_len, ← r.length, ← r'.length] at hi
    have h1 : i < xs.length := by omega
    have h2 : i < ys.length := by omega
    exact ⟨xs, ys, xs[i], ys[i], q, q', by simp [h1], by simp [h2]⟩
  stop := fun F σ H e st k => by
    obtain ⟨xs, q, r⟩ := s F σ H e st k
    obtain ⟨ys, q', r'⟩ := s' F σ H e st k
    rw [zip_len, ← r.length, ← r'.length]
    exact ⟨xs, ys, q, q', by omega⟩
  yld := fun i F σ H e x H' hi st k y => by
    obtain ⟨xs, q, r⟩ := s F σ H e st k
    obtain ⟨ys, q', r'⟩ := s' F σ H e st k
    obtain ⟨T, u, v, h1, h2, h3, h4, h5⟩ := y
    obtain ⟨c, h6, h7⟩ := r.getV (h4 xs q)
    obtain ⟨d, h8, h9⟩ := r'.getV (h5 ys q')
    obtain ⟨F', p, rr⟩ := pair_st (F := F) k.sub h2 h7 h9
    rw [h1, h3]
    exact ⟨F', _, zip_at h6 h8, p, rr⟩
theorem wk_rng {lo : Int} {n : Nat} : Wk g F1 σ1 H1 e1 (Itr lo n) (rangeI lo n) where
  go := fun i F σ H e hi st k => by
    have h : i < n := by simpa [rangeI] using hi
    exact h
  stop := fun F σ H e st k => by
    show n ≤ (rangeI lo n).length
    simp [rangeI]
  yld := fun i F σ H e x H' hi st k y => by
    obtain ⟨h1, h2⟩ := y
    have h : i < n := by simpa [rangeI] using hi
    rw [h1, h2]
    exact ⟨F, .int (lo + (i : Int)), by simp [rangeI, h], .refl k.sub, .int _⟩
end
end Ev
set_option Elab.async false
set_option linter.all false
set_option maxRecDepth 100000
set_option maxHeartbeats 1000000
/-! EvJa: new lists frozen. -/
namespace Ev
open PySem PySem.Spec PyProof.Rows L2
section
variable {g : G} {F F0 F1 F2 H H0 H1 : Hp} {σ σ0 : L2.St} {e e0 e1 : Env}
theorem rep_at {a : Addr} {x : PyData} {u : HO} (o : OwnAt g F H a x) (hu : H a = some u) (h2 : F2 a = some u) (sb : Sub F F2) : Rep g F2 (.ref a) x := by
  cases x with
  | list ds =>
    obtain ⟨xs, h, r⟩ := o
    rw [hu] at h
    cases h
    exact .lst h2 (r.mono sb)
  | dict kvs =>
    rcases o with ⟨kv, k1, k2, h, r1, r2, q⟩ | ⟨ks, k1, k2, h, r1, r2, q⟩
    · rw [hu] at h
      cases h
      rw [q]
      exact .dicK (.inl h2) (r1.mono sb) (r2.mono sb)
    · rw [hu] at h
      cases h
      rw [q]
      exact .dicT (.inl h2) (r1.mono sb) (r2.mono sb)
  | _ => exact o.elim
/-- an operand as an argument: nothing of it is new -/
def ArgOk (g : G) (F : Hp) (σ : L2.St) (v : V) : Op → Prop
  | .sl i => slot σ i = some v
  | .rs r => RepW g F v r.w
theorem ArgOk.mono (sb : Sub F F1) {v : V} {o : Op} (h : ArgOk g F σ v o) : ArgOk g F1 σ v o := by
  cases o with
  | sl i => exact h
  | rs r => exact RepW.mono sb h
theorem paired_arg {vs : List V} {os : List Op} (sb : Sub F F1) (p : Paired (ArgOk g F σ) vs os) : Paired (ArgOk g F1 σ) vs os := by
  induction p with
  | nil => exact .nil
  | cons h _ ih => exact .cons (h.mono sb) ih
/-- all new ones are frozen -/
theorem frz_all {B : Addr → Prop} (hB : ∀ a, B a → Bs σ H0 e0 a) : ∀ {vs : List V} {os : List Op} {F1 : Hp}, Stp F0 σ H0 e0 F1 σ H e → Ok g F1 σ H e → Sub F F1 → Paired (OpOk g B F σ H e) vs os →
    ∃ F2, Sub F1 F2 ∧ Stp F0 σ H0 e0 F2 σ H e ∧ Ok g F2 σ H e ∧ Paired (ArgOk g F2 σ) vs os
  | [], [], F1, s, k, sb, .nil => ⟨F1, .refl _, s, k, .nil⟩
  | v :: vs, o :: os, F1, s, k, sb, .cons r t => by
    have keep : ArgOk g F1 σ v o → ∃ F2, Sub F1 F2 ∧ Stp F0 σ H0 e0 F2 σ H e ∧ Ok g F2 σ H e ∧ Paired (ArgOk g F2 σ) (v :: _) (o :: _) := fun h => by
      obtain ⟨F2, b1, s2, k2, p2⟩ := frz_all hB s k sb t
      exact ⟨F2, b1, s2, k2, .cons (h.mono b1) p2⟩
    cases o with
    | sl i => exact keep r
    | rs rr =>
      cases rr with
      | v w => exact keep (RepW.mono sb r)
      | o x =>
        obtain ⟨a, h1, h2, h3, h4⟩ := r
        obtain ⟨u, hu, _⟩ := h3.here
        cases hF : F1 a with
        | some u' =>
          have eu : u' = u := by
            have z := k.sub a u' hF
            rw [hu] at z
            exact (Option.some.inj z).symm
          subst eu
          refine keep ?_
          show Rep g F1 v x
          rw [h1]
          exact rep_at h3 hu hF sb
        | none =>
          obtain ⟨F2, b2, s2, k2, r2, _⟩ := freeze_ok s k ⟨hF, h2.no, h2.th⟩ (h3.move sb rfl) (hB a h4)
          obtain ⟨F3, b3, s3, k3, p3⟩ := frz_all hB s2 k2 (sb.trans b2) t
          refine ⟨F3, b2.trans b3, s3, k3, .cons ?_ p3⟩
          show Rep g F3 v x
          rw [h1]
          exact r2.mono b3
theorem ArgOk.top {v : V} {o : Op} {w : Wd} (k : Ok g F σ H e) (h : ArgOk g F σ v o) (hw : o.w e = some w) : TopW g F H v w := by
  cases o with
  | rs r =>
    cases hw
    exact TopW.of k.sub h
  | sl i =>
    obtain ⟨u, h1, h2⟩ := peek_ok k hw
    have hs : slot σ i = some v := h
    rw [hs] at h1
    cases h1
    exact h2
end
end Ev
set_option Elab.async false
set_option linter.all false
set_option maxRecDepth 100000
set_option maxHeartbeats 1000000
/-! EvK: walked places are locked, and free again behind the walk. -/
namespace Ev
open PySem PySem.Spec PyProof.Rows L2
section
variable {g : G} {F F1 F2 H H1 H2 : Hp} {σ σ1 σ2 : L2.St} {e e1 e2 : Env}
def Kin (x : PyData) (s : Sl) : Prop := s = .ow x ∨ s = .le x ∨ s = .lk x
theorem Kin.own {x : PyData} {s : Sl} (h : Kin x s) : s.own = true := by
  rcases h with h | h | h <;> (rw [h]; rfl)
theorem swap_own {i : Nat} {s t : Sl} (hi : e[i]? = some s) (hs : s.own = true) (ht : t.own = true) (a : Addr) : Own σ (e.set i t) a ↔ Own σ e a := by
  constructor
  · rintro ⟨j, u, hj, ou, pj⟩
    rcases get_set hj with ⟨z1, _⟩ | ⟨_, z2⟩
    · subst z1
      exact ⟨j, s, hi, hs, pj⟩
    · exact ⟨j, u, z2, ou, pj⟩
  · rintro ⟨j, u, hj, ou, pj⟩
    by_cases z : i = j
    · subst z
      exact ⟨i, t, set_get hi, ht, pj⟩
    · exact ⟨j, u, by rw [List.getElem?_set_ne z]; exact hj, ou, pj⟩
theorem swap_ok {i : Nat} {s t : Sl} {x : PyData} (k : Ok g F σ H e) (hi : e[i]? = some s) (hs : Kin x s) (ht : Kin x t) : Ok g F σ H (e.set i t) := by
  have sl : SlOk g F H (slot σ i) t := by
    have p := k.pl i s hi
    rcases hs with h | h | h <;> rw [h] at p <;> rcases ht with h2 | h2 | h2 <;> rw [h2] <;> exact p
  refine ⟨k.sub, by rw [List.length_set]; exact k.len, fun j u hj => ?_, fun j l u v b hjl hj hl oj ol hb => ?_, k.tab⟩
  · rcases get_set hj with ⟨z1, z2⟩ | ⟨_, z2⟩
    · rw [z1, z2]
      exact sl
    · exact k.pl j u z2
  · have back : ∀ {m : Nat} {t' : Sl}, (e.set i t)[m]? = some t' → t'.own = true → ∃ u, e[m]? = some u ∧ u.own = true := fun {m t'} h ot => by
      rcases get_set h with ⟨z1, _⟩ | ⟨_, z2⟩
      · rw [z1]
        exact ⟨s, hi, hs.own⟩
      · exact ⟨_, z2, ot⟩
    obtain ⟨t1, h1, o1⟩ := back hj oj
    obtain ⟨t2, h2, o2⟩ := back hl ol
    exact k.apart j l t1 t2 b hjl h1 h2 o1 o2 hb
theorem lock_back {i : Nat} {s : Sl} {x : PyData} (hi : e[i]? = some s) (hs : s = .ow x ∨ s = .le x) (st : Stp F σ H (e.set i (.lk x)) F2 σ2 H2 e2) (k2 : Ok g F2 σ2 H2 e2) :
    e2[i]? = some (.lk x) ∧ Stp F σ H e F2 σ2 H2 (e2.set i s) ∧ Ok g F2 σ2 H2 (e2.set i s) := by
  have ks : Kin x s := by
    rcases hs with h | h
    · exact .inl h
    · exact .inr (.inl h)
  obtain ⟨hq, t, ht, hd⟩ := st.held i (.lk x) (set_get hi) rfl
  have et : t = .lk x := hd
  subst et
  have o1 : ∀ a, Own σ (e.set i (.lk x)) a ↔ Own σ e a := swap_own hi ks.own rfl
  have o2 : ∀ a, Own σ2 (e2.set i s) a ↔ Own σ2 e2 a := swap_own ht rfl ks.own
  refine ⟨ht, ⟨st.fz, fun a o h n => st.keep a o h fun z => n ((o1 a).mp z), st.there, fun a h => ?_, fun a h => ?_, fun j u hj lj => ?_⟩, swap_ok k2 ht (.inr (.inr rfl)) ks⟩
  · rcases st.newF a h with z | z | z
    · exact .inl z
    · exact .inr (.inl ((o1 a).mp z))
    · exact .inr (.inr z)
  · rcases st.newO a ((o2 a).mp h) with z | z
    · exact .inl ((o1 a).mp z)
    · exact .inr z
  · by_cases z : i = j
    · subst z
      rw [hi] at hj
      cases hj
      refine ⟨hq, s, set_get ht, ?_⟩
      rcases hs with h | h
      · rw [h] at lj
        cases lj
      · rw [h]
        exact ⟨x, .inl rfl⟩
    · obtain ⟨h1, u', h2, h3⟩ := st.held j u (by rw [List.getElem?_set_ne z]; exact hj) lj
      exact ⟨h1, u', by rw [List.getElem?_set_ne z]; exact h2, h3⟩
theorem lk_stay {i : Nat} {x : PyData} : ∀ (os : List Op) (e : Env), e[i]? = some (.lk x) → (lockOps e os).1[i]? = some (.lk x)
  | [], _, h => h
  | .rs _ :: os, e, h => lk_stay os e h
  | .sl j :: os, e, h => by
    unfold lockOps
    split
    · next y hj =>
      have n : j ≠ i := fun z => by
        rw [z, h] at hj
        cases hj
      exact lk_stay os _ (by rw [List.getElem?_set_ne n]; exact h)
    · next y hj =>
      have n : j ≠ i := fun z => by
        rw [z, h] at hj
        cases hj
      exact lk_stay os _ (by rw [List.getElem?_set_ne n]; exact h)
    · exact lk_stay os e h
/-- the bracket of a walk -/
def Brk (g : G) (F : Hp) (σ : L2.St) (H : Hp) (e e1 : Env) (held : List (Nat × Bool)) : Prop := ∀ F2 σ2 H2 e2, Stp F σ H e1 F2 σ2 H2 e2 → Ok g F2 σ2 H2 e2 → Stp F σ H e F2 σ2 H2 (unlock e2 held) ∧ Ok g F2 σ2 H2 (unlock e2 held)
theorem lock_ok : ∀ (os : List Op) (e : Env), Ok g F σ H e → Ok g F σ H (lockOps e os).1 ∧ Brk g F σ H e (lockOps e os).1 (lockOps e os).2 ∧ (∀ a, Own σ (lockOps e os).1 a ↔ Own σ e a)
  | [], e, k => ⟨k, fun _ _ _ _ s k2 => ⟨s, k2⟩, fun _ => .rfl⟩
  | .rs _ :: os, e, k => lock_ok os e k
  | .sl i :: os, e, k => by
    have go : ∀ {s : Sl} {x : PyData} {l : Bool}, e[i]? = some s → (s = .ow x ∨ s = .le x) → s = (if l then .le x else .ow x) → Ok g F σ H (lockOps (e.set i (.lk x)) os).1 ∧ Brk g F σ H e (lockOps (e.set i (.lk x)) os).1 ((i, l) :: (lockOps (e.set i (.lk x)) os).2) ∧
        (∀ a, Own σ (lockOps (e.set i (.lk x)) os).1 a ↔ Own σ e a) := by
      intro s x l hi hs hl
      have ks : Kin x s := by
        rcases hs with h | h
        · exact .inl h
        · exact .inr (.inl h)
      obtain ⟨h1, h2, h3⟩ := lock_ok os (e.set i (.lk x)) (swap_ok k hi ks (.inr (.inr rfl)))
      refine ⟨h1, fun F2 σ2 H2 e2 s2 k2 => ?_, fun a => (h3 a).trans (swap_own hi ks.own rfl a)⟩
      obtain ⟨s3, k3⟩ := h2 F2 σ2 H2 e2 s2 k2
      obtain ⟨e3, s4, k4⟩ := lock_back hi hs s3 k3
      unfold unlock
      rw [e3]
      simp only
      rw [← hl]
      exact ⟨s4, k4⟩
    unfold lockOps
    split
    · next x hi => exact go hi (.inl rfl) rfl
    · next x hi => exact go hi (.inr rfl) rfl
    · exact lock_ok os e k
theorem locked_at {i : Nat} {x : PyData} : ∀ (os : List Op) (e : Env), Op.sl i ∈ os → (e[i]? = some (.ow x) ∨ e[i]? = some (.le x)) → (lockOps e os).1[i]? = some (.lk x)
  | [], _, h, _ => by cases h
  | .rs _ :: os, e, h, he => by
    rcases List.mem_cons.mp h with z | z
    · cases z
    · exact locked_at os e z he
  | .sl j :: os, e, h, he => by
    unfold lockOps
    by_cases n : j = i
    · subst n
      rcases he with he | he <;> (rw [he]; exact lk_stay os _ (set_get he))
    · have hm : Op.sl i ∈ os := by
        rcases List.mem_cons.mp h with z | z
        · cases z
          exact absurd rfl n
        · exact z
      split
      · exact locked_at os _ hm (by rw [List.getElem?_set_ne n]; exact he)
      · exact locked_at os _ hm (by rw [List.getElem?_set_ne n]; exact he)
      · exact locked_at os e hm he
theorem stay_l {os : List Op} {o : Op} {v : V} {ds : List PyData} (k : Ok g F σ H e) (hm : o ∈ os) (r : ArgOk g F σ v o) (hw : o.w e = some (.d (.list ds))) : ∃ a xs, v = .ref a ∧ SqL g.K H a xs ∧ StL g F σ H (lockOps e os).1 a ds := by
  have frozen : Rep g F v (.list ds) → ∃ a xs, v = .ref a ∧ SqL g.K H a xs ∧ StL g F σ H (lockOps e os).1 a ds := fun h => by
    cases h with
    | lst h1 h2 => exact ⟨_, _, rfl, .of (k.sub _ _ h1), fun F2 σ2 H2 e2 s2 k2 => ⟨_, .of (k2.sub _ _ (s2.fz _ _ h1)), h2.mono s2.fz⟩⟩
  cases o with
  | rs rr =>
    have ew : rr.w = .d (.list ds) := Option.some.inj hw
    have r' : RepW g F v rr.w := r
    rw [ew] at r'
    exact frozen r'
  | sl i =>
    have hs : slot σ i = some v := r
    have hp : peek e i = some (.d (.list ds)) := hw
    unfold peek at hp
    cases hi : e[i]? with
    | none => rw [hi] at hp; cases hp
    | some s =>
      rw [hi] at hp
      have lkd : (lockOps e os).1[i]? = some (.lk (.list ds)) → s.own = true → ∃ a xs, v = .ref a ∧ SqL g.K H a xs ∧ StL g F σ H (lockOps e os).1 a ds := fun hlk os' => by
        obtain ⟨a, x, h1, _, h3, h4⟩ := k.own hi os'
        rw [hs] at h1
        cases h1
        have ex : x = .list ds := by
          rcases h4 with h4 | h4 | h4 <;> (subst h4; cases hp; rfl)
        subst ex
        obtain ⟨xs, h5, h6⟩ := h3
        refine ⟨a, xs, rfl, .of h5, fun F2 σ2 H2 e2 s2 k2 => ?_⟩
        obtain ⟨hq, t, ht, hd⟩ := s2.held i _ hlk rfl
        have et : t = .lk (.list ds) := hd
        subst et
        obtain ⟨b, g1, _, ys, g3, g4⟩ := k2.pl i _ ht
        rw [hq, hs] at g1
        cases g1
        exact ⟨ys, .of g3, g4⟩
      cases s with
      | un => cases hp
      | va w =>
        cases hp
        obtain ⟨u, h1, h2⟩ := k.pl i _ hi
        rw [hs] at h1
        cases h1
        exact frozen h2
      | ls x =>
        cases hp
        obtain ⟨u, h1, h2⟩ := k.pl i _ hi
        rw [hs] at h1
        cases h1
        exact frozen h2
      | ow x =>
        cases hp
        exact lkd (locked_at os e hm (.inl hi)) rfl
      | le x =>
        cases hp
        exact lkd (locked_at os e hm (.inr hi)) rfl
      | lk x =>
        cases hp
        exact lkd (lk_stay os e hi) rfl
theorem stay_t {os : List Op} {o : Op} {v : V} {ds : List PyData} (k : Ok g F σ H e) (r : ArgOk g F σ v o) (hw : o.w e = some (.d (.tuple ds))) : ∃ a xs, v = .ref a ∧ SqT g.K H a xs ∧ StT g F σ H (lockOps e os).1 a ds := by
  obtain ⟨a, xs, h1, h2, h3, h4⟩ := top_tup k.sub (r.top k hw)
  exact ⟨a, xs, h1, h3, fun F2 σ2 H2 e2 s2 k2 => ⟨xs, st_sub k2.sub (st_sub s2.fz h2), h4.mono s2.fz⟩⟩
end

/-! ### the reading of a walk's beginning -/
def tIt (g : G) (W : WX) (m : Env → R (List PyData × List (Nat × Bool))) : TI := fun σ H R => ∃ F e, Ok g F σ H e ∧ Out g F σ H e (m e) W fun p e1 => ∀ J F1 H1, Ok g F1 σ H1 e1 →
  (∀ F2 σ2 H2 e2, Stp F1 σ H1 e1 F2 σ2 H2 e2 → Ok g F2 σ2 H2 e2 → Stp F σ H e F2 σ2 H2 (unlock e2 p.2) ∧ Ok g F2 σ2 H2 (unlock e2 p.2)) → Wk g F1 σ H1 e1 J p.1 → R J H1
section
variable {q : Qn} {X : Cx} {C : V → Wd → Hp → Prop} {W : WX} {rv : Ev} {tg : Expr}
theorem it_end {it : It} {os : List Op} {F F0 F1 H H0 H1 : Hp} {σ : L2.St} {e e0 e1 : Env} {Z : L2.It → Hp → Prop} (s1 : Stp F σ H e F1 σ H1 e1) (k1 : Ok (q.at X C) F1 σ H1 e1)
    (o : Out (q.at X C) F0 σ H0 e0 (evIt2 it os e1) W fun p e1 => ∀ J F1 H1, Ok (q.at X C) F1 σ H1 e1 → (∀ F2 σ2 H2 e2, Stp F1 σ H1 e1 F2 σ2 H2 e2 → Ok (q.at X C) F2 σ2 H2 e2 → Stp F σ H e F2 σ2 H2 (unlock e2 p.2) ∧ Ok (q.at X C) F2 σ2 H2 (unlock e2 p.2)) → Wk (q.at X C) F1 σ H1 e1 J p.1 → Z J H1) :
    ∃ ws ds, opsW e1 os = some ws ∧ itemsOf it ws = some ds ∧ ∀ J, Wk (q.at X C) F1 σ H1 (lockOps e1 os).1 J ds → Z J H1 := by
  unfold evIt2 at o
  cases hw : opsW e1 os with
  | none => rw [hw] at o; exact o.elim
  | some ws =>
    rw [hw] at o
    simp only at o
    cases hi : itemsOf it ws with
    | none => rw [hi] at o; exact o.elim
    | some ds =>
      rw [hi] at o
      refine ⟨ws, ds, rfl, hi, fun J wk => ?_⟩
      obtain ⟨k2, br, _⟩ := lock_ok (g := q.at X C) os e1 k1
      refine (show ∀ J F1 H1, Ok (q.at X C) F1 σ H1 (lockOps e1 os).1 → (∀ F2 σ2 H2 e2, Stp F1 σ H1 (lockOps e1 os).1 F2 σ2 H2 e2 → Ok (q.at X C) F2 σ2 H2 e2 → Stp F σ H e F2 σ2 H2 (unlock e2 (lockOps e1 os).2) ∧ Ok (q.at X C) F2 σ2 H2 (unlock e2 (lockOps e1 os).2)) → Wk (q.at X C) F1 σ H1 (lockOps e1 os).1 J ds → Z J H1 from o) J F1 H1 k2 (fun F2 σ2 H2 e2 st k3 => ?_) wk
      obtain ⟨st', k4⟩ := br F2 σ2 H2 e2 st k3
      exact ⟨s1.trans st', k4⟩
theorem opsW1 {e : Env} {o : Op} {ws : List Wd} (h : opsW e [o] = some ws) : ∃ w, o.w e = some w ∧ ws = [w] := by
  unfold opsW at h
  cases hw : o.w e with
  | none => rw [hw] at h; cases h
  | some w =>
    rw [hw] at h
    cases h
    exact ⟨w, rfl, rfl⟩
theorem opsW2 {e : Env} {o p : Op} {ws : List Wd} (h : opsW e [o, p] = some ws) : ∃ w u, o.w e = some w ∧ p.w e = some u ∧ ws = [w, u] := by
  unfold opsW at h
  cases hw : o.w e with
  | none => rw [hw] at h; cases h
  | some w =>
    rw [hw] at h
    cases hu : opsW e [p] with
    | none => rw [hu] at h; cases h
    | some us =>
      rw [hu] at h
      cases h
      obtain ⟨u, h1, h2⟩ := opsW1 hu
      exact ⟨w, u, rfl, h1, by rw [h2]⟩
theorem pz_head {α β : Type} {R : α → β → Prop} {a : α} {b : β} {as : List α} {bs : List β} (p : Paired R (a :: as) (b :: bs)) : R a b := by
  cases p with
  | cons h _ => exact h
theorem pz_tail {α β : Type} {R : α → β → Prop} {a : α} {b : β} {as : List α} {bs : List β} (p : Paired R (a :: as) (b :: bs)) : Paired R as bs := by
  cases p with
  | cons _ t => exact t
theorem it_sq {l : Expr} {x : E} (h : PE X l (tO (q.at X C) W (evOp rv x))) : PI X tg l (tIt (q.at X C) W (evIt rv .seq [x])) := by
  refine ⟨fun pins s σ H Z I ⟨F, e, k, o⟩ => (pi_sq h).run pins s σ H Z I ?_⟩
  refine ⟨F, e, k, (show Out (q.at X C) F σ H e (R.bind (R.bind (evOp rv x e) fun o e1 => R.bind (some (.ok [] e1)) fun os e2 => some (.ok (o :: os) e2)) (evIt2 .seq)) W _ from o).bind.bind.imp fun p e1 _ o1 v Fo H1 so ko ro => ?_⟩
  obtain ⟨F1, _, s1, k1, pz⟩ := frz_all (fun a h => h) so ko (.refl _) (.cons ro .nil)
  have r1 := pz_head pz
  obtain ⟨ws, ds, hw, hi, go⟩ := it_end (os := [p]) s1 k1 o1
  obtain ⟨w, h1, rfl⟩ := opsW1 hw
  have hi' : iSeq [w] = some ds := hi
  unfold iSeq at hi'
  split at hi'
  · next xs e2 =>
    cases e2
    cases hi'
    obtain ⟨a, us, ea, h2, h3⟩ := stay_l k1 List.mem_cons_self r1 h1
    exact ⟨a, ea, .inl ⟨us, h2, go _ (wk_list h3)⟩⟩
  · next xs e2 =>
    cases e2
    cases hi'
    obtain ⟨a, us, ea, h2, h3⟩ := stay_t (os := [p]) k1 r1 h1
    exact ⟨a, ea, .inr ⟨us, h2, go _ (wk_tup h3)⟩⟩
  · cases hi'
theorem it_en {l : Expr} {x : E} {p pos tpos : Pos} {elts : List Expr} {kk : Nat} (hg : Gl X "enumerate") (hm : X.mg "enumerate" = none) (h : PE X l (tO (q.at X C) W (evOp rv x))) (hn : NoStar l) :
    PI X (.Tuple elts kk tpos) (.Call (.Name "enumerate" p) [l] [] pos) (tIt (q.at X C) W (evIt rv .enm [x])) := by
  refine ⟨fun pins s σ H Z I ⟨F, e, k, o⟩ => (pi_en hg hm (pa_cons h pa_nil (star_cons hn)) (star1 hn)).run pins s σ H Z I ?_⟩
  refine ⟨F, e, k, (show Out (q.at X C) F σ H e (R.bind (R.bind (evOp rv x e) fun o e1 => R.bind (some (.ok [] e1)) fun os e2 => some (.ok (o :: os) e2)) (evIt2 .enm)) W _ from o).bind.bind.imp fun p e1 _ o1 v Fo H1 so ko ro => ?_⟩
  obtain ⟨F1, _, s1, k1, pz⟩ := frz_all (fun a h => h) so ko (.refl _) (.cons ro .nil)
  have r1 := pz_head pz
  obtain ⟨ws, ds, hw, hi, go⟩ := it_end (os := [p]) s1 k1 o1
  obtain ⟨w, h1, rfl⟩ := opsW1 hw
  have hi' : iEnm [w] = some ds := hi
  unfold iEnm at hi'
  split at hi'
  · next xs e2 =>
    cases e2
    cases hi'
    obtain ⟨a, us, ea, h2, h3⟩ := stay_l k1 List.mem_cons_self r1 h1
    exact ⟨a, by rw [ea], .inl ⟨us, h2, go _ (wk_enL h3)⟩⟩
  · next xs e2 =>
    cases e2
    cases hi'
    obtain ⟨a, us, ea, h2, h3⟩ := stay_t (os := [p]) k1 r1 h1
    exact ⟨a, by rw [ea], .inr ⟨us, h2, go _ (wk_enT h3)⟩⟩
  · cases hi'
theorem it_zip {l m : Expr} {x y : E} {p pos tpos : Pos} {elts : List Expr} {kk : Nat} (hg : Gl X "zip") (hm : X.mg "zip" = none) (h : PE X l (tO (q.at X C) W (evOp rv x))) (h' : PE X m (tO (q.at X C) W (evOp rv y))) (hn : NoStar l) (hn' : NoStar m) :
    PI X (.Tuple elts kk tpos) (.Call (.Name "zip" p) [l, m] [] pos) (tIt (q.at X C) W (evIt rv .zip [x, y])) := by
  refine ⟨fun pins s σ H Z I ⟨F, e, k, o⟩ => (RZ.pi_zipA hg hm (pa_cons h (pa_cons h' pa_nil (star_cons hn')) (star_cons hn)) (star_cons hn) (by rw [star1 hn']; rfl)).run pins s σ H Z I ?_⟩
  refine ⟨F, e, k, (show Out (q.at X C) F σ H e (R.bind (R.bind (evOp rv x e) fun o e1 => R.bind (R.bind (evOp rv y e1) fun o e1 => R.bind (some (.ok [] e1)) fun os e2 => some (.ok (o :: os) e2)) fun os e2 => some (.ok (o :: os) e2)) (evIt2 .zip)) W _ from o).bind.bind.imp fun p e1 _ o1 v Fo H1 so ko ro => ⟨Fo, e1, ko, ((o1.step so).bind.bind).imp fun p2 e2 _ o2 v2 F3 H2 s3 k3 r3 => ?_⟩⟩
  obtain ⟨F2, _, s2, k2, pz⟩ := frz_all (fun a h => h) (so.trans s3) k3 (.refl _) (.cons (ro.step s3) (.cons (r3.base fun a h => so.bs h) .nil))
  have r1' := pz_head pz
  have r2 := pz_head (pz_tail pz)
  obtain ⟨ws, ds, hw, hi, go⟩ := it_end (os := [p, p2]) s2 k2 o2
  obtain ⟨w, u, h1, h2, rfl⟩ := opsW2 hw
  have hi' : iZip [w, u] = some ds := hi
  unfold iZip at hi'
  split at hi'
  · next xs ys e2 =>
    cases e2
    cases hi'
    obtain ⟨a, us, ea, h3, h4⟩ := stay_l (os := [p, p2]) k2 (by simp) r1' h1
    obtain ⟨b, vs, eb, h5, h6⟩ := stay_l (os := [p, p2]) k2 (by simp) r2 h2
    exact ⟨a, b, us, vs, by rw [ea, eb], .inl ⟨h3, h5, go _ (wk_zipL h4 h6)⟩⟩
  · next xs ys e2 =>
    cases e2
    cases hi'
    obtain ⟨a, us, ea, h3, h4⟩ := stay_t (os := [p, p2]) k2 r1' h1
    obtain ⟨b, vs, eb, h5, h6⟩ := stay_t (os := [p, p2]) k2 r2 h2
    exact ⟨a, b, us, vs, by rw [ea, eb], .inr ⟨h3, h5, go _ (wk_zipT h4 h6)⟩⟩
  · cases hi'
theorem it_r1 {l : Expr} {x : E} {p pos : Pos} (hg : Gl X "range") (hm : X.mg "range" = none) (h : PE X l (tO (q.at X C) W (evOp rv x))) (hn : NoStar l) : PI X tg (.Call (.Name "range" p) [l] [] pos) (tIt (q.at X C) W (evIt rv .rng [x])) := by
  refine ⟨fun pins s σ H Z I ⟨F, e, k, o⟩ => (pi_range1 hg hm (pa_cons h pa_nil (star_cons hn)) (star1 hn)).run pins s σ H Z I ?_⟩
  refine ⟨F, e, k, (show Out (q.at X C) F σ H e (R.bind (R.bind (evOp rv x e) fun o e1 => R.bind (some (.ok [] e1)) fun os e2 => some (.ok (o :: os) e2)) (evIt2 .rng)) W _ from o).bind.bind.imp fun p e1 _ o1 v F1 H1 s1 k1 r1 => ?_⟩
  obtain ⟨ws, ds, hw, hi, go⟩ := it_end (os := [p]) s1 k1 o1
  obtain ⟨w, h1, rfl⟩ := opsW1 hw
  have hi' : iRng [w] = some ds := hi
  unfold iRng at hi'
  split at hi'
  · next j e2 =>
    cases e2
    split at hi'
    · next hb =>
      cases hi'
      exact ⟨j, by rw [top_int (r1.top k1 h1)], by omega, by omega, go _ wk_rng⟩
    · cases hi'
  · next e2 => cases e2
  · cases hi'
theorem it_r2 {l m : Expr} {x y : E} {p pos : Pos} (hg : Gl X "range") (hm : X.mg "range" = none) (h : PE X l (tO (q.at X C) W (evOp rv x))) (h' : PE X m (tO (q.at X C) W (evOp rv y))) (hn : NoStar l) (hn' : NoStar m) :
    PI X tg (.Call (.Name "range" p) [l, m] [] pos) (tIt (q.at X C) W (evIt rv .rng [x, y])) := by
  refine ⟨fun pins s σ H Z I ⟨F, e, k, o⟩ => (pi_range2 hg hm (pa_cons h (pa_cons h' pa_nil (star_cons hn')) (star_cons hn)) (by rw [star_cons hn, star1 hn']) (star1 hn')).run pins s σ H Z I ?_⟩
  refine ⟨F, e, k, (show Out (q.at X C) F σ H e (R.bind (R.bind (evOp rv x e) fun o e1 => R.bind (R.bind (evOp rv y e1) fun o e1 => R.bind (some (.ok [] e1)) fun os e2 => some (.ok (o :: os) e2)) fun os e2 => some (.ok (o :: os) e2)) (evIt2 .rng)) W _ from o).bind.bind.imp fun p e1 _ o1 v F1 H1 s1 k1 r1 => ⟨F1, e1, k1, ((o1.step s1).bind.bind).imp fun p2 e2 _ o2 v2 F2 H2 s2 k2 r2 => ?_⟩⟩
  obtain ⟨ws, ds, hw, hi, go⟩ := it_end (os := [p, p2]) (s1.trans s2) k2 o2
  obtain ⟨w, u, h1, h2, rfl⟩ := opsW2 hw
  have hi' : iRng [w, u] = some ds := hi
  have r1' := r1.step s2
  unfold iRng at hi'
  split at hi'
  · next e2 => cases e2
  · next i j e2 =>
    cases e2
    split at hi'
    · next hb =>
      cases hi'
      exact ⟨i, j, by rw [top_int (r1'.top k2 h1), top_int (r2.top k2 h2)], by omega, go _ wk_rng⟩
    · cases hi'
  · cases hi'
end
end Ev
set_option Elab.async false
set_option linter.all false
set_option maxRecDepth 100000
set_option maxHeartbeats 1000000
/-! EvL: places are stored to, emptied, put back. -/
namespace Ev
open PySem PySem.Spec PyProof.Rows L2
theorem slot_same {σ : L2.St} {i : Nat} {o : Option V} (h : i < σ.length) : slot (σ.set i o) i = o := by
  unfold slot
  rw [List.getElem?_set_self h]
  rfl
theorem slot_ne {σ : L2.St} {i j : Nat} {o : Option V} (h : j ≠ i) : slot (σ.set i o) j = slot σ j := by
  unfold slot
  rw [List.getElem?_set_ne (fun z => h z.symm)]
section
variable {g : G} {F F0 H H0 : Hp} {σ σ0 : L2.St} {e e0 e1 : Env}
/-- what is not lent may become anything, with another value -/
theorem set_ok {i : Nat} {s t : Sl} {v : Option V} (st : Stp F0 σ0 H0 e0 F σ H e) (k : Ok g F σ H e) (hi : e[i]? = some s) (hs : s.lent = false) (ho : SlOk g F H v t) (hn : ∀ a, t.own = true → v = some (.ref a) → ¬ Own σ e a ∧ (Own σ0 e0 a ∨ H0 a = none)) :
    Stp F0 σ0 H0 e0 F (σ.set i v) H (e.set i t) ∧ Ok g F (σ.set i v) H (e.set i t) := by
  have hl : i < σ.length := by
    rw [← k.len]
    exact (List.getElem?_eq_some_iff.mp hi).1
  have back : ∀ a, Own (σ.set i v) (e.set i t) a → Own σ e a ∨ (t.own = true ∧ v = some (.ref a)) := by
    rintro a ⟨j, u, hj, ou, pj⟩
    rcases get_set hj with ⟨z1, z2⟩ | ⟨z1, z2⟩
    · rw [z1, slot_same hl] at pj
      rw [z2] at ou
      exact .inr ⟨ou, pj⟩
    · rw [slot_ne z1] at pj
      exact .inl ⟨j, u, z2, ou, pj⟩
  constructor
  · refine ⟨st.fz, st.keep, st.there, st.newF, fun a h => ?_, fun j u hj lj => ?_⟩
    · rcases back a h with z | ⟨z1, z2⟩
      · exact st.newO a z
      · exact (hn a z1 z2).2
    · obtain ⟨h1, u', h2, h3⟩ := st.held j u hj lj
      have ne : j ≠ i := fun z => by
        rw [z, hi] at h2
        cases h2
        have l2 := h3.lent lj
        rw [hs] at l2
        cases l2
      exact ⟨by rw [slot_ne ne]; exact h1, u', by rw [List.getElem?_set_ne (fun z => ne z.symm)]; exact h2, h3⟩
  · refine ⟨k.sub, by rw [List.length_set, List.length_set]; exact k.len, fun j u hj => ?_, fun j l u w b hjl hj hl' oj ol hb => ?_, k.tab⟩
    · rcases get_set hj with ⟨z1, z2⟩ | ⟨z1, z2⟩
      · rw [z1, z2, slot_same hl]
        exact ho
      · rw [slot_ne z1]
        exact k.pl j u z2
    · rcases get_set hj with ⟨z1, z2⟩ | ⟨z1, z2⟩
      · rcases get_set hl' with ⟨y1, _⟩ | ⟨y1, y2⟩
        · exact absurd (z1.trans y1.symm) hjl
        · rw [z1, slot_same hl] at hb
          rw [z2] at oj
          rw [slot_ne y1]
          exact fun q => (hn b oj hb).1 ⟨l, w, y2, ol, q⟩
      · rcases get_set hl' with ⟨y1, y2⟩ | ⟨y1, y2⟩
        · rw [slot_ne z1] at hb
          rw [y1, slot_same hl]
          rw [y2] at ol
          exact fun q => (hn b ol q).1 ⟨j, u, z2, oj, hb⟩
        · rw [slot_ne z1] at hb
          rw [slot_ne y1]
          exact k.apart j l u w b hjl z2 y2 oj ol hb
/-- a place is stored to -/
theorem store_okE {i : Nat} {r : Rs} {v : V} (st : Stp F0 σ0 H0 e0 F σ H e) (k : Ok g F σ H e) (rr : RsOk g (Bs σ0 H0 e0) F σ H e v r) (hp : put e i r = some e1) : Stp F0 σ0 H0 e0 F (σ.set i (some v)) H e1 ∧ Ok g F (σ.set i (some v)) H e1 := by
  unfold put at hp
  split at hp
  · cases hp
  · cases hp
  · cases hp
  · cases hp
  · next s n1 n2 n3 hi =>
    cases hp
    have hs : s.lent = false := by
      cases s with
      | le x => exact (n1 x rfl).elim
      | ls x => exact (n2 x rfl).elim
      | lk x => exact (n3 x rfl).elim
      | _ => rfl
    cases r with
    | v w => exact set_ok st k hi hs ⟨v, rfl, rr⟩ fun a h => by cases h
    | o x =>
      obtain ⟨a, h1, h2, h3, h4⟩ := rr
      refine set_ok st k hi hs ⟨a, by rw [h1], h2.nf, h3⟩ fun b _ hb => ?_
      rw [h1] at hb
      cases hb
      exact ⟨h2.no, h4⟩
theorem put_len {e e1 : Env} {i : Nat} {r : Rs} (h : put e i r = some e1) : ∃ s, e1 = e.set i s := by
  unfold put at h
  split at h <;> cases h
  exact ⟨_, rfl⟩
end

/-! ### targets -/
mutual
def tgG (K : PySem.W.Frag) : T → TG
  | .nm i => gName i
  | .tp ts => gTup K ts.length (tgGs K ts)
def tgGs (K : PySem.W.Frag) : List T → TGs
  | [] => gNil
  | t :: ts => gCons (tgG K t) (tgGs K ts)
end
/-- the same but at these places -/
def SameAt (l : List Nat) (σ σ' : L2.St) : Prop := σ'.length = σ.length ∧ ∀ j, j ∉ l → σ'[j]? = σ[j]?
theorem SameAt.refl {l : List Nat} {σ : L2.St} : SameAt l σ σ := ⟨rfl, fun _ _ => rfl⟩
theorem SameAt.trans {l m : List Nat} {σ σ1 σ2 : L2.St} (a : SameAt l σ σ1) (b : SameAt m σ1 σ2) : SameAt (l ++ m) σ σ2 :=
  ⟨b.1.trans a.1, fun j h => by
    rw [List.mem_append, not_or] at h
    exact (b.2 j h.2).trans (a.2 j h.1)⟩
section
variable {g : G} {F0 H0 : Hp} {σ0 : L2.St} {e0 : Env}
mutual
theorem bind_ok : ∀ (t : T) {F H : Hp} {σ : L2.St} {e e1 : Env} {v : V} {d : PyData} {Q : L2.St → Hp → Prop}, Stp F0 σ0 H0 e0 F σ H e → Ok g F σ H e → Rep g F v d → bindT t d e = some e1 →
    (∀ σ', SameAt t.slots σ σ' → Stp F0 σ0 H0 e0 F σ' H e1 → Ok g F σ' H e1 → Q σ' H) → tgG g.K t v σ H Q
  | .nm i, F, H, σ, e, e1, v, d, Q, st, k, r, hb, q => by
    unfold bindT at hb
    obtain ⟨s2, k2⟩ := store_okE (r := .v (.d d)) st k r hb
    exact q _ ⟨List.length_set, fun j h => List.getElem?_set_ne fun z => h (by rw [← z]; exact List.mem_singleton.mpr rfl)⟩ s2 k2
  | .tp ts, F, H, σ, e, e1, v, d, Q, st, k, r, hb, q => by
    cases d with
    | tuple xs =>
      have hb' : bindTs ts xs e = some e1 := hb
      cases r with
      | tup h1 h2 =>
        rename_i a us
        have hl : xs.length = ts.length := binds_len ts hb'
        exact ⟨a, us, rfl, st_sub k.sub h1, by rw [h2.length]; exact hl, binds_ok ts st k h2 hb' q⟩
    | _ => cases hb
theorem binds_ok : ∀ (ts : List T) {F H : Hp} {σ : L2.St} {e e1 : Env} {vs : List V} {ds : List PyData} {Q : L2.St → Hp → Prop}, Stp F0 σ0 H0 e0 F σ H e → Ok g F σ H e → RepAll g F vs ds → bindTs ts ds e = some e1 →
    (∀ σ', SameAt (slotsAll ts) σ σ' → Stp F0 σ0 H0 e0 F σ' H e1 → Ok g F σ' H e1 → Q σ' H) → tgGs g.K ts vs σ H Q
  | [], F, H, σ, e, e1, vs, ds, Q, st, k, r, hb, q => by
    cases r with
    | nil =>
      cases hb
      exact ⟨rfl, q σ .refl st k⟩
    | cons _ _ => cases hb
  | t :: ts, F, H, σ, e, e1, vs, ds, Q, st, k, r, hb, q => by
    cases r with
    | nil => cases hb
    | cons r1 r2 =>
      rename_i v vs' d ds'
      unfold bindTs at hb
      cases hd : bindT t d e with
      | none => rw [hd] at hb; cases hb
      | some e2 =>
        rw [hd] at hb
        refine ⟨v, vs', rfl, bind_ok t st k r1 hd fun σ' sm s2 k2 => ?_⟩
        exact binds_ok ts s2 k2 r2 hb fun σ2 sm2 s3 k3 => q σ2 (sm.trans sm2) s3 k3
theorem binds_len : ∀ (ts : List T) {xs : List PyData} {e e1 : Env}, bindTs ts xs e = some e1 → xs.length = ts.length
  | [], [], _, _, _ => rfl
  | [], _ :: _, _, _, h => by cases h
  | _ :: _, [], _, _, h => by cases h
  | t :: ts, x :: xs, e, e1, h => by
    unfold bindTs at h
    cases hd : bindT t x e with
    | none => rw [hd] at h; cases h
    | some e2 =>
      rw [hd] at h
      rw [List.length_cons, List.length_cons, binds_len ts h]
end
end

/-! ### a block's own places -/
theorem wipe_slot (σ : L2.St) : ∀ (own : List Nat) (j : Nat), slot (wipe σ own) j = if j ∈ own then none else slot σ j
  | [], j => by simp [wipe]
  | i :: r, j => by
    unfold wipe
    by_cases h : j = i
    · subst h
      rw [if_pos List.mem_cons_self]
      by_cases hl : j < (wipe σ r).length
      · exact slot_same hl
      · unfold slot
        rw [List.getElem?_eq_none (by rw [List.length_set]; omega)]
        rfl
    · rw [slot_ne h, wipe_slot σ r j]
      simp [h]
theorem wipeE_len (e : Env) : ∀ own : List Nat, (wipeE e own).length = e.length
  | [] => rfl
  | i :: r => by unfold wipeE; rw [List.length_set, wipeE_len e r]
theorem wipeE_get (e : Env) : ∀ (own : List Nat) (j : Nat) (s : Sl), (wipeE e own)[j]? = some s → (j ∈ own ∧ s = .un) ∨ (j ∉ own ∧ e[j]? = some s)
  | [], j, s, h => .inr ⟨by simp, h⟩
  | i :: r, j, s, h => by
    unfold wipeE at h
    rcases get_set h with ⟨z1, z2⟩ | ⟨z1, z2⟩
    · exact .inl ⟨by rw [z1]; exact List.mem_cons_self, z2⟩
    · rcases wipeE_get e r j s z2 with ⟨y1, y2⟩ | ⟨y1, y2⟩
      · exact .inl ⟨List.mem_cons_of_mem _ y1, y2⟩
      · exact .inr ⟨by simp [z1, y1], y2⟩
theorem wipeE_keep (e : Env) : ∀ (own : List Nat) (j : Nat), j ∉ own → (wipeE e own)[j]? = e[j]?
  | [], _, _ => rfl
  | i :: r, j, h => by
    unfold wipeE
    rw [List.mem_cons, not_or] at h
    rw [List.getElem?_set_ne (fun z => h.1 z.symm), wipeE_keep e r j h.2]
theorem same_wipe {own l : List Nat} {σ σ' : L2.St} (s : SameAt l σ σ') (h : ∀ j ∈ l, j ∈ own) : wipe σ' own = wipe σ own := by
  apply List.ext_getElem?
  intro j
  by_cases hj : j < σ.length
  · have sl : ∀ τ : L2.St, τ.length = σ.length → (wipe τ own)[j]? = some (slot (wipe τ own) j) := fun τ hτ => by
      have : j < (wipe τ own).length := by rw [wipe_length, hτ]; exact hj
      unfold slot
      rw [List.getElem?_eq_getElem this]
      rfl
    rw [sl σ' s.1, sl σ rfl, wipe_slot, wipe_slot]
    by_cases hm : j ∈ own
    · rw [if_pos hm, if_pos hm]
    · rw [if_neg hm, if_neg hm]
      unfold slot
      rw [s.2 j fun z => hm (h j z)]
  · rw [List.getElem?_eq_none (by rw [wipe_length, s.1]; omega), List.getElem?_eq_none (by rw [wipe_length]; omega)]
section
variable {g : G} {F F0 H H0 : Hp} {σ σ0 : L2.St} {e e0 : Env} {own : List Nat}
theorem wipe_own {a : Addr} (h : Own (wipe σ own) (wipeE e own) a) : Own σ e a := by
  obtain ⟨j, s, hj, os, pj⟩ := h
  rcases wipeE_get e own j s hj with ⟨_, z⟩ | ⟨z1, z2⟩
  · rw [z] at os
    cases os
  · rw [wipe_slot, if_neg z1] at pj
    exact ⟨j, s, z2, os, pj⟩
theorem wipe_ok (k : Ok g F σ H e) : Ok g F (wipe σ own) H (wipeE e own) := by
  refine ⟨k.sub, by rw [wipeE_len, wipe_length]; exact k.len, fun j s hj => ?_, fun j l s t b hjl hj hl oj ol hb => ?_, k.tab⟩
  · rcases wipeE_get e own j s hj with ⟨_, z⟩ | ⟨z1, z2⟩
    · rw [z]
      trivial
    · rw [wipe_slot, if_neg z1]
      exact k.pl j s z2
  · rcases wipeE_get e own j s hj with ⟨_, z⟩ | ⟨z1, z2⟩
    · rw [z] at oj
      cases oj
    · rcases wipeE_get e own l t hl with ⟨_, y⟩ | ⟨y1, y2⟩
      · rw [y] at ol
        cases ol
      · rw [wipe_slot, if_neg z1] at hb
        rw [wipe_slot, if_neg y1]
        exact k.apart j l s t b hjl z2 y2 oj ol hb
/-- from a start whose own places are not lent -/
theorem wipe_stp (st : Stp F0 σ0 H0 e0 F σ H e) (h : ∀ i ∈ own, ∀ s, e0[i]? = some s → s.lent = false) : Stp F0 σ0 H0 e0 F (wipe σ own) H (wipeE e own) := by
  refine ⟨st.fz, st.keep, st.there, st.newF, fun a q => st.newO a (wipe_own q), fun j s hj lj => ?_⟩
  have hn : j ∉ own := fun z => by
    have y := h j z s hj
    rw [lj] at y
    cases y
  obtain ⟨h1, t, h2, h3⟩ := st.held j s hj lj
  exact ⟨by rw [wipe_slot, if_neg hn]; exact h1, t, by rw [wipeE_keep e own j hn]; exact h2, h3⟩
theorem backE_len (e f : Env) : ∀ own : List Nat, (backE e f own).length = f.length
  | [] => rfl
  | i :: r => by
    unfold backE
    split
    · rw [List.length_set, backE_len e f r]
    · exact backE_len e f r
theorem backE_get (e f : Env) (hl : e.length = f.length) : ∀ (own : List Nat) (j : Nat), (backE e f own)[j]? = if j ∈ own then e[j]? else f[j]?
  | [], j => by simp [backE]
  | i :: r, j => by
    unfold backE
    have ih := backE_get e f hl r j
    cases hi : e[i]? with
    | none =>
      simp only
      rw [ih]
      by_cases hj : j = i
      · subst hj
        have hlt : e.length ≤ j := List.getElem?_eq_none_iff.mp hi
        have e1 : f[j]? = none := List.getElem?_eq_none (by omega)
        rw [e1, hi]
        split <;> simp
      · simp [hj]
    | some s =>
      simp only
      by_cases hj : j = i
      · subst hj
        have hlt : j < e.length := (List.getElem?_eq_some_iff.mp hi).1
        rw [List.getElem?_set_self (by rw [backE_len]; omega), if_pos List.mem_cons_self, hi]
      · rw [List.getElem?_set_ne (fun z => hj z.symm), ih]
        simp [hj]
/-- behind a block: the outer places -/
theorem back_ok {F1 H1 : Hp} {e1 f : Env} (k1 : Ok g F1 σ H1 e1) (st : Stp F1 (wipe σ own) H1 (wipeE e1 own) F (wipe σ own) H f) (k : Ok g F (wipe σ own) H f) : Stp F1 σ H1 e1 F σ H (backE e1 f own) ∧ Ok g F σ H (backE e1 f own) := by
  have hl : e1.length = f.length := by rw [k1.len, k.len, wipe_length]
  have get := backE_get e1 f hl own
  -- an own place of the block's keeps what it has
  have keepO : ∀ {i s a}, i ∈ own → e1[i]? = some s → s.own = true → slot σ i = some (.ref a) → ¬ Own (wipe σ own) (wipeE e1 own) a := by
    rintro i s a hi hs os ha ⟨j, t, hj, ot, pj⟩
    rcases wipeE_get e1 own j t hj with ⟨_, z⟩ | ⟨z1, z2⟩
    · rw [z] at ot
      cases ot
    · rw [wipe_slot, if_neg z1] at pj
      exact k1.apart i j s t a (fun z => z1 (z ▸ hi)) hs z2 os ot ha pj
  have there : ∀ {i s a}, i ∈ own → e1[i]? = some s → s.own = true → slot σ i = some (.ref a) → F a = none ∧ H1 a ≠ none ∧ H a = H1 a ∧ ¬ Own (wipe σ own) f a := by
    intro i s a hi hs os ha
    have n := keepO hi hs os ha
    have ow : Own σ e1 a := ⟨i, s, hs, os, ha⟩
    have hH := k1.ownH ow
    have hF := k1.ownF ow
    refine ⟨?_, hH, ?_, fun z => ?_⟩
    · cases q : F a with
      | none => rfl
      | some u =>
        rcases st.newF a (by rw [q]; simp) with y | y | y
        · exact absurd hF y
        · exact absurd y n
        · exact absurd y hH
    · obtain ⟨b, x, h1, _, h3, _⟩ := k1.own hs os
      rw [ha] at h1
      cases h1
      obtain ⟨u, hu, hu2, _⟩ := h3.here
      rw [hu]
      exact st.keep a u hu n hu2
    · rcases st.newO a z with y | y
      · exact n y
      · exact hH y
  have toOut : ∀ {j s}, (backE e1 f own)[j]? = some s → (j ∈ own ∧ e1[j]? = some s) ∨ (j ∉ own ∧ f[j]? = some s) := fun {j s} h => by
    rw [get j] at h
    by_cases hm : j ∈ own
    · rw [if_pos hm] at h
      exact .inl ⟨hm, h⟩
    · rw [if_neg hm] at h
      exact .inr ⟨hm, h⟩
  have sl : ∀ {j}, j ∉ own → slot (wipe σ own) j = slot σ j := fun {j} h => by rw [wipe_slot, if_neg h]
  constructor
  · refine ⟨st.fz, fun a o h n => st.keep a o h fun z => n (wipe_own z), st.there, fun a h => ?_, fun a h => ?_, fun j s hj lj => ⟨rfl, ?_⟩⟩
    · rcases st.newF a h with z | z | z
      · exact .inl z
      · exact .inr (.inl (wipe_own z))
      · exact .inr (.inr z)
    · obtain ⟨j, s, hj, os, pj⟩ := h
      rcases toOut hj with ⟨z1, z2⟩ | ⟨z1, z2⟩
      · exact .inl ⟨j, s, z2, os, pj⟩
      · rcases st.newO a ⟨j, s, z2, os, by rw [sl z1]; exact pj⟩ with y | y
        · exact .inl (wipe_own y)
        · exact .inr y
    · rw [get j]
      by_cases hm : j ∈ own
      · rw [if_pos hm]
        refine ⟨s, hj, ?_⟩
        cases s <;> first | rfl | trivial | exact ⟨_, .inl rfl⟩
      · rw [if_neg hm]
        obtain ⟨_, t, h2, h3⟩ := st.held j s (by rw [wipeE_keep e1 own j hm]; exact hj) lj
        exact ⟨t, h2, h3⟩
  · refine ⟨k.sub, by rw [backE_len, ← hl]; exact k1.len, fun j s hj => ?_, fun j l s t b hjl hj hl' oj ol hb => ?_, k.tab⟩
    · rcases toOut hj with ⟨z1, z2⟩ | ⟨z1, z2⟩
      · have p := k1.pl j s z2
        cases s with
        | un => trivial
        | va w =>
          obtain ⟨v, h1, h2⟩ := p
          exact ⟨v, h1, h2.mono st.fz⟩
        | ls y =>
          obtain ⟨v, h1, h2⟩ := p
          exact ⟨v, h1, h2.mono st.fz⟩
        | ow y =>
          obtain ⟨a, h1, _, h3⟩ := p
          obtain ⟨q1, _, q3, _⟩ := there z1 z2 rfl h1
          exact ⟨a, h1, q1, h3.move st.fz q3⟩
        | le y =>
          obtain ⟨a, h1, _, h3⟩ := p
          obtain ⟨q1, _, q3, _⟩ := there z1 z2 rfl h1
          exact ⟨a, h1, q1, h3.move st.fz q3⟩
        | lk y =>
          obtain ⟨a, h1, _, h3⟩ := p
          obtain ⟨q1, _, q3, _⟩ := there z1 z2 rfl h1
          exact ⟨a, h1, q1, h3.move st.fz q3⟩
      · rw [← sl z1]
        exact k.pl j s z2
    · rcases toOut hj with ⟨z1, z2⟩ | ⟨z1, z2⟩
      · obtain ⟨_, _, _, q4⟩ := there z1 z2 oj hb
        rcases toOut hl' with ⟨y1, y2⟩ | ⟨y1, y2⟩
        · exact k1.apart j l s t b hjl z2 y2 oj ol hb
        · exact fun q => q4 ⟨l, t, y2, ol, by rw [sl y1]; exact q⟩
      · rcases toOut hl' with ⟨y1, y2⟩ | ⟨y1, y2⟩
        · intro q
          obtain ⟨_, _, _, q4⟩ := there y1 y2 ol q
          exact q4 ⟨j, s, z2, oj, by rw [sl z1]; exact hb⟩
        · rw [← sl y1]
          rw [← sl z1] at hb
          exact k.apart j l s t b hjl z2 y2 oj ol hb
/-- an object that nobody holds changes -/
theorem tmp_ok {a : Addr} {u : HO} {xs : List V} (k : Ok g F σ H e) (hF : F a = none) (hn : ¬ Own σ e a) (hx : H a = some (.lst xs) ∨ H a = none) : Ok g F σ (upd H a u) e := by
  have mv : ∀ {i s b y}, e[i]? = some s → s.own = true → slot σ i = some (.ref b) → OwnAt g F H b y → OwnAt g F (upd H a u) b y := fun {i s b y} hi os hb o => o.move (.refl F) (upd_ne fun z => hn ⟨i, s, hi, os, by rw [← z]; exact hb⟩)
  refine ⟨fun b v hb => ?_, k.len, fun i s hi => ?_, k.apart, ?_⟩
  · rw [upd_ne (fun z => by rw [z, hF] at hb; cases hb)]
    exact k.sub b v hb
  · have p := k.pl i s hi
    cases s with
    | un => trivial
    | va w => exact p
    | ls y => exact p
    | ow y =>
      obtain ⟨b, h1, h2, h3⟩ := p
      exact ⟨b, h1, h2, mv hi rfl h1 h3⟩
    | le y =>
      obtain ⟨b, h1, h2, h3⟩ := p
      exact ⟨b, h1, h2, mv hi rfl h1 h3⟩
    | lk y =>
      obtain ⟨b, h1, h2, h3⟩ := p
      exact ⟨b, h1, h2, mv hi rfl h1 h3⟩
  · rcases hx with hx | hx
    · exact ⟨tabs_lst k.tab.1 hx, k.tab.2⟩
    · exact ⟨k.tab.1.ext fun b o e => by
        rw [upd_ne (fun z => by rw [z, hx] at e; cases e)]
        exact e, k.tab.2⟩
theorem Stp.at_new {F' H' : Hp} {σ' : L2.St} {e' : Env} {a : Addr} {u : HO} (s : Stp F σ H e F' σ' H' e') (h : H a = none) : Stp F σ H e F' σ' (upd H' a u) e' where
  fz := s.fz
  keep := fun b o hb n t => by
    rw [upd_ne (fun z => by rw [z, h] at hb; cases hb)]
    exact s.keep b o hb n t
  there := fun b hb => by
    rw [upd_ne (fun z => hb (by rw [z]; exact h))]
    exact s.there b hb
  newF := s.newF
  newO := s.newO
  held := s.held
end
end Ev
set_option Elab.async false
set_option linter.all false
set_option maxRecDepth 100000
set_option maxHeartbeats 1000000
/-! EvM: comprehensions. -/
namespace Ev
open PySem PySem.Spec PyProof.Rows L2
def tIfs (g : G) (W : WX) (m : Env → R Bool) : TT := fun σ H Q => ∃ F e, Ok g F σ H e ∧ Out g F σ H e (m e) W fun b e' => ∀ F' H', Stp F σ H e F' σ H' e' → Ok g F' σ H' e' → Q b H'
theorem pts_of {X : Cx} {e : List Expr} {t t' : TT} (h : PTs X e t) (i : ∀ σ H Q, t' σ H Q → t σ H Q) : PTs X e t' := ⟨fun pins s σ H Q I q => h.run pins s σ H Q I (i σ H Q q)⟩
section
variable {g : G} {X : Cx} {W : WX} {rv : Ev}
theorem ifs_nil : PTs X [] (tIfs g W (evIfs rv [])) := pts_of pts_nil fun σ H Q ⟨F, e, k, o⟩ => (show ∀ F' H', Stp F σ H e F' σ H' e → Ok g F' σ H' e → Q true H' from o) F H .refl k
theorem ifs_one {c : Expr} {x : E} (h : PT X c (tB g W (rv true x))) : PTs X [c] (tIfs g W (evIfs rv [x])) := by
  refine pts_of (pts_one h) fun σ H Q ⟨F, e, k, o⟩ => ⟨F, e, k, ?_⟩
  refine (show Out g F σ H e (R.bind (β := Bool) (rv true x e) fun r e1 => match r with
    | .v (.d (.bool true)) => some (.ok true e1)
    | .v (.d (.bool false)) => some (.ok false e1)
    | _ => none) W _ from o).bind.imp fun r e1 _ o1 => ?_
  split at o1
  · exact ⟨true, rfl, o1⟩
  · exact ⟨false, rfl, o1⟩
  · exact o1.elim
end
section
variable {g : G} {F F1 H H1 : Hp} {σ : L2.St} {e e1 f : Env} {own : List Nat} {a : Addr}
theorem wipe_same : SameAt own σ (wipe σ own) := ⟨wipe_length _ _, fun j h => by
  induction own with
  | nil => rfl
  | cons i r ih =>
    rw [List.mem_cons, not_or] at h
    unfold wipe
    rw [List.getElem?_set_ne (fun z => h.1 z.symm)]
    exact ih h.2⟩
theorem wipe_wipe : wipe (wipe σ own) own = wipe σ own := same_wipe wipe_same fun _ h => h
theorem wipe_un {i : Nat} (hi : i ∈ own) (s : Sl) (h : (wipeE e own)[i]? = some s) : s.lent = false := by
  rcases wipeE_get e own i s h with ⟨_, z⟩ | ⟨z, _⟩
  · rw [z]
    rfl
  · exact absurd hi z
theorem back_own (hl : e1.length = f.length) (h : Own σ (backE e1 f own) a) : Own σ e1 a ∨ Own (wipe σ own) f a := by
  obtain ⟨j, s, hj, os, pj⟩ := h
  rw [backE_get e1 f hl own j] at hj
  by_cases hm : j ∈ own
  · rw [if_pos hm] at hj
    exact .inl ⟨j, s, hj, os, pj⟩
  · rw [if_neg hm] at hj
    exact .inr ⟨j, s, hj, os, by rw [wipe_slot, if_neg hm]; exact pj⟩
theorem unlock_own : ∀ (held : List (Nat × Bool)) {e : Env}, Own σ (unlock e held) a → Own σ e a
  | [], _, h => h
  | (i, l) :: r, e, h => by
    unfold unlock at h
    split at h
    · next x hx =>
      refine unlock_own r ((swap_own hx rfl ?_ a).mp h)
      cases l <;> rfl
    · exact unlock_own r h
end
/-- no error leaves a block -/
abbrev W0 : WX := fun _ _ _ _ => False
/-- what one turn does: the place it binds, its tests, its value -/
theorem cmpOne_ok {rv : Ev} {elt : E} {t : T} {ifs : List E} {own : List Nat} {x : PyData} {e e' : Env} {ys : List PyData} (h : cmpOne rv elt t ifs own x e = some (.ok ys e')) :
    ∃ ea b eb, bindT t x e = some ea ∧ evIfs rv ifs ea = some (.ok b eb) ∧ ((b = true ∧ ∃ y ec, evGive rv elt eb = some (.ok y ec) ∧ ys = [y] ∧ e' = wipeE ec own) ∨ (b = false ∧ ys = [] ∧ e' = wipeE eb own)) := by
  unfold cmpOne at h
  cases hb : bindT t x e with
  | none => rw [hb] at h; cases h
  | some ea =>
    rw [hb] at h
    simp only at h
    cases hi : evIfs rv ifs ea with
    | none => rw [hi] at h; cases h
    | some u =>
      cases u with
      | er c v e2 => rw [hi] at h; cases h
      | ok b eb =>
        rw [hi] at h
        refine ⟨ea, b, eb, rfl, hi, ?_⟩
        have h' : (if b then R.bind (evGive rv elt eb) fun y e3 => some (.ok [y] (wipeE e3 own)) else some (.ok [] (wipeE eb own))) = some (.ok ys e') := h
        cases b with
        | false =>
          cases h'
          exact .inr ⟨rfl, rfl, rfl⟩
        | true =>
          rw [if_pos rfl] at h'
          cases hg : evGive rv elt eb with
          | none => rw [hg] at h'; cases h'
          | some u =>
            cases u with
            | er c v e2 => rw [hg] at h'; cases h'
            | ok y ec =>
              rw [hg] at h'
              cases h'
              exact .inl ⟨rfl, y, ec, rfl, rfl, rfl⟩
theorem cmpGo_cons {one : PyData → Env → R (List PyData)} {x : PyData} {xs ys : List PyData} {e f : Env} (h : cmpGo one (x :: xs) e = some (.ok ys f)) : ∃ y1 e' zs, one x e = some (.ok y1 e') ∧ cmpGo one xs e' = some (.ok zs f) ∧ ys = y1 ++ zs := by
  unfold cmpGo at h
  cases h1 : one x e with
  | none => rw [h1] at h; cases h
  | some u =>
    cases u with
    | er c v e2 => rw [h1] at h; cases h
    | ok y1 e' =>
      rw [h1] at h
      have h' : R.bind (cmpGo one xs e') (fun zs e2 => some (.ok (y1 ++ zs) e2)) = some (.ok ys f) := h
      cases h2 : cmpGo one xs e' with
      | none => rw [h2] at h'; cases h'
      | some u =>
        cases u with
        | er c v e2 => rw [h2] at h'; cases h'
        | ok zs f' =>
          rw [h2] at h'
          cases h'
          exact ⟨y1, e', zs, rfl, h2, rfl⟩
section
variable {q : Qn} {X : Cx} {C : V → Wd → Hp → Prop} {W : WX} {rv : Ev}
/-- a walk within a block, at a later state -/
theorem wk_in {F1 F H1 H : Hp} {σ : L2.St} {e1 e : Env} {own : List Nat} {g : G} (k1 : Ok g F1 σ H1 e1) (st : Stp F1 (wipe σ own) H1 (wipeE e1 own) F (wipe σ own) H e) (k : Ok g F (wipe σ own) H e) :
    Stp F1 σ H1 e1 F σ H (backE e1 e own) ∧ Ok g F σ H (backE e1 e own) := back_ok k1 st k
theorem cmp_key {elt : E} {t : T} {it : It} {src ifs : List E} {own : List Nat} (ht : ∀ j ∈ t.slots, j ∈ own) {σ : L2.St} {H : Hp} {Q : VK} (i : tR (q.at X C) W (eCmp rv elt t it src ifs own) σ H Q) :
    tLc (tIt (q.at X C) W (evIt rv it src)) (tgG X.K t) (tIfs (q.at X C) W0 (evIfs rv ifs)) (tG (q.at X C) W0 (evGive rv elt)) own σ H Q := by
  obtain ⟨F0, e0, k0, o⟩ := i
  refine ⟨F0, e0, k0, (show Out (q.at X C) F0 σ H e0 (R.bind (evIt rv it src e0) (eCmpL (cmpOne rv elt t ifs own) own)) W _ from o).bind.imp fun p e1 _ o1 J F1 H1 k1 brk wk D hD => ?_⟩
  obtain ⟨ds, held⟩ := p
  unfold eCmpL at o1
  cases hgo : cmpGo (cmpOne rv elt t ifs own) ds (wipeE e1 own) with
  | none => simp only [hgo, noEr] at o1; exact o1.elim
  | some u =>
    cases u with
    | er c v e2 => simp only [hgo, noEr] at o1; exact o1.elim
    | ok ys fe =>
      simp only [hgo, noEr] at o1
      have o2 : Out (q.at X C) F0 σ H e0 (eEnd own e1 held ys fe) W _ := o1
      unfold eEnd at o2
      by_cases hz : ys.length ≤ lim
      · rw [if_pos hz] at o2
        have fin : ∀ v F' H', Stp F0 σ H e0 F' σ H' (unlock (backE e1 fe own) held) → Ok (q.at X C) F' σ H' (unlock (backE e1 fe own) held) → RsOk (q.at X C) (Bs σ H e0) F' σ H' (unlock (backE e1 fe own) held) v (.o (.list ys)) → Q v H' := o2
        have H0D : H D = none := by
          cases hh : H D with
          | none => rfl
          | some u => exact absurd hD ((brk F1 σ H1 e1 .refl k1).1.there D (by rw [hh]; simp))
        have nF1 : F1 D = none := by
          cases hh : F1 D with
          | none => rfl
          | some u =>
            have z := k1.sub D u hh
            rw [hD] at z
            cases z
        have nO1 : ¬ Own σ e1 D := fun z => k1.ownH z hD
        have kw := wipe_ok (own := own) k1
        have nOw : ¬ Own (wipe σ own) (wipeE e1 own) D := fun z => nO1 (wipe_own z)
        let WW : Nat → Nat → Hp → Prop := fun i m H' => m = ds.length - i ∧ i ≤ ds.length ∧ ∃ F e acc dn zs, Stp F1 (wipe σ own) H1 (wipeE e1 own) F (wipe σ own) H' e ∧ Ok (q.at X C) F (wipe σ own) H' e ∧ H' D = some (.lst acc) ∧ RepAll (q.at X C) F acc dn ∧
          cmpGo (cmpOne rv elt t ifs own) (ds.drop i) e = some (.ok zs fe) ∧ ys = dn ++ zs ∧ F D = none ∧ ¬ Own (wipe σ own) e D
        refine ⟨WW, ⟨ds.length, by simp, Nat.zero_le _, F1, wipeE e1 own, [], [], ys, (Stp.refl).at_new hD, tmp_ok (xs := []) kw nF1 nOw (.inr hD), upd_same, .nil, by rw [List.drop_zero]; exact hgo, rfl, nF1, nOw⟩, ?_⟩
        rintro i m H' ⟨rfl, hi, F, e, acc, dn, zs, st, k, hA, rA, hg, hys, nF, nO⟩
        obtain ⟨stb, kb⟩ := wk_in k1 st k
        by_cases hlt : i < ds.length
        · refine .inr ⟨wk.go i F σ H' _ hlt stb.lk kb, WW (i + 1) (ds.length - (i + 1)), fun H2 w2 => ⟨_, by omega, w2⟩, fun x H2 hy => ?_⟩
          obtain ⟨F2, d, hd, ps, rx⟩ := wk.yld i F σ H' _ x H2 hlt stb.lk kb hy
          obtain ⟨s2, k2⟩ := ps.ok k
          have hdrop : ds.drop i = d :: ds.drop (i + 1) := by
            obtain ⟨hl, he⟩ := List.getElem?_eq_some_iff.mp hd
            rw [List.drop_eq_getElem_cons hl, he]
          rw [hdrop] at hg
          obtain ⟨y1, e', zs', h1, h2, h3⟩ := cmpGo_cons hg
          obtain ⟨ea, b, eb, hb, hif, hc⟩ := cmpOne_ok h1
          refine bind_ok t s2 k2 rx hb fun σ' sm s3 k3 => ?_
          have hw : wipe σ' own = wipe σ own := (same_wipe sm ht).trans wipe_wipe
          have T0 : Tmp F (wipe σ own) H' e D := ⟨nF, nO, by rw [hA]; simp⟩
          -- the turn's end
          have fin2 : ∀ {F4 H4 : Hp} {ec : Env} {acc' : List V} {dn' : List PyData}, Stp F (wipe σ own) H' e F4 σ' H4 ec → Ok (q.at X C) F4 σ' H4 ec → RepAll (q.at X C) F4 acc' dn' → cmpGo (cmpOne rv elt t ifs own) (ds.drop (i + 1)) (wipeE ec own) = some (.ok zs' fe) → ys = dn' ++ zs' →
              WW (i + 1) (ds.length - (i + 1)) (upd H4 D (.lst acc')) := by
            intro F4 H4 ec acc' dn' s4 k4 r4 hg4 hy4
            have T4 := T0.step s4
            have s5 := wipe_stp (st.trans s4) (own := own) fun i hi s hs => wipe_un hi s hs
            have k5 := wipe_ok (own := own) k4
            rw [hw] at s5 k5
            have nO5 : ¬ Own (wipe σ own) (wipeE ec own) D := fun z => T4.no (wipe_own (by rw [hw]; exact z))
            have hD4 : H4 D = some (.lst acc) := s4.keep D _ hA nO (lst_not acc).1
            exact ⟨rfl, hlt, F4, wipeE ec own, acc', dn', zs', s5.at_new hD, tmp_ok k5 T4.nf nO5 (.inl hD4), upd_same, r4, hg4, hy4, T4.nf, nO5⟩
          refine ⟨hw, F2, ea, k3, ?_⟩
          rw [hif]
          intro F3 H3 s4 k4
          have sT := s3.trans s4
          rcases hc with ⟨hbt, y, ec, hgv, hy1, he'⟩ | ⟨hbf, hy1, he'⟩
          · subst hbt
            show tG (q.at X C) W0 (evGive rv elt) σ' H3 _
            refine ⟨F3, eb, k4, ?_⟩
            rw [hgv]
            intro v F4 H4 s5 k5 r5
            have sT5 := sT.trans s5
            have hD4 : H4 D = some (.lst acc) := sT5.keep D _ hA nO (lst_not acc).1
            refine ⟨acc, hD4, ?_, ?_⟩
            · have e1 : ys.length = dn.length + (1 + zs'.length) := by
                rw [hys, h3, hy1]
                simp
                omega
              have hz' : ys.length ≤ 16777216 := hz
              rw [rA.length, sizeLine_eq]
              omega
            · refine fin2 sT5 k5 ((rA.mono sT5.fz).append (.one r5)) (by rw [← he']; exact h2) ?_
              rw [hys, h3, hy1, List.append_assoc]
          · subst hbf
            show WW (i + 1) (ds.length - (i + 1)) H3
            have hD4 : H3 D = some (.lst acc) := sT.keep D _ hA nO (lst_not acc).1
            have z := fin2 sT k4 (rA.mono sT.fz) (by rw [← he']; exact h2) (by rw [hys, h3, hy1]; rfl)
            have e1 : upd H3 D (.lst acc) = H3 := by
              funext c
              by_cases hc : c = D
              · rw [hc, upd_same, hD4]
              · rw [upd_ne hc]
            rw [e1] at z
            exact z
        · have ei : i = ds.length := by omega
          subst ei
          rw [List.drop_length] at hg
          cases hg
          refine .inl ⟨wk.stop F σ H' _ stb.lk kb, ?_⟩
          obtain ⟨s6, k6⟩ := brk F σ H' _ stb kb
          refine fin (.ref D) F H' s6 k6 ⟨D, rfl, ⟨nF, fun z => ?_, by rw [hA]; simp⟩, ⟨acc, hA, ?_⟩, .inr H0D⟩
          · rcases back_own (by rw [k1.len, k.len, wipe_length]) (unlock_own held z) with y | y
            · exact nO1 y
            · exact nO y
          · rw [hys, List.append_nil]
            exact rA
      · rw [if_neg hz] at o2
        exact o2.elim
end
end Ev
set_option Elab.async false
set_option linter.all false
set_option maxRecDepth 100000
set_option maxHeartbeats 1000000
/-! EvDa: lists of data sorted. -/
namespace Ev
open PySem PySem.Spec PyProof.Rows L2
open PySem.W (TotalLe EachIs dataLe dataLt KeyPure KeepsBut)
/-! ### the sorted list, by insertion -/
section
variable {α : Type} {le lt lt' : α → α → Bool}
theorem insF_mem {x a : α} : ∀ {l : List α}, a ∈ isort.insF lt x l → a = x ∨ a ∈ l
  | [], h => by
    rw [isort.insF] at h
    exact .inl (List.mem_singleton.mp h)
  | y :: r, h => by
    rw [isort.insF] at h
    split at h
    · rcases List.mem_cons.mp h with z | z
      · exact .inr (z ▸ List.mem_cons_self)
      · rcases insF_mem z with w | w
        · exact .inl w
        · exact .inr (List.mem_cons_of_mem _ w)
    · rcases List.mem_cons.mp h with z | z
      · exact .inl z
      · exact .inr z
theorem isort_mem {a : α} : ∀ {l : List α}, a ∈ isort lt l → a ∈ l
  | [], h => h
  | x :: r, h => by
    rw [isort] at h
    rcases insF_mem h with z | z
    · exact z ▸ List.mem_cons_self
    · exact List.mem_cons_of_mem _ (isort_mem z)
theorem insF_at {x : α} : ∀ {l1 l2 : List α}, (∀ b ∈ l1, lt b x = true) → (∀ b ∈ l2, lt b x = false) → isort.insF lt x (l1 ++ l2) = l1 ++ x :: l2
  | [], [], _, _ => rfl
  | [], y :: r, _, h => by
    rw [List.nil_append, isort.insF, if_neg (by rw [h y List.mem_cons_self]; simp)]
    rfl
  | y :: r, l2, h1, h2 => by
    rw [List.cons_append, isort.insF, if_pos (h1 y List.mem_cons_self), insF_at (fun b hb => h1 b (List.mem_cons_of_mem _ hb)) h2]
    rfl
theorem insF_congr {x : α} : ∀ {l : List α}, (∀ y ∈ l, lt y x = lt' y x) → isort.insF lt x l = isort.insF lt' x l
  | [], _ => rfl
  | y :: r, h => by
    rw [isort.insF, isort.insF, h y List.mem_cons_self, insF_congr fun z hz => h z (List.mem_cons_of_mem _ hz)]
theorem isort_congr : ∀ {l : List α}, (∀ a ∈ l, ∀ b ∈ l, lt a b = lt' a b) → isort lt l = isort lt' l
  | [], _ => rfl
  | x :: r, h => by
    rw [isort, isort, ← isort_congr fun a ha b hb => h a (List.mem_cons_of_mem _ ha) b (List.mem_cons_of_mem _ hb)]
    exact insF_congr fun y hy => h y (List.mem_cons_of_mem _ (isort_mem hy)) x List.mem_cons_self
theorem isort_ms (T : TotalLe le) (hl : ∀ a b, lt a b = !le b a) : ∀ l : List α, isort lt l = l.mergeSort le
  | [] => by simp [isort]
  | x :: r => by
    have tr : ∀ a b c : α, le a b = true → le b c = true → le a c = true := T.trans
    have to : ∀ a b : α, (le a b || le b a) = true := fun a b => by
      rcases T.total a b with z | z <;> simp [z]
    obtain ⟨l1, l2, h1, h2, h3⟩ := List.mergeSort_cons tr to x r
    have hp := List.pairwise_mergeSort tr to (x :: r)
    rw [h1] at hp
    rw [isort, isort_ms T hl r, h2, h1]
    refine insF_at (fun b hb => ?_) fun b hb => ?_
    · rw [hl]
      exact h3 b hb
    · rw [hl]
      have z := (List.pairwise_append.mp hp).2.1
      rw [(List.pairwise_cons.mp z).1 b hb]
      rfl
end
/-! ### sums as keys -/
section
variable {prog : Program} {w : World} {A : Around} {s : Shared}
theorem sum_turn {a : Addr} {vs : Array Value} {ns : List Int} (hh : A.handled = none) (ht : IsTup s.heap a vs) (hi : IntsAre vs.toList ns) : wpAny (model prog w) A (call (.builtin "sum") [.ref a]) (KeyPure (.int ns.sum) s) (fun _ _ => False) s := by
  obtain ⟨zs, ez⟩ := hi.allInts.items
  have hn : numsOf (intItems zs).toList = ns := by rw [← ez]; exact hi.numsOf
  rw [nums_intItems] at hn
  have ht' : s.heap.IsTuple a (intItems zs) := by
    have z : IsTup s.heap a vs.toList.toArray := by rw [Array.toArray_toList]; exact ht
    rw [← ez]
    exact z
  refine sumT hh ht' fun h' tk t' hk => ⟨h', tk, rfl, hk, ?_⟩
  rw [preSum_eq, List.take_of_length_le (by simp), hn]
  exact .int _ _
end
end Ev
set_option Elab.async false
set_option linter.all false
set_option maxRecDepth 100000
set_option maxHeartbeats 1000000
/-! EvDb: sorted of data, sorted by sum. -/
namespace Ev
open PySem PySem.Spec PyProof.Rows L2
open PySem.W (TotalLe EachIs dataLe dataLt KeyPure KeepsBut)
section
variable {β : Type}
theorem vals_each (f : β → V) : ∀ {bs : List β} {us : List Value}, Vals (bs.map f) us → EachIs (fun u b => RelV (f b) u) us bs
  | [], _, r => by
    cases r
    exact .nil
  | b :: bs, _, r => by
    cases r with
    | cons h t => exact .cons h (vals_each f t)
theorem each_vals (f : β → V) : ∀ {bs : List β} {us : List Value}, EachIs (fun u b => RelV (f b) u) us bs → Vals (bs.map f) us
  | _, _, .nil => .nil
  | _, _, .cons h t => .cons h (each_vals f t)
theorem repAll_zip {g : G} {F : Hp} : ∀ {vs : List V} {ds : List PyData}, RepAll g F vs ds → ∀ p ∈ vs.zip ds, Rep g F p.1 p.2
  | _, _, .nil, _, h => by cases h
  | _, _, .cons r t, p, h => by
    rcases List.mem_cons.mp (by simpa using h) with z | z
    · rw [z]
      exact r
    · exact repAll_zip t p z
theorem repAll_map {g : G} {F : Hp} {f : β → V} {d : β → PyData} : ∀ {bs : List β}, (∀ b ∈ bs, Rep g F (f b) (d b)) → RepAll g F (bs.map f) (bs.map d)
  | [], _ => .nil
  | b :: bs, h => .cons (h b List.mem_cons_self) (repAll_map fun c hc => h c (List.mem_cons_of_mem _ hc))
end
/-- pairs of a value and what it stands for -/
theorem zip_fst {α β : Type} : ∀ {vs : List α} {ps : List β}, vs.length = ps.length → (vs.zip ps).map (·.1) = vs
  | [], [], _ => rfl
  | [], _ :: _, h => by cases h
  | _ :: _, [], h => by cases h
  | v :: vs, p :: ps, h => by
    rw [List.zip_cons_cons, List.map_cons, zip_fst (by simpa using h)]
theorem zip_snd {α β : Type} : ∀ {vs : List α} {ps : List β}, vs.length = ps.length → (vs.zip ps).map (·.2) = ps
  | [], [], _ => rfl
  | [], _ :: _, h => by cases h
  | _ :: _, [], h => by cases h
  | v :: vs, p :: ps, h => by
    rw [List.zip_cons_cons, List.map_cons, zip_snd (by simpa using h)]
theorem intsOf_ok : ∀ {xs : List PyData} {is : List Int}, intsOf xs = some is → xs = is.map .int
  | [], _, h => by
    cases h
    rfl
  | .int i :: r, is, h => by
    rw [intsOf] at h
    split at h
    · next ys hy =>
      cases h
      rw [intsOf_ok hy]
      rfl
    · cases h
  | .none :: r, is, h => by cases h
  | .bool _ :: r, is, h => by cases h
  | .str _ :: r, is, h => by cases h
  | .list _ :: r, is, h => by cases h
  | .tuple _ :: r, is, h => by cases h
  | .dict _ :: r, is, h => by cases h
theorem repAll_ints {g : G} {F : Hp} : ∀ {vs : List V} {is : List Int}, RepAll g F vs (is.map .int) → vs = is.map V.int
  | [], [], _ => rfl
  | v :: vs, i :: is, r => by
    cases r with
    | cons h t =>
      cases h
      rw [repAll_ints t]
      rfl
theorem sumsOf_ok : ∀ {ds : List PyData} {ps : List (Int × PyData)}, sumsOf ds = some ps → ps.map (·.2) = ds ∧ ∀ p ∈ ps, ∃ is : List Int, p.2 = .tuple (is.map .int) ∧ p.1 = is.sum
  | [], _, h => by
    cases h
    exact ⟨rfl, fun p hp => by cases hp⟩
  | .tuple xs :: r, ps, h => by
    rw [sumsOf] at h
    split at h
    · next is qs h1 h2 =>
      cases h
      obtain ⟨e, hq⟩ := sumsOf_ok h2
      refine ⟨by rw [List.map_cons, e], fun p hp => ?_⟩
      rcases List.mem_cons.mp hp with z | z
      · rw [z]
        exact ⟨is, by rw [intsOf_ok h1], rfl⟩
      · exact hq p z
    · cases h
  | .none :: r, is, h => by cases h
  | .bool _ :: r, is, h => by cases h
  | .str _ :: r, is, h => by cases h
  | .list _ :: r, is, h => by cases h
  | .int _ :: r, is, h => by cases h
  | .dict _ :: r, is, h => by cases h
section
variable {q : Qn} {X : Cx} {C : V → Wd → Hp → Prop} {pins : List (Addr × Obj)} {σ : L2.St} {H F : Hp} {s : Shared}
/-- a new list of the items us, sorted by their sums -/
theorem sort_sum (I : Inv X pins σ H s) (hc : X.calm = true) {l : Addr} {vs : List V} {us : List Value} {ds : List PyData} {ps : List (Int × PyData)} {h1 : Heap} {tk : Nat} {E : Value → Shared → Prop} {A : Around} {Q : Value → Shared → Prop} (hA : A.handled = X.A.handled) (hu : A.units + 3 < cLine) (sb : Sub F H) (r : RepAll (q.at X C) F vs ds) (rv : Vals vs us) (hp : sumsOf ds = some ps)
    (hk : ∀ b o, s.heap.get? b = some o → h1.get? b = some o) (hl : h1.get? l = some (seqObj "list" us.toArray 0)) (hn : s.heap.objs.size ≤ l) (hz : vs.length ≤ sizeLine)
    (h : ∀ s' vs', Inv X pins σ (upd H l (.lst vs')) s' → RepAll (q.at X C) F vs' ((isort (fun p q => decide (p.1 < q.1)) ps).map (·.2)) → Q .none s') :
    wpAny (model X.prog X.w) A (call (.builtin "list.sort") [.ref l] [(Str.ofString "key", .builtin "sum")]) Q E { s with heap := h1, toks := tk } := by
  obtain ⟨e2, hps⟩ := sumsOf_ok hp
  have hlen : vs.length = ps.length := by rw [r.length, ← e2, List.length_map]
  have f1 : (vs.zip ps).map (·.1) = vs := zip_fst hlen
  have f2 : (vs.zip ps).map (·.2) = ps := zip_snd hlen
  have hrep : ∀ p ∈ vs.zip ps, Rep (q.at X C) F p.1 p.2.2 := fun p hp => by
    have z : (p.1, p.2.2) ∈ vs.zip ds := by
      rw [← e2, List.zip_map_right]
      exact List.mem_map.mpr ⟨p, hp, rfl⟩
    exact repAll_zip r _ z
  have hnl : s.heap.get? l = none := Heap.get?_none_of_le hn
  have he : EachIs (fun u (p : V × Int × PyData) => RelV p.1 u) us (vs.zip ps) := vals_each (fun p : V × Int × PyData => p.1) (by rw [f1]; exact rv)
  refine PySem.W.list_sort_key_data (b := false) (s := { s with heap := h1, toks := tk }) (R := fun u (p : V × Int × PyData) => RelV p.1 u) (bs := vs.zip ps) (fun p => .int p.2.1) hl he (PySem.W.AllAlike.of fun _ _ => rfl) (PySem.W.Sortable.others fun _ => ⟨nofun, nofun⟩) (by rw [List.length_zip]; omega) (fun p _ => ?_) (PyProof.Rows.ksk_l1 _ _) (PyProof.Rows.ksk_t4 _ _) (fun u p hR hm h2 tk2 kb => ?_) fun out c h' tk' kb' ho hol hes => ?_
  · show A.units + 1 + PyData.depth (.int p.2.1) < cLine
    simp only [PyData.depth]
    omega
  · obtain ⟨is, e3, e4⟩ := hps p.2 (List.of_mem_zip hm).2
    have rp := hrep p hm
    rw [e3] at rp
    cases hv : p.1 with
    | ref a =>
      rw [hv] at rp hR
      cases hR
      cases rp with
      | tup qq rr =>
        rw [repAll_ints rr] at qq
        obtain ⟨its, rv2, ht, _⟩ := I.tuple (st_sub sb qq)
        have hne : a ≠ l := fun z => by
          obtain ⟨o, ho, _⟩ := ht
          rw [z, hnl] at ho
          cases ho
        have ht2 : IsTup h2 a its.toArray := by
          obtain ⟨o, ho, h3, n, h4⟩ := ht
          exact ⟨o, kb a o hne (hk a o ho), h3, n, h4⟩
        have z := sum_turn (prog := X.prog) (w := X.w) (A := A.in1) (s := { s with heap := h2, toks := tk2 }) (a := a) (vs := its.toArray) (ns := is) (hA.trans (I.ok.hd hc)) ht2 (by simpa using rv2.ints)
        rw [e4]
        exact z
    | _ =>
      rw [hv] at rp
      cases rp
  · have T := PySem.W.sortLe_total (α := Int × PyData) (listOrd itemOrd) false fun p => PySem.W.keyToks (.int p.1)
    have eS : ((vs.zip ps).mergeSort (dataLe false fun p => .int p.2.1)).map (·.2) = isort (fun p q => decide (p.1 < q.1)) ps := by
      rw [isort_ms T fun a b => ?_]
      · have e9 := List.map_mergeSort (f := fun p : V × Int × PyData => p.2) (r := dataLe false fun p : V × Int × PyData => .int p.2.1) (s := dataLe false fun p : Int × PyData => .int p.1) (l := vs.zip ps) fun a _ b _ => rfl
        rw [f2] at e9
        exact e9
      · show decide (a.1 < b.1) = !(dataLe false (fun p : Int × PyData => .int p.1) b a)
        rw [PySem.W.dataLe_int]
        simp only [decide_eq_decide, ← decide_not]
        omega
    have hperm := List.mergeSort_perm (vs.zip ps) (dataLe false fun p => .int p.2.1)
    generalize hS : (vs.zip ps).mergeSort (dataLe false fun p => .int p.2.1) = sl at eS hes hperm
    have hv := each_vals (fun p : V × Int × PyData => p.1) hes
    have I1 : Inv X pins σ (upd H l (.lst (sl.map fun p => p.1))) { s with heap := h', toks := tk' } := I.laid (t' := tk') (fun b u e => kb' b u (fun z => by rw [z, hnl] at e; cases e) (hk b u e)) hn ⟨by rw [List.length_map, hperm.length_eq, List.length_zip]; omega, out, c, hv, ho⟩
    refine h _ _ I1 ?_
    rw [← eS, List.map_map]
    exact repAll_map fun p hp => hrep p (hperm.mem_iff.mp hp)
end
end Ev
set_option Elab.async false
set_option linter.all false
set_option maxRecDepth 100000
set_option maxHeartbeats 1000000
/-! EvDc: sorted of data. -/
namespace Ev
open PySem PySem.Spec PyProof.Rows L2
open PySem.W (TotalLe EachIs dataLe dataLt)
mutual
theorem reads_at {h : Heap} : ∀ {v : Value} {d : PyData} {as : List Addr}, Reads h v d as → ∀ a ∈ as, ∃ o, h.get? a = some o
  | _, _, _, .none, a, ha => by cases ha
  | _, _, _, .bool _, a, ha => by cases ha
  | _, _, _, .int _ _, a, ha => by cases ha
  | _, _, _, .str _ _, a, ha => by cases ha
  | _, _, _, .list h1 _ _ h4, a, ha => by
    rcases List.mem_cons.mp ha with z | z
    · rw [z]
      exact ⟨_, h1⟩
    · exact readsAll_at h4 a z
  | _, _, _, .tuple _ _ _ h4, a, ha => readsAll_at h4 a ha
  | _, _, _, .dict h1 _ _ h4 h5, a, ha => by
    rcases List.mem_append.mp ha with z | z
    · rcases List.mem_cons.mp z with z | z
      · rw [z]
        exact ⟨_, h1⟩
      · exact readsAll_at h4 a z
    · exact readsAll_at h5 a z
theorem readsAll_at {h : Heap} : ∀ {vs : List Value} {ds : List PyData} {as : List Addr}, ReadsAll h vs ds as → ∀ a ∈ as, ∃ o, h.get? a = some o
  | _, _, _, .nil, a, ha => by cases ha
  | _, _, _, .cons h1 h2, a, ha => by
    rcases List.mem_append.mp ha with z | z
    · exact reads_at h1 a z
    · exact readsAll_at h2 a z
end
theorem alikeTo_ok {x : PyData} : ∀ {l : List PyData}, alikeTo x l = true → ∀ y ∈ l, PySem.W.alike x y = true ∧ PySem.W.alike y x = true
  | [], _, y, hy => by cases hy
  | z :: r, h, y, hy => by
    rw [alikeTo, Bool.and_eq_true, Bool.and_eq_true] at h
    rcases List.mem_cons.mp hy with e | e
    · rw [e]
      exact h.1
    · exact alikeTo_ok h.2 y e
theorem allAlike_ok : ∀ {l : List PyData}, allAlike l = true → PySem.W.AllAlike l
  | [], _, d, hd, _, _ => by cases hd
  | x :: r, h, d, hd, e, he => by
    rw [allAlike, Bool.and_eq_true, Bool.and_eq_true] at h
    have ht := alikeTo_ok h.1.2
    have hr := allAlike_ok h.2
    rcases List.mem_cons.mp hd with z | z
    · rcases List.mem_cons.mp he with y | y
      · rw [z, y]
        exact h.1.1
      · rw [z]
        exact (ht e y).1
    · rcases List.mem_cons.mp he with y | y
      · rw [y]
        exact (ht d z).2
      · exact hr d z e y
theorem sortable_ok {l : List PyData} (h : (l.all fullTup || l.all noTup) = true) : PySem.W.Sortable l := by
  rw [Bool.or_eq_true, List.all_eq_true, List.all_eq_true] at h
  rcases h with h | h
  · refine .inl fun d hd => ?_
    have z := h d hd
    cases d with
    | tuple xs =>
      cases xs with
      | nil => cases z
      | cons x r => exact ⟨x, r, rfl⟩
    | _ => cases z
  · refine .inr fun d hd => ?_
    have z := h d hd
    cases d with
    | tuple xs => cases z
    | none => cases z
    | _ => exact ⟨nofun, nofun⟩
theorem shaped_in {l : List PyData} (h : shp (.list l) = true) : ∀ d ∈ l, shp d = true := by
  have h' := h
  unfold shp SeqAt.shaped at h'
  rw [Bool.and_eq_true] at h'
  obtain ⟨h1, h2⟩ := h'
  have h3 : PyData.canLayAll0 l = true := by simpa [PyData.canLay0] using h1
  have h4 : PyData.depth (.list l) ≤ 64 := of_decide_eq_true h2
  simp only [PyData.depth] at h4
  have go : ∀ l : List PyData, PyData.canLayAll0 l = true → PyData.depthAll l + 1 ≤ 64 → ∀ d ∈ l, shp d = true := by
    intro l
    induction l with
    | nil => intro _ _ d hd; cases hd
    | cons x r ih =>
      intro a b d hd
      simp only [PyData.canLayAll0, Bool.and_eq_true] at a
      simp only [PyData.depthAll] at b
      rcases List.mem_cons.mp hd with z | z
      · rw [z]
        unfold shp SeqAt.shaped
        rw [Bool.and_eq_true]
        exact ⟨a.1, decide_eq_true (by omega)⟩
      · exact ih a.2 (by omega) d z
  exact go l h3 h4
theorem gen_kind : ∃ kd : PyProof.Rows.SortKind, ∀ x y, keyLt' kd x y = oneLt' false x y := ⟨by constructor, fun _ _ => rfl⟩
/-- one key, for the value u alone -/
noncomputable def soleK (u : Value) : PyProof.Rows.KeyKind where
  α := Unit
  blt := fun _ _ => false
  irrefl := fun _ => rfl
  trans := fun _ _ _ h _ => h
  negTrans := fun _ _ _ h => absurd h Bool.false_ne_true
  total := fun _ _ _ _ => rfl
  keyOf := fun v => @ite _ (v = u) (Classical.propDecidable _) (some ()) none
  dflt := ()
theorem sort_nil {prog : Program} {w : World} {A : Around} {E : Value → Shared → Prop} {s : Shared} {l : Addr} {u : Value} {as : List Addr} {Q : Value → Shared → Prop} (hu : A.units + 66 < cLine) (hl : s.heap.get? l = some (seqObj "list" [u].toArray 0)) (rd : Reads s.heap u (.tuple []) as) (hn : l ∉ as)
    (h : Q .none { s with heap := sortedHeap s.heap l [u] [u].toArray }) : wpAny (model prog w) A (call (.builtin "list.sort") [.ref l]) Q E s := by
  refine wpAny_call_entry PySem.F.slot_list_sort ⟨_, hl, rfl⟩ PySem.F.entry_list_sort ?_ (args_list_sort _)
  obtain ⟨kd, hkd⟩ := gen_kind
  have er : EachIs (fun u (d : PyData) => ∃ as, Reads s.heap u d as ∧ l ∉ as) [u] [.tuple []] := .cons ⟨as, rd, hn⟩ .nil
  have e2 := PySem.W.each_keepBut (bs := ([PyData.tuple []] : List PyData)) (enc := fun d : PyData => d) (h' := PySem.W.sortingHeap s.heap l [u]) (a := l) (fun b o hb e => PySem.W.sortingHeap_old hb e) (fun o e => by rw [hl] at e; cases e; rfl) (show PySem.W.AllAlike (List.map (fun d : PyData => d) [PyData.tuple []]) from allAlike_ok (l := [PyData.tuple []]) (by decide)) er
  have rd2 : ∃ as, Reads (PySem.W.sortingHeap s.heap l [u]) u (.tuple []) as := by
    cases e2 with
    | cons h _ => exact h
  obtain ⟨as2, rd2⟩ := rd2
  have key : ∀ x a, (soleK u).keyOf x = some a → x = u := fun x a hx => by
    have hx : (@ite _ (x = u) (Classical.propDecidable _) (some ()) none : Option Unit) = some a := hx
    split at hx
    · next e => exact e
    · cases hx
  have sv : PySem.W.sortVals (soleK u) false [u] [u] = [u] := by simp [PySem.W.sortVals]
  refine PySem.W.list_sort_vals (κ := soleK u) hl ⟨fun v hv => ⟨(), ?_⟩, kd, fun E' x y a b Q' hx hy hq => ?_, fun h2 => absurd (show 2 ≤ 1 from h2) (by decide)⟩ (by rw [sizeLine_eq]; show 1 ≤ 16777216; decide) ⟨_, rfl, ?_⟩
  · rw [List.mem_singleton] at hv
    subst hv
    show (@ite _ (v = v) (Classical.propDecidable _) (some ()) none : Option Unit) = some ()
    rw [if_pos rfl]
  · obtain rfl := key x a hx
    obtain rfl := key y b hy
    rw [hkd]
    have hz : PyData.depth (.tuple []) ≤ 8 := by decide
    exact PySem.W.oneLt_alike (f := false) (fun h => absurd h Bool.false_ne_true) rd2 rd2 (by decide) (by intro z; cases z) (by show A.units + 1 + _ < cLine; omega) hq
  · rw [sv]
    exact h
section
variable {q : Qn} {X : Cx} {C : V → Wd → Hp → Prop} {pins : List (Addr × Obj)} {σ : L2.St} {H F : Hp} {s : Shared}
/-- a new list of the items us, sorted -/
theorem sort_data (I : Inv X pins σ H s) {l : Addr} {vs : List V} {us : List Value} {ds : List PyData} {h1 : Heap} {tk : Nat} {E : Value → Shared → Prop} {A : Around} {Q : Value → Shared → Prop} (hu : A.units + 66 < cLine) (sb : Sub F H) (r : RepAll (q.at X C) F vs ds) (rv : Vals vs us) (hp : sortB ds = true)
    (hk : ∀ b o, s.heap.get? b = some o → h1.get? b = some o) (hl : h1.get? l = some (seqObj "list" us.toArray 0)) (hn : s.heap.objs.size ≤ l) (hz : vs.length ≤ sizeLine)
    (h : ∀ s' vs', Inv X pins σ (upd H l (.lst vs')) s' → RepAll (q.at X C) F vs' (isort dlt ds) → Q .none s') :
    wpAny (model X.prog X.w) A (call (.builtin "list.sort") [.ref l]) Q E { s with heap := h1, toks := tk } := by
  unfold sortB at hp
  rw [Bool.and_eq_true, Bool.and_eq_true] at hp
  obtain ⟨⟨p1, p2⟩, p3⟩ := hp
  have hal := allAlike_ok p1
  have hsh := shaped_in p2
  have hlen : vs.length = ds.length := r.length
  have f1 : (vs.zip ds).map (·.1) = vs := zip_fst hlen
  have f2 : (vs.zip ds).map (·.2) = ds := zip_snd hlen
  have hrep := repAll_zip r
  have hnl : s.heap.get? l = none := Heap.get?_none_of_le hn
  have he0 : EachIs (fun u (p : V × PyData) => RelV p.1 u) us (vs.zip ds) := vals_each (fun p : V × PyData => p.1) (by rw [f1]; exact rv)
  have er : EachIs (fun u (p : V × PyData) => ∃ as, Reads h1 u p.2 as ∧ l ∉ as) us (vs.zip ds) := (PySem.W.each_mem he0).mono fun u p ⟨hr, hm⟩ => by
    obtain ⟨as, r1⟩ := Dp.reads I p.2 p.1 u ((dp_rep sb).1 (hrep p hm) (SeqAt.canLay_of_shaped (hsh p.2 (List.of_mem_zip hm).2))) hr
    refine ⟨as, PyProof.Rows.Reads.keeps hk r1, fun z => ?_⟩
    obtain ⟨o, ho⟩ := reads_at r1 l z
    rw [hnl] at ho
    cases ho
  by_cases hsn : soleNil ds = true
  · have hds : ds = [.tuple []] := by
      unfold soleNil at hsn
      split at hsn
      · rfl
      · cases hsn
    subst hds
    match vs, us, r, rv, hl, er with
    | [v], [u], r, rv, hl, er =>
      obtain ⟨as, r1, r2⟩ : ∃ as, Reads h1 u (.tuple []) as ∧ l ∉ as := by
        cases er with
        | cons h _ => exact h
      refine sort_nil (s := { s with heap := h1, toks := tk }) hu hl r1 r2 ?_
      obtain ⟨ep, hat⟩ := PyProof.Rows.sortedHeap_at (vs := [u]) (out := [u].toArray) hl
      have I1 : Inv X pins σ (upd H l (.lst [v])) { s with heap := sortedHeap h1 l [u] [u].toArray, toks := tk } := I.laid (t' := tk) (fun b o e => by
        have hne : b ≠ l := fun z => by rw [z, hnl] at e; cases e
        rw [PyProof.Rows.sortedHeap_old hne (Heap.lt_size (hk b o e))]
        exact hk b o e) hn ⟨by rw [sizeLine_eq]; show 1 ≤ 16777216; decide, [u], ep, rv, hat⟩
      exact h _ _ I1 r
  have p3 : (ds.all fullTup || ds.all noTup) = true := by
    rw [Bool.or_eq_true] at p3
    exact p3.elim id fun z => absurd z hsn
  refine PySem.W.list_sort_data (s := { s with heap := h1, toks := tk }) (R := fun u (p : V × PyData) => RelV p.1 u) (enc := fun p : V × PyData => p.2) (bs := vs.zip ds) hl he0 er (by rw [f2]; exact hal) (by rw [f2]; exact sortable_ok p3) (by rw [List.length_zip]; omega) (fun p hm => ?_) fun out ho hes => ?_
  · have z := SeqAt.depth_of_shaped (hsh p.2 (List.of_mem_zip hm).2)
    omega
  · have T := PySem.W.sortLe_total (α := PyData) (listOrd itemOrd) false fun p => PySem.W.keyToks p
    have eS : ((vs.zip ds).mergeSort (dataLe false fun p : V × PyData => p.2)).map (·.2) = isort dlt ds := by
      have e9 := List.map_mergeSort (f := fun p : V × PyData => p.2) (r := dataLe false fun p : V × PyData => p.2) (s := dataLe false fun p : PyData => p) (l := vs.zip ds) fun a _ b _ => rfl
      rw [f2] at e9
      have e8 := isort_ms T (lt := fun a b => dataLt a b) (fun a b => by
        show dataLt a b = !!dataLt a b
        rw [Bool.not_not]) ds
      exact e9.trans (e8.symm.trans (isort_congr fun a ha b hb => dlt_ok a b (hal a ha b hb)))
    have hperm := List.mergeSort_perm (vs.zip ds) (dataLe false fun p : V × PyData => p.2)
    generalize hS : (vs.zip ds).mergeSort (dataLe false fun p : V × PyData => p.2) = sl at eS hes hperm
    have hv := each_vals (fun p : V × PyData => p.1) hes
    obtain ⟨ep, hat⟩ := PyProof.Rows.sortedHeap_at (vs := us) (out := out.toArray) hl
    have I1 : Inv X pins σ (upd H l (.lst (sl.map fun p => p.1))) { s with heap := sortedHeap h1 l us out.toArray, toks := tk } := I.laid (t' := tk) (fun b u e => by
      have hne : b ≠ l := fun z => by rw [z, hnl] at e; cases e
      rw [PyProof.Rows.sortedHeap_old hne (Heap.lt_size (hk b u e))]
      exact hk b u e) hn ⟨by rw [List.length_map, hperm.length_eq, List.length_zip]; omega, out, ep, hv, hat⟩
    refine h _ _ I1 ?_
    rw [← eS]
    exact repAll_map fun p hp => hrep p (hperm.mem_iff.mp hp)
end
end Ev
set_option Elab.async false
set_option linter.all false
set_option maxRecDepth 100000
set_option maxHeartbeats 1000000
/-! EvDd: sorted(x), sorted(x, key=sum). -/
namespace Ev
open PySem PySem.Spec PyProof.Rows L2
theorem keys_zip : ∀ {ks vs : List PyData}, ks.length = vs.length → keysOf (ks.zip vs) = ks := fun h => zip_fst h
theorem vals_of_refs : ∀ bs : List Addr, Vals (bs.map V.ref) (bs.map Value.ref)
  | [] => .nil
  | _ :: r => .cons rfl (vals_of_refs r)
theorem ent_keys : ∀ {ks : List (NestedKey × Addr)} {us : List Value}, ks.length = us.length → (ent ks us).map (fun x => x.2.1) = ks.map (·.2)
  | [], [], _ => rfl
  | [], _ :: _, h => by cases h
  | _ :: _, [], h => by cases h
  | k :: ks, u :: us, h => by
    have z := ent_keys (ks := ks) (us := us) (by simpa using h)
    unfold ent at z ⊢
    simp only [List.zip_cons_cons, List.map_cons] at z ⊢
    rw [z]
theorem map_keys {P : Program} {w : World} : ∀ (xs : List (NestedKey × Addr × Value)), (xs.map (entryOfKey (nestedKind P w))).map (·.key) = xs.map fun x => Value.ref x.2.1
  | [] => rfl
  | x :: r => by
    rw [List.map_cons, List.map_cons, map_keys r]
    rfl
/-- what is collected of entries -/
theorem items_keys {es : Array DictEntry} {acc : Array Value} (h : ItemsOf (fun i v => ∃ en : DictEntry, es[i]? = some en ∧ v = en.key) acc es.size) : acc.toList = es.toList.map (·.key) := by
  refine List.ext_getElem? fun j => ?_
  rw [List.getElem?_map, Array.getElem?_toList, Array.getElem?_toList]
  by_cases hj : j < es.size
  · have hl : j < acc.size := by rw [h.1]; exact hj
    obtain ⟨en, e1, e2⟩ := h.2 j acc[j] (Array.getElem?_eq_getElem hl)
    rw [Array.getElem?_eq_getElem hl, e1, e2]
    rfl
  · have hz := h.1
    rw [Array.getElem?_eq_none (by omega), Array.getElem?_eq_none (by omega)]
    rfl
section
variable {q : Qn} {X : Cx} {C : V → Wd → Hp → Prop} {pins : List (Addr × Obj)} {σ : L2.St} {H F : Hp} {s : Shared}
theorem ext_at {a : Addr} {φ : Heap → Prop} (I : Inv X pins σ H s) (r : Rd H a (.ext φ)) : φ s.heap := by
  rcases r with r | ⟨o, r⟩
  · exact (show ObjOk X.prog X.w H s.heap a (.ext φ) from I.hok a _ r).1
  · exact (show ObjOk X.prog X.w H s.heap a (.frz o (.ext φ)) from I.hok a _ r).2.1
/-- a dict's keys, listed -/
theorem dict_collect (I : Inv X pins σ H s) {v : V} {u : Value} {kvs : List (PyData × PyData)} (t : TopW (q.at X C) F H v (.d (.dict kvs))) (ru : RelV v u) :
    ∃ vs, RepAll (q.at X C) F vs (keysOf kvs) ∧ vs.length ≤ sizeLine ∧ ∀ {A : Around} {R : List Value → Shared → Prop} {E : Value → Shared → Prop}, A.handled = none →
      (∀ h' tk us, (∀ b o, s.heap.get? b = some o → h'.get? b = some o) → Vals vs us → R us { s with heap := h', toks := tk }) → wpAny (model X.prog X.w) A (collect u) R E s := by
  obtain ⟨a, rfl, w, hr, o⟩ := t
  obtain rfl : u = .ref a := ru
  rcases o with ⟨kv, kds, vds, hw, r1, r2, rfl⟩ | ⟨ks, vs, vds, hw, r1, r2, rfl⟩
  · rw [upd_same] at hw
    cases hw
    have hl : kds.length = vds.length := by rw [← r1.length, ← r2.length, List.length_map, List.length_map]
    rw [keys_zip hl]
    obtain ⟨z, lo, us, rel, dd⟩ := dk_rd I.hok hr
    obtain ⟨ep, hat⟩ := dd.dictAt
    refine ⟨_, r1, by rw [List.length_map]; exact z, fun {A R E} hh h => ?_⟩
    refine PySem.W.kdu_collect (PySem.W.kdl_dict (knd := mixKind X.prog X.w) (kvs := us) (ep := ep) lo) hh hat (by rw [← rel.length]; exact z) fun h' tk acc hk hacc => ?_
    refine h h' tk acc.toList hk ?_
    have ek : (kv.map fun p => kV p.1) = us.map fun p => kV p.1 := by
      have e := congrArg (List.map kV) rel.keys
      rw [List.map_map, List.map_map] at e
      exact e
    rw [ek]
    exact keys_at (by rw [Array.length_toList]; exact hacc.1) fun j v e => hacc.2 j v (by rw [← Array.getElem?_toList]; exact e)
  · rw [upd_same] at hw
    have hw' : w = DicO X.prog X.w a ks vs := Option.some.inj hw
    subst hw'
    have hl : (ks.map fun p => keyD p.1).length = vds.length := by
      obtain ⟨_, _, e3, _⟩ := ext_at I hr
      rw [List.length_map, e3, r2.length]
    rw [keys_zip hl]
    obtain ⟨lo, hz, e3, hnd, _, us, rv, o, es, ep, h1, h2, h3, h4⟩ := ext_at I hr
    have hz2 : es.size = ks.length := by
      rw [← Array.length_toList, h4, List.length_map]
      unfold ent
      rw [List.length_map, List.length_zip, ← rv.length]
      omega
    refine ⟨_, r1, by rw [List.length_map]; exact hz, fun {A R E} hh h => ?_⟩
    refine PySem.W.kdu_collect (kdl_raw (es := es) (ep := ep) lo h2 h3) hh h1 (by rw [hz2]; exact hz) fun h' tk acc hk hacc => ?_
    refine h h' tk acc.toList hk ?_
    rw [items_keys hacc, h4, map_keys]
    have e5 : (ent ks us).map (fun x => Value.ref x.2.1) = (ks.map (·.2)).map Value.ref := by
      rw [← ent_keys (us := us) (by rw [← rv.length]; exact e3), List.map_map]
      rfl
    have e6 : (ks.map fun p => V.ref p.2) = (ks.map (·.2)).map V.ref := by rw [List.map_map]; rfl
    rw [e5, e6]
    exact vals_of_refs _
/-- a list's items, or a dict's keys -/
theorem any_collect (I : Inv X pins σ H s) (hc : X.calm = true) {v : V} {u : Value} {y : PyData} {ds : List PyData} (t : TopW (q.at X C) F H v (.d y)) (hy : y = .list ds ∨ ∃ kvs, y = .dict kvs ∧ ds = keysOf kvs) (ru : RelV v u) :
    ∃ vs, RepAll (q.at X C) F vs ds ∧ vs.length ≤ sizeLine ∧ ∀ {A : Around} {R : List Value → Shared → Prop} {E : Value → Shared → Prop}, A.handled = none →
      (∀ h' tk us, (∀ b o, s.heap.get? b = some o → h'.get? b = some o) → Vals vs us → R us { s with heap := h', toks := tk }) → wpAny (model X.prog X.w) A (collect u) R E s := by
  rcases hy with rfl | ⟨kvs, rfl, rfl⟩
  · obtain ⟨a, xs, rfl, h1, h2⟩ := t
    obtain rfl : u = .ref a := ru
    obtain ⟨its, rv, hl, hz⟩ := I.list (.of h1)
    refine ⟨xs, h2, hz, fun {A R E} hh h => collect_list hl.isList ?_ (by rw [← rv.length]; exact hz)⟩
    have z := h ((s.heap.push (seqObj "list" #[] 0)).update s.heap.objs.size (Obj.mapSeq (· ++ its.toArray))) s.toks its (fun b o e => by
      rw [Heap.get?_update_ne _ _ _ _ (Nat.ne_of_lt (Heap.lt_size e))]
      exact Heap.get?_push_of_some _ e) rv
    exact z
  · exact dict_collect I t ru
/-- sorted, then -/
theorem sorted_run {b : Bool} {kw : List (Str × Value)} {v : V} {u : Value} {y : PyData} {r : Rs} {Q : VK} (I : Inv X pins σ H s) (hc : X.calm = true) (hu : X.A.units + 70 < cLine) (sb : Sub F H) (t : TopW (q.at X C) F H v (.d y)) (ru : RelV v u)
    (hkw : (b = false ∧ kw = [] ∧ qSorted [.d y] = some r) ∨ (b = true ∧ kw = [(Str.ofString "key", .builtin "sum")] ∧ qSortSum [.d y] = some r))
    (k : ∀ v F' H', Pst F H F' H' → NwOk (q.at X C) F H F' H' v r → Q v H') : wpAny (model X.prog X.w) X.A (call (.builtin "sorted") [u] kw) (EP X pins σ Q) X.xe s := by
  have hy : ∃ ds, y = .list ds ∨ ∃ kvs, y = .dict kvs ∧ ds = keysOf kvs := by
    rcases hkw with ⟨_, _, h⟩ | ⟨_, _, h⟩
    · unfold qSorted at h
      split at h
      · next e => cases e; exact ⟨_, .inl rfl⟩
      · next e => cases e; exact ⟨_, .inr ⟨_, rfl, rfl⟩⟩
      · cases h
    · unfold qSortSum at h
      split at h
      · next e => cases e; exact ⟨_, .inr ⟨_, rfl, rfl⟩⟩
      · next e => cases e; exact ⟨_, .inl rfl⟩
      · cases h
  obtain ⟨ds, hy⟩ := hy
  obtain ⟨vs, rr, hz, col⟩ := any_collect (q := q) (C := C) (F := F) I hc t hy ru
  have fin : ∀ {l : Addr} {vs' : List V} {s' : Shared} {ys : List PyData}, H l = none → r = .o (.list ys) → Inv X pins σ (upd H l (.lst vs')) s' → RepAll (q.at X C) F vs' ys → EP X pins σ Q (.ref l) s' := fun {l vs' s' ys} hH hr I' r' => by
    have hF : F l = none := by
      cases z : F l with
      | none => rfl
      | some o =>
        have y := sb l o z
        rw [hH] at y
        cases y
    refine ⟨.ref l, _, I', rfl, k _ F _ ⟨.refl F, sb.new2 hH, Sub.new hH, fun a h => .inl h⟩ ?_⟩
    rw [hr]
    exact ⟨l, rfl, hH, hF, vs', upd_same, r'⟩
  have args : argsOk "sorted" ⟨[u], kw⟩ := by
    rcases hkw with ⟨_, e, _⟩ | ⟨_, e, _⟩ <;> subst e
    · exact PyProof.Rows.args_sorted1 _
    · exact PyProof.Rows.ksk_s1 _ _
  refine PyProof.Rows.call_function_entry_kw PyProof.Rows.kind_sorted PyProof.Rows.plain_sorted PyProof.Rows.entry_sorted args ?_
  unfold Builtin.«sorted»
  refine wpAny_bind (m := checkCount "sorted" 1 1 _) (wpAny_pure ?_)
  refine wpAny_bind (col (I.ok.hd hc) fun h' tk us hk rv => ?_)
  refine wpAny_bind (wpAny_newList ?_ (by rw [← rv.length]; exact hz))
  have I1 : Inv X pins σ H { s with heap := h', toks := tk } := I.kept hk
  have hsz : H h'.objs.size = none := I1.hok.fresh (Nat.le_refl _)
  have hnew : (h'.push (seqObj "list" us.toArray 0)).get? h'.objs.size = some (seqObj "list" us.toArray 0) := Heap.get?_push_size _ rfl
  have hk2 : ∀ b o, h'.get? b = some o → (h'.push (seqObj "list" us.toArray 0)).get? b = some o := fun b o e => Heap.get?_push_of_some _ e
  show wpAny _ _ _ _ _ { s with heap := h'.push (seqObj "list" us.toArray 0), toks := tk }
  rcases hkw with ⟨_, e, h⟩ | ⟨_, e, h⟩
  · subst e
    have h' : sortB ds = true ∧ r = .o (.list (isort dlt ds)) := by
      unfold qSorted at h
      rcases hy with rfl | ⟨kvs, rfl, rfl⟩ <;> simp only at h <;> split at h
      · next z => cases h; exact ⟨z, rfl⟩
      · cases h
      · next z => cases h; exact ⟨z, rfl⟩
      · cases h
    exact wpAny_bind (wpAny_holding (sort_data I1 (by simp only [Around.in1_units]; omega) sb rr rv h'.1 hk2 hnew (Nat.le_refl _) hz fun s' vs' I' r' => wpAny_pure ⟨_, rfl, fin hsz h'.2 I' r'⟩))
  · subst e
    obtain ⟨ps, h', hr⟩ : ∃ ps, sumsOf ds = some ps ∧ r = .o (.list ((isort (fun p q => decide (p.1 < q.1)) ps).map (·.2))) := by
      unfold qSortSum at h
      rcases hy with rfl | ⟨kvs, rfl, rfl⟩ <;> simp only at h <;> split at h
      · next z => cases h; exact ⟨_, z, rfl⟩
      · cases h
      · next z => cases h; exact ⟨_, z, rfl⟩
      · cases h
    exact wpAny_bind (wpAny_holding (sort_sum I1 hc (by rfl) (by simp only [Around.in1_units]; omega) sb rr rv h' hk2 hnew (Nat.le_refl _) hz fun s' vs' I' r' => wpAny_pure ⟨_, rfl, fin hsz hr I' r'⟩))
theorem p_sorted (hc : X.calm = true) (hu : X.A.units + 70 < cLine) : CallR X (.builtin "sorted") (rP (q.at X C) .sorted) := by
  intro pins s σ H vs us Q I r ⟨F, ws, rr, sb, pr, hr, k⟩
  have hr' : qSorted ws = some rr := hr
  have h0 := hr'
  unfold qSorted at h0
  have go : ∀ {y : PyData}, ws = [.d y] → wpAny (model X.prog X.w) X.A (call (.builtin "sorted") us) (EP X pins σ Q) X.xe s := fun {y} e => by
    subst e
    cases pr with
    | cons t n =>
      cases n
      obtain ⟨u, rfl, ru⟩ := vals1 r
      exact sorted_run (b := false) I hc hu sb t ru (.inl ⟨rfl, rfl, hr'⟩) k
  split at h0
  · exact go rfl
  · exact go rfl
  · cases h0
/-- sorted(x, key=sum) -/
theorem pe_sortK {a : Expr} {t : TA} {p p2 kp pos : Pos} (hc : X.calm = true) (hu : X.A.units + 70 < cLine) (hg : Gl X "sorted") (hm : X.mg "sorted" = none) (hg2 : Gl X "sum") (hm2 : X.mg "sum" = none) (ns : NoStar a) (ha : PA X [a] t) :
    PE X (.Call (.Name "sorted" p) [a] [⟨some "key", .Name "sum" p2, kp⟩] pos) (tCB (rP (q.at X C) .sortSum) t) := by
  refine ⟨fun pins s σ H Q I h => ?_⟩
  have hs := star_cons (env := X.env) (es := []) ns
  refine wpAny_Call_Name_kw (ld_blt I hg hm (u := .builtin "sorted") rfl ?_)
  refine PyProof.Rows.callWith_kw (thn (ha.run pos pins s σ H _ I h) fun us s1 ⟨vs, H1, I1, r1, q1⟩ => ?_) (by rw [hs]; rfl) (by rw [hs]; rfl) (by rfl) (by rfl)
  refine wpAny_evalAll_cons ?_
  refine wpAny_bind (ld_blt I1 hg2 hm2 (u := .builtin "sum") rfl (wpAny_bind (wpAny_standAt (wpAny_pure ?_))))
  refine wpAny_evalAll_nil ?_
  obtain ⟨F, ws, rr, sb, pr, hr, k⟩ := q1
  have hr' : qSortSum ws = some rr := hr
  have h0 := hr'
  unfold qSortSum at h0
  have go : ∀ {y : PyData}, ws = [.d y] → wpAny (model X.prog X.w) X.A (call (.builtin "sorted") us [(Str.ofString "key", .builtin "sum")]) (EP X pins σ Q) X.xe s1 := fun {y} e => by
    subst e
    cases pr with
    | cons t n =>
      cases n
      obtain ⟨u, rfl, ru⟩ := vals1 r1
      exact sorted_run (b := true) I1 hc hu sb t ru (.inr ⟨rfl, rfl, hr'⟩) k
  split at h0
  · exact go rfl
  · exact go rfl
  · cases h0
end
end Ev
set_option Elab.async false
set_option linter.all false
set_option maxRecDepth 100000
set_option maxHeartbeats 1000000
/-! EvDe: dicts whose keys are tuples: stored to. -/
namespace Ev
open PySem PySem.Spec PyProof.Rows L2
/-! ### keys -/
theorem nkF_key {x : PyData} {k : NestedKey} (h : nkF x = some k) : keyD k = x ∧ k.depth = 0 := by
  cases x <;> cases h
  · exact ⟨by rw [keyD], by rw [NestedKey.depth]⟩
  · exact ⟨by rw [keyD], by rw [NestedKey.depth]⟩
theorem nkAll_key : ∀ {xs : List PyData} {ks : List NestedKey}, nkAll xs = some ks → keyDs ks = xs ∧ NestedKey.depthAll ks = 0
  | [], _, h => by
    cases h
    exact ⟨by rw [keyDs], by rw [NestedKey.depthAll]⟩
  | x :: xs, ks, h => by
    rw [nkAll] at h
    split at h
    · next k ks' h1 h2 =>
      cases h
      obtain ⟨a1, a2⟩ := nkF_key h1
      obtain ⟨b1, b2⟩ := nkAll_key h2
      exact ⟨by rw [keyDs, a1, b1], by rw [NestedKey.depthAll, a2, b2]; rfl⟩
    · cases h
theorem nkOf_key {x : PyData} {k : NestedKey} (h : nkOf x = some k) : keyD k = x ∧ k.depth ≤ 8 := by
  cases x with
  | tuple xs =>
    have h' : (match nkAll xs with | some ks => some (NestedKey.tup ks) | none => none) = some k := h
    cases hn : nkAll xs with
    | none => rw [hn] at h'; cases h'
    | some ks =>
      rw [hn] at h'
      cases h'
      obtain ⟨a1, a2⟩ := nkAll_key hn
      exact ⟨by rw [keyD, a1], by rw [NestedKey.depth, a2]; omega⟩
  | _ => cases h
/-! ### entries -/
/-- an entry stored -/
def entP {α : Type} (ks : List (NestedKey × Addr)) (us : List α) (k : NestedKey) (b : Addr) (u : α) : List (NestedKey × Addr) × List α :=
  match ks, us with
  | p :: ks, x :: us => if p.1 = k then (p :: ks, u :: us) else (p :: (entP ks us k b u).1, x :: (entP ks us k b u).2)
  | _, _ => ([(k, b)], [u])
theorem entP_keys {α β : Type} {k : NestedKey} {b : Addr} {u : α} {v : β} : ∀ {ks : List (NestedKey × Addr)} {us : List α} {vs : List β}, us.length = ks.length → vs.length = ks.length → (entP ks us k b u).1 = (entP ks vs k b v).1
  | [], us, vs, _, _ => by
    cases us <;> cases vs <;> rfl
  | p :: ks, x :: us, y :: vs, h1, h2 => by
    rw [entP, entP]
    by_cases h : p.1 = k
    · rw [if_pos h, if_pos h]
    · rw [if_neg h, if_neg h]
      show p :: (entP ks us k b u).1 = p :: (entP ks vs k b v).1
      rw [entP_keys (us := us) (vs := vs) (by simpa using h1) (by simpa using h2)]
  | _ :: _, [], _, h, _ => by cases h
  | _ :: _, _ :: _, [], _, h => by cases h
theorem entP_len {α : Type} {k : NestedKey} {b : Addr} {u : α} : ∀ {ks : List (NestedKey × Addr)} {us : List α}, us.length = ks.length → (entP ks us k b u).2.length = (entP ks us k b u).1.length ∧ (entP ks us k b u).1.length ≤ ks.length + 1
  | [], us, h => by
    cases us with
    | nil => exact ⟨rfl, Nat.le_refl _⟩
    | cons _ _ => cases h
  | p :: ks, x :: us, h => by
    obtain ⟨h1, h2⟩ := entP_len (k := k) (b := b) (u := u) (ks := ks) (us := us) (by simpa using h)
    rw [entP]
    by_cases hk : p.1 = k
    · rw [if_pos hk]
      exact ⟨h, by simp⟩
    · rw [if_neg hk]
      exact ⟨by simp [h1], by simp only [List.length_cons]; omega⟩
  | _ :: _, [], h => by cases h
theorem entP_mem {α : Type} {k : NestedKey} {b : Addr} {u : α} {p : NestedKey × Addr} : ∀ {ks : List (NestedKey × Addr)} {us : List α}, p ∈ (entP ks us k b u).1 → p ∈ ks ∨ p = (k, b)
  | [], us, h => .inr (by simpa [entP] using h)
  | x :: ks, [], h => .inr (by simpa [entP] using h)
  | x :: ks, y :: us, h => by
    rw [entP] at h
    by_cases hk : x.1 = k
    · rw [if_pos hk] at h
      exact .inl h
    · rw [if_neg hk] at h
      rcases List.mem_cons.mp h with z | z
      · exact .inl (z ▸ List.mem_cons_self)
      · rcases entP_mem z with y | y
        · exact .inl (List.mem_cons_of_mem _ y)
        · exact .inr y
theorem entP_vals {k : NestedKey} {b : Addr} {v : V} {u : Value} (r : RelV v u) : ∀ {ks : List (NestedKey × Addr)} {vs : List V} {us : List Value}, Vals vs us → Vals (entP ks vs k b v).2 (entP ks us k b u).2
  | [], _, _, _ => by
    rw [entP, entP]
    · exact .cons r .nil
    all_goals (intros; contradiction)
  | p :: ks, _, _, .nil => by
    rw [entP, entP]
    · exact .cons r .nil
    all_goals (intros; contradiction)
  | p :: ks, _, _, .cons h t => by
    rw [entP, entP]
    by_cases hk : p.1 = k
    · rw [if_pos hk, if_pos hk]
      exact .cons r t
    · rw [if_neg hk, if_neg hk]
      exact .cons h (entP_vals r t)
theorem putAt_id {k : NestedKey} {u : Value} : ∀ {xs : List (NestedKey × Addr × Value)}, k ∉ xs.map (·.1) → xs.map (putAt k u) = xs
  | [], _ => rfl
  | x :: r, h => by
    rw [List.map_cons, List.mem_cons, not_or] at h
    rw [List.map_cons, putAt_id h.2, putAt, if_neg fun e => h.1 e.symm]
theorem atKey_cons {x : NestedKey × Addr × Value} {r : List (NestedKey × Addr × Value)} {k : NestedKey} : atKey (x :: r) k = if x.1 = k then some x.2 else atKey r k := by
  unfold atKey
  by_cases h : x.1 = k
  · simp [h]
  · simp [h]
theorem storedH_ent {k : NestedKey} {b : Addr} {u : Value} : ∀ {ks : List (NestedKey × Addr)} {us : List Value}, us.length = ks.length → (ks.map (·.1)).Nodup → storedH (ent ks us) k b u = ent (entP ks us k b u).1 (entP ks us k b u).2
  | [], us, h, _ => by
    cases us with
    | nil => rfl
    | cons _ _ => cases h
  | p :: ks, x :: us, h, nd => by
    rw [List.map_cons, List.nodup_cons] at nd
    have ih := storedH_ent (k := k) (b := b) (u := u) (ks := ks) (us := us) (by simpa using h) nd.2
    have e1 : ent (p :: ks) (x :: us) = (p.1, p.2, x) :: ent ks us := rfl
    have hm : (ent ks us).map (·.1) = ks.map (·.1) := by
      clear ih e1
      have hl : us.length = ks.length := by simpa using h
      unfold ent
      rw [List.map_map]
      have z := congrArg (List.map (fun y : NestedKey × Addr => y.1)) (zip_fst (vs := ks) (ps := us) hl.symm)
      rw [List.map_map] at z
      exact z
    rw [entP, e1]
    unfold storedH at ih ⊢
    rw [atKey_cons]
    by_cases hk : p.1 = k
    · rw [if_pos hk, if_pos hk]
      simp only [Option.isSome_some, if_true, List.map_cons]
      rw [putAt_id (by rw [hm, ← hk]; exact nd.1)]
      show putAt k u (p.1, p.2, x) :: ent ks us = (p.1, p.2, u) :: ent ks us
      rw [putAt, if_pos hk]
    · rw [if_neg hk, if_neg hk]
      show _ = (p.1, p.2, x) :: ent (entP ks us k b u).1 (entP ks us k b u).2
      rw [← ih]
      by_cases ha : (atKey (ent ks us) k).isSome = true
      · rw [if_pos ha, if_pos ha, List.map_cons, putAt, if_neg hk]
      · rw [if_neg ha, if_neg ha]
        rfl
  | _ :: _, [], h, _ => by cases h
theorem entP_nodup {α : Type} {k : NestedKey} {b : Addr} {u : α} : ∀ {ks : List (NestedKey × Addr)} {us : List α}, us.length = ks.length → (ks.map (·.1)).Nodup → ((entP ks us k b u).1.map (·.1)).Nodup
  | [], us, h, _ => by
    cases us with
    | nil => simp [entP]
    | cons _ _ => cases h
  | p :: ks, x :: us, h, nd => by
    rw [entP]
    by_cases hk : p.1 = k
    · rw [if_pos hk]
      exact nd
    · rw [if_neg hk]
      rw [List.map_cons, List.nodup_cons] at nd
      show (List.map (·.1) (p :: (entP ks us k b u).1)).Nodup
      rw [List.map_cons, List.nodup_cons]
      refine ⟨fun z => ?_, entP_nodup (by simpa using h) nd.2⟩
      obtain ⟨y, hy, e⟩ := List.mem_map.mp z
      rcases entP_mem hy with w | w
      · exact nd.1 (List.mem_map.mpr ⟨y, w, e⟩)
      · rw [w] at e
        exact hk e.symm
  | _ :: _, [], h, _ => by cases h
/-- data stored -/
theorem dput_store {k : NestedKey} {x z : PyData} {b : Addr} (hx : nkOf x = some k) : ∀ {ks : List (NestedKey × Addr)} {vds : List PyData}, vds.length = ks.length → (∀ p ∈ ks, nkOf (keyD p.1) = some p.1) →
    dput x z ((ks.map fun p => keyD p.1).zip vds) = ((entP ks vds k b z).1.map fun p => keyD p.1).zip (entP ks vds k b z).2
  | [], vds, h, _ => by
    cases vds with
    | nil =>
      show [(x, z)] = [(keyD k, z)]
      rw [(nkOf_key hx).1]
    | cons _ _ => cases h
  | p :: ks, y :: vds, h, hn => by
    have ih := dput_store (z := z) (b := b) hx (ks := ks) (vds := vds) (by simpa using h) fun p hp => hn p (List.mem_cons_of_mem _ hp)
    rw [List.map_cons, List.zip_cons_cons, dput, entP]
    have e1 : keySame (keyD p.1) x = decide (p.1 = k) := by
      unfold keySame
      rw [hn p List.mem_cons_self, hx, NestedKey.decide_eq]
    show (if keySame (keyD p.1) x = true then (keyD p.1, z) :: _ else (keyD p.1, y) :: dput x z _) = _
    rw [e1]
    by_cases hk : p.1 = k
    · rw [if_pos (decide_eq_true hk), if_pos hk]
      rfl
    · rw [if_neg (by simp [hk]), if_neg hk, ih]
      rfl
  | _ :: _, [], h, _ => by cases h
theorem entP_rep {g : G} {F : Hp} {k : NestedKey} {b : Addr} {v : V} {z : PyData} (r : Rep g F v z) : ∀ {ks : List (NestedKey × Addr)} {vs : List V} {vds : List PyData}, RepAll g F vs vds → RepAll g F (entP ks vs k b v).2 (entP ks vds k b z).2
  | [], _, _, _ => by
    rw [entP, entP]
    · exact .cons r .nil
    all_goals (intros; contradiction)
  | p :: ks, _, _, .nil => by
    rw [entP, entP]
    · exact .cons r .nil
    all_goals (intros; contradiction)
  | p :: ks, _, _, .cons h t => by
    rw [entP, entP]
    by_cases hk : p.1 = k
    · rw [if_pos hk, if_pos hk]
      exact .cons r t
    · rw [if_neg hk, if_neg hk]
      exact .cons h (entP_rep r t)
theorem repAll_keys {g : G} {F : Hp} : ∀ {ks : List (NestedKey × Addr)}, (∀ p ∈ ks, Rep g F (.ref p.2) (keyD p.1)) → RepAll g F (ks.map fun p => .ref p.2) (ks.map fun p => keyD p.1) := fun h => repAll_map h
theorem keys_repAll {g : G} {F : Hp} : ∀ {ks : List (NestedKey × Addr)}, RepAll g F (ks.map fun p => .ref p.2) (ks.map fun p => keyD p.1) → ∀ p ∈ ks, Rep g F (.ref p.2) (keyD p.1)
  | [], _, p, hp => by cases hp
  | k :: ks, r, p, hp => by
    cases r with
    | cons h t =>
      rcases List.mem_cons.mp hp with z | z
      · rw [z]
        exact h
      · exact keys_repAll t p z
section
variable {q : Qn} {X : Cx} {C : V → Wd → Hp → Prop} {pins : List (Addr × Obj)} {σ : L2.St} {H F : Hp} {s : Shared}
mutual
theorem nest_is (I : Inv X pins σ H s) (sb : Sub F H) : ∀ (k : NestedKey) {v : V} {u : Value}, Rep (q.at X C) F v (keyD k) → RelV v u → NestedIs s.heap k u
  | .none, v, u, r, e => by
    rw [keyD] at r
    cases r
    cases e
    exact .none
  | .num i, v, u, r, e => by
    rw [keyD] at r
    cases r
    obtain ⟨t, rfl⟩ := e
    exact .int _ _
  | .text x, v, u, r, e => by
    rw [keyD] at r
    cases r
    obtain ⟨t, rfl⟩ := e
    exact .text _ _
  | .tup ks, v, u, r, e => by
    rw [keyD] at r
    cases r with
    | tup hq rr =>
      cases e
      obtain ⟨its, rv, ⟨o, h1, h2, n, h3⟩, _⟩ := I.tuple (st_sub sb hq)
      exact .tup h1 h2 h3 (nest_all I sb ks rr (by simpa using rv))
theorem nest_all (I : Inv X pins σ H s) (sb : Sub F H) : ∀ (ks : List NestedKey) {vs : List V} {us : List Value}, RepAll (q.at X C) F vs (keyDs ks) → Vals vs us → NestedAll s.heap ks us
  | [], _, _, r, e => by
    rw [keyDs] at r
    cases r
    cases e
    exact .nil
  | k :: ks, _, _, r, e => by
    rw [keyDs] at r
    cases r with
    | cons h t =>
      cases e with
      | cons h' t' => exact .cons (nest_is I sb k h h') (nest_all I sb ks t t')
end
/-- d[k] = v by a comprehension, k a tuple -/
theorem d_setT {D b : Addr} {E : Value → Shared → Prop} {ks : List (NestedKey × Addr)} {vs : List V} {nk : NestedKey} {v : V} {r : Value} {Q : Unit → Shared → Prop} (I : Inv X pins σ H s) (hu : X.A.units + 8 < cLine) (hD : H D = some (DicO X.prog X.w D ks vs)) (hz : ks.length < sizeLine) (sb : Sub F H)
    (rk : RepAll (q.at X C) F (ks.map fun p => .ref p.2) (ks.map fun p => keyD p.1)) (rb : Rep (q.at X C) F (.ref b) (keyD nk)) (hd : nk.depth ≤ 8) (rv : RelV v r) (h : ∀ s', Inv X pins σ (upd H D (DicO X.prog X.w D (entP ks vs nk b v).1 (entP ks vs nk b v).2)) s' → Q () s') :
    wpAny (model X.prog X.w) X.A (dictSet D (.ref b) r) Q E s := by
  obtain ⟨lo, z, hl, nd, dp, us, ru, o, es, ep, h1, h2, h3, h4⟩ := ext_at I (.inl hD)
  have hlu : us.length = ks.length := by rw [← ru.length]; exact hl.symm
  have his : ∀ x ∈ ent ks us, (nestedKind X.prog X.w).is s.heap x.1 x.2.1 := fun x hx => by
    unfold ent at hx
    obtain ⟨p, hp, e⟩ := List.mem_map.mp hx
    have hm := (List.of_mem_zip hp).1
    rw [← e]
    exact ⟨nest_is I sb p.1.1 (keys_repAll rk p.1 hm) rfl, dp _ hm⟩
  have hnd : ((ent ks us).map (·.1)).Nodup := by
    have hm : (ent ks us).map (·.1) = ks.map (·.1) := by
      unfold ent
      rw [List.map_map]
      have z := congrArg (List.map (fun y : NestedKey × Addr => y.1)) (zip_fst (vs := ks) (ps := us) hlu.symm)
      rw [List.map_map] at z
      exact z
    rw [hm]
    exact nd
  have hsz : (ent ks us).length ≤ sizeLine := by
    unfold ent
    rw [List.length_map, List.length_zip]
    omega
  refine wpAny_dictSet_heap (knd := nestedKind X.prog X.w) hu ⟨nest_is I sb nk rb rfl, hd⟩ (xs := ent ks us) ⟨o, es, ep, h1, h2, h3, h4, his, hnd⟩ (fun h' hm' hs' => ?_) hsz
  rw [storedH_ent hlu nd] at hm'
  obtain ⟨o', es', ep', a1, a2, a3, a4, _, _⟩ := hm'
  have k1 : (entP ks us nk b r).1 = (entP ks vs nk b v).1 := entP_keys hlu hl.symm
  rw [k1] at a4
  obtain ⟨b1, b2⟩ := entP_len (k := nk) (b := b) (u := v) (ks := ks) (us := vs) hl.symm
  refine h _ (d_write (t' := s.toks + (nestedKind X.prog X.w).draws nk) I (by rw [hD]; exact True.intro) hs' ⟨o', a1⟩ ?_)
  refine ⟨⟨lo, by omega, b1.symm, entP_nodup hl.symm nd, fun p hp => ?_, _, entP_vals rv ru, o', es', ep', a1, a2, a3, a4⟩, ⟨o', a1⟩, ?_⟩
  · rcases entP_mem hp with y | y
    · exact dp p y
    · rw [y]
      exact hd
  · rintro g1 g2 ⟨c1, c2, c3, c4, c5, ws, c6, o2, es2, ep2, d1, d2, d3, d4⟩ st
    exact ⟨c1, c2, c3, c4, c5, ws, c6, o2, es2, ep2, st _ d1, d2, d3, d4⟩
end
end Ev
set_option Elab.async false
set_option linter.all false
set_option maxRecDepth 100000
set_option maxHeartbeats 2000000
/-! EvDf: dict comprehensions, keys tuples. -/
namespace Ev
open PySem PySem.Spec PyProof.Rows L2
/-- what a store asks of the dict at D; Nx: of the heap behind it -/
def SetP (g : G) (H : Hp) (D : Addr) (y z : V) (Nx : Hp → Prop) : Prop :=
  ∃ F ks vs nk b, y = .ref b ∧ H D = some (DicO g.prog g.w D ks vs) ∧ ks.length < sizeLine ∧ Sub F H ∧ RepAll g F (ks.map fun p => .ref p.2) (ks.map fun p => keyD p.1) ∧ Rep g F (.ref b) (keyD nk) ∧ nk.depth ≤ 8 ∧
    Nx (upd H D (DicO g.prog g.w D (entP ks vs nk b z).1 (entP ks vs nk b z).2))
/-- {k: v for target in iter if ..}: D the new dict -/
def tDx (g : G) (wi : TI) (tg : TG) (tt : TT) (tk tv : TE) (own : List Nat) : TE := fun σ H Q =>
  wi σ H fun J H1 => ∀ D, H1 D = none → ∃ Wt : Nat → Nat → Hp → Prop,
    (∃ m, Wt 0 m (upd H1 D (DicO g.prog g.w D [] []))) ∧ ∀ i m H, Wt i m H →
    (J.stop i H ∧ Q (.ref D) H) ∨
    (J.go i H ∧ ∃ Nx : Hp → Prop, (∀ H', Nx H' → ∃ m', m' < m ∧ Wt (i + 1) m' H') ∧ ∀ x H', J.yld i H x H' →
      tg x (wipe σ own) H' fun σ2 H2 => wipe σ2 own = wipe σ own ∧ tt σ2 H2 fun b H3 =>
        if b = true then tk σ2 H3 fun y H4 => tv σ2 H4 fun z H5 => SetP g H5 D y z Nx else Nx H3)
theorem dic_new {P : Program} {w : World} {H : Hp} (h : Heap) (hb : sysModules < h.objs.size) : ObjOk P w H (h.push { cls := .type "dict", data := .dict #[] }) h.objs.size (DicO P w h.objs.size [] []) := by
  have at_ : (h.push { cls := .type "dict", data := .dict #[] }).get? h.objs.size = some { cls := .type "dict", data := .dict #[] } := Heap.get?_push_size _ rfl
  refine ⟨⟨beq_eq_false_iff_ne.mpr (Ne.symm (Nat.ne_of_lt hb)), Nat.zero_le _, rfl, List.nodup_nil, fun p hp => (by cases hp), [], .nil, _, #[], 0, at_, ⟨rfl, rfl, rfl⟩, rfl, rfl⟩, ⟨_, at_⟩, ?_⟩
  rintro g1 g2 ⟨c1, c2, c3, c4, c5, ws, c6, o2, es2, ep2, d1, d2, d3, d4⟩ st
  exact ⟨c1, c2, c3, c4, c5, ws, c6, o2, es2, ep2, st _ d1, d2, d3, d4⟩
section
variable {q : Qn} {X : Cx} {C : V → Wd → Hp → Prop} {W : WX} {rv : Ev}
/-- the block of a dict comprehension: its scope, cells, frame -/
abbrev blkE (X : Cx) (z : Shared) (scope : Scope) : PySem.Env := compEnvC scope (cellsFrom (z.heap.objs.size + 1) scope.names (cloFrom X.env.cells scope.names [])) z.heap.objs.size X.env
theorem pe_dcx {kx vx tgt src : Expr} {ifs : List Expr} {scope : Scope} {own : List (Str × Nat)} {pos : Pos} {wi : TI} {tg : TG} {tt : TT} {tk tv : TE} (hc : X.calm = true) (hu : X.A.units + 8 < cLine) (hN : X.N.Nodup) (hi : PI X tgt src wi) (ok : BlkOk X.N X.env.scope scope own)
    (hg : ∀ (z : Shared) (H : Hp) (D : Addr) (cl : List (Str × Addr)) (fp : List Addr), PG (X.blk z H scope (compEnvC scope cl D X.env) fp) tgt tg)
    (ht : ∀ (z : Shared) (H : Hp) (D : Addr) (cl : List (Str × Addr)) (fp : List Addr), PTs (X.blk z H scope (compEnvC scope cl D X.env) fp) ifs tt)
    (hk : ∀ (z : Shared) (H : Hp) (D : Addr) (cl : List (Str × Addr)) (fp : List Addr), PE (X.blk z H scope (compEnvC scope cl D X.env) fp) kx tk)
    (hv : ∀ (z : Shared) (H : Hp) (D : Addr) (cl : List (Str × Addr)) (fp : List Addr), PE (X.blk z H scope (compEnvC scope cl D X.env) fp) vx tv) (hs : ∀ x, foldedSetIterable src X.env x = pure x) :
    PE X (.DictComp kx vx [⟨tgt, src, ifs, 0⟩] scope pos) (tDx (q.at X C) wi tg tt tk tv (own.map (·.2))) := by
  refine ⟨fun pins z0 σ H Q I h => ?_⟩
  rw [arm_eval_DictComp]
  have free : ∀ y ∈ scope.names, y.2 = .free → ∃ c, X.env.cells.lookup y.1 = some c := fun y hy e => (ok.free y hy e).elim (fun k => I.ok.has _ (.inl k)) fun k => I.ok.has _ (.inr k)
  refine wpAny_comprehension_free (use := none) rfl hs (closure_ok free) ok.kind (fun y hy e => by rw [ok.uniq y hy, e]) (thn (hi.run pins z0 σ H _ I h) fun xv z1 hx => thn hx fun itv z2 h2 => ?_)
  obtain ⟨it, fp, tn, J, H2, rfl, I2, T, st2, f2, hq⟩ := h2
  refine wpAny_newObj_type (newEnv_comp ?_)
  generalize hD : z2.heap.objs.size = D
  have hDn : H2 D = none := I2.hok.fresh (Nat.le_of_eq hD)
  obtain ⟨Wt, ⟨m0, w0⟩, turn⟩ := hq D hDn
  generalize hs3 : ({ z2 with heap := z2.heap.push { cls := .type "dict", data := .dict #[] } } : Shared) = z3
  generalize hDo : DicO (q.at X C).prog (q.at X C).w D [] [] = od at w0
  have I3 : Inv X pins σ (upd H2 D od) z3 := by
    rw [← hs3, ← hDo]
    refine I2.laid (t' := z2.toks) (fun b o e => Heap.get?_push_of_some _ e) (Nat.le_of_eq hD) ?_
    rw [← hD]
    exact dic_new z2.heap I2.big
  have h3 : z3.heap = z2.heap.push { cls := .type "dict", data := .dict #[] } := by rw [← hs3]
  have low : ∀ b ∈ fp, b < z2.heap.objs.size := fun b hb => let ⟨_, e, _⟩ := T.obj _ _ st2 b hb; Heap.lt_size e
  have f3 : ∀ b ∈ fp, FpOk X pins (upd H2 D od) b ∧ b < z3.heap.objs.size := fun b hb => by
    have hlt := low b hb
    refine ⟨⟨?_, (f2 b hb).2⟩, by rw [h3, Heap.size_push]; exact Nat.lt_succ_of_lt hlt⟩
    rw [upd_ne (by rw [← hD]; exact Nat.ne_of_lt hlt)]
    exact (f2 b hb).1
  have st3 : tn 0 z3.heap := T.keep _ _ _ st2 fun b _ o e => by
    rw [h3]
    exact Heap.get?_push_of_some _ e
  have I4 := block_start I3 ok hN f3
  have pg := hg z3 (upd H2 D od) z3.heap.objs.size (cellsFrom (z3.heap.objs.size + 1) scope.names (cloFrom X.env.cells scope.names [])) fp
  have pt := ht z3 (upd H2 D od) z3.heap.objs.size (cellsFrom (z3.heap.objs.size + 1) scope.names (cloFrom X.env.cells scope.names [])) fp
  have pk := hk z3 (upd H2 D od) z3.heap.objs.size (cellsFrom (z3.heap.objs.size + 1) scope.names (cloFrom X.env.cells scope.names [])) fp
  have pv := hv z3 (upd H2 D od) z3.heap.objs.size (cellsFrom (z3.heap.objs.size + 1) scope.names (cloFrom X.env.cells scope.names [])) fp
  show codeAny _ _ (.compStart (.DictComp kx vx [⟨tgt, src, ifs, 0⟩] scope pos) 0 (.ref it) (.ref D) (blkE X z3 scope)) (compPost (model X.prog X.w) X.A X.xe none (EP X pins σ Q) (.ref D) z3.heap.objs.size) { z3 with heap := pushCells (z3.heap.push { cls := .type "dict", data := .dict #[] }) scope.names }
  have nfp : ∀ b ∈ fp, (upd H2 D od) b = none := fun b hb => (f3 b hb).1.1
  change Inv (X.blk z3 (upd H2 D od) scope (blkE X z3 scope) fp) [] _ _ _ at I4
  change PG (X.blk z3 (upd H2 D od) scope (blkE X z3 scope) fp) tgt tg at pg
  change PTs (X.blk z3 (upd H2 D od) scope (blkE X z3 scope) fp) ifs tt at pt
  change PE (X.blk z3 (upd H2 D od) scope (blkE X z3 scope) fp) kx tk at pk
  change PE (X.blk z3 (upd H2 D od) scope (blkE X z3 scope) fp) vx tv at pv
  have cL : (blkE X z3 scope).locals = z3.heap.objs.size := rfl
  generalize hce : blkE X z3 scope = ce at I4 pg pt pk pv cL ⊢
  generalize hH3 : upd H2 D od = H3 at I3 I4 pg pt pk pv w0 nfp f3
  generalize hs4 : ({ z3 with heap := pushCells (z3.heap.push { cls := .type "dict", data := .dict #[] }) scope.names } : Shared) = z4 at I4 ⊢
  have st4 : tn 0 z4.heap := T.keep _ _ _ st3 fun b _ o e => by
    rw [← hs4]
    exact pushCells_keeps _ _ _ _ (Heap.get?_push_of_some _ e)
  generalize hB : X.blk z3 H3 scope ce fp = B at I4 pg pt pk pv
  have stat : ∀ {σ' : L2.St} {H' : Hp} {z' : Shared}, Inv B [] σ' H' z' → (∀ b ∈ fp, H' b = none) → ∀ b ∈ fp, FpOk B [] H' b := fun {σ' H' z'} I' hn b hb => by
    subst hB
    exact ⟨hn b hb, (I'.ok.exf b hb).1, I'.ok.exfs b hb, .inl hb, fun x c e => (I'.ok.exf b hb).2 x c e, fun p hp => absurd (show p ∈ ([] : List (Addr × Obj)) ++ [] from hp) (by simp)⟩
  -- the loop
  have loop : codeAny (model X.prog X.w) X.A (.compLoop (.DictComp kx vx [⟨tgt, src, ifs, 0⟩] scope pos) 0 (.ref it) (.ref D) ce) (compPost (model X.prog X.w) X.A X.xe none (EP X pins σ Q) (.ref D) z3.heap.objs.size) z4 := by
    refine compLoop_anyD (fun n z' => ∃ i H', Inv B [] (wipe σ (own.map (·.2))) H' z' ∧ tn i z'.heap ∧ (∀ b ∈ fp, H' b = none) ∧ Wt i n H') ?_ m0 ⟨0, H3, I4, st4, nfp, w0⟩
    rintro n z5 ⟨i, H5, I5, st5, n5, w5⟩
    rcases turn i n H5 w5 with ⟨stop, qq⟩ | ⟨go, Nx, hNx, step⟩
    · have td := T.done B (by rw [← hB]) (by rw [← hB]) (by rw [← hB]) (by rw [← hB]; exact hc) i [] z5 _ H5 (fun _ _ => False) I5 (stat I5 n5) st5 stop
      subst hB
      refine thnF td fun r z6 ⟨hr, I6⟩ => ?_
      subst hr
      have I7 : Inv X pins σ H5 z6 := I3.call' (ch := fp) I6.os I6.base I6.hok I6.bare fun b hb => let y := (f3 b hb).1; ⟨y.2.2.2.1, y.2.1, y.2.2.2.2.1, y.2.2.2.2.2⟩
      have nC : H5 z3.heap.objs.size = none := by
        have y : H5 ce.locals = none := I6.free
        rw [cL] at y
        exact y
      obtain ⟨m, hn, _⟩ := I6.loc
      have hn : z6.heap.Ns ce.locals m := hn
      rw [cL] at hn
      obtain ⟨f0, f1, _, g3, g4, g5⟩ := I3.fpOk (Nat.le_refl _) nC
      exact ⟨m, hn, fun h'' sb => ⟨.ref D, H5, I7.turned (t' := z6.toks) (fun b o hb e => (sb.2 b hb).trans e) f0 f1 g3 g4 g5, rfl, qq⟩⟩
    · have ti := T.item B (by rw [← hB]) (by rw [← hB]) (by rw [← hB]) (by rw [← hB]; exact hc) i [] z5 _ H5 (fun _ _ => False) I5 (stat I5 n5) st5 go
      subst hB
      refine thnF ti fun r z6 ⟨u, hr, h6⟩ => ?_
      subst hr
      refine thnF h6 fun _ z7 ⟨x, H7, I7, r7, y7, st7, n7⟩ => ?_
      have I7' := I7.pinned (stat I7 n7) (T.obj _ _ st7)
      refine thnF (pg.run _ z7 _ H7 x u _ I7' r7 (step x H7 y7)) fun _ z8 ⟨σ8, H8, I8, hw8, q8⟩ => ?_
      refine thnF (pt.run _ z8 σ8 H8 _ I8 q8) fun b z9 ⟨H9, I9, q9⟩ => ?_
      have fin : ∀ {z' : Shared} {H' : Hp}, Inv (X.blk z3 H3 scope ce fp) ([] ++ pinsAt fp z7.heap) σ8 H' z' → Nx H' → ∃ m, m < n ∧ ∃ i H', Inv (X.blk z3 H3 scope ce fp) [] (wipe σ (own.map (·.2))) H' z' ∧ tn i z'.heap ∧ (∀ b ∈ fp, H' b = none) ∧ Wt i m H' := by
        intro z' H' I' nx
        obtain ⟨m', hm, w'⟩ := hNx H' nx
        have pin' : ∀ b ∈ fp, ∀ o, z7.heap.get? b = some o → z'.heap.get? b = some o ∧ H' b = none := fun b hb o e => by
          have y := I'.pin (b, o) (List.mem_append_right _ (List.mem_append_right _ (mem_pinsAt hb e)))
          exact ⟨y.1, y.2.1⟩
        refine ⟨m', hm, i + 1, H', (I'.unpinned (pins := [])).weak (by rw [← hw8, wipe_length]) (fun j v e => ?_), T.keep _ _ _ st7 fun b hb o e => (pin' b hb o e).1, fun b hb => ?_, w'⟩
        · rw [← hw8] at e
          exact (wipe_some e).1
        · obtain ⟨o, e, _⟩ := T.obj _ _ st7 b hb
          exact (pin' b hb o e).2
      cases b with
      | false => exact fin I9 q9
      | true =>
        refine thnF (pk.run _ z9 σ8 H9 _ I9 q9) fun u1 z10 ⟨y1, H10, I10, r10, q10⟩ => ?_
        refine thnF (pv.run _ z10 σ8 H10 _ I10 q10) fun u2 z11 ⟨y2, H11, I11, r11, F, ks, vs, nk, b, ey, hD11, hz11, sb, rk, rb, hd, nx⟩ => ?_
        subst ey
        cases r10
        exact d_setT (q := q) (X := X.blk z3 H3 scope ce fp) (C := C) I11 hu hD11 hz11 sb rk rb hd r11 fun z12 I12 => fin I12 nx
  exact codeAny_compStart_dict loop (T.self X.A 0 _ _ _ st4 loop)
end
end Ev
set_option Elab.async false
set_option linter.all false
set_option maxRecDepth 100000
set_option maxHeartbeats 2000000
/-! EvDg: dict comprehensions against the evaluator. -/
namespace Ev
open PySem PySem.Spec PyProof.Rows L2
theorem dic_code {P : Program} {w : World} {a : Addr} {ks : List (NestedKey × Addr)} {vs : List V} {q : Str} : DicO P w a ks vs ≠ LamX.CodeO a q := by
  intro z
  unfold DicO LamX.CodeO at z
  injection z with z
  have h0 := congrFun z ((⟨Array.replicate a default, default⟩ : Heap).push { cls := .none, data := .fields #[.none, .str q default] })
  have sz : (⟨Array.replicate a default, default⟩ : Heap).objs.size = a := by simp
  have at_ : ((⟨Array.replicate a default, default⟩ : Heap).push { cls := .none, data := .fields #[.none, .str q default] }).get? a = some { cls := .none, data := .fields #[.none, .str q default] } := Heap.get?_push_at sz.symm rfl
  have r := h0.mpr ⟨_, _, _, at_, rfl, rfl⟩
  obtain ⟨_, _, _, _, _, us, _, o, es, ep, h1, _, h3, _⟩ := r
  rw [at_] at h1
  cases h1
  cases h3
theorem tabs_dic {T : List (Addr × Str)} {H : Hp} {P : Program} {w : World} {a : Addr} {ks : List (NestedKey × Addr)} {vs : List V} {u : HO} (t : LamX.Tabs T H) (h : H a = some (DicO P w a ks vs)) : LamX.Tabs T (upd H a u) := fun p hp => by
  obtain ⟨ps, h1, h2, h3⟩ := t p hp
  have n1 : p.1 ≠ a := fun z => by
    rw [z, h] at h1
    exact dic_not.1 ps (Option.some.inj h1)
  refine ⟨ps, by rw [upd_ne n1]; exact h1, h2, fun pos cv hc => ?_⟩
  obtain ⟨c, e1, e2⟩ := h3 pos cv hc
  refine ⟨c, e1, ?_⟩
  rw [upd_ne]
  · exact e2
  · intro z
    subst z
    rw [h] at e2
    exact dic_code (Option.some.inj e2)
section
variable {g : G} {F F1 H H1 : Hp} {σ : L2.St} {e : Env}
theorem tmp_okT {a : Addr} {u : HO} (k : Ok g F σ H e) (hF : F a = none) (hn : ¬ Own σ e a) (ht : LamX.Tabs g.T (upd H a u)) : Ok g F σ (upd H a u) e := by
  have far : ∀ {i s b}, e[i]? = some s → s.own = true → slot σ i = some (.ref b) → b ≠ a := fun {i s b} hi os hb z => hn ⟨i, s, hi, os, by rw [← z]; exact hb⟩
  refine ⟨fun b v hb => ?_, k.len, fun i s hi => ?_, k.apart, ht, k.tab.2⟩
  · rw [upd_ne (fun z => by rw [z, hF] at hb; cases hb)]
    exact k.sub b v hb
  · have p := k.pl i s hi
    cases s with
    | un => trivial
    | va w => exact p
    | ls y => exact p
    | ow y =>
      obtain ⟨b, h1, h2, h3⟩ := p
      exact ⟨b, h1, h2, h3.move (.refl F) (upd_ne (far hi rfl h1))⟩
    | le y =>
      obtain ⟨b, h1, h2, h3⟩ := p
      exact ⟨b, h1, h2, h3.move (.refl F) (upd_ne (far hi rfl h1))⟩
    | lk y =>
      obtain ⟨b, h1, h2, h3⟩ := p
      exact ⟨b, h1, h2, h3.move (.refl F) (upd_ne (far hi rfl h1))⟩
end
/-- what one turn does -/
theorem dcmOne_ok {rv : Ev} {kx vx : E} {t : T} {ifs : List E} {own : List Nat} {x : PyData} {e e' : Env} {kv : Option (PyData × PyData)} (h : dcmOne rv kx vx t ifs own x e = some (.ok kv e')) :
    ∃ ea b eb, bindT t x e = some ea ∧ evIfs rv ifs ea = some (.ok b eb) ∧ ((b = true ∧ ∃ y ec z ed, evGive rv kx eb = some (.ok y ec) ∧ evGive rv vx ec = some (.ok z ed) ∧ kv = some (y, z) ∧ e' = wipeE ed own) ∨ (b = false ∧ kv = none ∧ e' = wipeE eb own)) := by
  unfold dcmOne at h
  cases hb : bindT t x e with
  | none => rw [hb] at h; cases h
  | some ea =>
    rw [hb] at h
    simp only at h
    cases hi : evIfs rv ifs ea with
    | none => rw [hi] at h; cases h
    | some u =>
      cases u with
      | er c v e2 => rw [hi] at h; cases h
      | ok b eb =>
        rw [hi] at h
        refine ⟨ea, b, eb, rfl, hi, ?_⟩
        cases b with
        | false =>
          cases h
          exact .inr ⟨rfl, rfl, rfl⟩
        | true =>
          have h' : R.bind (evGive rv kx eb) (fun y f3 => R.bind (evGive rv vx f3) fun z f4 => some (.ok (some (y, z)) (wipeE f4 own))) = some (.ok kv e') := h
          cases hg : evGive rv kx eb with
          | none => rw [hg] at h'; cases h'
          | some u =>
            cases u with
            | er c v e2 => rw [hg] at h'; cases h'
            | ok y ec =>
              rw [hg] at h'
              have h2 : R.bind (evGive rv vx ec) (fun z f4 => some (.ok (some (y, z)) (wipeE f4 own))) = some (.ok kv e') := h'
              cases hg2 : evGive rv vx ec with
              | none => rw [hg2] at h2; cases h2
              | some u =>
                cases u with
                | er c v e2 => rw [hg2] at h2; cases h2
                | ok z ed =>
                  rw [hg2] at h2
                  cases h2
                  exact .inl ⟨rfl, y, ec, z, ed, rfl, hg2, rfl, rfl⟩
theorem dcmGo_cons {one : PyData → Env → R (Option (PyData × PyData))} {x : PyData} {xs : List PyData} {acc kvs : List (PyData × PyData)} {e f : Env} (h : dcmGo one (x :: xs) acc e = some (.ok kvs f)) :
    ∃ kv e', one x e = some (.ok kv e') ∧ ((kv = none ∧ dcmGo one xs acc e' = some (.ok kvs f)) ∨ ∃ k v nk, kv = some (k, v) ∧ nkOf k = some nk ∧ acc.length < lim ∧ dcmGo one xs (dput k v acc) e' = some (.ok kvs f)) := by
  unfold dcmGo at h
  cases h1 : one x e with
  | none => rw [h1] at h; cases h
  | some u =>
    cases u with
    | er c v e2 => rw [h1] at h; cases h
    | ok kv e' =>
      rw [h1] at h
      refine ⟨kv, e', rfl, ?_⟩
      cases kv with
      | none => exact .inl ⟨rfl, h⟩
      | some p =>
        obtain ⟨k, v⟩ := p
        have h' : (if keyOk k && acc.length < lim then dcmGo one xs (dput k v acc) e' else none) = some (.ok kvs f) := h
        split at h'
        · next hc =>
          rw [Bool.and_eq_true] at hc
          obtain ⟨c1, c2⟩ := hc
          unfold keyOk at c1
          cases hk : nkOf k with
          | none => rw [hk] at c1; cases c1
          | some nk => exact .inr ⟨k, v, nk, rfl, hk, of_decide_eq_true c2, h'⟩
        · cases h'
section
variable {q : Qn} {X : Cx} {C : V → Wd → Hp → Prop} {W : WX} {rv : Ev}
theorem dcm_key {kx vx : E} {t : T} {it : It} {src ifs : List E} {own : List Nat} (ht : ∀ j ∈ t.slots, j ∈ own) {σ : L2.St} {H : Hp} {Q : VK} (i : tR (q.at X C) W (eDcm rv kx vx t it src ifs own) σ H Q) :
    tDx (q.at X C) (tIt (q.at X C) W (evIt rv it src)) (tgG X.K t) (tIfs (q.at X C) W0 (evIfs rv ifs)) (tG (q.at X C) W0 (evGive rv kx)) (tG (q.at X C) W0 (evGive rv vx)) own σ H Q := by
  obtain ⟨F0, e0, k0, o⟩ := i
  refine ⟨F0, e0, k0, (show Out (q.at X C) F0 σ H e0 (R.bind (evIt rv it src e0) (eDcm2 rv kx vx t ifs own)) W _ from o).bind.imp fun p e1 _ o1 J F1 H1 k1 brk wk D hD => ?_⟩
  obtain ⟨ds, held⟩ := p
  unfold eDcm2 at o1
  cases hgo : dcmGo (dcmOne rv kx vx t ifs own) ds [] (wipeE e1 own) with
  | none => simp only [hgo, noEr] at o1; exact o1.elim
  | some u =>
    cases u with
    | er c v e2 => simp only [hgo, noEr] at o1; exact o1.elim
    | ok kvs fe =>
      simp only [hgo, noEr] at o1
      have fin : ∀ v F' H', Stp F0 σ H e0 F' σ H' (unlock (backE e1 fe own) held) → Ok (q.at X C) F' σ H' (unlock (backE e1 fe own) held) → RsOk (q.at X C) (Bs σ H e0) F' σ H' (unlock (backE e1 fe own) held) v (.o (.dict kvs)) → Q v H' := o1
      have H0D : H D = none := by
        cases hh : H D with
        | none => rfl
        | some u => exact absurd hD ((brk F1 σ H1 e1 .refl k1).1.there D (by rw [hh]; simp))
      have nF1 : F1 D = none := by
        cases hh : F1 D with
        | none => rfl
        | some u =>
          have z := k1.sub D u hh
          rw [hD] at z
          cases z
      have nO1 : ¬ Own σ e1 D := fun z => k1.ownH z hD
      have kw := wipe_ok (own := own) k1
      have nOw : ¬ Own (wipe σ own) (wipeE e1 own) D := fun z => nO1 (wipe_own z)
      let G0 : G := q.at X C
      let WW : Nat → Nat → Hp → Prop := fun i m H' => m = ds.length - i ∧ i ≤ ds.length ∧ ∃ F e ks vs vds, Stp F1 (wipe σ own) H1 (wipeE e1 own) F (wipe σ own) H' e ∧ Ok (q.at X C) F (wipe σ own) H' e ∧ H' D = some (DicO X.prog X.w D ks vs) ∧
        RepAll (q.at X C) F (ks.map fun p => .ref p.2) (ks.map fun p => keyD p.1) ∧ RepAll (q.at X C) F vs vds ∧ vs.length = ks.length ∧ (∀ p ∈ ks, nkOf (keyD p.1) = some p.1) ∧
        dcmGo (dcmOne rv kx vx t ifs own) (ds.drop i) ((ks.map fun p => keyD p.1).zip vds) e = some (.ok kvs fe) ∧ F D = none ∧ ¬ Own (wipe σ own) e D
      have tab0 : LamX.Tabs (q.at X C).T (upd H1 D (DicO X.prog X.w D [] [])) := kw.tab.1.ext fun b o e => by
        rw [upd_ne (fun z => by rw [z, hD] at e; cases e)]
        exact e
      refine ⟨WW, ⟨ds.length, by simp, Nat.zero_le _, F1, wipeE e1 own, [], [], [], (Stp.refl).at_new hD, tmp_okT kw nF1 nOw tab0, upd_same, .nil, .nil, rfl, (fun p hp => by cases hp), by rw [List.drop_zero]; exact hgo, nF1, nOw⟩, ?_⟩
      rintro i m H' ⟨rfl, hi, F, e, ks, vs, vds, st, k, hA, rK, rA, hlk, hnk, hg, nF, nO⟩
      obtain ⟨stb, kb⟩ := wk_in k1 st k
      by_cases hlt : i < ds.length
      · refine .inr ⟨wk.go i F σ H' _ hlt stb.lk kb, WW (i + 1) (ds.length - (i + 1)), fun H2 w2 => ⟨_, by omega, w2⟩, fun x H2 hy => ?_⟩
        obtain ⟨F2, d, hd, ps, rx⟩ := wk.yld i F σ H' _ x H2 hlt stb.lk kb hy
        obtain ⟨s2, k2⟩ := ps.ok k
        have hdrop : ds.drop i = d :: ds.drop (i + 1) := by
          obtain ⟨hl, he⟩ := List.getElem?_eq_some_iff.mp hd
          rw [List.drop_eq_getElem_cons hl, he]
        rw [hdrop] at hg
        obtain ⟨kv, e', h1, hgk⟩ := dcmGo_cons hg
        obtain ⟨ea, b, eb, hb, hif, hc⟩ := dcmOne_ok h1
        refine bind_ok t s2 k2 rx hb fun σ' sm s3 k3 => ?_
        have hw : wipe σ' own = wipe σ own := (same_wipe sm ht).trans wipe_wipe
        have T0 : Tmp F (wipe σ own) H' e D := ⟨nF, nO, by rw [hA]; simp⟩
        -- the turn's end
        have fin2 : ∀ {F4 H4 : Hp} {ec : Env} {ks' : List (NestedKey × Addr)} {vs' : List V} {vds' : List PyData}, Stp F (wipe σ own) H' e F4 σ' H4 ec → Ok (q.at X C) F4 σ' H4 ec → RepAll (q.at X C) F4 (ks'.map fun p => .ref p.2) (ks'.map fun p => keyD p.1) → RepAll (q.at X C) F4 vs' vds' → vs'.length = ks'.length → (∀ p ∈ ks', nkOf (keyD p.1) = some p.1) →
            dcmGo (dcmOne rv kx vx t ifs own) (ds.drop (i + 1)) ((ks'.map fun p => keyD p.1).zip vds') (wipeE ec own) = some (.ok kvs fe) → WW (i + 1) (ds.length - (i + 1)) (upd H4 D (DicO X.prog X.w D ks' vs')) := by
          intro F4 H4 ec ks' vs' vds' s4 k4 rk4 r4 hl4 hn4 hg4
          have T4 := T0.step s4
          have s5 := wipe_stp (st.trans s4) (own := own) fun i hi s hs => wipe_un hi s hs
          have k5 := wipe_ok (own := own) k4
          rw [hw] at s5 k5
          have nO5 : ¬ Own (wipe σ own) (wipeE ec own) D := fun z => T4.no (wipe_own (by rw [hw]; exact z))
          have hD4 : H4 D = some (DicO X.prog X.w D ks vs) := s4.keep D _ hA nO dic_not.1
          exact ⟨rfl, hlt, F4, wipeE ec own, ks', vs', vds', s5.at_new hD, tmp_okT k5 T4.nf nO5 (tabs_dic k4.tab.1 hD4), upd_same, rk4, r4, hl4, hn4, hg4, T4.nf, nO5⟩
        refine ⟨hw, F2, ea, k3, ?_⟩
        rw [hif]
        intro F3 H3 s4 k4
        have sT := s3.trans s4
        rcases hc with ⟨hbt, y, ec, z, ed, hgv, hgz, hkv, he'⟩ | ⟨hbf, hkv, he'⟩
        · subst hbt
          subst hkv
          rcases hgk with ⟨hno, _⟩ | ⟨y', z', nk, e2, hnk2, hln, hg2⟩
          · cases hno
          cases e2
          show tG (q.at X C) W0 (evGive rv kx) σ' H3 _
          refine ⟨F3, eb, k4, ?_⟩
          rw [hgv]
          intro v F4 H4 s5 k5 r5
          refine ⟨F4, ec, k5, ?_⟩
          rw [hgz]
          intro v2 F5 H5 s6 k6 r6
          have sT5 := (sT.trans s5).trans s6
          have hD5 : H5 D = some (DicO X.prog X.w D ks vs) := sT5.keep D _ hA nO dic_not.1
          have rk5 := r5.mono s6.fz
          obtain ⟨kd1, kd2⟩ := nkOf_key hnk2
          obtain ⟨b, rfl⟩ : ∃ b, v = .ref b := by
            cases y with
            | tuple xs =>
              cases rk5 with
              | tup _ _ => exact ⟨_, rfl⟩
            | _ => cases hnk2
          have hvl : vds.length = ks.length := by rw [← rA.length]; exact hlk
          refine ⟨F5, ks, vs, nk, b, rfl, hD5, ?_, k6.sub, rK.mono sT5.fz, by rw [kd1]; exact rk5, kd2, ?_⟩
          · rw [List.length_zip, List.length_map] at hln
            have e9 : lim = sizeLine := by rw [sizeLine_eq]; rfl
            omega
          · have nk9 : nkOf (keyD nk) = some nk := by rw [kd1]; exact hnk2
            have e8 : (entP ks vds nk b z).1 = (entP ks vs nk b v2).1 := entP_keys hvl hlk
            refine fin2 (ks' := (entP ks vs nk b v2).1) (vs' := (entP ks vs nk b v2).2) (vds' := (entP ks vds nk b z).2) sT5 k6 (repAll_keys fun p hp => ?_) (entP_rep r6 (rA.mono sT5.fz)) (entP_len hlk).1 (fun p hp => ?_) ?_
            · rcases entP_mem hp with w | w
              · exact (keys_repAll rK p w).mono sT5.fz
              · rw [w]
                show Rep _ _ (.ref b) (keyD nk)
                rw [kd1]
                exact rk5
            · rcases entP_mem hp with w | w
              · exact hnk p w
              · rw [w]
                exact nk9
            · rw [← e8, ← dput_store hnk2 hvl hnk, ← he']
              exact hg2
        · subst hbf
          subst hkv
          rcases hgk with ⟨_, hg2⟩ | ⟨_, _, _, e2, _⟩
          · show WW (i + 1) (ds.length - (i + 1)) H3
            have hD4 : H3 D = some (DicO X.prog X.w D ks vs) := sT.keep D _ hA nO dic_not.1
            have z := fin2 sT k4 (rK.mono sT.fz) (rA.mono sT.fz) hlk hnk (by rw [← he']; exact hg2)
            have e1 : upd H3 D (DicO X.prog X.w D ks vs) = H3 := by
              funext c
              by_cases hc : c = D
              · rw [hc, upd_same, hD4]
              · rw [upd_ne hc]
            rw [e1] at z
            exact z
          · cases e2
      · have ei : i = ds.length := by omega
        subst ei
        rw [List.drop_length] at hg
        cases hg
        refine .inl ⟨wk.stop F σ H' _ stb.lk kb, ?_⟩
        obtain ⟨s6, k6⟩ := brk F σ H' _ stb kb
        refine fin (.ref D) F H' s6 k6 ⟨D, rfl, ⟨nF, fun z => ?_, by rw [hA]; simp⟩, .inr ⟨ks, vs, vds, hA, rK, rA, rfl⟩, .inr H0D⟩
        rcases back_own (by rw [k1.len, k.len, wipe_length]) (unlock_own held z) with y | y
        · exact nO1 y
        · exact nO y
end
end Ev
set_option Elab.async false
set_option linter.all false
set_option maxRecDepth 100000
set_option maxHeartbeats 2000000
/-! EvDh: comprehensions of two clauses. -/
namespace Ev
open PySem PySem.Spec PyProof.Rows L2
theorem upd_id {H : Hp} {a : Addr} {u : HO} (h : H a = some u) : upd H a u = H := by
  funext c
  by_cases hc : c = a
  · rw [hc, upd_same, h]
  · rw [upd_ne hc]
theorem upd_two {H : Hp} {a : Addr} {u v : HO} : upd (upd H a u) a v = upd H a v := by
  funext c
  by_cases hc : c = a
  · rw [hc, upd_same, upd_same]
  · rw [upd_ne hc, upd_ne hc, upd_ne hc]
theorem Stp.mask {F H F' H' : Hp} {σ σ' : L2.St} {e e' : Env} {D : Addr} {u : HO} (s : Stp F σ H e F' σ' H' e') (hn : ¬ Own σ e D) (hD : H D ≠ none) : Stp F σ (upd H D u) e F' σ' (upd H' D u) e' where
  fz := s.fz
  keep := fun a o h n t => by
    by_cases q : a = D
    · subst q
      rw [upd_same] at h ⊢
      exact h
    · rw [upd_ne q] at h ⊢
      exact s.keep a o h n t
  there := fun a h => by
    by_cases q : a = D
    · rw [q, upd_same]
      simp
    · rw [upd_ne q] at h ⊢
      exact s.there a h
  newF := fun a h => by
    rcases s.newF a h with z | z | z
    · exact .inl z
    · exact .inr (.inl z)
    · refine .inr (.inr ?_)
      rw [upd_ne (fun q => hD (by rw [← q]; exact z))]
      exact z
  newO := fun a h => by
    rcases s.newO a h with z | z
    · exact .inl z
    · refine .inr ?_
      rw [upd_ne (fun q => hD (by rw [← q]; exact z))]
      exact z
  held := s.held
theorem own_unlock {σ : L2.St} {a : Addr} : ∀ (held : List (Nat × Bool)) {e : Env}, Own σ e a → Own σ (unlock e held) a
  | [], _, h => h
  | (i, l) :: r, e, h => by
    unfold unlock
    split
    · next x hx =>
      refine (swap_own hx rfl ?_ a).mpr (own_unlock r h)
      cases l <;> rfl
    · exact own_unlock r h
theorem cmp2One_ok {rv : Ev} {elt : E} {t t' : T} {ifs ifs' src' : List E} {it' : It} {own : List Nat} {x : PyData} {e e' : Env} {ys : List PyData} (h : cmp2One rv elt t ifs t' it' src' ifs' own x e = some (.ok ys e')) :
    ∃ ea b eb, bindT t x e = some ea ∧ evIfs rv ifs ea = some (.ok b eb) ∧ ((b = true ∧ ∃ xs held f3 f4, evIt rv it' src' eb = some (.ok (xs, held) f3) ∧ cmpGo (cmpOne rv elt t' ifs' t'.slots) xs (wipeE f3 t'.slots) = some (.ok ys f4) ∧ e' = wipeE (unlock (backE f3 f4 t'.slots) held) own) ∨ (b = false ∧ ys = [] ∧ e' = wipeE eb own)) := by
  unfold cmp2One at h
  cases hb : bindT t x e with
  | none => rw [hb] at h; cases h
  | some ea =>
    rw [hb] at h
    simp only at h
    cases hi : evIfs rv ifs ea with
    | none => rw [hi] at h; cases h
    | some u =>
      cases u with
      | er c v e2 => rw [hi] at h; cases h
      | ok b eb =>
        rw [hi] at h
        refine ⟨ea, b, eb, rfl, hi, ?_⟩
        cases b with
        | false =>
          cases h
          exact .inr ⟨rfl, rfl, rfl⟩
        | true =>
          have h' : R.bind (evIt rv it' src' eb) (fun xs' f3 => R.bind (cmpGo (cmpOne rv elt t' ifs' t'.slots) xs'.1 (wipeE f3 t'.slots)) fun ys f4 => some (.ok ys (wipeE (unlock (backE f3 f4 t'.slots) xs'.2) own))) = some (.ok ys e') := h
          cases hg : evIt rv it' src' eb with
          | none => rw [hg] at h'; cases h'
          | some u =>
            cases u with
            | er c v e2 => rw [hg] at h'; cases h'
            | ok p f3 =>
              obtain ⟨xs, held⟩ := p
              rw [hg] at h'
              have h2 : R.bind (cmpGo (cmpOne rv elt t' ifs' t'.slots) xs (wipeE f3 t'.slots)) (fun ys f4 => some (.ok ys (wipeE (unlock (backE f3 f4 t'.slots) held) own))) = some (.ok ys e') := h'
              cases hg2 : cmpGo (cmpOne rv elt t' ifs' t'.slots) xs (wipeE f3 t'.slots) with
              | none => rw [hg2] at h2; cases h2
              | some u =>
                cases u with
                | er c v e2 => rw [hg2] at h2; cases h2
                | ok zs f4 =>
                  rw [hg2] at h2
                  cases h2
                  exact .inl ⟨rfl, xs, held, f3, f4, rfl, hg2, rfl⟩
section
variable {q : Qn} {X : Cx} {C : V → Wd → Hp → Prop} {W : WX} {rv : Ev}
theorem cmp2_key {elt : E} {t t' : T} {it it' : It} {src ifs src' ifs' : List E} {own : List Nat} (ht : ∀ j ∈ t.slots, j ∈ own) (ht' : ∀ j ∈ t'.slots, j ∈ own) {σ : L2.St} {H : Hp} {Q : VK} (i : tR (q.at X C) W (eCmp2 rv elt t it src ifs t' it' src' ifs' own) σ H Q) :
    tLc2 (tIt (q.at X C) W (evIt rv it src)) (tgG X.K t) (tIfs (q.at X C) W0 (evIfs rv ifs)) (tIt (q.at X C) W0 (evIt rv it' src')) (tgG X.K t') (tIfs (q.at X C) W0 (evIfs rv ifs')) (tG (q.at X C) W0 (evGive rv elt)) own t'.slots σ H Q := by
  obtain ⟨F0, e0, k0, o⟩ := i
  refine ⟨F0, e0, k0, (show Out (q.at X C) F0 σ H e0 (R.bind (evIt rv it src e0) (eCmpL (cmp2One rv elt t ifs t' it' src' ifs' own) own)) W _ from o).bind.imp fun p e1 _ o1 J F1 H1 k1 brk wk D hD => ?_⟩
  obtain ⟨ds, held⟩ := p
  unfold eCmpL at o1
  cases hgo : cmpGo (cmp2One rv elt t ifs t' it' src' ifs' own) ds (wipeE e1 own) with
  | none => simp only [hgo, noEr] at o1; exact o1.elim
  | some u =>
    cases u with
    | er c v e2 => simp only [hgo, noEr] at o1; exact o1.elim
    | ok ys fe =>
      simp only [hgo, noEr] at o1
      have o2 : Out (q.at X C) F0 σ H e0 (eEnd own e1 held ys fe) W _ := o1
      unfold eEnd at o2
      by_cases hz : ys.length ≤ lim
      · rw [if_pos hz] at o2
        have fin : ∀ v F' H', Stp F0 σ H e0 F' σ H' (unlock (backE e1 fe own) held) → Ok (q.at X C) F' σ H' (unlock (backE e1 fe own) held) → RsOk (q.at X C) (Bs σ H e0) F' σ H' (unlock (backE e1 fe own) held) v (.o (.list ys)) → Q v H' := o2
        have H0D : H D = none := by
          cases hh : H D with
          | none => rfl
          | some u => exact absurd hD ((brk F1 σ H1 e1 .refl k1).1.there D (by rw [hh]; simp))
        have nF1 : F1 D = none := by
          cases hh : F1 D with
          | none => rfl
          | some u =>
            have z := k1.sub D u hh
            rw [hD] at z
            cases z
        have nO1 : ¬ Own σ e1 D := fun z => k1.ownH z hD
        have kw := wipe_ok (own := own) k1
        have nOw : ¬ Own (wipe σ own) (wipeE e1 own) D := fun z => nO1 (wipe_own z)
        let WW : Nat → Nat → Hp → Prop := fun i m H' => m = ds.length - i ∧ i ≤ ds.length ∧ ∃ F e acc dn zs, Stp F1 (wipe σ own) H1 (wipeE e1 own) F (wipe σ own) H' e ∧ Ok (q.at X C) F (wipe σ own) H' e ∧ H' D = some (.lst acc) ∧ RepAll (q.at X C) F acc dn ∧
          cmpGo (cmp2One rv elt t ifs t' it' src' ifs' own) (ds.drop i) e = some (.ok zs fe) ∧ ys = dn ++ zs ∧ F D = none ∧ ¬ Own (wipe σ own) e D
        refine ⟨WW, ⟨ds.length, by simp, Nat.zero_le _, F1, wipeE e1 own, [], [], ys, (Stp.refl).at_new hD, tmp_ok (xs := []) kw nF1 nOw (.inr hD), upd_same, .nil, by rw [List.drop_zero]; exact hgo, rfl, nF1, nOw⟩, ?_⟩
        rintro i m H' ⟨rfl, hi, F, e, acc, dn, zs, st, k, hA, rA, hg, hys, nF, nO⟩
        obtain ⟨stb, kb⟩ := wk_in k1 st k
        by_cases hlt : i < ds.length
        · refine .inr ⟨wk.go i F σ H' _ hlt stb.lk kb, WW (i + 1) (ds.length - (i + 1)), fun H2 w2 => ⟨_, by omega, w2⟩, fun x H2 hy => ?_⟩
          obtain ⟨F2, d, hd, ps, rx⟩ := wk.yld i F σ H' _ x H2 hlt stb.lk kb hy
          obtain ⟨s2, k2⟩ := ps.ok k
          have hdrop : ds.drop i = d :: ds.drop (i + 1) := by
            obtain ⟨hl, he⟩ := List.getElem?_eq_some_iff.mp hd
            rw [List.drop_eq_getElem_cons hl, he]
          rw [hdrop] at hg
          obtain ⟨y1, e', zs', h1, h2, h3⟩ := cmpGo_cons hg
          obtain ⟨ea, b, eb, hb, hif, hc⟩ := cmp2One_ok h1
          refine bind_ok t s2 k2 rx hb fun σ' sm s3 k3 => ?_
          have hw : wipe σ' own = wipe σ own := (same_wipe sm ht).trans wipe_wipe
          have T0 : Tmp F (wipe σ own) H' e D := ⟨nF, nO, by rw [hA]; simp⟩
          -- the turn's end
          have fin2 : ∀ {F4 H4 : Hp} {ec : Env} {acc' : List V} {dn' : List PyData}, Stp F (wipe σ own) H' e F4 σ' H4 ec → Ok (q.at X C) F4 σ' H4 ec → RepAll (q.at X C) F4 acc' dn' → cmpGo (cmp2One rv elt t ifs t' it' src' ifs' own) (ds.drop (i + 1)) (wipeE ec own) = some (.ok zs' fe) → ys = dn' ++ zs' →
              WW (i + 1) (ds.length - (i + 1)) (upd H4 D (.lst acc')) := by
            intro F4 H4 ec acc' dn' s4 k4 r4 hg4 hy4
            have T4 := T0.step s4
            have s5 := wipe_stp (st.trans s4) (own := own) fun i hi s hs => wipe_un hi s hs
            have k5 := wipe_ok (own := own) k4
            rw [hw] at s5 k5
            have nO5 : ¬ Own (wipe σ own) (wipeE ec own) D := fun z => T4.no (wipe_own (by rw [hw]; exact z))
            have hD4 : H4 D = some (.lst acc) := s4.keep D _ hA nO (lst_not acc).1
            exact ⟨rfl, hlt, F4, wipeE ec own, acc', dn', zs', s5.at_new hD, tmp_ok k5 T4.nf nO5 (.inl hD4), upd_same, r4, hg4, hy4, T4.nf, nO5⟩
          refine ⟨hw, F2, ea, k3, ?_⟩
          rw [hif]
          intro F3 H3 s4 k4
          have sT := s3.trans s4
          rcases hc with ⟨hbt, xs, held', f3, f4, hit, hin, he'⟩ | ⟨hbf, hy1, he'⟩
          · subst hbt
            show tIt (q.at X C) W0 (evIt rv it' src') σ' H3 _
            refine ⟨F3, eb, k4, ?_⟩
            rw [hit]
            intro J1 F4 H4 k5 brk1 wk1
            have wk1 : Wk (q.at X C) F4 σ' H4 f3 J1 xs := wk1
            have brk1 : ∀ F2 σ2 H2 e2, Stp F4 σ' H4 f3 F2 σ2 H2 e2 → Ok (q.at X C) F2 σ2 H2 e2 → Stp F3 σ' H3 eb F2 σ2 H2 (unlock e2 held') ∧ Ok (q.at X C) F2 σ2 H2 (unlock e2 held') := brk1
            have sB := sT.trans (brk1 F4 σ' H4 f3 .refl k5).1
            have hD4 : H4 D = some (.lst acc) := sB.keep D _ hA nO (lst_not acc).1
            have T4 := T0.step sB
            have nO4 : ¬ Own σ' f3 D := fun z => T4.no (own_unlock held' z)
            have kw4 := wipe_ok (own := t'.slots) k5
            have nOw4 : ¬ Own (wipe σ' t'.slots) (wipeE f3 t'.slots) D := fun z => nO4 (wipe_own z)
            let WI : Nat → Nat → Hp → Prop := fun j m H' => m = xs.length - j ∧ j ≤ xs.length ∧ ∃ Fi ei acc' dn' zi, Stp F4 (wipe σ' t'.slots) H4 (wipeE f3 t'.slots) Fi (wipe σ' t'.slots) (upd H' D (.lst acc)) ei ∧ Ok (q.at X C) Fi (wipe σ' t'.slots) H' ei ∧ H' D = some (.lst acc') ∧ RepAll (q.at X C) Fi acc' dn' ∧
              cmpGo (cmpOne rv elt t' ifs' t'.slots) (xs.drop j) ei = some (.ok zi f4) ∧ dn ++ y1 = dn' ++ zi ∧ Fi D = none ∧ ¬ Own (wipe σ' t'.slots) ei D
            refine ⟨WI, ⟨xs.length, by simp, Nat.zero_le _, F4, wipeE f3 t'.slots, acc, dn, y1, by rw [upd_id hD4]; exact .refl, kw4, hD4, rA.mono sB.fz, by rw [List.drop_zero]; exact hin, rfl, T4.nf, nOw4⟩, ?_⟩
            rintro j m Hi ⟨rfl, hj, Fi, ei, acc', dn', zi, sti, ki, hAi, rAi, hgi, hyi, nFi, nOi⟩
            have kim : Ok (q.at X C) Fi (wipe σ' t'.slots) (upd Hi D (.lst acc)) ei := tmp_ok ki nFi nOi (.inl hAi)
            obtain ⟨stm, km⟩ := wk_in k5 sti kim
            have nOb : ¬ Own σ' (backE f3 ei t'.slots) D := fun z => (back_own (by rw [k5.len, ki.len, wipe_length]) z).elim nO4 nOi
            have kr : Ok (q.at X C) Fi σ' Hi (backE f3 ei t'.slots) := by
              have z := tmp_ok (u := .lst acc') km nFi nOb (.inl upd_same)
              rw [upd_two, upd_id hAi] at z
              exact z
            by_cases hlj : j < xs.length
            · refine .inr ⟨wk1.go j Fi σ' Hi _ hlj stm.lk kr, WI (j + 1) (xs.length - (j + 1)), fun H2 w2 => ⟨_, by omega, w2⟩, fun x1 H5 hy1 => ?_⟩
              obtain ⟨F5, d1, hd1, ps1, rx1⟩ := wk1.yld j Fi σ' Hi _ x1 H5 hlj stm.lk kr hy1
              obtain ⟨s5, k6⟩ := ps1.ok ki
              have hdrop1 : xs.drop j = d1 :: xs.drop (j + 1) := by
                obtain ⟨hl, he⟩ := List.getElem?_eq_some_iff.mp hd1
                rw [List.drop_eq_getElem_cons hl, he]
              rw [hdrop1] at hgi
              obtain ⟨z1, e6, zi', g1, g2, g3⟩ := cmpGo_cons hgi
              obtain ⟨ec, b1, ed, hb1, hif1, hc1⟩ := cmpOne_ok g1
              refine bind_ok t' s5 k6 rx1 hb1 fun σ3 sm1 s6 k7 => ?_
              have hw1 : wipe σ3 t'.slots = wipe σ' t'.slots := (same_wipe sm1 fun j hj => hj).trans wipe_wipe
              have T1 : Tmp Fi (wipe σ' t'.slots) Hi ei D := ⟨nFi, nOi, by rw [hAi]; simp⟩
              have fin3 : ∀ {F6 H6 : Hp} {eg : Env} {ac : List V} {dd : List PyData}, Stp Fi (wipe σ' t'.slots) Hi ei F6 σ3 H6 eg → Ok (q.at X C) F6 σ3 H6 eg → RepAll (q.at X C) F6 ac dd → cmpGo (cmpOne rv elt t' ifs' t'.slots) (xs.drop (j + 1)) (wipeE eg t'.slots) = some (.ok zi' f4) → dn ++ y1 = dd ++ zi' →
                  WI (j + 1) (xs.length - (j + 1)) (upd H6 D (.lst ac)) := by
                intro F6 H6 eg ac dd s7 k8 r8 hg8 hy8
                have T6 := T1.step s7
                have s8 := wipe_stp (sti.trans (s7.mask (u := .lst acc) nOi (by rw [hAi]; simp))) (own := t'.slots) fun i hi s hs => wipe_un hi s hs
                have k9 := wipe_ok (own := t'.slots) k8
                rw [hw1] at s8 k9
                have nO9 : ¬ Own (wipe σ' t'.slots) (wipeE eg t'.slots) D := fun z => T6.no (wipe_own (by rw [hw1]; exact z))
                have hD6 : H6 D = some (.lst acc') := s7.keep D _ hAi nOi (lst_not acc').1
                exact ⟨rfl, hlj, F6, wipeE eg t'.slots, ac, dd, zi', by rw [upd_two]; exact s8, tmp_ok k9 T6.nf nO9 (.inl hD6), upd_same, r8, hg8, hy8, T6.nf, nO9⟩
              refine ⟨hw1, F5, ec, k7, ?_⟩
              rw [hif1]
              intro F6 H6 s7 k8
              have sI := s6.trans s7
              rcases hc1 with ⟨hbt, y, eg, hgv, hz1, he6⟩ | ⟨hbf, hz1, he6⟩
              · subst hbt
                show tG (q.at X C) W0 (evGive rv elt) σ3 H6 _
                refine ⟨F6, ed, k8, ?_⟩
                rw [hgv]
                intro v F7 H7 s8 k9 r9
                have sI5 := sI.trans s8
                have hD7 : H7 D = some (.lst acc') := sI5.keep D _ hAi nOi (lst_not acc').1
                refine ⟨acc', hD7, ?_, ?_⟩
                · have e1 : ys.length = dn'.length + (1 + zi'.length) + zs'.length := by
                    rw [hys, h3, ← List.append_assoc, hyi, g3, hz1]
                    simp
                    omega
                  have hz' : ys.length ≤ 16777216 := hz
                  rw [rAi.length, sizeLine_eq]
                  omega
                · refine fin3 sI5 k9 ((rAi.mono sI5.fz).append (.one r9)) (by rw [← he6]; exact g2) ?_
                  rw [hyi, g3, hz1, List.append_assoc]
              · subst hbf
                show WI (j + 1) (xs.length - (j + 1)) H6
                have hD6 : H6 D = some (.lst acc') := sI.keep D _ hAi nOi (lst_not acc').1
                have z := fin3 sI k8 (rAi.mono sI.fz) (by rw [← he6]; exact g2) (by rw [hyi, g3, hz1]; rfl)
                rw [upd_id hD6] at z
                exact z
            · have ej : j = xs.length := by omega
              subst ej
              rw [List.drop_length] at hgi
              cases hgi
              refine .inl ⟨wk1.stop Fi σ' Hi _ stm.lk kr, ?_⟩
              obtain ⟨s6, k6⟩ := brk1 Fi σ' _ _ stm km
              have z := fin2 (sT.trans s6) k6 rAi (by rw [← he']; exact h2) (by rw [hys, h3, ← List.append_assoc, hyi, List.append_nil])
              rw [upd_two, upd_id hAi] at z
              exact z
          · subst hbf
            show WW (i + 1) (ds.length - (i + 1)) H3
            have hD4 : H3 D = some (.lst acc) := sT.keep D _ hA nO (lst_not acc).1
            have z := fin2 sT k4 (rA.mono sT.fz) (by rw [← he']; exact h2) (by rw [hys, h3, hy1]; rfl)
            rw [upd_id hD4] at z
            exact z
        · have ei : i = ds.length := by omega
          subst ei
          rw [List.drop_length] at hg
          cases hg
          refine .inl ⟨wk.stop F σ H' _ stb.lk kb, ?_⟩
          obtain ⟨s6, k6⟩ := brk F σ H' _ stb kb
          refine fin (.ref D) F H' s6 k6 ⟨D, rfl, ⟨nF, fun z => ?_, by rw [hA]; simp⟩, ⟨acc, hA, ?_⟩, .inr H0D⟩
          · rcases back_own (by rw [k1.len, k.len, wipe_length]) (unlock_own held z) with y | y
            · exact nO1 y
            · exact nO y
          · rw [hys, List.append_nil]
            exact rA
      · rw [if_neg hz] at o2
        exact o2.elim
end
end Ev
set_option Elab.async false
set_option linter.all false
set_option maxRecDepth 100000
set_option maxHeartbeats 2000000
/-! EvDi: sum of lists, from an empty list on. -/
namespace Ev
open PySem PySem.Spec PyProof.Rows L2
section
variable {prog : Program} {w : World} {A : Around} {R : Result → Shared → Prop} {I : Addr} {fp wr : List Addr} {n : Nat} {P : Nat → Value → Prop} {St : Nat → Heap → Prop}
/-- the first i lists, one behind the other -/
def accL (ys : Nat → List Value) : Nat → List Value
  | 0 => []
  | i + 1 => accL ys i ++ ys i
theorem accL_le {ys : Nat → List Value} {i j : Nat} (h : i ≤ j) : (accL ys i).length ≤ (accL ys j).length := by
  induction h with
  | refl => exact Nat.le_refl _
  | step _ ih =>
    rw [accL, List.length_append]
    omega
theorem sumL_loop (W : Walks prog w A.in1 I fp wr n P St) (ys : Nat → List Value) (S B : Addr) (hSf : S ∉ fp) (hBS : B ≤ S) (hz : (accL ys n).length ≤ sizeLine) :
    ∀ (k i : Nat) (s : Shared) (T : Addr) (c : Nat), n - i = k → i ≤ n → St i s.heap → s.heap.get? S = some { cls := .type "list", dict := none, data := .seq #[.ref T] c, slots := #[] } → (∃ m, IsL s.heap T (accL ys i).toArray m) → T ∉ wr → T ≠ S →
      (∀ j v, i ≤ j → P j v → ∃ a m, v = .ref a ∧ IsL s.heap a (ys j).toArray m ∧ a ∉ wr ∧ a ≠ S) → (i < n ∨ B ≤ T) → (∀ b ∈ wr, b < S) →
      (∀ h' tk T', (∀ b o, b ∉ wr → b ≠ S → s.heap.get? b = some o → h'.get? b = some o) → B ≤ T' → (∃ m, IsL h' T' (accL ys n).toArray m) → R (.ok (.ret (.ref T'))) { s with heap := h', toks := tk }) →
      codeAny (model prog w) A (.builtin "sum.loop" ⟨[.ref I, .ref S, rawInt 2, rawInt 0], []⟩) R s := by
  have hSw : S ∉ wr := fun h => hSf (W.sub _ h)
  intro k
  induction k with
  | zero =>
    intro i s T c hk hi hst hS hT hTw hTS hin hB hwS hR
    have en : i = n := by omega
    subst en
    refine codeAny_builtin F.entry_sum_loop ?_
    rw [Around.under_plainId F.plain_sum_loop _]
    show wpAny _ A.in1 (seqItems? (.ref S) >>= _) _ _ s
    refine wpAny_bind (wpAny_seqItems hS rfl ?_)
    show wpAny _ A.in1 (tryCatch (pyNext (.ref I)) _ >>= _) _ _ s
    refine wpAny_bind (wpAny_tryCatch (W.done s _ _ hst fun h' tk hk' => ?_))
    obtain ⟨m, hm⟩ := hT
    exact wpAny_pure (hR h' tk T (fun b o nb _ e => hk' b o nb e) (by rcases hB with z | z; exact absurd z (Nat.lt_irrefl _); exact z) ⟨m, hk' T _ hTw hm⟩)
  | succ k ih =>
    intro i s T c hk hi hst hS hT hTw hTS hin hB hwS hR
    have hlt : i < n := by omega
    refine codeAny_builtin F.entry_sum_loop ?_
    rw [Around.under_plainId F.plain_sum_loop _]
    show wpAny _ A.in1 (seqItems? (.ref S) >>= _) _ _ s
    refine wpAny_bind (wpAny_seqItems hS rfl ?_)
    show wpAny _ A.in1 (tryCatch (pyNext (.ref I)) _ >>= _) _ _ s
    refine wpAny_bind (wpAny_tryCatch (W.item i s _ _ hlt hst fun v h' tk hP hst' hk' => ?_))
    obtain ⟨a, ma, rfl, ha, haw, haS⟩ := hin i v (Nat.le_refl _) hP
    obtain ⟨m, hm⟩ := hT
    have hS' := hk' S _ hSw hS
    have hT' := hk' T _ hTw hm
    have ha' := hk' a _ haw ha
    have hfit : (accL ys i).toArray.size + (ys i).toArray.size ≤ sizeLine := by
      have z := accL_le (ys := ys) (show i + 1 ≤ n by omega)
      rw [accL, List.length_append] at z
      rw [List.size_toArray, List.size_toArray]
      omega
    show wpAny _ A.in1 ((holding [Value.ref a] (binaryOp .Add (.ref T) (.ref a))).attempt >>= _) _ _ _
    refine wpAny_bind (wpAny_attempt (wpAny_holding (PySem.P.add_list (s := { s with heap := h', toks := tk }) hT' ha' ?_ hfit)))
    generalize hp : h'.objs.size = p
    have hSp : S < p := by rw [← hp]; exact Heap.lt_size hS'
    generalize hh2 : h'.push { cls := .type "list", data := .seq ((accL ys i).toArray ++ (ys i).toArray) } = h2
    have k2 : ∀ {b o}, h'.get? b = some o → h2.get? b = some o := fun {b o} e => by rw [← hh2]; exact Heap.get?_push_of_some _ e
    have kp : h2.get? p = some { cls := .type "list", data := .seq ((accL ys i).toArray ++ (ys i).toArray) } := by rw [← hh2, ← hp]; exact Heap.get?_push_size _ rfl
    show wpAny _ A.in1 (updateSeq S (fun _ => #[.ref p]) >>= _) _ _ { s with heap := h2, toks := tk }
    have hS2 := k2 hS'
    refine wpAny_bind (wpAny_updateSeq hS2 rfl ?_)
    have hS3 := Heap.get?_update_self (Obj.mapSeq fun _ => #[Value.ref p]) hS2 rfl
    refine wpAny_bind (wpAny_letGo ?_)
    have k3 : ∀ {b o}, b ≠ S → h2.get? b = some o → ((h2.update S (Obj.mapSeq fun _ => #[Value.ref p])).update S (Obj.mapSeq fun _ => #[Value.ref p])).get? b = some o := fun {b o} nb e => (Heap.get?_update_other _ _ (Ne.symm nb)).trans ((Heap.get?_update_other _ _ (Ne.symm nb)).trans e)
    refine wpAny_bind (wpAny_updateSeq hS3 rfl (wpAny_pure ⟨plainId_quiet F.plain_sum_loop _, ih (i + 1) _ p _ (by omega) hlt (W.frame _ _ _ hst' fun b hb o e => ?_) (Heap.get?_update_self _ hS3 rfl) ⟨0, ?_⟩ (fun z => ?_) (Nat.ne_of_gt hSp) (fun j v hj hPj => ?_) (.inr (Nat.le_of_lt (Nat.lt_of_le_of_lt hBS hSp))) hwS fun h'' tk'' T' hk'' hB' hT'' => ?_⟩))
    · exact k3 (fun z => hSf (z ▸ hb)) (k2 e)
    · have z := k3 (b := p) (Nat.ne_of_gt hSp) kp
      show _ = some _
      rw [z, accL]
      simp
    · exact absurd (hwS p z) (Nat.not_lt.mpr (Nat.le_of_lt hSp))
    · obtain ⟨a2, m2, e1, e2, e3, e4⟩ := hin j v (by omega) hPj
      exact ⟨a2, m2, e1, k3 e4 (k2 (hk' a2 _ e3 e2)), e3, e4⟩
    · exact hR h'' tk'' T' (fun b o nb nS e => hk'' b o nb nS (k3 nS (k2 (hk' b o nb e)))) hB' hT''
end
theorem args_sum2 (a b : Value) : argsOk "sum" ⟨[a, b], []⟩ := by unfold argsOk; kernel_rfl
section
variable {prog : Program} {w : World} {A : Around} {E : Value → Shared → Prop} {s : Shared}
theorem sum_lists {l b : Addr} {its : List Value} {nb : Nat} {ys : Nat → List Value} {Q : Value → Shared → Prop} (hh : A.handled = none) (hl : s.heap.IsList l its.toArray) (hb : IsL s.heap b #[] nb) (hin : ∀ j v, its[j]? = some v → ∃ a m, v = .ref a ∧ IsL s.heap a (ys j).toArray m)
    (hz : (accL ys its.length).length ≤ sizeLine) (hne : 0 < its.length)
    (h : ∀ h' tk p, (∀ c o, s.heap.get? c = some o → h'.get? c = some o) → s.heap.objs.size ≤ p → (∃ m, IsL h' p (accL ys its.length).toArray m) → Q (.ref p) { s with heap := h', toks := tk }) :
    wpAny (model prog w) A (call (.builtin "sum") [.ref l, .ref b]) Q E s := by
  refine call_function_tree F.kind_sum F.plain_sum F.entry_sum (args_sum2 _ _) ?_
  unfold Builtin.«sum»
  simp only [List.length_cons, List.length_nil]
  rw [if_neg (by decide)]
  refine wpAny_bind (wpAny_of_eq (show Builtin.Builtins.bindParams "sum" ["start"] 0 ⟨[.ref b], []⟩ = pure [some (.ref b)] from rfl) ?_)
  have hlt : l < s.heap.objs.size := by
    obtain ⟨_, e, _⟩ := hl
    exact Heap.lt_size e
  refine wpAny_bind (wpAny_pyIter_list hl ?_)
  have k1 : ∀ {c : Addr} {o : Obj}, s.heap.get? c = some o → (s.heap.push { cls := .type "list_iterator", data := .fields #[.ref l, .int 0 0] }).get? c = some o := fun e => Heap.get?_push_of_some _ e
  have st0 : (s.heap.push { cls := .type "list_iterator", data := .fields #[.ref l, .int 0 0] }).IsListIter s.heap.objs.size l 0 ∧ (s.heap.push { cls := .type "list_iterator", data := .fields #[.ref l, .int 0 0] }).IsList l its.toArray := ⟨⟨_, Heap.get?_push_size _ rfl, rfl, rfl⟩, hl.push _⟩
  have sz1 : s.heap.objs.size < (s.heap.push { cls := .type "list_iterator", data := .fields #[.ref l, .int 0 0] }).objs.size := by
    rw [Heap.size_push]
    exact Nat.lt_succ_self _
  generalize s.heap.push { cls := .type "list_iterator", data := .fields #[.ref l, .int 0 0] } = h1 at k1 st0 sz1
  have tyb : ({ s with heap := h1 } : Shared).TypeIs (.ref b) "list" := ⟨_, k1 hb, rfl⟩
  refine wpAny_bind (wpAny_pure ?_)
  simp only [List.forIn_cons, List.forIn_nil]
  refine wpAny_bind (wpAny_bind (wpAny_bind (wpAny_isInstance (T := "list") (b := false) tyb F.sub_list_str ?_)))
  simp only [Bool.false_eq_true, if_false]
  refine wpAny_pure (wpAny_bind (wpAny_bind (wpAny_isInstance (T := "list") (b := false) tyb F.sub_list_bytes ?_)))
  simp only [Bool.false_eq_true, if_false]
  refine wpAny_pure (wpAny_bind (wpAny_bind (wpAny_isInstance (T := "list") (b := false) tyb (by rw [isSubtype_type]; kernel_rfl) ?_)))
  simp only [Bool.false_eq_true, if_false]
  refine wpAny_pure (wpAny_pure ?_)
  refine wpAny_bind (wpAny_newObj_type ?_)
  have bl : ∀ {c : Addr} {o : Obj}, s.heap.get? c = some o → c < s.heap.objs.size := fun e => Heap.lt_size e
  have W := Walks.list (prog := prog) (w := w) (A := A.in1) hh s.heap.objs.size l (Nat.ne_of_lt hlt) its.toArray
  rw [List.size_toArray] at W
  have in2 : ∀ {c : Addr}, c ∈ [s.heap.objs.size, l] → c < h1.objs.size := fun {c} hm => by
    rcases List.mem_cons.mp hm with e | e
    · rw [e]; exact sz1
    · rw [List.mem_singleton.mp e]; exact Nat.lt_trans hlt sz1
  have in1 : ∀ {c : Addr}, c ∈ [s.heap.objs.size] → c = s.heap.objs.size := fun hm => List.mem_singleton.mp hm
  refine wpAny_pure ⟨plainId_quiet F.plain_sum_loop _, sumL_loop W ys h1.objs.size s.heap.objs.size (fun hm => Nat.lt_irrefl _ (in2 hm)) (Nat.le_of_lt sz1) hz its.length 0 _ b 0 rfl (Nat.zero_le _) (W.frame 0 h1 _ st0 fun c _ o e => Heap.get?_push_of_some _ e) (Heap.get?_push_size _ rfl) ⟨nb, Heap.get?_push_of_some _ (k1 hb)⟩ (fun hm => Nat.lt_irrefl _ (in1 hm ▸ bl hb)) (Nat.ne_of_lt (Nat.lt_trans (bl hb) sz1)) (fun j v _ hj => ?_) (.inl hne) (fun c hc => by rw [in1 hc]; exact sz1) fun h' tk T' hk hB hT => ?_⟩
  · obtain ⟨a, m, e1, e2⟩ := hin j v (by simpa using hj)
    exact ⟨a, m, e1, Heap.get?_push_of_some _ (k1 e2), fun hm => Nat.lt_irrefl _ (in1 hm ▸ bl e2), Nat.ne_of_lt (Nat.lt_trans (bl e2) sz1)⟩
  · exact h h' tk T' (fun c o e => hk c o (fun hm => Nat.lt_irrefl _ (in1 hm ▸ bl e)) (Nat.ne_of_lt (Nat.lt_trans (bl e) sz1)) (Heap.get?_push_of_some _ (k1 e))) hB hT
end
theorem accL_take (vss : List (List Value)) : ∀ i, i ≤ vss.length → accL (fun j => vss.getD j []) i = (vss.take i).flatten
  | 0, _ => by simp [accL]
  | i + 1, h => by
    rw [accL, accL_take vss i (by omega), List.take_succ_eq_append_getElem (by omega), List.flatten_append]
    simp [List.getD_eq_getElem?_getD, List.getElem?_eq_getElem (show i < vss.length by omega)]
theorem accL_flat (vss : List (List Value)) : accL (fun j => vss.getD j []) vss.length = vss.flatten := by
  rw [accL_take vss _ (Nat.le_refl _), List.take_length]
/-- the lists that a list holds -/
inductive Inner (H : Hp) : List V → List (List V) → Prop where
  | nil : Inner H [] []
  | cons {a : Addr} {ys : List V} {xs : List V} {yss : List (List V)} (h : H a = some (.lst ys)) (t : Inner H xs yss) : Inner H (.ref a :: xs) (ys :: yss)
section
variable {X : Cx} {pins : List (Addr × Obj)} {σ : L2.St} {H : Hp} {s : Shared}
theorem inner_vals (I : Inv X pins σ H s) : ∀ {xs : List V} {yss : List (List V)} {its : List Value}, Inner H xs yss → Vals xs its → ∃ vss : List (List Value), vss.length = its.length ∧ (∀ j v, its[j]? = some v → ∃ a m, v = .ref a ∧ IsL s.heap a (vss.getD j []).toArray m) ∧ Vals yss.flatten vss.flatten
  | _, _, _, .nil, .nil => ⟨[], rfl, fun j v h => by simp at h, .nil⟩
  | _, _, _, .cons h t, .cons r rs => by
    cases r
    obtain ⟨z, its, n, r2, hl, e⟩ := I.lstM h
    obtain ⟨vss, h1, h2, h3⟩ := inner_vals I t rs
    refine ⟨its :: vss, by simp [h1], fun j v hj => ?_, by rw [List.flatten_cons, List.flatten_cons]; exact r2.append h3⟩
    cases j with
    | zero =>
      cases hj
      exact ⟨_, n, rfl, e⟩
    | succ j =>
      obtain ⟨a, m, q1, q2⟩ := h2 j v (by simpa using hj)
      exact ⟨a, m, q1, by simpa using q2⟩
theorem cr_sumL (hc : X.calm = true) : CallR X (.builtin "sum") (fun vs H Q => ∃ (l b : Addr) (xs : List V) (yss : List (List V)), vs = [.ref l, .ref b] ∧ H l = some (.lst xs) ∧ H b = some (.lst []) ∧ Inner H xs yss ∧ xs ≠ [] ∧ yss.flatten.length ≤ sizeLine ∧ ∀ p, H p = none → Q (.ref p) (upd H p (.lst yss.flatten))) := by
  intro pins s σ H vs us Q I r h
  obtain ⟨l, b, xs, yss, rfl, h1, h2, h3, hne, hz, q⟩ := h
  obtain ⟨ur, rfl, u1⟩ : ∃ ur, us = [.ref l, .ref b] ∧ ur = () := by
    cases r with
    | cons r1 r2 =>
      cases r2 with
      | cons r3 r4 =>
        cases r4
        cases r1
        cases r3
        exact ⟨(), rfl, rfl⟩
  obtain ⟨z, its, n, r1, hl, e⟩ := I.lstM h1
  obtain ⟨z2, its2, n2, r2, hl2, e2⟩ := I.lstM h2
  cases r2
  obtain ⟨vss, k1, k2, k3⟩ := inner_vals I h3 r1
  have fl := accL_flat vss
  rw [k1] at fl
  have hlen := k3.length
  refine sum_lists (ys := fun j => vss.getD j []) (its := its) (nb := n2) (I.ok.hd hc) ⟨_, e, rfl, n, rfl⟩ e2 k2 (by rw [fl]; omega) (by
    have := r1.length
    have : 0 < xs.length := List.length_pos_iff.mpr hne
    omega) fun h' tk p hk hp hT => ?_
  rw [fl] at hT
  obtain ⟨m, hm⟩ := hT
  have fresh : H p = none := I.hok.fresh hp
  exact ⟨.ref p, upd H p (.lst yss.flatten), I.laid (t' := tk) hk hp ⟨hz, vss.flatten, m, k3, hm⟩, rfl, q p fresh⟩
theorem inner_of {g : G} {F H : Hp} (sb : Sub F H) : ∀ {vs : List V} {xs : List PyData} {yss : List (List PyData)}, RepAll g F vs xs → listsOf xs = some yss → ∃ zss : List (List V), Inner H vs zss ∧ RepAll g F zss.flatten yss.flatten
  | _, _, _, .nil, h => by
    cases h
    exact ⟨[], .nil, .nil⟩
  | _, x :: xs, yss, .cons r rs, h => by
    cases x with
    | list ys =>
      have h' : (match listsOf xs with | some yss => some (ys :: yss) | none => none) = some yss := h
      cases hl : listsOf xs with
      | none => rw [hl] at h'; cases h'
      | some yss' =>
        rw [hl] at h'
        cases h'
        obtain ⟨zss, h1, h2⟩ := inner_of sb rs hl
        cases r with
        | lst q r =>
          refine ⟨_ :: zss, .cons (sb _ _ q) h1, ?_⟩
          rw [List.flatten_cons, List.flatten_cons]
          exact r.append h2
    | _ => cases h
theorem p_sumL {q : Qn} {C : V → Wd → Hp → Prop} (hc : X.calm = true) : CallR X (.builtin "sum") (rP (q.at X C) .sumL) := by
  refine cr_of (cr_sumL hc) fun x H Q ⟨F, ws, r, sb, pr, hr, k⟩ => ?_
  have hr' : qSumL ws = some r := hr
  unfold qSumL at hr'
  split at hr'
  · obtain ⟨v, u, rfl, ta, tb⟩ := two' pr
    split at hr'
    · next yss hl =>
      split at hr'
      · next hz =>
        simp only [Bool.and_eq_true, Bool.not_eq_true', decide_eq_true_eq] at hz
        obtain ⟨a, xs, rfl, h1, r1⟩ := ta
        obtain ⟨b, zs, rfl, h2, r2⟩ := tb
        cases r2
        obtain ⟨zss, h3, r3⟩ := inner_of sb r1 hl
        refine ⟨a, b, xs, zss, rfl, h1, h2, h3, fun z => ?_, ?_, new_lst sb r3 (Option.some.inj hr').symm k⟩
        · subst z
          cases r1
          simp at hz
        · rw [r3.length, sizeLine_eq]
          exact hz.2
      · cases hr'
    · cases hr'
  · cases hr'
end
end Ev
set_option Elab.async false
set_option linter.all false
set_option maxRecDepth 100000
set_option maxHeartbeats 1000000
/-! EvDj: repr of data. -/
namespace Ev
open PySem PySem.Spec PyProof.Rows L2
section
variable {q : Qn} {X : Cx} {C : V → Wd → Hp → Prop}
theorem p_repr (gd : X.A.guards = some []) (hu : X.A.units + 70 < cLine) : CallR X (.builtin "repr") (rP (q.at X C) .repr) := by
  intro pins s σ H xs us Q I rv ⟨F, ws, r, sb, pr, hr, k⟩
  have hr' : qRepr ws = some r := hr
  unfold qRepr at hr'
  split at hr'
  · next x =>
    split at hr'
    · next hc =>
      simp only [Bool.and_eq_true, Bool.not_eq_true', decide_eq_true_eq] at hc
      obtain ⟨⟨⟨⟨c1, c2⟩, c3⟩, c4⟩, c5⟩ := hc
      obtain ⟨v, rfl, t⟩ := one pr
      have d1 := top_dp sb t c2
      obtain ⟨u, rfl, ru⟩ : ∃ u, us = [u] ∧ RelV v u := by
        cases rv with
        | cons h1 h2 =>
          cases h2
          exact ⟨_, rfl, h1⟩
      obtain ⟨as, rd⟩ := Dp.reads I x v u d1 ru
      have fin : ∀ (tk : Nat) (h' : Heap) (tt : Tok), (∀ b o, s.heap.get? b = some o → h'.get? b = some o) → EP X pins σ Q (.str x.shown tt) { s with heap := h', toks := tk } := fun tk h' tt hk =>
        ⟨.str x.shown, H, I.kept hk, ⟨tt, rfl⟩, old_val sb (w := .d (.str x.shown)) (Rep.str _) (Option.some.inj hr').symm k⟩
      have c5' : x.shown.length ≤ sizeLine := by rw [sizeLine_eq]; exact c5
      cases rd with
      | none => exact call_repr_gives (T := "NoneType") rfl PySem.F.slot_NoneType_repr PySem.F.entry_NoneType_repr (PySem.F.args_NoneType_repr_1 _) gives_none_repr (fin _ s.heap _ fun _ _ z => z) rfl (by decide)
      | bool b =>
        have z := fin (s.toks + 1) s.heap s.toks fun _ _ z => z
        rw [PyData.shown_bool] at z
        exact call_repr_gives (T := "bool") rfl PySem.F.slot_bool_repr PySem.F.entry_bool_repr (PySem.F.args_bool_repr_1 _) (gives_bool_repr b) z rfl (by cases b <;> decide)
      | int i tt =>
        obtain rfl : v = .int i := by
          cases d1
          rfl
        have z := old_val sb (w := .d (.str (PyData.int i).shown)) (Rep.str _) (Option.some.inj hr').symm k
        rw [PyData.shown_int] at z
        exact SkE.call_repr_int pins s σ H [.int i] [_] Q I rv ⟨i, rfl, of_decide_eq_true c1, z⟩
      | str y tt =>
        rw [PyData.shown_str] at c5'
        have z := fin (s.toks + 1) s.heap s.toks fun _ _ z => z
        rw [PyData.shown_str] at z
        exact call_repr_gives (T := "str") rfl PySem.F.slot_str_repr PySem.F.entry_str_repr (PySem.F.args_str_repr_1 _) (gives_str_repr y tt) z rfl c5'
      | list h1 h2 h3 h4 =>
        have dp := SeqAt.depth_of_shaped c2
        exact repr_of_reads' (.list h1 h2 h3 h4) c3 (fun z => by rw [c4] at z; cases z) gd (by omega) (fun _ _ z => z) (fun h' u tk hk => fin tk h' u hk) c5'
      | tuple h1 h2 h3 h4 =>
        have dp := SeqAt.depth_of_shaped c2
        exact repr_of_reads' (.tuple h1 h2 h3 h4) c3 (fun z => by rw [c4] at z; cases z) gd (by omega) (fun _ _ z => z) (fun h' u tk hk => fin tk h' u hk) c5'
      | dict _ _ _ _ _ => cases c1
    · cases hr'
  · cases hr'
end
end Ev
set_option Elab.async false
set_option linter.all false
set_option maxRecDepth 100000
set_option maxHeartbeats 1000000
/-! EvDk: list and tuple of a range. -/
namespace Ev
open PySem PySem.Spec PyProof.Rows L2
section
variable {q : Qn} {X : Cx} {C : V → Wd → Hp → Prop} {W : WX} {rv : Ev}
def rgN (t : Bool) : Str := if t then "tuple" else "list"
theorem rg_all {g : G} {F : Hp} (i : Int) : ∀ n : List Nat, RepAll g F (n.map fun (k : Nat) => V.int (i + (k : Int))) (n.map fun (k : Nat) => PyData.int (i + (k : Int)))
  | [] => .nil
  | k :: r => .cons (.int _) (rg_all i r)
theorem rg_rep {g : G} {F : Hp} (i j : Int) : RepAll g F (rgV i j) (rangeI i (j - i).toNat) := rg_all i _
theorem rg_ok {i j : Int} (h1 : j < 1000000) (h2 : -1000000 < j) (h3 : i < 1000000) (h4 : -1000000 < i) : RgOk i j := by
  have z : (2 : Int) ^ 62 = 4611686018427387904 := by decide
  have y : (2 : Nat) ^ 24 = 16777216 := by decide
  unfold RgOk
  rw [z, y]
  omega
theorem rg_end {g : G} {F H : Hp} {ws : List Wd} {xs : List PyData} (h : rgOf ws = some xs) {vs : List V} (pr : Paired (TopW g F H) vs ws) : ∃ i j : Int, RgOk i j ∧ RepAll g F (rgV i j) xs ∧ ((vs = [.int j] ∧ i = 0) ∨ vs = [.int i, .int j]) := by
  unfold rgOf at h
  split at h
  · next j =>
    split at h
    · next hc =>
      cases h
      obtain ⟨v, rfl, t⟩ := one pr
      refine ⟨0, j, rg_ok hc.1 hc.2 (by decide) (by decide), ?_, .inl ⟨by rw [top_int t], rfl⟩⟩
      have z := rg_rep (g := g) (F := F) 0 j
      rw [Int.sub_zero] at z
      exact z
    · cases h
  · next i j =>
    split at h
    · next hc =>
      cases h
      obtain ⟨v, u, rfl, t1, t2⟩ := two' pr
      exact ⟨i, j, rg_ok hc.1 hc.2.1 hc.2.2.1 hc.2.2.2, rg_rep i j, .inr (by rw [top_int t1, top_int t2])⟩
    · cases h
  · cases h
/-- what is made of the ends -/
theorem rg_use {vs : List V} {H : Hp} {Q : VK} (t : Bool) (h : rP (q.at X C) (if t then P.trg else P.lrg) vs H Q) : ∃ i j : Int, ((vs = [.int j] ∧ i = 0) ∨ vs = [.int i, .int j]) ∧ RgOk i j ∧ ∀ a : Addr, H a = none → Q (.ref a) (upd H a (if t then .tup (rgV i j) else .lst (rgV i j))) := by
  obtain ⟨F, ws, r, sb, pr, hr, k⟩ := h
  cases t with
  | false =>
    have hr' : qLrg ws = some r := hr
    unfold qLrg at hr'
    split at hr'
    · next xs hx =>
      obtain ⟨i, j, h1, h2, h3⟩ := rg_end hx pr
      exact ⟨i, j, h3, h1, fun a ha => new_lst sb h2 (Option.some.inj hr').symm k a ha⟩
    · cases hr'
  | true =>
    have hr' : qTrg ws = some r := hr
    unfold qTrg at hr'
    split at hr'
    · next xs hx =>
      obtain ⟨i, j, h1, h2, h3⟩ := rg_end hx pr
      exact ⟨i, j, h3, h1, fun a ha => new_tup sb h2 (Option.some.inj hr').symm k a ha⟩
    · cases hr'
theorem rg_one {a : Expr} {x : E} {p p2 pos pos2 : Pos} (t : Bool) (hc : X.calm = true) (hg : Gl X (rgN t)) (hm : X.mg (rgN t) = none) (hg2 : Gl X "range") (hm2 : X.mg "range" = none) (ha : PE X a (tO (q.at X C) W (evOp rv x))) (ns : NoStar a) :
    PE X (.Call (.Name (rgN t) p) [.Call (.Name "range" p2) [a] [] pos2] [] pos) (tR (q.at X C) W (ePrim rv (if t then .trg else .lrg) [x])) := by
  have key : ∀ {σ H Q}, tR (q.at X C) W (ePrim rv (if t then .trg else .lrg) [x]) σ H Q → tO (q.at X C) W (evOp rv x) σ H fun v H1 => ∃ n, v = .int n ∧ RgOk 0 n ∧ ∀ a : Addr, H1 a = none → Q (.ref a) (upd H1 a (if t then .tup (rgV 0 n) else .lst (rgV 0 n))) := fun i => by
    obtain ⟨F, e, k, o⟩ := one_key (fun e => prim1) i
    refine ⟨F, e, k, o.imp fun r e1 _ o1 v F1 H1 s1 k1 r1 => ?_⟩
    obtain ⟨i, j, h1, h2, h3⟩ := rg_use (q := q) (X := X) (C := C) t (o1 v F1 H1 s1 k1 r1)
    rcases h1 with ⟨h1, rfl⟩ | h1
    · cases h1
      exact ⟨j, rfl, h2, h3⟩
    · cases h1
  cases t with
  | false => exact pe_of (pe_listRg hc hg hm (prg_1 hg2 hm2 ha (star_cons ns)) (star_cons trivial)) fun σ H Q i => key i
  | true => exact pe_of (pe_tupRg hc hg hm (prg_1 hg2 hm2 ha (star_cons ns)) (star_cons trivial)) fun σ H Q i => key i
theorem rg_two {a b : Expr} {x y : E} {p p2 pos pos2 : Pos} (t : Bool) (hc : X.calm = true) (hg : Gl X (rgN t)) (hm : X.mg (rgN t) = none) (hg2 : Gl X "range") (hm2 : X.mg "range" = none) (ha : PE X a (tO (q.at X C) W (evOp rv x))) (hb : PE X b (tO (q.at X C) W (evOp rv y))) (ns : NoStar a) (ns2 : NoStar b) :
    PE X (.Call (.Name (rgN t) p) [.Call (.Name "range" p2) [a, b] [] pos2] [] pos) (tR (q.at X C) W (ePrim rv (if t then .trg else .lrg) [x, y])) := by
  have key : ∀ {σ H Q}, tR (q.at X C) W (ePrim rv (if t then .trg else .lrg) [x, y]) σ H Q → tO (q.at X C) W (evOp rv x) σ H fun v H1 => tO (q.at X C) W (evOp rv y) σ H1 fun u H2 => ∃ i j, v = .int i ∧ u = .int j ∧ RgOk i j ∧ ∀ a : Addr, H2 a = none → Q (.ref a) (upd H2 a (if t then .tup (rgV i j) else .lst (rgV i j))) := fun {σ H Q} ⟨F, e, k, o⟩ => by
    refine ⟨F, e, k, ?_⟩
    have o' : Out (q.at X C) F σ H e (R.bind (R.bind (evOp rv x e) fun o e1 => R.bind (R.bind (evOp rv y e1) fun o e1 => R.bind (some (.ok [] e1)) fun os e2 => some (.ok (o :: os) e2)) fun os e2 => some (.ok (o :: os) e2)) (eRun (if t then .trg else .lrg))) W _ := o
    refine o'.bind.bind.imp fun p1 e1 _ o1 v F1 H1 s1 k1 r1 => ⟨F1, e1, k1, (((o1.step s1).bind).bind).imp fun p2 e2 _ o2 w F2 H2 s2 k2 r2 => ?_⟩
    obtain ⟨i, j, h1, h2, h3⟩ := rg_use (q := q) (X := X) (C := C) t (run_ok (os := [p1, p2]) (s1.trans s2) k2 (.cons (r1.step s2) (.cons (r2.base fun a h => s1.bs h) .nil)) o2)
    rcases h1 with ⟨h1, rfl⟩ | h1
    · cases h1
    · cases h1
      exact ⟨i, j, rfl, rfl, h2, h3⟩
  cases t with
  | false => exact pe_of (pe_listRg hc hg hm (prg_2 hg2 hm2 ha hb (star_cons ns) (star_cons ns2) (by rw [star1 ns2]; rfl)) (star_cons trivial)) fun σ H Q i => key i
  | true => exact pe_of (pe_tupRg hc hg hm (prg_2 hg2 hm2 ha hb (star_cons ns) (star_cons ns2) (by rw [star1 ns2]; rfl)) (star_cons trivial)) fun σ H Q i => key i
end
end Ev
set_option Elab.async false
set_option linter.all false
set_option maxRecDepth 100000
set_option maxHeartbeats 1000000
/-! EvDl: len of dicts. -/
namespace Ev
open PySem PySem.Spec PyProof.Rows L2
section
variable {q : Qn} {X : Cx} {C : V → Wd → Hp → Prop}
theorem p_len : CallR X (.builtin "len") (rP (q.at X C) .len) := by
  intro pins s σ H x us Q I rv ⟨F, ws, r, sb, pr, hr, k⟩
  have hr' : qLen ws = some r := hr
  by_cases hd : ∃ kvs, ws = [.d (.dict kvs)]
  · obtain ⟨kvs, rfl⟩ := hd
    have hr' : vI kvs.length = some r := hr
    obtain ⟨v, rfl, t⟩ := one pr
    obtain ⟨a, rfl, u, hu, own⟩ := t
    obtain ⟨uu, rfl, ru⟩ : ∃ uu, us = [uu] ∧ RelV (.ref a) uu := by
      cases rv with
      | cons h1 h2 =>
        cases h2
        exact ⟨_, rfl, h1⟩
    obtain rfl : uu = .ref a := ru
    have ob : ObjOk X.prog X.w H s.heap a u := by
      rcases hu with h | ⟨o, h⟩
      · exact I.hok a _ h
      · have z := I.hok a _ h
        rw [ObjOk.eq_10] at z
        exact z.2
    have fin : ∀ (n : Nat) (tk : Nat) (tt : Tok), n = kvs.length → EP X pins σ Q (.int (n : Nat) tt) { s with toks := tk } := fun n tk tt e => by
      subst e
      exact ⟨.int (kvs.length : Nat), H, I.kept (t' := tk) fun _ _ z => z, ⟨tt, rfl⟩, old_int sb hr' k⟩
    have sz : ∀ n : Nat, n ≤ sizeLine → ((n : Nat) : Int) < 2 ^ 63 := fun n h => by
      have z : (2 : Int) ^ 63 = 9223372036854775808 := by decide
      rw [sizeLine_eq] at h
      rw [z]
      omega
    rcases own with ⟨kv, kds, vds, e1, a1, a2, e2⟩ | ⟨ks, vs, vds, e1, a1, a2, e2⟩
    · rw [upd_same] at e1
      cases e1
      rw [ObjOk.eq_3] at ob
      obtain ⟨l1, l2, wv, kw, dd⟩ := ob
      have l3 := kw.length
      have l4 : kvs.length = kv.length := by
        have z1 := a1.length
        have z2 := a2.length
        rw [List.length_map] at z1 z2
        rw [e2, List.length_zip]
        omega
      exact call_len_dict l2 dd (by rw [← l3]; exact sz _ l1) (fin _ _ _ (by omega))
    · rw [upd_same] at e1
      cases e1
      unfold DicO at ob
      rw [ObjOk.eq_13] at ob
      obtain ⟨⟨l2, l1, l3, nd, dp, uv, rv2, o, es, ep, o1, o2, o3, o4⟩, _⟩ := ob
      have l4 : kvs.length = ks.length := by
        have z1 := a1.length
        have z2 := a2.length
        rw [List.length_map, List.length_map] at z1
        rw [e2, List.length_zip, List.length_map]
        omega
      have l5 : (ent ks uv).length = ks.length := by
        have z := rv2.length
        unfold ent
        simp only [List.length_map, List.length_zip]
        omega
      have nd2 : ((ent ks uv).map fun x => x.1).Nodup := by
        have hm : (ent ks uv).map (·.1) = ks.map (·.1) := by
          unfold ent
          rw [List.map_map]
          have z := congrArg (List.map (fun y : NestedKey × Addr => y.1)) (zip_fst (vs := ks) (ps := uv) (by rw [← rv2.length]; exact l3))
          rw [List.map_map] at z
          exact z
        rw [hm]
        exact nd
      have his : ∀ x ∈ ent ks uv, (nestedKind X.prog X.w).is s.heap x.1 x.2.1 := fun x hx => by
        unfold ent at hx
        obtain ⟨p, hp, e⟩ := List.mem_map.mp hx
        have hm := (List.of_mem_zip hp).1
        rw [← e]
        exact ⟨nest_is I sb p.1.1 (keys_repAll a1 p.1 hm) rfl, dp _ hm⟩
      exact call_len_dictH (knd := nestedKind X.prog X.w) l2 ⟨o, es, ep, o1, o2, o3, o4, his, nd2⟩ (by rw [l5]; exact sz _ l1) (fin _ _ _ (by omega))
  · exact p_len0 (q := q) (C := C) pins s σ H x us Q I rv ⟨F, ws, r, sb, pr, hr', k, fun kvs e => hd ⟨kvs, e⟩⟩
end
end Ev
set_option Elab.async false
set_option linter.all false
set_option maxRecDepth 100000
set_option maxHeartbeats 2000000
/-! EvDm: dict comprehensions whose keys are whole numbers or texts. -/
namespace Ev
open PySem PySem.Spec PyProof.Rows L2
theorem keyE_iff {a b : L2.Key} : keyE a b = true ↔ a = b := by
  cases a with
  | inl i =>
    cases b with
    | inl j => simp [keyE]
    | inr y => simp [keyE]
  | inr x =>
    cases b with
    | inl j => simp [keyE]
    | inr y => simp [keyE]
theorem putD_hit {α : Type} {k : L2.Key} {v : α} : ∀ {l : List (L2.Key × α)}, (l.map (·.1)).Nodup → (∃ p ∈ l, p.1 = k) → putD l k v = l.map fun p => if p.1 = k then (p.1, v) else p
  | [], _, h => by
    obtain ⟨p, hp, _⟩ := h
    cases hp
  | p :: r, nd, h => by
    rw [putD, List.map_cons]
    rw [List.map_cons, List.nodup_cons] at nd
    by_cases hk : p.1 = k
    · rw [if_pos (keyE_iff.mpr hk), if_pos hk]
      congr 1
      have hid : ∀ y ∈ r, (if y.1 = k then (y.1, v) else y) = y := fun y hy => by
        rw [if_neg]
        intro z
        exact nd.1 (by rw [hk, ← z]; exact List.mem_map.mpr ⟨y, hy, rfl⟩)
      have e : (r.map fun y => if y.1 = k then (y.1, v) else y) = r.map (fun y => y) := List.map_congr_left hid
      rw [e, List.map_id']
    · rw [if_neg (fun z => hk (keyE_iff.mp z)), if_neg hk]
      congr 1
      refine putD_hit nd.2 ?_
      obtain ⟨y, hy, e⟩ := h
      rcases List.mem_cons.mp hy with z | z
      · rw [z] at e
        exact absurd e hk
      · exact ⟨y, z, e⟩
theorem putD_new {α : Type} {k : L2.Key} {v : α} : ∀ {l : List (L2.Key × α)}, (¬ ∃ p ∈ l, p.1 = k) → putD l k v = l ++ [(k, v)]
  | [], _ => rfl
  | p :: r, h => by
    rw [putD, if_neg (fun z => h ⟨p, List.mem_cons_self, keyE_iff.mp z⟩), List.cons_append, putD_new fun ⟨y, hy, e⟩ => h ⟨y, List.mem_cons_of_mem _ hy, e⟩]
theorem putK_D {k : L2.Key} {v : V} {l : List (L2.Key × V)} (nd : (l.map (·.1)).Nodup) : putK l k v = putD l k v := by
  unfold putK
  by_cases h : ∃ p ∈ l, p.1 = k
  · rw [if_pos, putD_hit nd h]
    obtain ⟨p, hp, e⟩ := h
    rw [List.any_eq_true]
    exact ⟨p, hp, decide_eq_true e⟩
  · rw [if_neg, putD_new h]
    intro z
    rw [List.any_eq_true] at z
    obtain ⟨p, hp, e⟩ := z
    exact h ⟨p, hp, of_decide_eq_true e⟩
theorem putD_keys {α β : Type} {k : L2.Key} {v : α} {d : β} : ∀ {l : List (L2.Key × α)} {m : List (L2.Key × β)}, l.map (·.1) = m.map (·.1) → (putD l k v).map (·.1) = (putD m k d).map (·.1)
  | [], [], _ => rfl
  | [], _ :: _, h => by cases h
  | _ :: _, [], h => by cases h
  | p :: l, r :: m, h => by
    rw [List.map_cons, List.map_cons, List.cons.injEq] at h
    obtain ⟨h1, h2⟩ := h
    rw [putD, putD, h1]
    by_cases hk : keyE r.1 k = true
    · rw [if_pos hk, if_pos hk, List.map_cons, List.map_cons, h2]
    · rw [if_neg hk, if_neg hk, List.map_cons, List.map_cons, h1, putD_keys h2]
theorem putD_mem {α : Type} {k : L2.Key} {v : α} {x : L2.Key} : ∀ {l : List (L2.Key × α)}, x ∈ (putD l k v).map (·.1) → x ∈ l.map (·.1) ∨ x = k
  | [], h => by
    rw [putD, List.map_cons, List.map_nil, List.mem_singleton] at h
    exact .inr h
  | p :: l, h => by
    rw [putD] at h
    split at h
    · exact .inl h
    · rw [List.map_cons] at h
      rcases List.mem_cons.mp h with z | z
      · exact .inl (List.mem_cons.mpr (.inl z))
      · exact (putD_mem z).imp (fun y => List.mem_cons.mpr (.inr y)) id
theorem putD_nodup {α : Type} {k : L2.Key} {v : α} : ∀ {l : List (L2.Key × α)}, (l.map (·.1)).Nodup → ((putD l k v).map (·.1)).Nodup
  | [], _ => by simp [putD]
  | p :: l, h => by
    rw [putD]
    by_cases hk : keyE p.1 k = true
    · rw [if_pos hk]
      exact h
    · rw [if_neg hk, List.map_cons, List.nodup_cons]
      rw [List.map_cons, List.nodup_cons] at h
      refine ⟨fun z => ?_, putD_nodup h.2⟩
      rcases putD_mem z with y | y
      · exact h.1 y
      · exact hk (keyE_iff.mpr y)
theorem putD_rep {g : G} {F : Hp} {k : L2.Key} {v : V} {d : PyData} (r : Rep g F v d) : ∀ {l : List (L2.Key × V)} {m : List (L2.Key × PyData)}, l.map (·.1) = m.map (·.1) → RepAll g F (l.map (·.2)) (m.map (·.2)) → RepAll g F ((putD l k v).map (·.2)) ((putD m k d).map (·.2))
  | [], [], _, _ => .cons r .nil
  | [], _ :: _, h, _ => by cases h
  | _ :: _, [], h, _ => by cases h
  | p :: l, y :: m, h, ra => by
    rw [List.map_cons, List.map_cons, List.cons.injEq] at h
    obtain ⟨h1, h2⟩ := h
    cases ra with
    | cons a b =>
      rw [putD, putD, h1]
      by_cases hk : keyE y.1 k = true
      · rw [if_pos hk, if_pos hk]
        exact .cons r b
      · rw [if_neg hk, if_neg hk]
        exact .cons a (putD_rep r h2 b)
theorem putD_len {α : Type} {k : L2.Key} {v : α} {l : List (L2.Key × α)} {β : Type} {m : List (L2.Key × β)} (h : l.map (·.1) = m.map (·.1)) : l.length = m.length := by
  have z := congrArg List.length h
  rw [List.length_map, List.length_map] at z
  exact z
theorem atomK_rep {g : G} {F : Hp} {x : PyData} {k : L2.Key} {v : V} (h : atomK x = some k) (r : Rep g F v x) : v = kV k := by
  cases x <;> cases h
  · cases r
    rfl
  · cases r
    rfl
theorem keys_rep {g : G} {F : Hp} : ∀ {α : Type} (l : List (L2.Key × α)), RepAll g F (l.map fun p => kV p.1) (l.map fun p => keyP p.1)
  | _, [] => .nil
  | _, (.inl i, _) :: l => .cons (.int i) (keys_rep l)
  | _, (.inr x, _) :: l => .cons (.str x) (keys_rep l)
theorem dK_code (kv : List (L2.Key × V)) : (∀ ps, HO.dK kv ≠ .tbl ps) ∧ ∀ q a, HO.dK kv ≠ LamX.CodeO a q := ⟨fun _ z => (by cases z), fun _ _ z => (by unfold LamX.CodeO at z; cases z)⟩
theorem tabs_dK {T : List (Addr × Str)} {H : Hp} {a : Addr} {kv : List (L2.Key × V)} {u : HO} (t : LamX.Tabs T H) (h : H a = some (.dK kv)) : LamX.Tabs T (upd H a u) := fun p hp => by
  obtain ⟨ps, h1, h2, h3⟩ := t p hp
  have n1 : p.1 ≠ a := fun z => by
    rw [z, h] at h1
    exact (dK_code kv).1 ps (Option.some.inj h1)
  refine ⟨ps, by rw [upd_ne n1]; exact h1, h2, fun pos cv hc => ?_⟩
  obtain ⟨c, e1, e2⟩ := h3 pos cv hc
  refine ⟨c, e1, ?_⟩
  rw [upd_ne]
  · exact e2
  · intro z
    subst z
    rw [h] at e2
    exact (dK_code kv).2 _ _ (Option.some.inj e2)
theorem zip_maps {α : Type} (l : List (L2.Key × α)) : (l.map fun p => keyP p.1).zip (l.map (·.2)) = l.map fun p => (keyP p.1, p.2) := by
  induction l with
  | nil => rfl
  | cons p l ih => rw [List.map_cons, List.map_cons, List.zip_cons_cons, ih, List.map_cons]
theorem dcmGoI_cons {one : PyData → Env → R (Option (PyData × PyData))} {x : PyData} {xs : List PyData} {acc kvs : List (L2.Key × PyData)} {e f : Env} (h : dcmGoI one (x :: xs) acc e = some (.ok kvs f)) :
    ∃ kv e', one x e = some (.ok kv e') ∧ ((kv = none ∧ dcmGoI one xs acc e' = some (.ok kvs f)) ∨ ∃ k v nk, kv = some (k, v) ∧ atomK k = some nk ∧ acc.length < lim ∧ dcmGoI one xs (putD acc nk v) e' = some (.ok kvs f)) := by
  unfold dcmGoI at h
  cases h1 : one x e with
  | none => rw [h1] at h; cases h
  | some u =>
    cases u with
    | er c v e2 => rw [h1] at h; cases h
    | ok kv e' =>
      rw [h1] at h
      refine ⟨kv, e', rfl, ?_⟩
      cases kv with
      | none => exact .inl ⟨rfl, h⟩
      | some p =>
        obtain ⟨k, v⟩ := p
        have h' : (match atomK k with | some nk => (if acc.length < lim then dcmGoI one xs (putD acc nk v) e' else none) | none => none) = some (.ok kvs f) := h
        cases hk : atomK k with
        | none => rw [hk] at h'; cases h'
        | some nk =>
          rw [hk] at h'
          simp only at h'
          split at h'
          · next hc => exact .inr ⟨k, v, nk, rfl, hk, hc, h'⟩
          · cases h'
section
variable {q : Qn} {X : Cx} {C : V → Wd → Hp → Prop} {W : WX} {rv : Ev}
theorem dcmI_key {kx vx : E} {t : T} {it : It} {src ifs : List E} {own : List Nat} (ht : ∀ j ∈ t.slots, j ∈ own) {σ : L2.St} {H : Hp} {Q : VK} (i : tR (q.at X C) W (eDcmI rv kx vx t it src ifs own) σ H Q) :
    tDc (tIt (q.at X C) W (evIt rv it src)) (tgG X.K t) (tIfs (q.at X C) W0 (evIfs rv ifs)) (tG (q.at X C) W0 (evGive rv kx)) (tG (q.at X C) W0 (evGive rv vx)) own σ H Q := by
  obtain ⟨F0, e0, k0, o⟩ := i
  refine ⟨F0, e0, k0, (show Out (q.at X C) F0 σ H e0 (R.bind (evIt rv it src e0) (eDcmI2 rv kx vx t ifs own)) W _ from o).bind.imp fun p e1 _ o1 J F1 H1 k1 brk wk D hD => ?_⟩
  obtain ⟨ds, held⟩ := p
  unfold eDcmI2 at o1
  cases hgo : dcmGoI (dcmOne rv kx vx t ifs own) ds [] (wipeE e1 own) with
  | none => simp only [hgo, noEr] at o1; exact o1.elim
  | some u =>
    cases u with
    | er c v e2 => simp only [hgo, noEr] at o1; exact o1.elim
    | ok kvs fe =>
      simp only [hgo, noEr] at o1
      have fin : ∀ v F' H', Stp F0 σ H e0 F' σ H' (unlock (backE e1 fe own) held) → Ok (q.at X C) F' σ H' (unlock (backE e1 fe own) held) → RsOk (q.at X C) (Bs σ H e0) F' σ H' (unlock (backE e1 fe own) held) v (.o (.dict (kvs.map fun p => (keyP p.1, p.2)))) → Q v H' := o1
      have H0D : H D = none := by
        cases hh : H D with
        | none => rfl
        | some u => exact absurd hD ((brk F1 σ H1 e1 .refl k1).1.there D (by rw [hh]; simp))
      have nF1 : F1 D = none := by
        cases hh : F1 D with
        | none => rfl
        | some u =>
          have z := k1.sub D u hh
          rw [hD] at z
          cases z
      have nO1 : ¬ Own σ e1 D := fun z => k1.ownH z hD
      have kw := wipe_ok (own := own) k1
      have nOw : ¬ Own (wipe σ own) (wipeE e1 own) D := fun z => nO1 (wipe_own z)
      let G0 : G := q.at X C
      let WW : Nat → Nat → Hp → Prop := fun i m H' => m = ds.length - i ∧ i ≤ ds.length ∧ ∃ F e kv kd, Stp F1 (wipe σ own) H1 (wipeE e1 own) F (wipe σ own) H' e ∧ Ok (q.at X C) F (wipe σ own) H' e ∧ H' D = some (.dK kv) ∧
        kv.map (·.1) = kd.map (·.1) ∧ RepAll (q.at X C) F (kv.map (·.2)) (kd.map (·.2)) ∧ (kv.map (·.1)).Nodup ∧
        dcmGoI (dcmOne rv kx vx t ifs own) (ds.drop i) kd e = some (.ok kvs fe) ∧ F D = none ∧ ¬ Own (wipe σ own) e D
      have tab0 : LamX.Tabs (q.at X C).T (upd H1 D (.dK [])) := kw.tab.1.ext fun b o e => by
        rw [upd_ne (fun z => by rw [z, hD] at e; cases e)]
        exact e
      refine ⟨WW, ⟨ds.length, by simp, Nat.zero_le _, F1, wipeE e1 own, [], [], (Stp.refl).at_new hD, tmp_okT kw nF1 nOw tab0, upd_same, rfl, .nil, List.nodup_nil, by rw [List.drop_zero]; exact hgo, nF1, nOw⟩, ?_⟩
      rintro i m H' ⟨rfl, hi, F, e, kv, kd, st, k, hA, hK, rA, hnd, hg, nF, nO⟩
      obtain ⟨stb, kb⟩ := wk_in k1 st k
      by_cases hlt : i < ds.length
      · refine .inr ⟨wk.go i F σ H' _ hlt stb.lk kb, WW (i + 1) (ds.length - (i + 1)), fun H2 w2 => ⟨_, by omega, w2⟩, fun x H2 hy => ?_⟩
        obtain ⟨F2, d, hd, ps, rx⟩ := wk.yld i F σ H' _ x H2 hlt stb.lk kb hy
        obtain ⟨s2, k2⟩ := ps.ok k
        have hdrop : ds.drop i = d :: ds.drop (i + 1) := by
          obtain ⟨hl, he⟩ := List.getElem?_eq_some_iff.mp hd
          rw [List.drop_eq_getElem_cons hl, he]
        rw [hdrop] at hg
        obtain ⟨kvo, e', h1, hgk⟩ := dcmGoI_cons hg
        obtain ⟨ea, b, eb, hb, hif, hc⟩ := dcmOne_ok h1
        refine bind_ok t s2 k2 rx hb fun σ' sm s3 k3 => ?_
        have hw : wipe σ' own = wipe σ own := (same_wipe sm ht).trans wipe_wipe
        have T0 : Tmp F (wipe σ own) H' e D := ⟨nF, nO, by rw [hA]; simp⟩
        -- the turn's end
        have fin2 : ∀ {F4 H4 : Hp} {ec : Env} {kv' : List (L2.Key × V)} {kd' : List (L2.Key × PyData)}, Stp F (wipe σ own) H' e F4 σ' H4 ec → Ok (q.at X C) F4 σ' H4 ec → kv'.map (·.1) = kd'.map (·.1) → RepAll (q.at X C) F4 (kv'.map (·.2)) (kd'.map (·.2)) → (kv'.map (·.1)).Nodup →
            dcmGoI (dcmOne rv kx vx t ifs own) (ds.drop (i + 1)) kd' (wipeE ec own) = some (.ok kvs fe) → WW (i + 1) (ds.length - (i + 1)) (upd H4 D (.dK kv')) := by
          intro F4 H4 ec kv' kd' s4 k4 rk4 r4 hn4 hg4
          have T4 := T0.step s4
          have s5 := wipe_stp (st.trans s4) (own := own) fun i hi s hs => wipe_un hi s hs
          have k5 := wipe_ok (own := own) k4
          rw [hw] at s5 k5
          have nO5 : ¬ Own (wipe σ own) (wipeE ec own) D := fun z => T4.no (wipe_own (by rw [hw]; exact z))
          have hD4 : H4 D = some (.dK kv) := s4.keep D _ hA nO (dK_code kv).1
          exact ⟨rfl, hlt, F4, wipeE ec own, kv', kd', s5.at_new hD, tmp_okT k5 T4.nf nO5 (tabs_dK k4.tab.1 hD4), upd_same, rk4, r4, hn4, hg4, T4.nf, nO5⟩
        refine ⟨hw, F2, ea, k3, ?_⟩
        rw [hif]
        intro F3 H3 s4 k4
        have sT := s3.trans s4
        rcases hc with ⟨hbt, y, ec, z, ed, hgv, hgz, hkv, he'⟩ | ⟨hbf, hkv, he'⟩
        · subst hbt
          subst hkv
          rcases hgk with ⟨hno, _⟩ | ⟨y', z', nk, e2, hnk2, hln, hg2⟩
          · cases hno
          cases e2
          show tG (q.at X C) W0 (evGive rv kx) σ' H3 _
          refine ⟨F3, eb, k4, ?_⟩
          rw [hgv]
          intro v F4 H4 s5 k5 r5
          refine ⟨F4, ec, k5, ?_⟩
          rw [hgz]
          intro v2 F5 H5 s6 k6 r6
          have sT5 := (sT.trans s5).trans s6
          have hD5 : H5 D = some (.dK kv) := sT5.keep D _ hA nO (dK_code kv).1
          refine ⟨kv, nk, atomK_rep hnk2 r5, hD5, ?_, ?_⟩
          · have e9 : lim = sizeLine := by rw [sizeLine_eq]; rfl
            have e8 : kv.length = kd.length := putD_len (k := nk) (v := v2) hK
            omega
          · rw [putK_D hnd]
            exact fin2 sT5 k6 (putD_keys hK) (putD_rep r6 hK (rA.mono sT5.fz)) (putD_nodup hnd) (by rw [← he']; exact hg2)
        · subst hbf
          subst hkv
          rcases hgk with ⟨_, hg2⟩ | ⟨_, _, _, e2, _⟩
          · show WW (i + 1) (ds.length - (i + 1)) H3
            have hD4 : H3 D = some (.dK kv) := sT.keep D _ hA nO (dK_code kv).1
            have z := fin2 sT k4 hK (rA.mono sT.fz) hnd (by rw [← he']; exact hg2)
            have e1 : upd H3 D (.dK kv) = H3 := by
              funext c
              by_cases hc : c = D
              · rw [hc, upd_same, hD4]
              · rw [upd_ne hc]
            rw [e1] at z
            exact z
          · cases e2
      · have ei : i = ds.length := by omega
        subst ei
        rw [List.drop_length] at hg
        cases hg
        refine .inl ⟨wk.stop F σ H' _ stb.lk kb, ?_⟩
        obtain ⟨s6, k6⟩ := brk F σ H' _ stb kb
        refine fin (.ref D) F H' s6 k6 ⟨D, rfl, ⟨nF, fun z => ?_, by rw [hA]; simp⟩, .inl ⟨kv, kvs.map fun p => keyP p.1, kvs.map (·.2), hA, by
          have z := keys_rep (g := q.at X C) (F := F) kvs
          have e1 : (kv.map fun p => kV p.1) = kvs.map fun p => kV p.1 := by
            have y := congrArg (List.map kV) hK
            rw [List.map_map, List.map_map] at y
            exact y
          rw [e1]
          exact z, rA, by rw [zip_maps]⟩, .inr H0D⟩
        rcases back_own (by rw [k1.len, k.len, wipe_length]) (unlock_own held z) with y | y
        · exact nO1 y
        · exact nO y
end
end Ev
set_option Elab.async false
set_option linter.all false
set_option maxRecDepth 100000
set_option maxHeartbeats 1000000
/-! EvDn: dicts with tuple keys: in, not in, stores. -/
namespace Ev
open PySem PySem.Spec PyProof.Rows L2
mutual
theorem keyD_inj : ∀ {a b : NestedKey}, keyD a = keyD b → a = b
  | .none, b, h => by
    cases b with
    | none => rfl
    | num j => rw [keyD, keyD] at h; cases h
    | text y => rw [keyD, keyD] at h; cases h
    | tup l => rw [keyD, keyD] at h; cases h
  | .num i, b, h => by
    cases b with
    | none => rw [keyD, keyD] at h; cases h
    | num j => rw [keyD, keyD] at h; cases h; rfl
    | text y => rw [keyD, keyD] at h; cases h
    | tup l => rw [keyD, keyD] at h; cases h
  | .text x, b, h => by
    cases b with
    | none => rw [keyD, keyD] at h; cases h
    | num j => rw [keyD, keyD] at h; cases h
    | text y => rw [keyD, keyD] at h; cases h; rfl
    | tup l => rw [keyD, keyD] at h; cases h
  | .tup ks, b, h => by
    cases b with
    | none => rw [keyD, keyD] at h; cases h
    | num j => rw [keyD, keyD] at h; cases h
    | text y => rw [keyD, keyD] at h; cases h
    | tup l =>
      rw [keyD, keyD] at h
      injection h with h
      rw [keyDs_inj h]
theorem keyDs_inj : ∀ {a b : List NestedKey}, keyDs a = keyDs b → a = b
  | [], b, h => by
    cases b with
    | nil => rfl
    | cons y l => rw [keyDs, keyDs] at h; cases h
  | x :: a, b, h => by
    cases b with
    | nil => rw [keyDs, keyDs] at h; cases h
    | cons y l =>
      rw [keyDs, keyDs] at h
      injection h with h1 h2
      rw [keyD_inj h1, keyDs_inj h2]
end
theorem nkOf_of {k : NestedKey} (h : (nkOf (keyD k)).isSome = true) : nkOf (keyD k) = some k := by
  cases hk : nkOf (keyD k) with
  | none => rw [hk] at h; cases h
  | some k' => rw [keyD_inj (nkOf_key hk).1]
section
variable {q : Qn} {X : Cx} {C : V → Wd → Hp → Prop} {pins : List (Addr × Obj)} {σ : L2.St} {F H : Hp} {s : Shared}
/-- the dict at a, over the heap -/
theorem dic_at (I : Inv X pins σ H s) (sb : Sub F H) {a : Addr} {ks : List (NestedKey × Addr)} {vs : List V} (hu : Rd H a (DicO X.prog X.w a ks vs)) (rk : RepAll (q.at X C) F (ks.map fun p => .ref p.2) (ks.map fun p => keyD p.1)) :
    (a == sysModules) = false ∧ ∃ us, Vals vs us ∧ Heap.DictOfH (nestedKind X.prog X.w) s.heap a (ent ks us) ∧ (ent ks us).map (·.1) = ks.map (·.1) ∧ (ks.map (·.1)).Nodup ∧ ks.length = vs.length ∧ ks.length ≤ sizeLine ∧ (∀ p ∈ ks, p.1.depth ≤ 8) := by
  have ob : ObjOk X.prog X.w H s.heap a (DicO X.prog X.w a ks vs) := by
    rcases hu with h | ⟨o, h⟩
    · exact I.hok a _ h
    · have z := I.hok a _ h
      rw [ObjOk.eq_10] at z
      exact z.2
  unfold DicO at ob
  rw [ObjOk.eq_13] at ob
  obtain ⟨⟨l2, l1, l3, nd, dp, uv, rv2, o, es, ep, o1, o2, o3, o4⟩, _⟩ := ob
  have hm : (ent ks uv).map (·.1) = ks.map (·.1) := by
    unfold ent
    rw [List.map_map]
    have z := congrArg (List.map (fun y : NestedKey × Addr => y.1)) (zip_fst (vs := ks) (ps := uv) (by rw [← rv2.length]; exact l3))
    rw [List.map_map] at z
    exact z
  have his : ∀ x ∈ ent ks uv, (nestedKind X.prog X.w).is s.heap x.1 x.2.1 := fun x hx => by
    unfold ent at hx
    obtain ⟨p, hp, e⟩ := List.mem_map.mp hx
    have hm := (List.of_mem_zip hp).1
    rw [← e]
    exact ⟨nest_is I sb p.1.1 (keys_repAll rk p.1 hm) rfl, dp _ hm⟩
  exact ⟨l2, uv, rv2, ⟨o, es, ep, o1, o2, o3, o4, his, by rw [hm]; exact nd⟩, hm, nd, l3, l1, dp⟩
theorem dic_empty {h : Heap} {a : Addr} {P : Program} {w : World} (d : Heap.DictOf (mixKind P w) h a []) : Heap.DictOfH (nestedKind P w) h a (ent [] []) := by
  obtain ⟨o, es, ep, h1, h2, h3, _, h5, _⟩ := d
  have z : es.toList = [] := by
    cases hh : es.toList with
    | nil => rfl
    | cons x l =>
      rw [hh] at h5
      cases h5
  exact ⟨o, es, ep, h1, h2, h3, by rw [z]; rfl, (fun x hx => by cases hx), List.nodup_nil⟩
theorem dK_empty (I : Inv X pins σ H s) {a : Addr} (hu : Rd H a (.dK [])) : (a == sysModules) = false ∧ Heap.DictOfH (nestedKind X.prog X.w) s.heap a (ent [] []) := by
  have ob : ObjOk X.prog X.w H s.heap a (.dK []) := by
    rcases hu with h | ⟨o, h⟩
    · exact I.hok a _ h
    · have z := I.hok a _ h
      rw [ObjOk.eq_10] at z
      exact z.2
  rw [ObjOk.eq_3] at ob
  obtain ⟨l1, l2, wv, kw, dd⟩ := ob
  cases kw
  exact ⟨l2, dic_empty dd⟩
/-- an own dict with tuple keys: how it stands -/
theorem own_dic {a : Addr} {kvs : List (PyData × PyData)} (o : OwnAt (q.at X C) F H a (.dict kvs)) (hk : kvs.all (fun p => keyOk p.1) = true) :
    ∃ (ks : List (NestedKey × Addr)) (vs : List V) (vds : List PyData), (H a = some (DicO X.prog X.w a ks vs) ∨ (H a = some (.dK []) ∧ ks = [] ∧ vs = [])) ∧ RepAll (q.at X C) F (ks.map fun p => .ref p.2) (ks.map fun p => keyD p.1) ∧ RepAll (q.at X C) F vs vds ∧ kvs = (ks.map fun p => keyD p.1).zip vds := by
  rcases o with ⟨kv, kds, vds, e1, a1, a2, e2⟩ | ⟨ks, vs, vds, e1, a1, a2, e2⟩
  · cases kv with
    | nil =>
      cases a1
      cases a2
      exact ⟨[], [], [], .inr ⟨e1, rfl, rfl⟩, .nil, .nil, e2⟩
    | cons p r =>
      rw [List.map_cons] at a1 a2
      cases a1 with
      | cons r1 r2 =>
        cases a2 with
        | cons r3 r4 =>
          subst e2
          rw [List.zip_cons_cons, List.all_cons, Bool.and_eq_true] at hk
          have z := hk.1
          obtain ⟨kk, vv⟩ := p
          cases kk with
          | inl i => cases r1; cases z
          | inr x => cases r1; cases z
  · exact ⟨ks, vs, vds, .inl e1, a1, a2, e2⟩
theorem keys_of {ks : List (NestedKey × Addr)} {vds : List PyData} (hl : vds.length = ks.length) : (((ks.map fun p => keyD p.1).zip vds).map (·.1)) = ks.map fun p => keyD p.1 := by
  have z : ((ks.map fun p => keyD p.1).zip vds).map (fun y => y.1) = ks.map fun p => keyD p.1 := zip_fst (by rw [List.length_map]; exact hl.symm)
  exact z
theorem keys_nk {ks : List (NestedKey × Addr)} {vds : List PyData} (hl : vds.length = ks.length) (hk : ((ks.map fun p => keyD p.1).zip vds).all (fun p => keyOk p.1) = true) : ∀ p ∈ ks, nkOf (keyD p.1) = some p.1 := fun p hp => by
  rw [List.all_eq_true] at hk
  have hm : keyD p.1 ∈ ((ks.map fun p => keyD p.1).zip vds).map (·.1) := by
    rw [keys_of hl]
    exact List.mem_map.mpr ⟨p, hp, rfl⟩
  obtain ⟨y, hy, e⟩ := List.mem_map.mp hm
  have z := hk y hy
  rw [e] at z
  exact nkOf_of z
/-- a dict's word -/
theorem dic_word (I : Inv X pins σ H s) (sb : Sub F H) {v : V} {kvs : List (PyData × PyData)} (t : TopW (q.at X C) F H v (.d (.dict kvs))) (hk : kvs.all (fun p => keyOk p.1) = true) :
    ∃ a ks us vds, v = .ref a ∧ (a == sysModules) = false ∧ Heap.DictOfH (nestedKind X.prog X.w) s.heap a (ent ks us) ∧ (ent ks us).map (·.1) = ks.map (·.1) ∧ kvs = (ks.map fun p => keyD p.1).zip vds ∧ vds.length = ks.length ∧ ∀ p ∈ ks, nkOf (keyD p.1) = some p.1 := by
  obtain ⟨a, rfl, u, hu, own⟩ := t
  obtain ⟨ks, vs, vds, h1, h2, h3, h4⟩ := own_dic own hk
  rw [upd_same] at h1
  rcases h1 with h1 | ⟨h1, rfl, rfl⟩
  · cases h1
    obtain ⟨l2, us, rv, dh, hm, nd, l3, l1, dp⟩ := dic_at I sb hu h2
    have hl : vds.length = ks.length := by rw [← h3.length]; exact l3.symm
    refine ⟨a, ks, us, vds, rfl, l2, dh, hm, h4, hl, ?_⟩
    subst h4
    exact keys_nk hl hk
  · cases h1
    cases h3
    obtain ⟨l2, dh⟩ := dK_empty I hu
    exact ⟨a, [], [], [], rfl, l2, dh, rfl, h4, rfl, fun p hp => by cases hp⟩
theorem at_key {ks : List (NestedKey × Addr)} {us : List Value} {vds : List PyData} {d : PyData} {nk : NestedKey} (hd : nkOf d = some nk) (hm : (ent ks us).map (·.1) = ks.map (·.1)) (hl : vds.length = ks.length) (hn : ∀ p ∈ ks, nkOf (keyD p.1) = some p.1) :
    (atKey (ent ks us) nk).isSome = ((ks.map fun p => keyD p.1).zip vds).any fun p => keySame p.1 d := by
  have e1 : (atKey (ent ks us) nk).isSome = true ↔ nk ∈ ks.map (·.1) := by
    unfold atKey
    rw [Option.isSome_map, List.find?_isSome, ← hm, List.mem_map]
    exact ⟨fun ⟨y, hy, e⟩ => ⟨y, hy, of_decide_eq_true e⟩, fun ⟨y, hy, e⟩ => ⟨y, hy, decide_eq_true e⟩⟩
  have e2 : (((ks.map fun p => keyD p.1).zip vds).any fun p => keySame p.1 d) = true ↔ nk ∈ ks.map (·.1) := by
    have z : (((ks.map fun p => keyD p.1).zip vds).any fun p => keySame p.1 d) = ((((ks.map fun p => keyD p.1).zip vds).map (·.1)).any fun x => keySame x d) := by rw [List.any_map]; rfl
    rw [z, keys_of hl, List.any_eq_true]
    have ks_eq : ∀ p ∈ ks, keySame (keyD p.1) d = decide (p.1 = nk) := fun p hp => by
      unfold keySame
      rw [hn p hp, hd, NestedKey.decide_eq]
    constructor
    · rintro ⟨x, hx, e⟩
      obtain ⟨p, hp, rfl⟩ := List.mem_map.mp hx
      rw [ks_eq p hp] at e
      exact List.mem_map.mpr ⟨p, hp, of_decide_eq_true e⟩
    · intro h
      obtain ⟨p, hp, e⟩ := List.mem_map.mp h
      exact ⟨keyD p.1, List.mem_map.mpr ⟨p, hp, rfl⟩, by rw [ks_eq p hp]; exact decide_eq_true e⟩
  rw [Bool.eq_iff_iff, e1, e2]
theorem key_word {x : V} {d : PyData} {nk : NestedKey} (hd : nkOf d = some nk) (t : TopW (q.at X C) F H x (.d d)) : ∃ b, x = .ref b ∧ Rep (q.at X C) F (.ref b) (keyD nk) ∧ nk.depth ≤ 8 := by
  obtain ⟨k1, k2⟩ := nkOf_key hd
  cases d with
  | tuple xs =>
    have r : Rep (q.at X C) F x (.tuple xs) := t
    rw [← k1] at r
    have r0 := r
    rw [k1] at r
    cases r with
    | tup _ _ => exact ⟨_, rfl, r0, k2⟩
  | _ => cases hd
theorem p_isin (hu : X.A.units + 65 < cLine) : OpR X (compareOp .In) (rP2 (q.at X C) .isin) := by
  intro pins s σ H x y v u Q I rx ry ⟨F, ws, r, sb, pr, hr, k⟩
  by_cases hd : ∃ d kvs, ws = [.d d, .d (.dict kvs)]
  · obtain ⟨d, kvs, rfl⟩ := hd
    obtain ⟨_, _, e, ta, tb⟩ := two pr
    cases e
    have hr' : (if keyOk d && kvs.all (fun p => keyOk p.1) then vB (kvs.any fun p => keySame p.1 d) else none) = some r := hr
    split at hr'
    · next hc =>
      rw [Bool.and_eq_true] at hc
      obtain ⟨nk, hnk⟩ := Option.isSome_iff_exists.mp (show (nkOf d).isSome = true from hc.1)
      obtain ⟨b, rfl, rb, dp⟩ := key_word hnk ta
      obtain ⟨a, ks, us, vds, rfl, l2, dh, hm, rfl, hl, hn⟩ := dic_word I sb tb hc.2
      obtain rfl : v = .ref b := rx
      obtain rfl : u = .ref a := ry
      refine wpAny_in_heap (knd := nestedKind X.prog X.w) (by show X.A.units + 1 + 8 < cLine; omega) ⟨nest_is I sb nk rb rfl, dp⟩ l2 dh ?_
      rw [at_key hnk hm hl hn]
      exact ⟨.bl _, H, I.kept (t' := s.toks + (nestedKind X.prog X.w).draws nk) (fun _ _ z => z), rfl, old_bl sb hr' k⟩
    · cases hr'
  · exact p_isin0 (q := q) (C := C) hu pins s σ H x y v u Q I rx ry ⟨F, ws, r, sb, pr, hr, k, fun d kvs e => hd ⟨d, kvs, e⟩⟩
theorem p_notin (hu : X.A.units + 65 < cLine) : OpR X (compareOp .NotIn) (rP2 (q.at X C) .notin) := by
  intro pins s σ H x y v u Q I rx ry ⟨F, ws, r, sb, pr, hr, k⟩
  by_cases hd : ∃ d kvs, ws = [.d d, .d (.dict kvs)]
  · obtain ⟨d, kvs, rfl⟩ := hd
    obtain ⟨_, _, e, ta, tb⟩ := two pr
    cases e
    have hr' : (if keyOk d && kvs.all (fun p => keyOk p.1) then vB (!kvs.any fun p => keySame p.1 d) else none) = some r := hr
    split at hr'
    · next hc =>
      rw [Bool.and_eq_true] at hc
      obtain ⟨nk, hnk⟩ := Option.isSome_iff_exists.mp (show (nkOf d).isSome = true from hc.1)
      obtain ⟨b, rfl, rb, dp⟩ := key_word hnk ta
      obtain ⟨a, ks, us, vds, rfl, l2, dh, hm, rfl, hl, hn⟩ := dic_word I sb tb hc.2
      obtain rfl : v = .ref b := rx
      obtain rfl : u = .ref a := ry
      refine wpAny_notIn_heap (knd := nestedKind X.prog X.w) (by show X.A.units + 1 + 8 < cLine; omega) ⟨nest_is I sb nk rb rfl, dp⟩ l2 dh ?_
      rw [at_key hnk hm hl hn]
      exact ⟨.bl _, H, I.kept (t' := s.toks + (nestedKind X.prog X.w).draws nk) (fun _ _ z => z), rfl, old_bl sb hr' k⟩
    · cases hr'
  · exact p_notin0 (q := q) (C := C) hu pins s σ H x y v u Q I rx ry ⟨F, ws, r, sb, pr, hr, k, fun d kvs e => hd ⟨d, kvs, e⟩⟩
/-- d[k] = v, k a tuple -/
def rSetX (g : G) : V → V → V → Hp → (Hp → Prop) → Prop := fun o i v H Q => ∃ F a ks vs nk b, o = .ref a ∧ i = .ref b ∧ (H a = some (DicO g.prog g.w a ks vs) ∨ (H a = some (.dK []) ∧ ks = [] ∧ vs = [])) ∧ Sub F H ∧
  RepAll g F (ks.map fun p => .ref p.2) (ks.map fun p => keyD p.1) ∧ Rep g F (.ref b) (keyD nk) ∧ nk.depth ≤ 8 ∧ (vs.length = ks.length → ks.length < sizeLine ∧ Q (upd H a (DicO g.prog g.w a (entP ks vs nk b v).1 (entP ks vs nk b v).2)))
theorem set_X (hu : X.A.units + 65 < cLine) : PSet X (rSetX (q.at X C)) := by
  intro pins s σ H o i v ov iv u Q I ro ri rv ⟨F, a, ks, vs, nk, b, e1, e2, hD, sb, rk, rb, hd, hqq⟩
  subst e1
  subst e2
  obtain rfl : ov = .ref a := ro
  obtain rfl : iv = .ref b := ri
  obtain ⟨lo, us, ru, dh, hm, nd, hl, l1, dp⟩ : (a == sysModules) = false ∧ ∃ us, Vals vs us ∧ Heap.DictOfH (nestedKind X.prog X.w) s.heap a (ent ks us) ∧ (ent ks us).map (·.1) = ks.map (·.1) ∧ (ks.map (·.1)).Nodup ∧ ks.length = vs.length ∧ ks.length ≤ sizeLine ∧ (∀ p ∈ ks, p.1.depth ≤ 8) := by
    rcases hD with hD | ⟨hD, rfl, rfl⟩
    · exact dic_at I sb (.inl hD) rk
    · obtain ⟨l2, dh⟩ := dK_empty I (.inl hD)
      exact ⟨l2, [], .nil, dh, rfl, List.nodup_nil, rfl, Nat.zero_le _, fun p hp => by cases hp⟩
  obtain ⟨hz, qq⟩ := hqq hl.symm
  have hmut : Mut (H a) := by
    rcases hD with hD | ⟨hD, _, _⟩
    · rw [hD]
      exact True.intro
    · rw [hD]
      exact True.intro
  have hlu : us.length = ks.length := by rw [← ru.length]; exact hl.symm
  have hsz : (ent ks us).length ≤ sizeLine := by
    unfold ent
    rw [List.length_map, List.length_zip]
    omega
  refine wpAny_setItem_heap (knd := nestedKind X.prog X.w) (by show X.A.units + 1 + 8 < cLine; omega) ⟨nest_is I sb nk rb rfl, hd⟩ (xs := ent ks us) dh (fun h' hm' hs' => ?_) hsz
  rw [storedH_ent hlu nd] at hm'
  obtain ⟨o', es', ep', a1, a2, a3, a4, _, _⟩ := hm'
  have k1 : (entP ks us nk b u).1 = (entP ks vs nk b v).1 := entP_keys hlu hl.symm
  rw [k1] at a4
  obtain ⟨b1, b2⟩ := entP_len (k := nk) (b := b) (u := v) (ks := ks) (us := vs) hl.symm
  refine ⟨_, d_write (t' := s.toks + (nestedKind X.prog X.w).draws nk) I hmut hs' ⟨o', a1⟩ ?_, qq⟩
  refine ⟨⟨lo, by omega, b1.symm, entP_nodup hl.symm nd, fun p hp => ?_, _, entP_vals rv ru, o', es', ep', a1, a2, a3, a4⟩, ⟨o', a1⟩, ?_⟩
  · rcases entP_mem hp with y | y
    · exact dp p y
    · rw [y]
      exact hd
  · rintro g1 g2 ⟨c1, c2, c3, c4, c5, ws, c6, o2, es2, ep2, d1, d2, d3, d4⟩ st
    exact ⟨c1, c2, c3, c4, c5, ws, c6, o2, es2, ep2, st _ d1, d2, d3, d4⟩
theorem pset_or {t1 t2 : V → V → V → Hp → (Hp → Prop) → Prop} (h1 : PSet X t1) (h2 : PSet X t2) : PSet X (fun o i v H Q => t1 o i v H Q ∨ t2 o i v H Q) := fun pins s σ H o i v ov iv u Q I ro ri rv h => h.elim (h1 pins s σ H o i v ov iv u Q I ro ri rv) (h2 pins s σ H o i v ov iv u Q I ro ri rv)
end
end Ev
set_option Elab.async false
set_option linter.all false
set_option maxRecDepth 100000
set_option maxHeartbeats 1000000
/-! EvN: statements. -/
namespace Ev
open PySem PySem.Spec PyProof.Rows L2
def OutS (g : G) (F : Hp) (σ : L2.St) (H : Hp) (e : Env) (m : R Fl) (W : WX) (D : Ends) : Prop :=
  match m with
  | none => False
  | some (.ok .nx e') => ∀ σ' F' H', Stp F σ H e F' σ' H' e' → Ok g F' σ' H' e' → D.nx σ' H'
  | some (.ok (.rt r) e') => ∀ v σ' F' H', Stp F σ H e F' σ' H' e' → Ok g F' σ' H' e' → RsOk g (Bs σ H e) F' σ' H' e' v r → D.rt v H'
  | some (.er c v e') => ∀ σ' F' H', Stp F σ H e F' σ' H' e' → Ok g F' σ' H' e' → ∀ cls dd, ExOk g F' cls dd c v → W cls dd σ' H'
def tS (g : G) (W : WX) (m : Env → R Fl) : TS := fun D σ H => ∃ F e, Ok g F σ H e ∧ OutS g F σ H e (m e) W D
section
variable {g : G} {F F1 F2 H H1 H2 : Hp} {σ σ1 σ2 : L2.St} {e e1 e2 : Env} {W : WX} {D : Ends}
theorem OutS.step {m : R Fl} (o : OutS g F σ H e m W D) (s : Stp F σ H e F1 σ1 H1 e1) : OutS g F1 σ1 H1 e1 m W D := by
  cases m with
  | none => exact o
  | some u =>
    cases u with
    | er c v e' => exact fun σ' F' H' s' k => o σ' F' H' (s.trans s') k
    | ok f e' =>
      cases f with
      | nx => exact fun σ' F' H' s' k => o σ' F' H' (s.trans s') k
      | rt r => exact fun v σ' F' H' s' k r' => o v σ' F' H' (s.trans s') k (r'.base fun a h => s.bs h)
/-- an expression, then -/
theorem OutS.of {α : Type} {m : R α} {f : α → Env → R Fl} (o : OutS g F σ H e (R.bind m f) W D) : Out g F σ H e m W fun a e1 => OutS g F σ H e (f a e1) W D := by
  cases m with
  | none => exact o
  | some u =>
    cases u with
    | ok a e' => exact o
    | er c v e' => exact fun F' H' s k => o σ F' H' s k
/-- a statement, then -/
theorem OutS.seq {m : R Fl} {k : Env → R Fl} (o : OutS g F σ H e (contS m k) W D) : OutS g F σ H e m W { D with nx := fun σ' H' => ∃ F' e', Ok g F' σ' H' e' ∧ OutS g F' σ' H' e' (k e') W D } := by
  cases m with
  | none => exact o
  | some u =>
    cases u with
    | er c v e' => exact o
    | ok f e' =>
      cases f with
      | nx =>
        intro σ' F' H' s' k'
        exact ⟨F', e', k', (show OutS g F σ H e (k e') W D from o).step s'⟩
      | rt r => exact o
end
section
variable {q : Qn} {X : Cx} {C : V → Wd → Hp → Prop} {W : WX} {rv : Ev}
theorem seq_nil {one : S → Env → R Fl} : PSs X [] (tS (q.at X C) W (exGo one [])) := pss_of pss_nil fun D σ H ⟨F, e, k, o⟩ => (show ∀ σ' F' H', Stp F σ H e F' σ' H' e → Ok (q.at X C) F' σ' H' e → D.nx σ' H' from o) σ F H .refl k
theorem seq_cons {st : Stmt} {rest : List Stmt} {x : S} {xs : List S} {one : S → Env → R Fl} (h1 : PS X st (tS (q.at X C) W (one x))) (h2 : PSs X rest (tS (q.at X C) W (exGo one xs))) : PSs X (st :: rest) (tS (q.at X C) W (exGo one (x :: xs))) :=
  pss_of (pss_cons h1 h2) fun D σ H ⟨F, e, k, o⟩ => ⟨F, e, k, (show OutS (q.at X C) F σ H e (contS (one x e) (exGo one xs)) W D from o).seq⟩
/-- behind an expression's value: a name, or names -/
theorem set_nm {i : Nat} {x : E} {σ : L2.St} {H : Hp} {D : Ends} (h : tS (q.at X C) W (sSet rv (.nm i) x) D σ H) : tR (q.at X C) W (rv false x) σ H fun v H1 => gName i v σ H1 D.nx := by
  obtain ⟨F, e, k, o⟩ := h
  refine ⟨F, e, k, (show OutS (q.at X C) F σ H e (R.bind (rv false x e) (sSet2 (.nm i))) W D from o).of.imp fun r e1 _ o1 v F1 H1 s1 k1 r1 => ?_⟩
  have o2 : OutS (q.at X C) F σ H e (match put e1 i r with | some e2 => some (.ok .nx e2) | none => none) W D := o1
  cases hp : put e1 i r with
  | none => rw [hp] at o2; exact o2.elim
  | some e2 =>
    rw [hp] at o2
    obtain ⟨s2, k2⟩ := store_okE s1 k1 r1 hp
    exact (show ∀ σ' F' H', Stp F σ H e F' σ' H' e2 → Ok (q.at X C) F' σ' H' e2 → D.nx σ' H' from o2) _ F1 H1 s2 k2
theorem set_tp {ts : List T} {x : E} {σ : L2.St} {H : Hp} {D : Ends} (h : tS (q.at X C) W (sSet rv (.tp ts) x) D σ H) : tR (q.at X C) W (rv false x) σ H fun v H1 => tgG X.K (.tp ts) v σ H1 D.nx := by
  obtain ⟨F, e, k, o⟩ := h
  refine ⟨F, e, k, (show OutS (q.at X C) F σ H e (R.bind (rv false x e) (sSet2 (.tp ts))) W D from o).of.imp fun r e1 _ o1 v F1 H1 s1 k1 r1 => ?_⟩
  have o2 : OutS (q.at X C) F σ H e (match (match r.w with | .d x => bindT (.tp ts) x e1 | _ => none) with | some e2 => some (.ok .nx e2) | none => none) W D := o1
  have go : ∀ {F2 : Hp} {d : PyData} {e2 : Env}, Stp F σ H e F2 σ H1 e1 → Ok (q.at X C) F2 σ H1 e1 → Rep (q.at X C) F2 v d → bindT (.tp ts) d e1 = some e2 → OutS (q.at X C) F σ H e (some (.ok .nx e2)) W D → tgG X.K (.tp ts) v σ H1 D.nx :=
    fun {F2 d e2} s2 k2 r2 hb o3 => bind_ok (.tp ts) s2 k2 r2 hb fun σ' _ s3 k3 => (show ∀ σ' F' H', Stp F σ H e F' σ' H' e2 → Ok (q.at X C) F' σ' H' e2 → D.nx σ' H' from o3) σ' F2 H1 s3 k3
  cases r with
  | v w =>
    cases w with
    | d y =>
      cases hb : bindT (.tp ts) y e1 with
      | none => simp only [Rs.w, hb] at o2; exact o2.elim
      | some e2 =>
        simp only [Rs.w, hb] at o2
        exact go s1 k1 r1 hb o2
    | _ => exact o2.elim
  | o y =>
    obtain ⟨b, h1, h2, h3, h4⟩ := r1
    subst h1
    obtain ⟨F2, _, s2, k2, r2, _⟩ := freeze_ok s1 k1 h2 h3 h4
    cases hb : bindT (.tp ts) y e1 with
    | none => simp only [Rs.w, hb] at o2; exact o2.elim
    | some e2 =>
      simp only [Rs.w, hb] at o2
      exact go s2 k2 r2 hb o2
theorem st_set {i : Nat} {x : Str} {a : Expr} {y : E} {p pos : Pos} {te : TE} (h : PS X (.Assign [.Name x p] a pos) (tAsg te (gName i))) (ht : ∀ σ H Q, tR (q.at X C) W (rv false y) σ H Q → te σ H Q) : PS X (.Assign [.Name x p] a pos) (tS (q.at X C) W (sSet rv (.nm i) y)) :=
  ps_of h fun D σ H o => ht σ H _ (set_nm o)
theorem st_tup {ts : List T} {tg a : Expr} {y : E} {pos : Pos} (h : PS X (.Assign [tg] a pos) (tAsg (tR (q.at X C) W (rv false y)) (tgG X.K (.tp ts)))) : PS X (.Assign [tg] a pos) (tS (q.at X C) W (sSet rv (.tp ts) y)) :=
  ps_of h fun D σ H o => set_tp o
/-! ### small ones -/
theorem st_expr {a : Expr} {y : E} {pos : Pos} (h : PE X a (tR (q.at X C) W (rv false y))) (hs : swapsWith a none pos.line X.env = pure false) : PS X (.Expr a pos) (tS (q.at X C) W fun e => R.bind (rv false y e) nxR) := by
  refine ps_of (ps_expr h hs) fun D σ H ⟨F, e, k, o⟩ => ⟨F, e, k, ?_⟩
  exact (show OutS (q.at X C) F σ H e (R.bind (rv false y e) nxR) W D from o).of.imp fun r e1 _ o1 v F1 H1 s1 k1 _ => (show ∀ σ' F' H', Stp F σ H e F' σ' H' e1 → Ok (q.at X C) F' σ' H' e1 → D.nx σ' H' from o1) σ F1 H1 s1 k1
theorem st_ret {a : Expr} {y : E} {pos : Pos} (h : PE X a (tR (q.at X C) W (rv false y))) (hy : ∀ i, y ≠ .var i) : PS X (.Return (some a) pos) (tS (q.at X C) W (sRet rv y)) := by
  refine ps_of (ps_ret h) fun D σ H ⟨F, e, k, o⟩ => ⟨F, e, k, ?_⟩
  have e0 : sRet rv y e = R.bind (rv false y e) rtR := by
    cases y <;> first | rfl | exact absurd rfl (hy _)
  rw [e0] at o
  exact o.of.imp fun r e1 _ o1 v F1 H1 s1 k1 r1 => (show ∀ v σ' F' H', Stp F σ H e F' σ' H' e1 → Ok (q.at X C) F' σ' H' e1 → RsOk (q.at X C) (Bs σ H e) F' σ' H' e1 v r → D.rt v H' from o1) v σ F1 H1 s1 k1 r1
theorem st_retN {pos : Pos} : PS X (.Return none pos) (tS (q.at X C) W fun e => some (.ok (.rt (.v (.d .none))) e)) := by
  refine ps_of ps_retN fun D σ H ⟨F, e, k, o⟩ => ?_
  exact (show ∀ v σ' F' H', Stp F σ H e F' σ' H' e → Ok (q.at X C) F' σ' H' e → RsOk (q.at X C) (Bs σ H e) F' σ' H' e v (.v (.d .none)) → D.rt v H' from o) .non σ F H .refl k (show Rep (q.at X C) F .non .none from .non)
theorem st_pass {pos : Pos} : PS X (.Pass pos) (tS (q.at X C) W fun e => some (.ok .nx e)) := by
  refine ps_of ps_pass fun D σ H ⟨F, e, k, o⟩ => ?_
  exact (show ∀ σ' F' H', Stp F σ H e F' σ' H' e → Ok (q.at X C) F' σ' H' e → D.nx σ' H' from o) σ F H .refl k
theorem st_if {t : Expr} {a b : List Stmt} {x : E} {xa xb : List S} {exs : List S → Env → R Fl} {pos : Pos} (ht : PT X t (tB (q.at X C) W (rv true x))) (ha : PSs X a (tS (q.at X C) W (exs xa))) (hb : PSs X b (tS (q.at X C) W (exs xb))) :
    PS X (.If t a b pos) (tS (q.at X C) W (sIfe exs rv x xa xb)) := by
  refine ps_of (ps_if ht ha hb) fun D σ H ⟨F, e, k, o⟩ => ⟨F, e, k, ?_⟩
  refine (show OutS (q.at X C) F σ H e (R.bind (rv true x e) (sIfe2 exs xa xb)) W D from o).of.imp fun r e1 _ o1 => ?_
  unfold sIfe2 at o1
  split at o1
  · exact ⟨true, rfl, fun F1 H1 s1 k1 => ⟨F1, e1, k1, o1.step s1⟩⟩
  · exact ⟨false, rfl, fun F1 H1 s1 k1 => ⟨F1, e1, k1, o1.step s1⟩⟩
  · exact o1.elim
/-- a name's own list is handed back -/
theorem st_retv {i : Nat} {x : Str} {p pos : Pos} (h : PE X (.Name x p) (tVar i)) : PS X (.Return (some (.Name x p)) pos) (tS (q.at X C) W (sRet rv (.var i))) := by
  refine ps_of (ps_ret h) fun D σ H ⟨F, e, k, o⟩ => ?_
  have o' : OutS (q.at X C) F σ H e (R.bind (moved e i) rtR) W D := o
  have byTake : moved e i = take e i → ∃ v, σ[i]? = some (some v) ∧ D.rt v H := fun hm => by
    rw [hm] at o'
    cases ht : take e i with
    | none => rw [ht] at o'; exact o'.elim
    | some u =>
      cases u with
      | er c v e' =>
        rw [take_eq] at ht
        unfold takeN at ht
        split at ht
        · cases ht
        · cases ht
        · split at ht <;> cases ht
      | ok r e' =>
        rw [ht] at o'
        obtain ⟨v, F1, h1, s1, k1, w, er, rw'⟩ := take_ok k ht
        subst er
        exact ⟨v, slot_iff.mp h1, (show ∀ v σ' F' H', Stp F σ H e F' σ' H' e' → Ok (q.at X C) F' σ' H' e' → RsOk (q.at X C) (Bs σ H e) F' σ' H' e' v (.v w) → D.rt v H' from o') v σ F1 H s1 k1 rw'⟩
  cases hi : e[i]? with
  | none => exact byTake (by unfold moved; rw [hi])
  | some s =>
    cases s with
    | ow y =>
      have hm : moved e i = some (.ok (.o y) (e.set i .un)) := by unfold moved; rw [hi]
      rw [hm] at o'
      obtain ⟨a, h1, h2, h3⟩ := k.pl i _ hi
      obtain ⟨u, hu, _⟩ := h3.here
      obtain ⟨s2, k2⟩ := set_ok (t := .un) (v := slot σ i) (Stp.refl (F := F) (σ := σ) (H := H) (e := e)) k hi rfl trivial fun b hb => by cases hb
      have e1 : σ.set i (slot σ i) = σ := by
        apply List.ext_getElem?
        intro j
        by_cases hj : i = j
        · subst hj
          have hl : i < σ.length := by
            rw [← k.len]
            exact (List.getElem?_eq_some_iff.mp hi).1
          rw [List.getElem?_set_self hl, slot_iff.mp h1, h1]
        · rw [List.getElem?_set_ne hj]
      rw [e1] at s2 k2
      refine ⟨.ref a, slot_iff.mp h1, (show ∀ v σ' F' H', Stp F σ H e F' σ' H' (e.set i .un) → Ok (q.at X C) F' σ' H' (e.set i .un) → RsOk (q.at X C) (Bs σ H e) F' σ' H' (e.set i .un) v (.o y) → D.rt v H' from o') (.ref a) σ F H s2 k2 ⟨a, rfl, ⟨h2, ?_, by rw [hu]; simp⟩, h3, .inl ⟨i, _, hi, rfl, h1⟩⟩⟩
      rintro ⟨j, t, hj, ot, pj⟩
      rcases get_set hj with ⟨_, z2⟩ | ⟨z1, z2⟩
      · rw [z2] at ot
        cases ot
      · exact k.apart j i t _ a z1 z2 hi ot rfl pj h1
    | _ => exact byTake (by unfold moved; rw [hi])
/-- n op= e, of ints -/
theorem aug_ip {op : Operator} {p : P} (h : (op = .Add ∧ p = .add) ∨ (op = .Sub ∧ p = .sub) ∨ (op = .Mult ∧ p = .mul)) : PIp X op fun x y H Q => ∃ i j c, x = .int i ∧ y = .int j ∧ augI p i j = some c ∧ Q (.int c) H := by
  intro pins s σ H x y v u Q I r1 r2 ⟨i, j, c, e1, e2, e3, qq⟩
  rcases h with ⟨h1, h2⟩ | ⟨h1, h2⟩ | ⟨h1, h2⟩ <;> subst h1 <;> subst h2
  · cases e3
    exact iop_add pins s σ H x y v u Q I r1 r2 ⟨i, j, e1, e2, qq⟩
  · cases e3
    exact iop_sub pins s σ H x y v u Q I r1 r2 ⟨i, j, e1, e2, qq⟩
  · have e4 : (if (-(2 ^ 64) < i ∧ i < 2 ^ 64) ∨ (-(2 ^ 64) < j ∧ j < 2 ^ 64) then some (i * j) else none) = some c := e3
    split at e4
    · next hc =>
      cases e4
      exact iop_mul pins s σ H x y v u Q I r1 r2 ⟨i, j, e1, e2, hc, qq⟩
    · cases e4
theorem st_aug {i : Nat} {x : Str} {a : Expr} {y : E} {op : Operator} {p : P} {p' pos : Pos} (hN : X.N.Nodup) (hi : X.N[i]? = some x) (hx : Loc X.env.scope x) (hf : X.fn x = true ∨ X.env.scope.names.lookup x = some .local) (h : PE X a (tO (q.at X C) W (evOp rv y)))
    (hp : (op = .Add ∧ p = .add) ∨ (op = .Sub ∧ p = .sub) ∨ (op = .Mult ∧ p = .mul)) : PS X (.AugAssign (.Name x p') op a pos) (tS (q.at X C) W (sAug rv i p y)) := by
  refine ps_of (ps_aug hN hi hx h (aug_ip hp) hf) fun D σ H ⟨F, e, k, o⟩ => ?_
  unfold sAug at o
  split at o
  · next a ha =>
    obtain ⟨v, h1, h2⟩ := peek_ok k ha
    refine ⟨v, slot_iff.mp h1, F, e, k, o.of.imp fun op e1 _ o1 u F1 H1 s1 k1 r1 => ?_⟩
    unfold sAug2 at o1
    split at o1
    · next b hb =>
      split at o1
      · next c hc =>
        cases hpt : put e1 i (.v (.d (.int c))) with
        | none => rw [hpt] at o1; exact o1.elim
        | some e2 =>
          rw [hpt] at o1
          obtain ⟨s2, k2⟩ := store_okE (r := .v (.d (.int c))) (v := .int c) s1 k1 (show Rep (q.at X C) F1 (.int c) (.int c) from .int c) hpt
          exact ⟨a, b, c, top_int h2, top_int (r1.top k1 hb), hc, (show ∀ σ' F' H', Stp F σ H e F' σ' H' e2 → Ok (q.at X C) F' σ' H' e2 → D.nx σ' H' from o1) _ F1 H1 s2 k2⟩
      · exact o1.elim
    · exact o1.elim
  · exact o.elim
end
end Ev
set_option Elab.async false
set_option linter.all false
set_option maxRecDepth 100000
set_option maxHeartbeats 1000000
/-! EvO: loops, stores into lists, pairs. -/
namespace Ev
open PySem PySem.Spec PyProof.Rows L2
section
variable {q : Qn} {X : Cx} {C : V → Wd → Hp → Prop} {W : WX} {rv : Ev}
theorem unlock_own' {σ : L2.St} {a : Addr} : ∀ (held : List (Nat × Bool)) {e : Env}, Own σ e a → Own σ (unlock e held) a
  | [], _, h => h
  | (i, l) :: r, e, h => by
    unfold unlock
    split
    · next x hx =>
      refine (swap_own hx rfl ?_ a).mpr (unlock_own' r h)
      cases l <;> rfl
    · exact unlock_own' r h
theorem foGo_cases {one : PyData → Env → R Fl} {x : PyData} {xs : List PyData} {e : Env} : foGo one (x :: xs) e = R.bind (one x e) fun f e1 => match f with
    | .nx => foGo one xs e1
    | .rt r => some (.ok (.rt r) e1) := rfl
/-- for: J gives ds -/
theorem for_key {g : G} {exs : List S → Env → R Fl} {t : T} {body : List S} {F0 H0 F1 H1 : Hp} {σ : L2.St} {e0 e1 : Env} {ds : List PyData} {held : List (Nat × Bool)} {J : L2.It} {D : Ends} (k1 : Ok g F1 σ H1 e1)
    (brk : ∀ F2 σ2 H2 e2, Stp F1 σ H1 e1 F2 σ2 H2 e2 → Ok g F2 σ2 H2 e2 → Stp F0 σ H0 e0 F2 σ2 H2 (unlock e2 held) ∧ Ok g F2 σ2 H2 (unlock e2 held)) (wk : Wk g F1 σ H1 e1 J ds)
    (o : OutS g F0 σ H0 e0 (unlkR held (foGo (foOne exs t body) ds e1)) W D) :
    ∃ Wv : Nat → Nat → L2.St → Hp → Prop, (∃ m, Wv 0 m σ H1) ∧ ∀ i m σ H, Wv i m σ H →
      (J.stop i H ∧ D.nx σ H) ∨ (J.go i H ∧ ∃ N : L2.St → Hp → Prop, (∀ σ' H', N σ' H' → ∃ m', m' < m ∧ Wv (i + 1) m' σ' H') ∧ ∀ x H', J.yld i H x H' → tgG g.K t x σ H' fun σ2 H2 => tS g W (exs body) { D with nx := N, ct := N, bk := D.nx } σ2 H2) := by
  -- what is left to do, from a later state
  let Wv : Nat → Nat → L2.St → Hp → Prop := fun i m σ' H' => m = ds.length - i ∧ i ≤ ds.length ∧ ∃ F e, Stp F1 σ H1 e1 F σ' H' e ∧ Ok g F σ' H' e ∧
    OutS g F σ' H' e (foGo (foOne exs t body) (ds.drop i) e) (fun cls dd σ2 H2 => W cls dd σ2 H2) { D with nx := fun σ2 H2 => D.nx σ2 H2, rt := D.rt }
  have lift : ∀ {m : R Fl} {F : Hp} {σ' : L2.St} {H' : Hp} {e : Env}, Stp F1 σ H1 e1 F σ' H' e → Ok g F σ' H' e → OutS g F0 σ H0 e0 (unlkR held m) W D → OutS g F σ' H' e m W D := by
    intro m F σ' H' e st k o
    cases m with
    | none => exact o
    | some u =>
      cases u with
      | er c v e2 =>
        intro σ2 F2 H2 s2 k2
        obtain ⟨s3, k3⟩ := brk F2 σ2 H2 e2 (st.trans s2) k2
        exact (show ∀ σ' F' H', Stp F0 σ H0 e0 F' σ' H' (unlock e2 held) → Ok g F' σ' H' (unlock e2 held) → ∀ cls dd, ExOk g F' cls dd c v → W cls dd σ' H' from o) σ2 F2 H2 s3 k3
      | ok f e2 =>
        cases f with
        | nx =>
          intro σ2 F2 H2 s2 k2
          obtain ⟨s3, k3⟩ := brk F2 σ2 H2 e2 (st.trans s2) k2
          exact (show ∀ σ' F' H', Stp F0 σ H0 e0 F' σ' H' (unlock e2 held) → Ok g F' σ' H' (unlock e2 held) → D.nx σ' H' from o) σ2 F2 H2 s3 k3
        | rt r =>
          intro v σ2 F2 H2 s2 k2 r2
          have st2 := st.trans s2
          obtain ⟨s3, k3⟩ := brk F2 σ2 H2 e2 st2 k2
          refine (show ∀ v σ' F' H', Stp F0 σ H0 e0 F' σ' H' (unlock e2 held) → Ok g F' σ' H' (unlock e2 held) → RsOk g (Bs σ H0 e0) F' σ' H' (unlock e2 held) v r → D.rt v H' from o) v σ2 F2 H2 s3 k3 ?_
          cases r with
          | v w => exact r2
          | o x =>
            obtain ⟨a, h1, h2, h3, h4⟩ := r2
            obtain ⟨s0, k0⟩ := brk F1 σ H1 e1 .refl k1
            refine ⟨a, h1, ⟨h2.nf, fun z => h2.no (unlock_own held z), h2.th⟩, h3, ?_⟩
            have b1 : Bs σ H1 e1 a := st.bs h4
            rcases b1 with z | z
            · exact (s0.bs (σ1 := σ) (.inl (by
                -- the place is still its own behind the walk
                have hh : Own σ (unlock e1 held) a := unlock_own' held z
                exact hh)))
            · by_cases hh : H0 a = none
              · exact .inr hh
              · exact absurd z (s0.there a hh)
  refine ⟨Wv, ⟨ds.length, by simp, Nat.zero_le _, F1, e1, .refl, k1, by rw [List.drop_zero]; exact lift .refl k1 o⟩, ?_⟩
  rintro i m σ' H' ⟨rfl, hi, F, e, st, k, o'⟩
  by_cases hlt : i < ds.length
  · refine .inr ⟨wk.go i F σ' H' e hlt st.lk k, Wv (i + 1) (ds.length - (i + 1)), fun σ2 H2 w2 => ⟨_, by omega, w2⟩, fun x H2 hy => ?_⟩
    obtain ⟨F2, d, hd, ps, rx⟩ := wk.yld i F σ' H' e x H2 hlt st.lk k hy
    obtain ⟨s2, k2⟩ := ps.ok k
    have hdrop : ds.drop i = d :: ds.drop (i + 1) := by
      obtain ⟨hl, he⟩ := List.getElem?_eq_some_iff.mp hd
      rw [List.drop_eq_getElem_cons hl, he]
    rw [hdrop, foGo_cases] at o'
    unfold foOne at o'
    cases hb : bindT t d e with
    | none => rw [hb] at o'; exact o'.elim
    | some ea =>
      rw [hb] at o'
      refine bind_ok t s2 k2 rx hb fun σ3 _ s3 k3 => ⟨F2, ea, k3, ?_⟩
      have o3 : OutS g F σ' H' e (contS (exs body ea) (foGo (foOne exs t body) (ds.drop (i + 1)))) W D := o'
      have o4 := (o3.seq).step s3
      show OutS g F2 σ3 H2 ea (exs body ea) W _
      cases hm : exs body ea with
      | none =>
        rw [hm] at o4
        exact o4
      | some u =>
        rw [hm] at o3 o4
        cases u with
        | er c v e4 => exact o4
        | ok f e4 =>
          cases f with
          | rt r => exact o4
          | nx =>
            intro σ5 F5 H5 s5 k5
            have z := o4 σ5 F5 H5 s5 k5
            have st5 := st.trans (s3.trans s5)
            have o5 : OutS g F σ' H' e (foGo (foOne exs t body) (ds.drop (i + 1)) e4) W D := o3
            exact ⟨rfl, hlt, F5, e4, st5, k5, o5.step (s3.trans s5)⟩
  · have ei : i = ds.length := by omega
    subst ei
    rw [List.drop_length] at o'
    exact .inl ⟨wk.stop F σ' H' e st.lk k, (show ∀ σ2 F2 H2, Stp F σ' H' e F2 σ2 H2 e → Ok g F2 σ2 H2 e → D.nx σ2 H2 from o') σ' F H' .refl k⟩
theorem st_for {tg iter : Expr} {body : List Stmt} {t : T} {it : It} {src : List E} {xb : List S} {exs : List S → Env → R Fl} {pos : Pos} (hp : PassesOwn (model X.prog X.w) X.A X.env X.xe) (hc : X.calm = true) (hi : PI X tg iter (tIt (q.at X C) W (evIt rv it src))) (hg : PG X tg (tgG X.K t)) (hb : PSs X body (tS (q.at X C) W (exs xb)))
    (hs : ∀ x, foldedSetIterable iter X.env x = pure x) : PS X (.For tg iter body [] pos) (tS (q.at X C) W (sFo exs rv t it src xb)) := by
  refine ps_of (ps_for hp hc hi hg hb hs) fun D σ H ⟨F, e, k, o⟩ => ⟨F, e, k, ?_⟩
  refine (show OutS (q.at X C) F σ H e (R.bind (evIt rv it src e) (sFo2 exs t xb)) W D from o).of.imp fun p e1 _ o1 J F1 H1 k1 brk wk => ?_
  exact for_key (g := q.at X C) k1 brk wk o1

/-! ### x[i] = v of a list of one's own -/
theorem tyStore {i : Nat} {v d : PyData} {e : Env} {D : Ends} {F F0 H H0 : Hp} {σ : L2.St} {e0 : Env} {o y : V} (s : Stp F0 σ H0 e0 F σ H e) (k : Ok (q.at X C) F σ H e) (ho : slot σ i = some o) (rv' : Rep (q.at X C) F y v) {z : V} (rd : Rep (q.at X C) F z d)
    (out : OutS (q.at X C) F0 σ H0 e0 (storeAt i v d e) W D) : (rSetL o z y H fun H' => D.nx σ H') ∨ rSetX (q.at X C) o z y H fun H' => D.nx σ H' := by
  have go : ∀ {c c' : PyData} {s1 s' : Sl}, e[i]? = some s1 → ((s1 = .ow c ∧ s' = .ow c') ∨ (s1 = .le c ∧ s' = .le c')) → setAt c d v = some c' → OutS (q.at X C) F0 σ H0 e0 (some (.ok .nx (e.set i s'))) W D → (rSetL o z y H fun H' => D.nx σ H') ∨ rSetX (q.at X C) o z y H fun H' => D.nx σ H' := by
    intro c c' s1 s' hi hs hc o2
    have own : ∃ a, o = .ref a ∧ OwnAt (q.at X C) F H a c := by
      have p := k.pl i s1 hi
      rcases hs with ⟨q1, _⟩ | ⟨q1, _⟩ <;> (rw [q1] at p; obtain ⟨a, h1, _, h3⟩ := p; rw [ho] at h1; cases h1; exact ⟨a, rfl, h3⟩)
    obtain ⟨a, ea, own⟩ := own
    subst ea
    unfold setAt at hc
    split at hc
    · next xs j =>
      cases hj : L2.ixN xs.length j with
      | none => rw [hj] at hc; cases hc
      | some m =>
        rw [hj] at hc
        cases hc
        obtain ⟨us, h1, h2⟩ := own
        have ez : z = .int j := by
          cases rd
          rfl
        subst ez
        obtain ⟨s2, k2⟩ := write_ok (u := .lst (us.set m y)) k hi hs ho ⟨_, upd_same, h2.set rv' m⟩ (tabs_lst k.tab.1 h1)
        exact .inl ⟨a, us, j, m, rfl, rfl, h1, by rw [h2.length]; exact hj, (show ∀ σ' F' H', Stp F0 σ H0 e0 F' σ' H' (e.set i s') → Ok (q.at X C) F' σ' H' (e.set i s') → D.nx σ' H' from o2) σ F _ (s.trans s2) k2⟩
    · next kvs j =>
      split at hc
      · next hcond =>
        cases hc
        rw [Bool.and_eq_true, Bool.and_eq_true, decide_eq_true_eq] at hcond
        obtain ⟨⟨c1, c2⟩, c3⟩ := hcond
        obtain ⟨nk, hnk⟩ := Option.isSome_iff_exists.mp (show (nkOf d).isSome = true from c1)
        obtain ⟨b, rfl, rb, dp⟩ := key_word (X := X) (C := C) (q := q) (H := H) hnk (TopW.of k.sub (w := .d d) rd)
        obtain ⟨ks, vs, vds, q1, q2, q3, q4⟩ := own_dic own c2
        subst q4
        refine .inr ⟨F, a, ks, vs, nk, b, rfl, rfl, q1, k.sub, q2, rb, dp, fun hll => ?_⟩
        have hvl : vds.length = ks.length := by rw [← q3.length]; exact hll
        have hn := keys_nk hvl c2
        have e8 : (entP ks vds nk b v).1 = (entP ks vs nk b y).1 := entP_keys hvl hll
        obtain ⟨s2, k2⟩ := write_ok (u := DicO X.prog X.w a (entP ks vs nk b y).1 (entP ks vs nk b y).2) k hi hs ho (.inr ⟨(entP ks vs nk b y).1, (entP ks vs nk b y).2, (entP ks vds nk b v).2, upd_same, repAll_keys fun p hp => (by
          rcases entP_mem hp with w | w
          · exact keys_repAll q2 p w
          · rw [w]
            exact rb), entP_rep rv' q3, by rw [dput_store (b := b) hnk hvl hn, e8]⟩) (by
          rcases q1 with q1 | ⟨q1, _, _⟩
          · exact tabs_dic k.tab.1 q1
          · exact tabs_dK k.tab.1 q1)
        refine ⟨?_, (show ∀ σ' F' H', Stp F0 σ H0 e0 F' σ' H' (e.set i s') → Ok (q.at X C) F' σ' H' (e.set i s') → D.nx σ' H' from o2) σ F _ (s.trans s2) k2⟩
        rw [List.length_zip, List.length_map] at c3
        have e9 : lim = sizeLine := by rw [sizeLine_eq]; rfl
        omega
      · cases hc
    · cases hc
  unfold storeAt at out
  split at out
  · next c hi =>
    cases hc : setAt c d v with
    | none => rw [hc] at out; exact out.elim
    | some c' =>
      rw [hc] at out
      exact go hi (.inl ⟨rfl, rfl⟩) hc out
  · next c hi =>
    cases hc : setAt c d v with
    | none => rw [hc] at out; exact out.elim
    | some c' =>
      rw [hc] at out
      exact go hi (.inr ⟨rfl, rfl⟩) hc out
  · exact out.elim
theorem st_six {i : Nat} {x : Str} {a b : Expr} {y z : E} {p p2 pos : Pos} (hu : X.A.units + 65 < cLine) (hx : PE X (.Name x p) (tVar i)) (ha : PE X a (tG (q.at X C) W (evGive rv y))) (hb : PE X b (tG (q.at X C) W (evGive rv z))) (hs : swapsWithSole [.Subscript (.Name x p) b p2] a pos.line X.env = pure false)
    (hg : ∀ v, assign (.Subscript (.Name x p) b p2) X.env v = (do
      let ov ← holding [v] (eval (.Name x p) X.env)
      let iv ← holding [v, ov] (eval b X.env)
      standAt p2
      holding [v, ov, iv] (setItem ov iv v)
      release [v, ov, iv] [])) :
    PS X (.Assign [.Subscript (.Name x p) b p2] a pos) (tS (q.at X C) W (sSix rv i z y)) := by
  refine ps_of (ps_asg ha (pg_sub hx hb (pset_or set_list (set_X (q := q) (C := C) hu)) hg) hs) fun D σ H ⟨F, e, k, o⟩ => ⟨F, e, k, ?_⟩
  refine (show OutS (q.at X C) F σ H e (R.bind (evGive rv y e) (sSix2 rv i z)) W D from o).of.imp fun v e1 _ o1 u F1 H1 s1 k1 r1 => ?_
  unfold sSix2 at o1
  cases hp : peek e1 i with
  | none => rw [hp] at o1; exact o1.elim
  | some w =>
    rw [hp] at o1
    obtain ⟨c, h1, _⟩ := peek_ok k1 hp
    refine ⟨c, slot_iff.mp h1, F1, e1, k1, ((show OutS (q.at X C) F σ H e (R.bind (evGive rv z e1) (storeAt i v)) W D from o1).step s1).of.imp fun d e2 _ o2 m F2 H2 s2 k2 r2 => ?_⟩
    exact tyStore s2 k2 h1 (r1.mono s2.fz) r2 o2
end
end Ev
set_option Elab.async false
set_option linter.all false
set_option maxRecDepth 100000
set_option maxHeartbeats 1000000
/-! EvOa: while. -/
namespace Ev
open PySem PySem.Spec PyProof.Rows L2
theorem OutS.ends {g : G} {F : Hp} {σ : L2.St} {H : Hp} {e : Env} {m : R Fl} {W : WX} {D D' : Ends} (o : OutS g F σ H e m W D) (hn : ∀ σ H, D.nx σ H → D'.nx σ H) (hr : ∀ v H, D.rt v H → D'.rt v H) : OutS g F σ H e m W D' := by
  cases m with
  | none => exact o
  | some u =>
    cases u with
    | er c v e' => exact o
    | ok f e' =>
      cases f with
      | nx => exact fun σ' F' H' s' k => hn _ _ (o σ' F' H' s' k)
      | rt r => exact fun v σ' F' H' s' k r' => hr _ _ (o v σ' F' H' s' k r')
theorem contS_nx (m : R Fl) : contS m (fun e => some (.ok .nx e)) = m := by
  cases m with
  | none => rfl
  | some u =>
    cases u with
    | er c v e' => rfl
    | ok f e' => cases f <;> rfl
section
variable {q : Qn} {X : Cx} {C : V → Wd → Hp → Prop} {W : WX} {call : Nat → Env → Option CO} {clo : Nat → List (Option PyData) → Option CO} {sub : Nat → Nat → Bool}
theorem st_wh {c : Expr} {body : List Stmt} {t : E} {xb : List S} {pos : Pos} (hp : PassesOwn (model X.prog X.w) X.A X.env X.xe) (hc : ∀ n, PT X c (tB (q.at X C) W (ev call clo n true t))) (hb : ∀ n, PSs X body (tS (q.at X C) W (exs call clo sub n xb))) (n : Nat) :
    PS X (.While c body [] pos) (tS (q.at X C) W (sWh (exs call clo sub n) (ev call clo n) t xb)) := by
  have pc : PT X c (fun σ H Q => ∃ n, tB (q.at X C) W (ev call clo n true t) σ H Q) := ⟨fun pins s σ H Q I ⟨n, z⟩ => (hc n).run pins s σ H Q I z⟩
  have pb : PSs X body (fun D σ H => ∃ n, tS (q.at X C) W (exs call clo sub n xb) D σ H) := ⟨fun pins s σ H D I ⟨n, z⟩ => (hb n).run pins s σ H D I z⟩
  refine ps_of (ps_while hp pc pb) fun D σ H ⟨F, e, k, o⟩ => ?_
  refine ⟨fun m σ' H' => ∃ F' e', Ok (q.at X C) F' σ' H' e' ∧ OutS (q.at X C) F' σ' H' e' (sWh (exs call clo sub m) (ev call clo m) t xb e') W D, ⟨n, F, e, k, o⟩, fun m σ' H' ⟨F', e', k', o'⟩ => ⟨m, F', e', k', ?_⟩⟩
  refine (show OutS (q.at X C) F' σ' H' e' (R.bind (ev call clo m true t e') fun r e1 => match r with
    | .v (.d (.bool true)) => contS (exs call clo sub m xb e1) fun e2 => exs call clo sub m [.wh t xb] e2
    | .v (.d (.bool false)) => some (.ok .nx e1)
    | _ => none) W D from o').of.imp fun r e1 _ o1 => ?_
  split at o1
  · refine ⟨true, rfl, fun F1 H1 s1 k1 => ?_⟩
    dsimp only
    rw [if_pos rfl]
    refine ⟨fun σ2 H2 => ∃ F2 e2, Ok (q.at X C) F2 σ2 H2 e2 ∧ OutS (q.at X C) F2 σ2 H2 e2 (exs call clo sub m [.wh t xb] e2) W D, fun σ2 H2 ⟨F2, e2, k2, o2⟩ => ?_, m, F1, e1, k1, (o1.step s1).seq.ends (fun _ _ z => z) fun _ _ z => z⟩
    cases m with
    | zero => exact o2.elim
    | succ m =>
      have z : exs call clo sub (m + 1) [.wh t xb] e2 = sWh (exs call clo sub m) (ev call clo m) t xb e2 := contS_nx _
      rw [z] at o2
      exact ⟨m, Nat.lt_succ_self _, F2, e2, k2, o2⟩
  · refine ⟨false, rfl, fun F1 H1 s1 k1 => ?_⟩
    dsimp only
    rw [if_neg (show ¬ (false = true) from Bool.false_ne_true)]
    exact o1 σ' F1 H1 s1 k1
  · exact o1.elim
end
end Ev
set_option Elab.async false
set_option linter.all false
set_option maxRecDepth 100000
set_option maxHeartbeats 1000000
/-! EvOb: xs[i] += e of a list of whole numbers. -/
namespace Ev
open PySem PySem.Spec PyProof.Rows L2
section
variable {q : Qn} {X : Cx} {C : V → Wd → Hp → Prop} {W : WX} {rv : Ev}
theorem get_list : PGet X (fun o i H Q => ∃ p xs k x, o = V.ref p ∧ i = V.int k ∧ H p = some (.lst xs) ∧ 0 ≤ k ∧ k < 2 ^ 60 ∧ xs[k.toNat]? = some x ∧ Q x H) := by
  intro pins s σ H o i ov iv Q I ro ri ⟨p, xs, k, x, e1, e2, hH, k0, k1, hx, q⟩
  subst e1
  subst e2
  obtain rfl : ov = .ref p := ro
  obtain ⟨t, rfl⟩ := ri
  obtain ⟨its, rv, hp, _⟩ := I.list (SqL.of hH)
  obtain ⟨u, hu, ru⟩ := rv.get hx
  have hk : k < 2 ^ 63 := by
    have a : (2 : Int) ^ 60 = 1152921504606846976 := by decide
    have b : (2 : Int) ^ 63 = 9223372036854775808 := by decide
    rw [a] at k1
    rw [b]
    omega
  exact wpAny_getItem_list hp.isList k0 hk (by simpa using hu) ⟨x, H, I, ru, q⟩
theorem st_augx {i : Nat} {x : Str} {a b : Expr} {y z : E} {op : Operator} {p : P} {p1 p2 pos : Pos} (hu : X.A.units + 65 < cLine) (hx : PE X (.Name x p1) (tVar i)) (hb : PE X b (tG (q.at X C) W (evGive rv z))) (ha : PE X a (tO (q.at X C) W (evOp rv y)))
    (hp : (op = .Add ∧ p = .add) ∨ (op = .Sub ∧ p = .sub) ∨ (op = .Mult ∧ p = .mul))
    (hg : ∀ ov iv new : Value, augStore b ov iv new = (do
      holding [new, ov, iv] (setItem ov iv new)
      release [new, ov, iv] []
      pure .next)) : PS X (.AugAssign (.Subscript (.Name x p1) b p2) op a pos) (tS (q.at X C) W (sAugx rv i z p y)) := by
  refine ps_of (ps_augS hx hb get_list ha (aug_ip hp) (pset_or set_list (set_X (q := q) (C := C) hu)) hg) fun D σ H ⟨F, e, k, o⟩ => ?_
  unfold sAugx at o
  split at o
  · next ds ha =>
    obtain ⟨v, h1, _⟩ := peek_ok k ha
    refine ⟨v, slot_iff.mp h1, F, e, k, o.of.imp fun d e1 _ o1 w F1 H1 s1 k1 r1 => ?_⟩
    unfold sAugx1 at o1
    split at o1
    · next kk _ =>
      split at o1
      · next hk =>
        split at o1
        · next xs hxs =>
          split at o1
          · next old hold =>
            obtain ⟨v', h2, t2⟩ := peek_ok k1 hxs
            rw [h1] at h2
            cases h2
            obtain ⟨a, us, rfl, hH, ra⟩ := t2
            obtain ⟨x0, hx0, rx0⟩ := ra.get hold
            cases rx0
            have ew : w = .int kk := by
              cases r1
              rfl
            subst ew
            refine ⟨a, us, kk, .int old, rfl, rfl, hH, hk.1, hk.2, hx0, F1, e1, k1, ((show OutS (q.at X C) F σ H e (R.bind (evOp rv y e1) (sAugx2 i kk p old)) W D from o1).of.step s1).imp fun op2 e2 _ o2 u F2 H2 s2 k2 r2 => ?_⟩
            unfold sAugx2 at o2
            split at o2
            · next z hz =>
              split at o2
              · next new hnew =>
                exact ⟨old, z, new, rfl, top_int (r2.top k2 hz), hnew, tyStore (s1.trans s2) k2 h1 (Rep.int new) (Rep.int kk) o2⟩
              · exact o2.elim
            · exact o2.elim
          · exact o1.elim
        · exact o1.elim
      · exact o1.elim
    · exact o1.elim
  · exact o.elim
end
end Ev
set_option Elab.async false
set_option linter.all false
set_option maxRecDepth 100000
set_option maxHeartbeats 1000000
/-! EvP: a call: what is lent, what comes back. -/
namespace Ev
open PySem PySem.Spec PyProof.Rows L2
section
variable {g : G} {F F0 F1 F2 H H0 H1 : Hp} {σ σ0 : L2.St} {e e0 e1 : Env}
theorem drop_ok {i : Nat} (k : Ok g F σ H e) : Ok g F σ H (e.set i .un) := by
  refine ⟨k.sub, by rw [List.length_set]; exact k.len, fun j s hj => ?_, fun j l s t b hjl hj hl oj ol hb => ?_, k.tab⟩
  · rcases get_set hj with ⟨_, z⟩ | ⟨_, z⟩
    · rw [z]
      trivial
    · exact k.pl j s z
  · rcases get_set hj with ⟨_, z⟩ | ⟨_, z⟩
    · rw [z] at oj
      cases oj
    · rcases get_set hl with ⟨_, y⟩ | ⟨_, y⟩
      · rw [y] at ol
        cases ol
      · exact k.apart j l s t b hjl z y oj ol hb
/-- what the arguments are: their places; where own ones come from -/
structure LentA (g : G) (F : Hp) (σ : L2.St) (H : Hp) (e : Env) (os : List Op) (vs : List V) (as : Env) : Prop where
  len : as.length = vs.length
  lenO : os.length = vs.length
  pl : ∀ (j : Nat) (s : Sl), as[j]? = some s → SlOk g F H (vs[j]?) s
  org : ∀ (j : Nat) (s : Sl), as[j]? = some s → s.own = true → ∃ i t x, os[j]? = some (.sl i) ∧ e[i]? = some t ∧ t.own = true ∧ slot σ i = vs[j]? ∧ ((∃ x, (t = .ow x ∨ t = .le x) ∧ s = .le x) ∨ (t = .lk x ∧ s = .lk x))
  come : ∀ (j i : Nat) (t : Sl), os[j]? = some (.sl i) → e[i]? = some t → t.own = true → ∃ s, as[j]? = some s ∧ s.own = true
  two : ∀ (j l : Nat) (s t : Sl), j ≠ l → as[j]? = some s → as[l]? = some t → s.own = true → t.own = true → ∀ i i' : Nat, os[j]? = some (.sl i) → os[l]? = some (.sl i') → i ≠ i'
theorem args_ok : ∀ {os : List Op} {vs : List V} {e as : Env}, Ok g F σ H e → Paired (ArgOk g F σ) vs os → argsOf e os = some as → LentA g F σ H e os vs as
  | [], [], e, as, k, .nil, h => by
    cases h
    exact ⟨rfl, rfl, fun j s z => (by cases z), fun j s z => (by cases z), fun j i t z => (by cases z), fun j l s t _ z => (by cases z)⟩
  | o :: os, v :: vs, e, as, k, .cons r t, h => by
    -- a value ahead
    have val : ∀ {w : Wd} {as' : Env}, argsOf e os = some as' → RepW g F v w → (∀ i t, o = .sl i → e[i]? = some t → t.own = false) → LentA g F σ H e (o :: os) (v :: vs) (.va w :: as') := by
      intro w as' ha rw' ho
      have ih := args_ok k t ha
      refine ⟨by simp [ih.len], by simp [ih.lenO], fun j s hj => ?_, fun j s hj os' => ?_, fun j i t' hj hi ot => ?_, fun j l s u hjl hj hl oj ol i i' hi hi' => ?_⟩
      · cases j with
        | zero =>
          cases hj
          exact ⟨v, rfl, rw'⟩
        | succ j => exact ih.pl j s hj
      · cases j with
        | zero =>
          cases hj
          cases os'
        | succ j => exact ih.org j s hj os'
      · cases j with
        | zero =>
          have z := ho i t' (Option.some.inj hj) hi
          rw [ot] at z
          cases z
        | succ j => exact ih.come j i t' hj hi ot
      · cases j with
        | zero =>
          cases hj
          cases oj
        | succ j =>
          cases l with
          | zero =>
            cases hl
            cases ol
          | succ l => exact ih.two j l s u (fun z => hjl (by rw [z])) hj hl oj ol i i' hi hi'
    -- a list that is lent
    have lend : ∀ {i : Nat} {s s' : Sl} {x : PyData} {as' : Env}, o = .sl i → e[i]? = some s → s.own = true → argsOf (e.set i .un) os = some as' → SlOk g F H (some v) s' → s'.own = true → ((∃ x, (s = .ow x ∨ s = .le x) ∧ s' = .le x) ∨ (s = .lk x ∧ s' = .lk x)) → slot σ i = some v →
        LentA g F σ H e (o :: os) (v :: vs) (s' :: as') := by
      intro i s s' x as' eo hi os1 ha sl os2 hk hs
      have ih := args_ok (drop_ok (i := i) k) t ha
      have ne : ∀ {m i' : Nat} {u : Sl}, as'[m]? = some u → u.own = true → os[m]? = some (.sl i') → i' ≠ i := fun {m i' u} hm hu ho z => by
        obtain ⟨i2, t2, _, a1, a2, a3, _⟩ := ih.org m u hm hu
        rw [ho] at a1
        cases a1
        rw [z] at a2
        rcases get_set a2 with ⟨_, y⟩ | ⟨y, _⟩
        · rw [y] at a3
          cases a3
        · exact y rfl
      refine ⟨by simp [ih.len], by simp [ih.lenO], fun j u hj => ?_, fun j u hj ou => ?_, fun j i' t' hj hi' ot => ?_, fun j l u w hjl hj hl oj ol i1 i2 h1 h2 => ?_⟩
      · cases j with
        | zero =>
          cases hj
          exact sl
        | succ j => exact ih.pl j u hj
      · cases j with
        | zero =>
          cases hj
          exact ⟨i, s, x, by rw [eo]; rfl, hi, os1, hs, hk⟩
        | succ j =>
          obtain ⟨i2, t2, y, a1, a2, a3, a4, a5⟩ := ih.org j u hj ou
          rcases get_set a2 with ⟨_, z⟩ | ⟨_, z⟩
          · rw [z] at a3
            cases a3
          · exact ⟨i2, t2, y, a1, z, a3, a4, a5⟩
      · cases j with
        | zero => exact ⟨s', rfl, os2⟩
        | succ j =>
          by_cases z : i' = i
          · -- an own place twice: the second is refused
            exfalso
            subst z
            have bad : ∀ (ops : List Op) (m : Nat) (f as2 : Env), ops[m]? = some (.sl i') → f[i']? = some .un → argsOf f ops = some as2 → False := by
              intro ops
              induction ops with
              | nil => intro m f as2 h1 _ _; cases h1
              | cons p ps ihp =>
                intro m f as2 h1 h2 h3
                cases m with
                | zero =>
                  have ep : p = .sl i' := Option.some.inj h1
                  subst ep
                  unfold argsOf at h3
                  rw [h2] at h3
                  cases h3
                | succ m =>
                  have h1' : ps[m]? = some (.sl i') := h1
                  cases p with
                  | rs r =>
                    unfold argsOf at h3
                    cases h4 : argsOf f ps with
                    | none => rw [h4] at h3; cases h3
                    | some q => exact ihp m f q h1' h2 h4
                  | sl n =>
                    have sub : ∀ {f' : Env} {c : Sl}, f'[i']? = some .un → (match argsOf f' ps with | some as => some (c :: as) | none => none) = some as2 → False := fun {f' c} hf h5 => by
                      cases h4 : argsOf f' ps with
                      | none => rw [h4] at h5; cases h5
                      | some q => exact ihp m f' q h1' hf h4
                    have set_un : (f.set n .un)[i']? = some .un := by
                      by_cases hn : n = i'
                      · subst hn
                        exact set_get h2
                      · rw [List.getElem?_set_ne hn]
                        exact h2
                    unfold argsOf at h3
                    split at h3
                    · exact sub h2 h3
                    · exact sub h2 h3
                    · exact sub set_un h3
                    · exact sub set_un h3
                    · exact sub set_un h3
                    · cases h3
            exact bad os j (e.set i' .un) as' hj (set_get hi) ha
          · exact ih.come j i' t' hj (by rw [List.getElem?_set_ne (fun y => z y.symm)]; exact hi') ot
      · cases j with
        | zero =>
          cases l with
          | zero => exact absurd rfl hjl
          | succ l =>
            have e1 : i1 = i := by
              rw [eo] at h1
              cases h1
              rfl
            rw [e1]
            exact fun z => ne hl ol h2 z.symm
        | succ j =>
          cases l with
          | zero =>
            have e1 : i2 = i := by
              rw [eo] at h2
              cases h2
              rfl
            rw [e1]
            exact ne hj oj h1
          | succ l => exact ih.two j l u w (fun z => hjl (by rw [z])) hj hl oj ol i1 i2 h1 h2
    cases o with
    | rs rr =>
      unfold argsOf at h
      cases ha : argsOf e os with
      | none => rw [ha] at h; cases h
      | some as' =>
        rw [ha] at h
        cases h
        exact val ha r (fun i t z => by cases z)
    | sl i =>
      have hs : slot σ i = some v := r
      unfold argsOf at h
      cases hi : e[i]? with
      | none => rw [hi] at h; cases h
      | some s =>
        rw [hi] at h
        have p := k.pl i s hi
        have notown : s.own = false → ∀ i' t, Op.sl i = .sl i' → e[i']? = some t → t.own = false := fun h0 i' t z y => by
          cases z
          rw [hi] at y
          cases y
          exact h0
        cases s with
        | un => cases h
        | va w =>
          simp only at h
          cases ha : argsOf e os with
          | none => rw [ha] at h; cases h
          | some as' =>
            rw [ha] at h
            cases h
            obtain ⟨u, h1, h2⟩ := p
            rw [hs] at h1
            cases h1
            exact val ha h2 (notown rfl)
        | ls x =>
          simp only at h
          cases ha : argsOf e os with
          | none => rw [ha] at h; cases h
          | some as' =>
            rw [ha] at h
            cases h
            obtain ⟨u, h1, h2⟩ := p
            rw [hs] at h1
            cases h1
            exact val (w := .d x) ha h2 (notown rfl)
        | ow x =>
          simp only at h
          cases ha : argsOf (e.set i .un) os with
          | none => rw [ha] at h; cases h
          | some as' =>
            rw [ha] at h
            cases h
            rw [hs] at p
            exact lend (x := x) rfl hi rfl ha p rfl (.inl ⟨x, .inl rfl, rfl⟩) hs
        | le x =>
          simp only at h
          cases ha : argsOf (e.set i .un) os with
          | none => rw [ha] at h; cases h
          | some as' =>
            rw [ha] at h
            cases h
            rw [hs] at p
            exact lend (x := x) rfl hi rfl ha p rfl (.inl ⟨x, .inr rfl, rfl⟩) hs
        | lk x =>
          simp only at h
          cases ha : argsOf (e.set i .un) os with
          | none => rw [ha] at h; cases h
          | some as' =>
            rw [ha] at h
            cases h
            rw [hs] at p
            exact lend (x := x) rfl hi rfl ha p rfl (.inr ⟨rfl, rfl⟩) hs
/-- the arguments' own small frame -/
abbrev fr (vs : List V) : L2.St := vs.map some
theorem fr_slot (vs : List V) (j : Nat) : slot (fr vs) j = vs[j]? := by
  unfold slot
  rw [List.getElem?_map]
  cases vs[j]? <;> rfl
theorem LentA.ok {os : List Op} {vs : List V} {as : Env} (k : Ok g F σ H e) (a : LentA g F σ H e os vs as) : Ok g F (fr vs) H as := by
  refine ⟨k.sub, by rw [List.length_map]; exact a.len, fun j s hj => by rw [fr_slot]; exact a.pl j s hj, fun j l s t b hjl hj hl oj ol hb => ?_, k.tab⟩
  rw [fr_slot] at hb ⊢
  obtain ⟨i, u, _, h1, h2, h3, h4, _⟩ := a.org j s hj oj
  obtain ⟨i', u', _, h1', h2', h3', h4', _⟩ := a.org l t hl ol
  rw [← h4] at hb
  rw [← h4']
  exact k.apart i i' u u' b (a.two j l s t hjl hj hl oj ol i i' h1 h1') h2 h2' h3 h3' hb
theorem LentA.own {os : List Op} {vs : List V} {as : Env} {b : Addr} (a : LentA g F σ H e os vs as) (h : Own (fr vs) as b) : Own σ e b := by
  obtain ⟨j, s, hj, os', pj⟩ := h
  obtain ⟨i, t, _, _, h2, h3, h4, _⟩ := a.org j s hj os'
  rw [fr_slot] at pj
  exact ⟨i, t, h2, h3, by rw [h4]; exact pj⟩
end
end Ev
set_option Elab.async false
set_option linter.all false
set_option maxRecDepth 100000
set_option maxHeartbeats 1000000
/-! EvQ: behind a call. -/
namespace Ev
open PySem PySem.Spec PyProof.Rows L2
theorem back_get : ∀ (os : List Op) (bs e e2 : Env), backTo e os bs = some e2 → e2.length = e.length ∧ ∀ i : Nat, ((∀ (j : Nat) (s : Sl), os[j]? = some (.sl i) → e[i]? = some s → s.own = false) ∧ e2[i]? = e[i]?) ∨
    (∃ (j : Nat) (s b t : Sl), os[j]? = some (.sl i) ∧ e[i]? = some s ∧ s.own = true ∧ bs[j]? = some b ∧ backS s b = some t ∧ e2[i]? = some t)
  | [], [], e, e2, h => by
    cases h
    exact ⟨rfl, fun i => .inl ⟨fun j s z => (by cases z), rfl⟩⟩
  | [], _ :: _, e, e2, h => by cases h
  | .rs r :: os, [], e, e2, h => by cases h
  | .rs r :: os, b :: bs, e, e2, h => by
    have h' : backTo e os bs = some e2 := h
    obtain ⟨h1, h2⟩ := back_get os bs e e2 h'
    refine ⟨h1, fun i => ?_⟩
    rcases h2 i with ⟨a1, a2⟩ | ⟨j, s, b', t, a1, a2, a3, a4, a5, a6⟩
    · refine .inl ⟨fun j s hj hs => ?_, a2⟩
      cases j with
      | zero => cases hj
      | succ j => exact a1 j s hj hs
    · exact .inr ⟨j + 1, s, b', t, a1, a2, a3, a4, a5, a6⟩
  | .sl n :: os, [], e, e2, h => by cases h
  | .sl n :: os, b :: bs, e, e2, h => by
    unfold backTo at h
    cases h1 : backTo e os bs with
    | none => rw [h1] at h; cases h
    | some e' =>
      cases h2 : e[n]? with
      | none => rw [h1, h2] at h; cases h
      | some s =>
        rw [h1, h2] at h
        simp only at h
        obtain ⟨g1, g2⟩ := back_get os bs e e' h1
        have shift : ∀ {i : Nat} {f : Env}, f[i]? = e'[i]? → (n = i → s.own = false) → ((∀ (j : Nat) (s : Sl), (Op.sl n :: os)[j]? = some (.sl i) → e[i]? = some s → s.own = false) ∧ f[i]? = e[i]?) ∨
            (∃ (j : Nat) (s b' t : Sl), (Op.sl n :: os)[j]? = some (.sl i) ∧ e[i]? = some s ∧ s.own = true ∧ (b :: bs)[j]? = some b' ∧ backS s b' = some t ∧ f[i]? = some t) := by
          intro i f hf hn
          rcases g2 i with ⟨a1, a2⟩ | ⟨j, u, b', t, a1, a2, a3, a4, a5, a6⟩
          · refine .inl ⟨fun j u hj hu => ?_, hf.trans a2⟩
            cases j with
            | zero =>
              have en : n = i := by
                cases hj
                rfl
              have z := hn en
              subst en
              rw [h2] at hu
              cases hu
              exact z
            | succ j => exact a1 j u hj hu
          · exact .inr ⟨j + 1, u, b', t, a1, a2, a3, a4, a5, hf.trans a6⟩
        cases ho : s.own with
        | false =>
          rw [ho] at h
          cases h
          exact ⟨g1, fun i => shift rfl fun _ => ho⟩
        | true =>
          rw [ho] at h
          simp only at h
          cases hs : backS s b with
          | none => rw [hs] at h; cases h
          | some t =>
            rw [hs] at h
            cases h
            refine ⟨by rw [List.length_set]; exact g1, fun i => ?_⟩
            by_cases hi : n = i
            · subst hi
              have hl : n < e'.length := by
                rw [g1]
                exact (List.getElem?_eq_some_iff.mp h2).1
              exact .inr ⟨0, s, b, t, rfl, h2, ho, rfl, hs, List.getElem?_set_self hl⟩
            · exact shift (List.getElem?_set_ne hi) fun z => absurd z hi
section
variable {g : G} {F F3 H H3 : Hp} {σ : L2.St} {e e2 as bs : Env} {os : List Op} {vs : List V}
theorem back_call (k : Ok g F σ H e) (a : LentA g F σ H e os vs as) (st : Stp F (fr vs) H as F3 (fr vs) H3 bs) (k3 : Ok g F3 (fr vs) H3 bs) (hb : backTo e os bs = some e2) :
    Stp F σ H e F3 σ H3 e2 ∧ Ok g F3 σ H3 e2 ∧ ∀ c, Own σ e2 c → (Own σ e c ∧ ¬ Own (fr vs) as c) ∨ Own (fr vs) bs c := by
  obtain ⟨hl, hget⟩ := back_get os bs e e2 hb
  -- a lent place: what it was, what it is
  have lent : ∀ {j i : Nat} {s b t : Sl}, os[j]? = some (.sl i) → e[i]? = some s → s.own = true → bs[j]? = some b → backS s b = some t → SlOk g F3 H3 (slot σ i) t ∧ (s.lent = true → Held s t) ∧ (t.own = true → b.own = true ∧ slot (fr vs) j = slot σ i) := by
    intro j i s b t hj hi ho hbj hbs
    obtain ⟨s0, hs0, ho0⟩ := a.come j i s hj hi ho
    obtain ⟨i', s1, _, h1, h2, h3, h4, h5⟩ := a.org j s0 hs0 ho0
    rw [hj] at h1
    cases h1
    rw [hi] at h2
    cases h2
    have p := k3.pl j b hbj
    rw [fr_slot, ← h4] at p
    have hf : slot (fr vs) j = slot σ i := by rw [fr_slot, h4]
    rcases h5 with ⟨x, hx, hs⟩ | ⟨hx, hs⟩
    · subst hs
      obtain ⟨_, b2, hb2, hd⟩ := st.held j _ hs0 rfl
      rw [hbj] at hb2
      cases hb2
      obtain ⟨y, hy | hy⟩ := hd
      · subst hy
        rcases hx with hx | hx <;> (subst hx; cases hbs)
        · exact ⟨p, fun z => (by cases z), fun _ => ⟨rfl, hf⟩⟩
        · exact ⟨p, fun _ => ⟨y, .inl rfl⟩, fun _ => ⟨rfl, hf⟩⟩
      · subst hy
        rcases hx with hx | hx <;> (subst hx; cases hbs)
        · exact ⟨p, fun z => (by cases z), fun z => (by cases z)⟩
        · exact ⟨p, fun _ => ⟨y, .inr rfl⟩, fun z => (by cases z)⟩
    · subst hs
      subst hx
      obtain ⟨_, b2, hb2, hd⟩ := st.held j _ hs0 rfl
      rw [hbj] at hb2
      cases hb2
      have hd' : b = .lk _ := hd
      subst hd'
      cases hbs
      exact ⟨p, fun _ => rfl, fun _ => ⟨rfl, hf⟩⟩
  -- a place that is not lent keeps its list
  have kept : ∀ {i : Nat} {s : Sl} {c : Addr}, (∀ (j : Nat) (s : Sl), os[j]? = some (.sl i) → e[i]? = some s → s.own = false) → e[i]? = some s → s.own = true → slot σ i = some (.ref c) → ¬ Own (fr vs) as c ∧ F3 c = none ∧ H3 c = H c := by
    intro i s c hn hi ho hc
    have n : ¬ Own (fr vs) as c := by
      rintro ⟨j, t, hj, ot, pj⟩
      obtain ⟨i', t', _, h1, h2, h3, h4, _⟩ := a.org j t hj ot
      rw [fr_slot, ← h4] at pj
      by_cases z : i = i'
      · subst z
        have y := hn j t' h1 h2
        rw [h3] at y
        cases y
      · exact k.apart i i' s t' c z hi h2 ho h3 hc pj
    have ow : Own σ e c := ⟨i, s, hi, ho, hc⟩
    refine ⟨n, ?_, ?_⟩
    · cases q : F3 c with
      | none => rfl
      | some u =>
        rcases st.newF c (by rw [q]; simp) with y | y | y
        · exact absurd (k.ownF ow) y
        · exact absurd y n
        · exact absurd y (k.ownH ow)
    · obtain ⟨b, x, h1, _, h3, _⟩ := k.own hi ho
      rw [hc] at h1
      cases h1
      obtain ⟨u, hu, hu2, _⟩ := h3.here
      rw [hu]
      exact st.keep c u hu n hu2
  have own2 : ∀ c, Own σ e2 c → (Own σ e c ∧ ¬ Own (fr vs) as c) ∨ Own (fr vs) bs c := by
    rintro c ⟨i, t, hi, ot, pc⟩
    rcases hget i with ⟨a1, a2⟩ | ⟨j, s, b, t', a1, a2, a3, a4, a5, a6⟩
    · rw [hi] at a2
      exact .inl ⟨⟨i, t, a2.symm, ot, pc⟩, (kept a1 a2.symm ot pc).1⟩
    · rw [hi] at a6
      cases a6
      obtain ⟨_, _, h3⟩ := lent a1 a2 a3 a4 a5
      obtain ⟨h4, h5⟩ := h3 ot
      exact .inr ⟨j, b, a4, h4, by rw [h5]; exact pc⟩
  refine ⟨⟨st.fz, fun c o h n => st.keep c o h fun z => n (a.own z), st.there, fun c h => ?_, fun c h => ?_, fun i s hi ls => ⟨rfl, ?_⟩⟩, ⟨k3.sub, by rw [hl]; exact k.len, fun i t hi => ?_, fun i l t u c hil hi hl' oi ol hc => ?_, k3.tab⟩, own2⟩
  · rcases st.newF c h with z | z | z
    · exact .inl z
    · exact .inr (.inl (a.own z))
    · exact .inr (.inr z)
  · rcases own2 c h with ⟨z, _⟩ | z
    · exact .inl z
    · rcases st.newO c z with y | y
      · exact .inl (a.own y)
      · exact .inr y
  · rcases hget i with ⟨a1, a2⟩ | ⟨j, s', b, t', a1, a2, a3, a4, a5, a6⟩
    · refine ⟨s, by rw [a2]; exact hi, ?_⟩
      cases s <;> first | rfl | trivial | exact ⟨_, .inl rfl⟩
    · rw [hi] at a2
      cases a2
      exact ⟨t', a6, (lent a1 hi a3 a4 a5).2.1 ls⟩
  · rcases hget i with ⟨a1, a2⟩ | ⟨j, s', b, t', a1, a2, a3, a4, a5, a6⟩
    · rw [hi] at a2
      have hi' := a2.symm
      have p := k.pl i t hi'
      cases t with
      | un => trivial
      | va w =>
        obtain ⟨v, h1, h2⟩ := p
        exact ⟨v, h1, h2.mono st.fz⟩
      | ls y =>
        obtain ⟨v, h1, h2⟩ := p
        exact ⟨v, h1, h2.mono st.fz⟩
      | ow y =>
        obtain ⟨c, h1, h2, h3⟩ := p
        obtain ⟨_, q1, q2⟩ := kept a1 hi' rfl h1
        exact ⟨c, h1, q1, h3.move st.fz q2⟩
      | le y =>
        obtain ⟨c, h1, h2, h3⟩ := p
        obtain ⟨_, q1, q2⟩ := kept a1 hi' rfl h1
        exact ⟨c, h1, q1, h3.move st.fz q2⟩
      | lk y =>
        obtain ⟨c, h1, h2, h3⟩ := p
        obtain ⟨_, q1, q2⟩ := kept a1 hi' rfl h1
        exact ⟨c, h1, q1, h3.move st.fz q2⟩
    · rw [hi] at a6
      cases a6
      exact (lent a1 a2 a3 a4 a5).1
  · -- two places, one list: back to the places ahead of the call
    have src : ∀ {m : Nat} {t : Sl} {c : Addr}, e2[m]? = some t → t.own = true → slot σ m = some (.ref c) → (∃ s, e[m]? = some s ∧ s.own = true) := by
      intro m t c hm ot pc
      rcases hget m with ⟨a1, a2⟩ | ⟨j, s', b, t', a1, a2, a3, _⟩
      · rw [hm] at a2
        exact ⟨t, a2.symm, ot⟩
      · exact ⟨s', a2, a3⟩
    obtain ⟨s1, h1, o1⟩ := src hi oi hc
    intro hc'
    obtain ⟨s2, h2, o2⟩ := src hl' ol hc'
    exact k.apart i l s1 s2 c hil h1 h2 o1 o2 hc hc'
/-- a call's promise -/
def SpC (g : G) (m : Env → Option CO) : Sp := fun vs H Q E => ∃ F as, Ok g F (fr vs) H as ∧ match m as with
  | none => False
  | some (.ok r bs) => ∀ v F' H', Stp F (fr vs) H as F' (fr vs) H' bs → Ok g F' (fr vs) H' bs → RsOk g (Bs (fr vs) H as) F' (fr vs) H' bs v r → Q v H'
  | some (.er c v bs) => ∀ F' H', Stp F (fr vs) H as F' (fr vs) H' bs → Ok g F' (fr vs) H' bs → ∀ cls dd, ExOk g F' cls dd c v → E cls dd H'
theorem call_key {W : WX} {rv : Ev} {call : Nat → Env → Option CO} {n : Nat} {xs : List E} {H : Hp} {Q : VK} (i : tR g W (eCall call rv n xs) σ H Q) :
    tOs g W (evOps rv xs) σ H fun vs H1 => SpC g (call n) vs H1 Q (fun cls dd H' => W cls dd σ H') := by
  obtain ⟨F, e, k, o⟩ := i
  refine ⟨F, e, k, (show Out g F σ H e (R.bind (evOps rv xs e) (eCall2 call n)) W _ from o).bind.imp fun os e1 _ o1 vs F1 H1 s1 k1 r1 => ?_⟩
  unfold eCall2 at o1
  cases ha : argsOf e1 os with
  | none => rw [ha] at o1; exact o1.elim
  | some as =>
    rw [ha] at o1
    obtain ⟨F2, b2, s2, k2, p2⟩ := frz_all (B := Bs σ H e) (fun _ h => h) s1 k1 (.refl _) r1
    have la := args_ok k2 p2 ha
    refine ⟨F2, as, la.ok k2, ?_⟩
    simp only at o1
    cases hc : call n as with
    | none => rw [hc] at o1; exact o1.elim
    | some u =>
      rw [hc] at o1
      cases u with
      | ok r bs =>
        unfold eBack at o1
        simp only at o1
        cases hb : backTo e1 os bs with
        | none => rw [hb] at o1; exact o1.elim
        | some e2 =>
          rw [hb] at o1
          intro v F3 H3 st k3 r3
          obtain ⟨s4, k4, own⟩ := back_call k2 la st k3 hb
          refine (show ∀ v F' H', Stp F σ H e F' σ H' e2 → Ok g F' σ H' e2 → RsOk g (Bs σ H e) F' σ H' e2 v r → Q v H' from o1) v F3 H3 (s2.trans s4) k4 ?_
          cases r with
          | v w => exact r3
          | o x =>
            obtain ⟨a, h1, h2, h3, h4⟩ := r3
            refine ⟨a, h1, ⟨h2.nf, fun z => ?_, h2.th⟩, h3, ?_⟩
            · rcases own a z with ⟨y1, y2⟩ | y
              · rcases h4 with q | q
                · exact y2 q
                · exact k2.ownH y1 q
              · exact h2.no y
            · rcases h4 with q | q
              · exact s2.bs (.inl (la.own q))
              · exact s2.bs (.inr q)
      | er c v bs =>
        unfold eBack at o1
        simp only at o1
        cases hb : backTo e1 os bs with
        | none => rw [hb] at o1; exact o1.elim
        | some e2 =>
          rw [hb] at o1
          intro F3 H3 st k3 cls dd x
          obtain ⟨s4, k4, _⟩ := back_call k2 la st k3 hb
          exact (show ∀ F' H', Stp F σ H e F' σ H' e2 → Ok g F' σ H' e2 → ∀ cls dd, ExOk g F' cls dd c v → W cls dd σ H' from o1) F3 H3 (s2.trans s4) k4 cls dd x
end
end Ev
set_option Elab.async false
set_option linter.all false
set_option maxRecDepth 100000
set_option maxHeartbeats 1000000
/-! EvR: a def's frame. -/
namespace Ev
open PySem PySem.Spec PyProof.Rows L2
theorem retE_len : ∀ (as e : Env), (retE as e).length = as.length
  | [], _ => rfl
  | _ :: as, [] => by
    show (Sl.un :: retE as []).length = _
    rw [List.length_cons, List.length_cons, retE_len as []]
  | a :: as, b :: es => by
    show ((if a.lent then b else .un) :: retE as es).length = _
    rw [List.length_cons, List.length_cons, retE_len as es]
theorem retE_get : ∀ (as e : Env) (j : Nat) (s : Sl), (retE as e)[j]? = some s → s = .un ∨ ∃ a, as[j]? = some a ∧ a.lent = true ∧ e[j]? = some s
  | [], _, j, s, h => by cases h
  | _ :: as, [], j, s, h => by
    cases j with
    | zero =>
      cases h
      exact .inl rfl
    | succ j =>
      rcases retE_get as [] j s h with z | ⟨a, _, _, z⟩
      · exact .inl z
      · cases z
  | a :: as, b :: es, j, s, h => by
    cases j with
    | zero =>
      have h' : (if a.lent then b else Sl.un) = s := Option.some.inj h
      cases hl : a.lent with
      | true =>
        rw [hl] at h'
        exact .inr ⟨a, rfl, hl, by rw [← h']; rfl⟩
      | false =>
        rw [hl] at h'
        exact .inl h'.symm
    | succ j => exact retE_get as es j s h
theorem retE_lent : ∀ (as e : Env) (j : Nat) (a t : Sl), as[j]? = some a → a.lent = true → e[j]? = some t → (retE as e)[j]? = some t
  | [], _, j, _, _, h, _, _ => by cases h
  | _ :: _, [], j, _, _, _, _, h => by cases h
  | a :: as, b :: es, j, c, t, h1, h2, h3 => by
    cases j with
    | zero =>
      cases h1
      cases h3
      show some (if a.lent then b else Sl.un) = some b
      rw [h2]
      rfl
    | succ j => exact retE_lent as es j c t h1 h2 h3
theorem start_slot (N : List Str) (vs : List V) (j : Nat) : slot (L2.start N vs) j = vs[j]? := by
  unfold slot L2.start
  by_cases h : j < vs.length
  · rw [List.getElem?_append_left (by rw [List.length_map]; exact h), List.getElem?_map]
    cases vs[j]? <;> rfl
  · rw [List.getElem?_append_right (by rw [List.length_map]; omega), List.getElem?_eq_none (l := vs) (by omega)]
    by_cases h2 : j - (vs.map some).length < N.length - vs.length
    · rw [List.getElem?_replicate, if_pos h2]
      rfl
    · rw [List.getElem?_replicate, if_neg h2]
      rfl
section
variable {g : G} {F F' H H' : Hp} {σ' : L2.St} {as e' : Env} {vs : List V} {N : List Str} {n : Nat}
theorem un_get {as : Env} {n j : Nat} {s : Sl} (h : (as ++ List.replicate n Sl.un)[j]? = some s) : s = .un ∨ as[j]? = some s := by
  by_cases hj : j < as.length
  · rw [List.getElem?_append_left hj] at h
    exact .inr h
  · rw [List.getElem?_append_right (by omega), List.getElem?_replicate] at h
    split at h
    · exact .inl (Option.some.inj h).symm
    · cases h
theorem frame_own {a : Addr} (h : Own (L2.start N vs) (as ++ List.replicate n .un) a) : Own (fr vs) as a := by
  obtain ⟨j, s, hj, os, pj⟩ := h
  rcases un_get hj with z | z
  · rw [z] at os
    cases os
  · exact ⟨j, s, z, os, by rw [fr_slot, ← start_slot N]; exact pj⟩
theorem frame_ok (k : Ok g F (fr vs) H as) (hn : n = N.length - vs.length) : Ok g F (L2.start N vs) H (as ++ List.replicate n .un) := by
  have hl := k.len
  rw [List.length_map] at hl
  refine ⟨k.sub, by subst hn; simp [L2.start, hl], fun j s hj => ?_, fun j l s t b hjl hj hl' oj ol hb => ?_, k.tab⟩
  · rcases un_get hj with z | z
    · rw [z]
      trivial
    · have p := k.pl j s z
      rw [fr_slot] at p
      rw [start_slot]
      exact p
  · rcases un_get hj with z | z
    · rw [z] at oj
      cases oj
    · rcases un_get hl' with y | y
      · rw [y] at ol
        cases ol
      · rw [start_slot, ← fr_slot] at hb ⊢
        exact k.apart j l s t b hjl z y oj ol hb
/-- behind the body: what the arguments are -/
theorem frame_back (k : Ok g F (fr vs) H as) (st : Stp F (L2.start N vs) H (as ++ List.replicate n .un) F' σ' H' e') (k' : Ok g F' σ' H' e') :
    Stp F (fr vs) H as F' (fr vs) H' (retE as e') ∧ Ok g F' (fr vs) H' (retE as e') ∧ ∀ a, Own (fr vs) (retE as e') a → Own σ' e' a := by
  have hl := k.len
  rw [List.length_map] at hl
  have held : ∀ {j : Nat} {a : Sl}, as[j]? = some a → a.lent = true → slot σ' j = vs[j]? ∧ ∃ t, e'[j]? = some t ∧ Held a t := fun {j a} hj la => by
    have hjl := (List.getElem?_eq_some_iff.mp hj).1
    obtain ⟨h1, t, h2, h3⟩ := st.held j a (by rw [List.getElem?_append_left hjl]; exact hj) la
    rw [start_slot] at h1
    exact ⟨h1, t, h2, h3⟩
  have toE : ∀ {j : Nat} {s : Sl}, (retE as e')[j]? = some s → s ≠ .un → e'[j]? = some s ∧ slot σ' j = vs[j]? := fun {j s} hj hn => by
    rcases retE_get as e' j s hj with z | ⟨a, h1, h2, h3⟩
    · exact absurd z hn
    · exact ⟨h3, (held h1 h2).1⟩
  have own : ∀ a, Own (fr vs) (retE as e') a → Own σ' e' a := by
    rintro a ⟨j, s, hj, os, pj⟩
    obtain ⟨h1, h2⟩ := toE hj (fun z => by rw [z] at os; cases os)
    rw [fr_slot] at pj
    exact ⟨j, s, h1, os, by rw [h2]; exact pj⟩
  refine ⟨⟨st.fz, fun a o h n' => st.keep a o h fun z => n' (frame_own z), st.there, fun a h => ?_, fun a h => ?_, fun j s hj lj => ⟨rfl, ?_⟩⟩, ⟨k'.sub, by rw [retE_len, List.length_map]; exact hl, fun j s hj => ?_, fun j l s t b hjl hj hl' oj ol hb => ?_, k'.tab⟩, own⟩
  · rcases st.newF a h with z | z | z
    · exact .inl z
    · exact .inr (.inl (frame_own z))
    · exact .inr (.inr z)
  · rcases st.newO a (own a h) with z | z
    · exact .inl (frame_own z)
    · exact .inr z
  · obtain ⟨_, t, h2, h3⟩ := held hj lj
    exact ⟨t, retE_lent as e' j s t hj lj h2, h3⟩
  · by_cases hs : s = .un
    · rw [hs]
      trivial
    · obtain ⟨h1, h2⟩ := toE hj hs
      have p := k'.pl j s h1
      rw [fr_slot, ← h2]
      exact p
  · obtain ⟨h1, h2⟩ := toE hj (fun z => by rw [z] at oj; cases oj)
    obtain ⟨h3, h4⟩ := toE hl' (fun z => by rw [z] at ol; cases ol)
    rw [fr_slot, ← h2] at hb
    rw [fr_slot, ← h4]
    exact k'.apart j l s t b hjl h1 h3 oj ol hb
/-- from the promise to the body -/
theorem body_key {m : Env → R Fl} {Q : VK} {E : XK} (hn : n = N.length - vs.length) (h : SpC g (fun as => fin as (m (as ++ List.replicate n .un))) vs H Q E) : tS g (fun cls dd _ H' => E cls dd H') m { nx := fun _ H' => Q .non H', rt := Q } (L2.start N vs) H := by
  obtain ⟨F, as, k, o⟩ := h
  refine ⟨F, _, frame_ok k hn, ?_⟩
  simp only at o
  cases hm : m (as ++ List.replicate n .un) with
  | none => rw [hm] at o; exact o.elim
  | some u =>
    rw [hm] at o
    cases u with
    | er c v e' =>
      intro σ' F' H' st k' cls dd x
      obtain ⟨s2, k2, _⟩ := frame_back k st k'
      exact (show ∀ F' H', Stp F (fr vs) H as F' (fr vs) H' (retE as e') → Ok g F' (fr vs) H' (retE as e') → ∀ cls dd, ExOk g F' cls dd c v → E cls dd H' from o) F' H' s2 k2 cls dd x
    | ok f e' =>
      cases f with
      | nx =>
        intro σ' F' H' st k'
        obtain ⟨s2, k2, _⟩ := frame_back k st k'
        exact (show ∀ v F' H', Stp F (fr vs) H as F' (fr vs) H' (retE as e') → Ok g F' (fr vs) H' (retE as e') → RsOk g (Bs (fr vs) H as) F' (fr vs) H' (retE as e') v (.v (.d .none)) → Q v H' from o) .non F' H' s2 k2 (show Rep g F' .non .none from .non)
      | rt r =>
        intro v σ' F' H' st k' r'
        obtain ⟨s2, k2, own⟩ := frame_back k st k'
        refine (show ∀ v F' H', Stp F (fr vs) H as F' (fr vs) H' (retE as e') → Ok g F' (fr vs) H' (retE as e') → RsOk g (Bs (fr vs) H as) F' (fr vs) H' (retE as e') v r → Q v H' from o) v F' H' s2 k2 ?_
        cases r with
        | v w => exact r'
        | o x =>
          obtain ⟨a, h1, h2, h3, h4⟩ := r'
          exact ⟨a, h1, ⟨h2.nf, fun z => h2.no (own a z), h2.th⟩, h3, h4.imp frame_own id⟩
/-- with a star: what is left over is a new tuple -/
theorem star_key {m : Env → R Fl} {Q : VK} {E : XK} {np : Nat} (hp : 0 < np) (hn : n = N.length - np)
    (h : SpC g (fun as => if np ≤ as.length + 1 then (match datas ((as.drop (np - 1)).map fun s => match s with | .va w => w | _ => .fn 0) with | some ds => fin as (m (as.take (np - 1) ++ [.va (.d (.tuple ds))] ++ List.replicate n .un)) | none => none) else none) vs H Q E) :
    np ≤ vs.length + 1 ∧ ∀ p, H p = none → tS g (fun cls dd _ H' => E cls dd H') m { nx := fun _ H' => Q .non H', rt := Q } (L2.start N (vs.take (np - 1) ++ [V.ref p])) (upd H p (.tup (vs.drop (np - 1)))) := by
  obtain ⟨F, as, k, o⟩ := h
  have hl := k.len
  rw [List.length_map] at hl
  simp only at o
  by_cases hc : np ≤ as.length + 1
  · rw [if_pos hc] at o
    refine ⟨by omega, fun p hpn => ?_⟩
    cases hd : datas ((as.drop (np - 1)).map fun s => match s with | .va w => w | _ => .fn 0) with
    | none => rw [hd] at o; exact o.elim
    | some ds =>
      rw [hd] at o
      simp only at o
      -- what is left over is data
      have rest : ∀ (l : Env) (us : List V) (ds : List PyData), (∀ (j : Nat) (s : Sl), l[j]? = some s → SlOk g F H (us[j]?) s) → l.length = us.length → datas (l.map fun s => match s with | .va w => w | _ => .fn 0) = some ds → RepAll g F us ds ∧ ∀ s ∈ l, s.own = false ∧ s.lent = false := by
        intro l
        induction l with
        | nil =>
          intro us ds _ h2 h3
          cases us with
          | nil =>
            cases h3
            exact ⟨.nil, fun s hs => by cases hs⟩
          | cons _ _ => cases h2
        | cons s l ih =>
          intro us ds h1 h2 h3
          cases us with
          | nil => cases h2
          | cons u us =>
            cases s with
            | va w =>
              cases w with
              | d x =>
                have h3' : (match datas (l.map fun s => match s with | .va w => w | _ => .fn 0) with | some xs => some (x :: xs) | none => none) = some ds := h3
                cases h4 : datas (l.map fun s => match s with | .va w => w | _ => .fn 0) with
                | none => rw [h4] at h3'; cases h3'
                | some ds' =>
                  rw [h4] at h3'
                  cases h3'
                  obtain ⟨v, e1, e2⟩ := h1 0 _ rfl
                  cases e1
                  obtain ⟨r1, r2⟩ := ih us ds' (fun j s hj => h1 (j + 1) s hj) (by simpa using h2) h4
                  refine ⟨.cons e2 r1, fun s hs => ?_⟩
                  rcases List.mem_cons.mp hs with z | z
                  · rw [z]
                    exact ⟨rfl, rfl⟩
                  · exact r2 s z
              | _ => cases h3
            | _ => cases h3
      obtain ⟨rr, noown⟩ := rest (as.drop (np - 1)) (vs.drop (np - 1)) ds (fun j s hj => by
        rw [List.getElem?_drop] at hj ⊢
        have z := k.pl _ s hj
        rw [fr_slot] at z
        exact z) (by simp [hl]) hd
      have hF : F p = none := by
        cases q : F p with
        | none => rfl
        | some u =>
          have z := k.sub p u q
          rw [hpn] at z
          cases z
      have s1 : Sub F (upd F p (.tup (vs.drop (np - 1)))) := Sub.new hF
      have ps : Pst F H (upd F p (.tup (vs.drop (np - 1)))) (upd H p (.tup (vs.drop (np - 1)))) := ⟨s1, k.sub.both, Sub.new hpn, fun a ha => by
        by_cases q : a = p
        · rw [q]
          exact .inr hpn
        · rw [upd_ne q] at ha
          exact .inl ha⟩
      obtain ⟨st1, k1⟩ := ps.ok k
      have rt : Rep g (upd F p (.tup (vs.drop (np - 1)))) (.ref p) (.tuple ds) := .tup (.inl (.inl upd_same)) (rr.mono s1)
      -- the frame's own arguments
      have getA : ∀ {j : Nat} {s : Sl}, (as.take (np - 1) ++ [Sl.va (.d (.tuple ds))])[j]? = some s → (j < np - 1 ∧ as[j]? = some s ∧ (vs.take (np - 1) ++ [V.ref p])[j]? = vs[j]?) ∨ (s = .va (.d (.tuple ds)) ∧ (vs.take (np - 1) ++ [V.ref p])[j]? = some (V.ref p)) := by
        intro j s hj
        have l1 : (as.take (np - 1)).length = np - 1 := by rw [List.length_take]; omega
        have l2 : (vs.take (np - 1)).length = np - 1 := by rw [List.length_take]; omega
        by_cases hlt : j < np - 1
        · rw [List.getElem?_append_left (by omega), List.getElem?_take_of_lt hlt] at hj
          rw [List.getElem?_append_left (by omega), List.getElem?_take_of_lt hlt]
          exact .inl ⟨hlt, hj, rfl⟩
        · rw [List.getElem?_append_right (by omega), l1] at hj
          have e0 : j - (np - 1) = 0 := by
            cases hz : j - (np - 1) with
            | zero => rfl
            | succ m =>
              rw [hz] at hj
              cases hj
          rw [e0] at hj
          cases hj
          rw [List.getElem?_append_right (by omega), l2, e0]
          exact .inr ⟨rfl, rfl⟩
      have k2 : Ok g (upd F p (.tup (vs.drop (np - 1)))) (fr (vs.take (np - 1) ++ [V.ref p])) (upd H p (.tup (vs.drop (np - 1)))) (as.take (np - 1) ++ [.va (.d (.tuple ds))]) := by
        refine ⟨k1.sub, by simp [hl], fun j s hj => ?_, fun j l s t b hjl hj hl' oj ol hb => ?_, k1.tab⟩
        · rw [fr_slot]
          rcases getA hj with ⟨_, z1, z2⟩ | ⟨z1, z2⟩
          · rw [z2]
            have z := k1.pl j s z1
            rw [fr_slot] at z
            exact z
          · rw [z1, z2]
            exact ⟨_, rfl, rt⟩
        · rcases getA hj with ⟨_, z1, z2⟩ | ⟨z1, _⟩
          · rcases getA hl' with ⟨_, y1, y2⟩ | ⟨y1, _⟩
            · rw [fr_slot, z2, ← fr_slot] at hb
              rw [fr_slot, y2, ← fr_slot]
              exact k1.apart j l s t b hjl z1 y1 oj ol hb
            · rw [y1] at ol
              cases ol
          · rw [z1] at oj
            cases oj
      refine ⟨_, _, frame_ok (N := N) (n := n) k2 (by rw [hn, List.length_append, List.length_take, List.length_singleton]; omega), ?_⟩
      -- what is behind the body, as the caller sees it
      have back : ∀ {F' H' : Hp} {σ' : L2.St} {e' : Env}, Stp (upd F p (.tup (vs.drop (np - 1)))) (L2.start N (vs.take (np - 1) ++ [V.ref p])) (upd H p (.tup (vs.drop (np - 1)))) (as.take (np - 1) ++ [.va (.d (.tuple ds))] ++ List.replicate n .un) F' σ' H' e' → Ok g F' σ' H' e' →
          Stp F (fr vs) H as F' (fr vs) H' (retE as e') ∧ Ok g F' (fr vs) H' (retE as e') ∧ (∀ a, Own (fr vs) (retE as e') a → Own σ' e' a) ∧ ∀ a, Bs (L2.start N (vs.take (np - 1) ++ [V.ref p])) (upd H p (.tup (vs.drop (np - 1)))) (as.take (np - 1) ++ [.va (.d (.tuple ds))] ++ List.replicate n .un) a → Bs (fr vs) H as a := by
        intro F' H' σ' e' st k'
        have own1 : ∀ a, Own (L2.start N (vs.take (np - 1) ++ [V.ref p])) (as.take (np - 1) ++ [.va (.d (.tuple ds))] ++ List.replicate n .un) a → Own (fr vs) as a := by
          intro a h
          obtain ⟨j, s, hj, os, pj⟩ := frame_own h
          rcases getA hj with ⟨_, z1, z2⟩ | ⟨z1, _⟩
          · rw [fr_slot, z2, ← fr_slot] at pj
            exact ⟨j, s, z1, os, pj⟩
          · rw [z1] at os
            cases os
        have ltNp : ∀ {j : Nat} {a : Sl}, as[j]? = some a → (a.lent = true ∨ a.own = true) → j < np - 1 := by
          intro j a hj h
          by_cases hlt : j < np - 1
          · exact hlt
          · have hm : a ∈ as.drop (np - 1) := by
              refine List.mem_of_getElem? (i := j - (np - 1)) ?_
              rw [List.getElem?_drop, show np - 1 + (j - (np - 1)) = j by omega]
              exact hj
            obtain ⟨q1, q2⟩ := noown a hm
            rcases h with h | h
            · rw [q2] at h
              cases h
            · rw [q1] at h
              cases h
        have held : ∀ {j : Nat} {a : Sl}, as[j]? = some a → a.lent = true → slot σ' j = vs[j]? ∧ ∃ t, e'[j]? = some t ∧ Held a t := fun {j a} hj la => by
          have hlt := ltNp hj (.inl la)
          have l1 : (as.take (np - 1)).length = np - 1 := by rw [List.length_take]; omega
          have e1 : (as.take (np - 1) ++ [Sl.va (.d (.tuple ds))] ++ List.replicate n .un)[j]? = some a := by
            rw [List.append_assoc, List.getElem?_append_left (by omega), List.getElem?_take_of_lt hlt]
            exact hj
          obtain ⟨h1, t, h2, h3⟩ := st.held j a e1 la
          rw [start_slot, List.getElem?_append_left (by rw [List.length_take]; omega), List.getElem?_take_of_lt hlt] at h1
          exact ⟨h1, t, h2, h3⟩
        have toE : ∀ {j : Nat} {s : Sl}, (retE as e')[j]? = some s → s ≠ .un → e'[j]? = some s ∧ slot σ' j = vs[j]? := fun {j s} hj hn => by
          rcases retE_get as e' j s hj with z | ⟨a, h1, h2, h3⟩
          · exact absurd z hn
          · exact ⟨h3, (held h1 h2).1⟩
        have own : ∀ a, Own (fr vs) (retE as e') a → Own σ' e' a := by
          rintro a ⟨j, s, hj, os, pj⟩
          obtain ⟨h1, h2⟩ := toE hj (fun z => by rw [z] at os; cases os)
          rw [fr_slot] at pj
          exact ⟨j, s, h1, os, by rw [h2]; exact pj⟩
        have pn : ∀ a, upd H p (.tup (vs.drop (np - 1))) a = none → H a = none := fun a h => by
          by_cases q : a = p
          · rw [q]
            exact hpn
          · rw [upd_ne q] at h
            exact h
        refine ⟨⟨s1.trans st.fz, fun a o' h n' hz => ?_, fun a h => ?_, fun a h => ?_, fun a h => ?_, fun j s hj lj => ⟨rfl, ?_⟩⟩, ⟨k'.sub, by rw [retE_len, List.length_map]; exact hl, fun j s hj => ?_, fun j l s t b hjl hj hl' oj ol hb => ?_, k'.tab⟩, own, fun a h => ?_⟩
        · exact st.keep a o' (by rw [upd_ne (fun z => by rw [z, hpn] at h; cases h)]; exact h) (fun z => n' (own1 a z)) hz
        · exact st.there a fun z => h (pn a z)
        · rcases st.newF a h with z | z | z
          · rcases ps.new a z with y | y
            · exact .inl y
            · exact .inr (.inr y)
          · exact .inr (.inl (own1 a z))
          · exact .inr (.inr (pn a z))
        · rcases st.newO a (own a h) with z | z
          · exact .inl (own1 a z)
          · exact .inr (pn a z)
        · obtain ⟨_, t, h2, h3⟩ := held hj lj
          exact ⟨t, retE_lent as e' j s t hj lj h2, h3⟩
        · by_cases hs : s = .un
          · rw [hs]
            trivial
          · obtain ⟨h1, h2⟩ := toE hj hs
            have q := k'.pl j s h1
            rw [fr_slot, ← h2]
            exact q
        · obtain ⟨h1, h2⟩ := toE hj (fun z => by rw [z] at oj; cases oj)
          obtain ⟨h3, h4⟩ := toE hl' (fun z => by rw [z] at ol; cases ol)
          rw [fr_slot, ← h2] at hb
          rw [fr_slot, ← h4]
          exact k'.apart j l s t b hjl h1 h3 oj ol hb
        · rcases h with h | h
          · exact .inl (own1 a h)
          · exact .inr (pn a h)
      cases hm : m (as.take (np - 1) ++ [.va (.d (.tuple ds))] ++ List.replicate n .un) with
      | none => rw [hm] at o; exact o.elim
      | some u =>
        rw [hm] at o
        cases u with
        | er c v e' =>
          intro σ' F' H' st k' cls dd x
          obtain ⟨s2, k3, _, _⟩ := back st k'
          exact (show ∀ F' H', Stp F (fr vs) H as F' (fr vs) H' (retE as e') → Ok g F' (fr vs) H' (retE as e') → ∀ cls dd, ExOk g F' cls dd c v → E cls dd H' from o) F' H' s2 k3 cls dd x
        | ok f e' =>
          cases f with
          | nx =>
            intro σ' F' H' st k'
            obtain ⟨s2, k3, _, _⟩ := back st k'
            exact (show ∀ v F' H', Stp F (fr vs) H as F' (fr vs) H' (retE as e') → Ok g F' (fr vs) H' (retE as e') → RsOk g (Bs (fr vs) H as) F' (fr vs) H' (retE as e') v (.v (.d .none)) → Q v H' from o) .non F' H' s2 k3 (show Rep g F' .non .none from .non)
          | rt r =>
            intro v σ' F' H' st k' r'
            obtain ⟨s2, k3, own, bs⟩ := back st k'
            refine (show ∀ v F' H', Stp F (fr vs) H as F' (fr vs) H' (retE as e') → Ok g F' (fr vs) H' (retE as e') → RsOk g (Bs (fr vs) H as) F' (fr vs) H' (retE as e') v r → Q v H' from o) v F' H' s2 k3 ?_
            cases r with
            | v w => exact r'
            | o x =>
              obtain ⟨a, h1, h2, h3, h4⟩ := r'
              exact ⟨a, h1, ⟨h2.nf, fun z => h2.no (own a z), h2.th⟩, h3, bs a h4⟩
  · rw [if_neg hc] at o
    exact o.elim
end
end Ev
set_option Elab.async false
set_option linter.all false
set_option maxRecDepth 100000
set_option maxHeartbeats 1000000
/-! EvS: calls of builtins; comprehensions as nodes. -/
namespace Ev
open PySem PySem.Spec PyProof.Rows L2
def Ty.nm : Ty → String
  | .int => "int" | .bool => "bool" | .str => "str" | .tuple => "tuple" | .list => "list" | .dict => "dict"
/-- a datum's class -/
def clsOf : PyData → String
  | .none => "NoneType" | .bool _ => "bool" | .int _ => "int" | .str _ => "str" | .list _ => "list" | .tuple _ => "tuple" | .dict _ => "dict"
theorem cls_ok (t : Ty) (d : PyData) {K : PySem.W.Frag} : PySem.W.kitOne K (.type (clsOf d)) (.type t.nm) = some (tyIs t d) := by
  have key : ∀ a : String, a = clsOf d → kitB a t.nm = some (tyIs t d) := fun a ha => by
    subst ha
    cases t <;> cases d <;> simp only [clsOf, Ty.nm, tyIs] <;> decide +kernel
  exact kit_ty (key _ rfl)
section
variable {q : Qn} {X : Cx} {C : V → Wd → Hp → Prop} {W : WX} {rv : Ev}
theorem kit_top {pins : List (Addr × Obj)} {s : Shared} {σ : L2.St} {F H : Hp} {v : V} {u : Value} {d : PyData} (I : L2.Inv X pins σ H s) (sb : Sub F H) (t : TopW (q.at X C) F H v (.d d)) (rv : RelV v u) :
    ∃ Z : Heap → Prop, PySem.W.KitX X.K u (.type (clsOf d)) Z ∧ Z s.heap ∧ u ≠ .builtin "__main__.__loader__#opaque" := by
  cases d with
  | none =>
    rw [top_non t] at rv
    exact kit_of I rv (.base .non)
  | bool b =>
    rw [top_bl t] at rv
    exact kit_of I rv (.base (.bl b))
  | int b =>
    rw [top_int t] at rv
    exact kit_of I rv (.base (.int b))
  | str b =>
    rw [top_str t] at rv
    exact kit_of I rv (.base (.str b))
  | list ds =>
    obtain ⟨a, xs, e, h, _⟩ := t
    subst e
    exact kit_of I rv (.base (.lst h))
  | tuple ds =>
    obtain ⟨a, xs, e, _, h, _⟩ := top_tup sb t
    subst e
    cases rv
    obtain ⟨its, _, ⟨o, ho, hc, _⟩, _⟩ := I.tuple h
    exact ⟨_, PySem.W.kitx_tuple, ⟨o, ho, hc⟩, nofun⟩
  | dict kvs =>
    obtain ⟨a, e, w, hw, o⟩ := t
    subst e
    cases rv
    have ob := Rd.ok hw I.hok
    rcases o with ⟨kv, _, _, h, _⟩ | ⟨ks, vs, _, h, _⟩
    · rw [upd_same] at h
      cases h
      obtain ⟨_, _, _, _, o, _, _, h1, h2, _⟩ := ob
      exact ⟨_, PySem.W.kitx_dict, ⟨o, h1, h2.1⟩, nofun⟩
    · rw [upd_same] at h
      cases h
      obtain ⟨⟨_, _, _, _, _, _, _, o, _, _, h1, h2, _⟩, _⟩ := ob
      exact ⟨_, PySem.W.kitx_dict, ⟨o, h1, h2.1⟩, nofun⟩
theorem p_isi {t : Ty} : CallR X (.builtin "isinstance") (fun vs H Q => ∃ x, vs = [x, .ty t.nm] ∧ rP (q.at X C) (.isi t) [x] H Q) := by
  intro pins s σ H vs us Q I r ⟨x, e, F, ws, rr, sb, pr, hr, k⟩
  subst e
  obtain ⟨u1, u2, rfl, r1, r2⟩ := vals2 r
  cases (show u2 = Value.type t.nm from r2)
  cases pr with
  | cons ta tl =>
    cases tl
    rename_i a
    have hr' : qIsi t [a] = some rr := hr
    unfold qIsi at hr'
    split at hr'
    · next d z =>
      cases z
      obtain ⟨Z, h1, h2, h3⟩ := kit_top I sb ta r1
      exact PySem.W.kia_one h1 I.kIn h2 (cls_ok t d) h3 fun tk => ⟨.bl (tyIs t d), H, I.tok tk, rfl, old_bl sb hr' k⟩
    · cases hr'
/-! ### a builtin called -/
theorem blt1 {x : Str} {id : String} {p : P} {a : Expr} {xa : E} {p0 pos : Pos} (hc : CallR X (.builtin id) (rP (q.at X C) p)) (hg : Gl X x) (hm : X.mg x = none) (hv : bootBuiltins x = some (.builtin id)) (hn : x ≠ "__name__") (hd : (x == ("__debug__" : Str)) = false)
    (h : PE X a (tO (q.at X C) W (evOp rv xa))) (ns : NoStar a) : PE X (.Call (.Name x p0) [a] [] pos) (tR (q.at X C) W (ePrim rv p [xa])) :=
  prim_call (fun t ht => pe_callB hc hg hm hv ht hn hd (star_cons ns) rfl) (ops_cons ns h ops_nil)
theorem blt2 {x : Str} {id : String} {p : P} {a b : Expr} {xa xb : E} {p0 pos : Pos} (hc : CallR X (.builtin id) (rP (q.at X C) p)) (hg : Gl X x) (hm : X.mg x = none) (hv : bootBuiltins x = some (.builtin id)) (hn : x ≠ "__name__") (hd : (x == ("__debug__" : Str)) = false)
    (h : PE X a (tO (q.at X C) W (evOp rv xa))) (h2 : PE X b (tO (q.at X C) W (evOp rv xb))) (ns : NoStar a) (ns2 : NoStar b) : PE X (.Call (.Name x p0) [a, b] [] pos) (tR (q.at X C) W (ePrim rv p [xa, xb])) :=
  prim_call (fun t ht => pe_callB hc hg hm hv ht hn hd (star_cons ns) (by rw [star1 ns2]; rfl)) (ops_cons ns h (ops_cons ns2 h2 ops_nil))
theorem typ1 {x : Str} {T : String} {p : P} {a : Expr} {xa : E} {p0 pos : Pos} (hc : CallR X (.type T) (rP (q.at X C) p)) (hg : Gl X x) (hm : X.mg x = none) (hv : bootBuiltins x = some (.type T)) (hn : x ≠ "__name__") (hd : (x == ("__debug__" : Str)) = false)
    (h : PE X a (tO (q.at X C) W (evOp rv xa))) (ns : NoStar a) : PE X (.Call (.Name x p0) [a] [] pos) (tR (q.at X C) W (ePrim rv p [xa])) :=
  prim_call (fun t ht => pe_callTy hc hg hm hv ht hn hd (star_cons ns) rfl) (ops_cons ns h ops_nil)
theorem isi_ok {t : Ty} {a : Expr} {xa : E} {p0 p1 pos : Pos} (hg : Gl X "isinstance") (hm : X.mg "isinstance" = none) (hg2 : Gl X (Str.ofString t.nm)) (hm2 : X.mg (Str.ofString t.nm) = none) (hv2 : bootBuiltins (Str.ofString t.nm) = some (.type t.nm)) (hn2 : Str.ofString t.nm ≠ "__name__") (hd2 : (Str.ofString t.nm == ("__debug__" : Str)) = false)
    (h : PE X a (tO (q.at X C) W (evOp rv xa))) (ns : NoStar a) : PE X (.Call (.Name "isinstance" p0) [a, .Name (Str.ofString t.nm) p1] [] pos) (tR (q.at X C) W (ePrim rv (.isi t) [xa])) := by
  have hA : PA X [a, .Name (Str.ofString t.nm) p1] (tCons (tO (q.at X C) W (evOp rv xa)) (tCons (tC (.ty t.nm)) tNil)) := pa_cons h (pa_cons (pe_bltn hg2 hm2 hv2 (show RelV (.ty t.nm) (.type t.nm) from rfl) hn2 hd2) pa_nil) (star_cons ns)
  refine pe_of (pe_callB (p_isi (q := q) (C := C) (t := t)) hg hm boot_isinstance hA (by decide) (by decide) (star_cons ns) rfl) fun σ H Q i => ?_
  obtain ⟨F, e, k, o⟩ := one_key (fun e => prim1) i
  exact ⟨F, e, k, o.imp fun r e1 _ o1 v F1 H1 s1 k1 r1 => ⟨v, rfl, o1 v F1 H1 s1 k1 r1⟩⟩

/-! ### comprehensions -/
theorem cmp_ok {elt tg iter : Expr} {ifs : List Expr} {scope : Scope} {own : List (Str × Nat)} {pos : Pos} {x : E} {t : T} {it : It} {src xs : List E} (hc : X.calm = true) (hN : X.N.Nodup) (hi : PI X tg iter (tIt (q.at X C) W (evIt rv it src))) (ok : BlkOk X.N X.env.scope scope own)
    (ht : ∀ j ∈ t.slots, j ∈ own.map (·.2))
    (hg : ∀ (s : Shared) (H : Hp) (D : Addr) (cl : List (Str × Addr)) (fp : List Addr), PG (X.blk s H scope (compEnvC scope cl D X.env) fp) tg (tgG X.K t))
    (hf : ∀ (s : Shared) (H : Hp) (D : Addr) (cl : List (Str × Addr)) (fp : List Addr), PTs (X.blk s H scope (compEnvC scope cl D X.env) fp) ifs (tIfs (q.at X C) W0 (evIfs rv xs)))
    (he : ∀ (s : Shared) (H : Hp) (D : Addr) (cl : List (Str × Addr)) (fp : List Addr), PE (X.blk s H scope (compEnvC scope cl D X.env) fp) elt (tG (q.at X C) W0 (evGive rv x)))
    (hs : ∀ x, foldedSetIterable iter X.env x = pure x) : PE X (.ListComp elt [⟨tg, iter, ifs, 0⟩] scope pos) (tR (q.at X C) W (eCmp rv x t it src xs (own.map (·.2)))) :=
  pe_of (pe_lc hc hN hi ok hg hf he hs) fun σ H Q i => cmp_key ht i
theorem cmp_set {elt tg iter : Expr} {ifs : List Expr} {scope : Scope} {own : List (Str × Nat)} {pos py spos : Pos} {i : Nat} {y : Str} {x : E} {t : T} {it : It} {src xs : List E} (hc : X.calm = true) (hN : X.N.Nodup) (hy : X.N[i]? = some y) (hyl : X.env.scope.names.lookup y = some .local)
    (hsw : swapsWith (.ListComp elt [⟨tg, iter, ifs, 0⟩] scope pos) (some (.Name y py)) spos.line X.env = pure true) (hi : PI X tg iter (tIt (q.at X C) W (evIt rv it src))) (ok : BlkOk X.N X.env.scope scope own)
    (ht : ∀ j ∈ t.slots, j ∈ own.map (·.2))
    (hg : ∀ (s : Shared) (H : Hp) (D : Addr) (cl : List (Str × Addr)) (fp : List Addr), PG (X.blk s H scope (compEnvC scope cl D X.env) fp) tg (tgG X.K t))
    (hf : ∀ (s : Shared) (H : Hp) (D : Addr) (cl : List (Str × Addr)) (fp : List Addr), PTs (X.blk s H scope (compEnvC scope cl D X.env) fp) ifs (tIfs (q.at X C) W0 (evIfs rv xs)))
    (he : ∀ (s : Shared) (H : Hp) (D : Addr) (cl : List (Str × Addr)) (fp : List Addr), PE (X.blk s H scope (compEnvC scope cl D X.env) fp) elt (tG (q.at X C) W0 (evGive rv x)))
    (hs : ∀ x, foldedSetIterable iter X.env x = pure x) :
    PS X (.Assign [.Name y py] (.ListComp elt [⟨tg, iter, ifs, 0⟩] scope pos) spos) (tAsg (tLc (tIt (q.at X C) W (evIt rv it src)) (tgG X.K t) (tIfs (q.at X C) W0 (evIfs rv xs)) (tG (q.at X C) W0 (evGive rv x)) (own.map (·.2))) (gName i)) :=
  ps_setLc hc hN hy hyl hsw hi ok hg hf he hs
end
end Ev
set_option Elab.async false
set_option linter.all false
set_option maxRecDepth 100000
set_option maxHeartbeats 1000000
/-! EvSc: xs.count(k) of a list of whole numbers. -/
namespace Ev
open PySem PySem.Spec PyProof.Rows L2
section
variable {q : Qn} {X : Cx} {C : V → Wd → Hp → Prop} {W : WX} {rv : Ev}
theorem pe_count {i j : Nat} {x y : Str} {p1 p2 ap cp : Pos} (hx : PE X (.Name x p1) (tVar i)) (hy : PE X (.Name y p2) (tVar j)) (hl : (ap.endLine == cp.line) = true) :
    PE X (.Call (.Attribute (.Name x p1) "count" ap) [.Name y p2] [] cp) (tR (q.at X C) W (ePrim rv .count [.var i, .var j])) := by
  refine pe_of (pe_bm PySem.F.plainAttrs_list PySem.F.slot_list_count PySem.F.type_list_count mt_lcount hx (pa_cons hy pa_nil (star_cons trivial)) rfl rfl hl (star_cons trivial) rfl) fun σ H Q ⟨F, e, k, o⟩ => ?_
  have o' : Out (q.at X C) F σ H e (R.bind (R.bind (evOp rv (.var i) e) fun o e1 => R.bind (R.bind (evOp rv (.var j) e1) fun o e1 => R.bind (some (.ok [] e1)) fun os e2 => some (.ok (o :: os) e2)) fun os e2 => some (.ok (o :: os) e2)) (eRun .count)) W _ := o
  cases h1 : peek e i with
  | none =>
    have z : evOp rv (.var i) e = none := by
      show (match peek e i with | some _ => some (Ou.ok (Op.sl i) e) | none => none) = _
      rw [h1]
    rw [z] at o'
    exact o'.elim
  | some w1 =>
    have z : evOp rv (.var i) e = some (.ok (.sl i) e) := by
      show (match peek e i with | some _ => some (Ou.ok (Op.sl i) e) | none => none) = _
      rw [h1]
    cases h2 : peek e j with
    | none =>
      have z2 : evOp rv (.var j) e = none := by
        show (match peek e j with | some _ => some (Ou.ok (Op.sl j) e) | none => none) = _
        rw [h2]
      rw [z] at o'
      simp only [R.bind, z2] at o'
      exact o'.elim
    | some w2 =>
      have z2 : evOp rv (.var j) e = some (.ok (.sl j) e) := by
        show (match peek e j with | some _ => some (Ou.ok (Op.sl j) e) | none => none) = _
        rw [h2]
      rw [z] at o'
      simp only [R.bind, z2] at o'
      have o2 : Out (q.at X C) F σ H e (eRun .count [.sl i, .sl j] e) W _ := o'
      have ow2 : opsW e [.sl j] = some [w2] := by
        show (match peek e j, opsW e [] with | some w, some ws => some (w :: ws) | _, _ => none) = _
        rw [h2]
        rfl
      have ow : opsW e [.sl i, .sl j] = some [w1, w2] := by
        show (match peek e i, opsW e [.sl j] with | some w, some ws => some (w :: ws) | _, _ => none) = _
        rw [h1, ow2]
      unfold eRun at o2
      rw [ow] at o2
      simp only at o2
      obtain ⟨v1, s1, t1⟩ := peek_ok k h1
      obtain ⟨v2, s2, t2⟩ := peek_ok k h2
      cases hr : P.run .count [w1, w2] with
      | none => rw [hr] at o2; exact o2.elim
      | some r =>
        rw [hr] at o2
        have hr' : qCount [w1, w2] = some r := hr
        unfold qCount at hr'
        split at hr'
        · next xs kk e9 =>
          cases e9
          split at hr'
          · next is hi =>
            cases hr'
            obtain ⟨a, us, rfl, hH, ra⟩ := t1
            have eu := ra.ints hi
            subst eu
            have ek : v2 = .int kk := top_int t2
            subst ek
            refine ⟨.ref a, slot_iff.mp s1, .inl ⟨rfl, is.map V.int, SqL.of hH⟩, .int kk, slot_iff.mp s2, a, is, kk, rfl, rfl, SqL.of hH, ?_⟩
            exact (show ∀ v F' H', Stp F σ H e F' σ H' e → Ok (q.at X C) F' σ H' e → RsOk (q.at X C) (Bs σ H e) F' σ H' e v (.v (.d (.int (is.count kk : Nat)))) → Q v H' from o2) _ F H .refl k (Rep.int _)
          · cases hr'
        · cases hr'
end
end Ev
set_option Elab.async false
set_option linter.all false
set_option maxRecDepth 100000
set_option maxHeartbeats 2000000
/-! EvSa: own exceptions, made. -/
namespace Ev
open PySem PySem.Calls PySem.Spec PyProof.Rows L2
/-- a class whose __init__ hands its one argument to the class above and keeps it -/
structure SupC (P : Program) (K : W.Frag) (mg : Str → Option Value) (C fI : Addr) (f : Str) : Prop where
  ex : ∃ (B newId initId : String) (bmB : List Value) (name qual : Str) (params : Arguments) (scope : Scope) (dV kV doc pm ct oc cl : Value) (an od cld cdd : Option Addr) (cda cc : Addr) (osl csl ccs : Array (Option Value)) (ccl : Value) (vs : Array Value) (file : Str) (tf : Tok) (cd : ClassData)
      (self gv : Str) (ar : Arg) (p0 p1 p2 p3 p4 p5 p6 p7 p8 p9 : Pos),
    ExcBaseFacts B newId initId bmB ∧ W.KxsFacts B initId ∧ StoreFacts B bmB "object.__setattr__" "object" ∧ W.excInitIn K C bmB newId = true ∧ W.excOver K C bmB = true ∧
    K.lookup fI = some ⟨oc, od, .func (W.ksFn name qual params [.Expr (.Call (.Attribute (.Call (.Name "super" p0) [] [] p1) "__init__" p2) [.Name gv p3] [] p4) p5, .Assign [.Attribute (.Name self p6) f p7] (.Name gv p8) p9] scope dV kV doc pm an (.ref cda) ct cc), osl⟩ ∧
    W.codeIn K (.ref cda) qual = true ∧ (params.posonlyargs ++ params.args).head? = some ar ∧ ar.arg = self ∧
    (∀ us : List Value, ∀ s : Shared, us.length = 2 → BindsTo s (W.ksFn name qual params [.Expr (.Call (.Attribute (.Call (.Name "super" p0) [] [] p1) "__init__" p2) [.Name gv p3] [] p4) p5, .Assign [.Attribute (.Name self p6) f p7] (.Name gv p8) p9] scope dV kV doc pm an (.ref cda) ct cc) ⟨us, []⟩ ([self, gv].zip us)) ∧
    scope.names.lookup self = some .local ∧ scope.names.lookup gv = some .local ∧ scope.names.lookup ("super" : Str) = some .globalImplicit ∧ scope.names.lookup ("__class__" : Str) = some .free ∧ (∀ x ∈ scope.names, x.2 ≠ .cell) ∧ scope.kind = .function ∧ scope.isCoroutine = false ∧ scope.isGenerator = false ∧
    (p2.endLine == p4.line) = true ∧ (self == gv) = false ∧ (gv == self) = false ∧ (gv == ("__debug__" : Str)) = false ∧ (self == ("__debug__" : Str)) = false ∧
    K.lookup cda = some ⟨ccl, cdd, .fields vs, ccs⟩ ∧ vs[2]? = some (.str file tf) ∧ ((P.main.file : Str) == file) = true ∧
    K.lookup cc = some ⟨cl, cld, .cell (some (.ref C)), csl⟩ ∧ W.clsIn K C = some cd ∧ W.mroIn K C (.ref C) = some true ∧
    W.ks_superIn K C C "__init__" = some (some (.builtin initId)) ∧ W.subIn K (.ref C) (.type B) = some true
  iC : W.findIn K (.ref C) "__init__" = some (some (.ref fI))
  fn : W.isFn K (.ref fI) = true
  sa : W.findIn K (.ref C) "__setattr__" = some (some (.builtin "object.__setattr__"))
  tk : W.takerIn K C f = some none
  hd : W.hasDictIn K C = true
  sup : mg "super" = none
  top : (P.main.scope.names.lookup ("super" : Str)).isSome = false
  op : W.nsIn K cStatics "thirdparty.any" = some none
  exC : W.subIn K (.ref C) (.type "BaseException") = some true
  tyC : W.typeIn K (.ref C) = some (.type "type")
  kC : W.keepIn K (.ref C) = true
section
variable {P : Program} {w : World} {K : W.Frag} {mg mb : Str → Option Value} {C fI : Addr} {f : Str}
theorem call_form {o : Expr} {name : Str} {apos pos : Pos} {e : Expr} {env : PySem.Env} (h : (apos.endLine == pos.line) = true) (he : starEach [e] env = [(false, eval e env)] := by rfl) :
    eval (.Call (.Attribute o name apos) [e] [] pos) env = (do
      let ov ← attributeBase o name env (eval o env)
      standAt apos.atName
      let (f, first) ← holding [ov] (getMethod ov name (do return (← importBound o env).getD true))
      callWith pos f first (PySem.backTo pos (starEach [e] env)) []) := by
  have hpos : methodCallPos true o env apos pos = pure pos := by
    unfold methodCallPos
    rw [h]
    rfl
  rw [arm_eval_Call]
  refine congrArg _ (funext fun ov => congrArg _ (funext fun _ => ?_))
  rw [he]
  unfold methodCall
  have hf : methodCallForm ([e].length + ([] : List Keyword).length) (PySem.backTo pos [(false, eval e env)]) (backToKw pos (keywordEach [] env)) = true := rfl
  rw [hf, hpos]
  rfl
theorem int_no {env : PySem.Env} (h : env.scope.kind = .function) : interactive env = false := by
  unfold interactive
  rw [h]
  rfl
theorem sw_call0 {a : Expr} {es : List Expr} {kws : List Keyword} {p : Pos} {l : Nat} {env : PySem.Env} : swapsWith (.Call a es kws p) none l env = pure false := rfl
open W in
theorem init_run (S : SupC P K mg C fI f) {A : Around} {s : Shared} {hp : Heap} {e t : Addr} {u : Value} {R : Result → Shared → Prop} (hr : A.depth < recursionLimit) (X : K.In hp) (nl : s.heap.NoLimit) (gN : hp.Ns mainGlobals mg) (bN : hp.Ns builtinsNs mb) (hb : mb "super" = some (.type "super"))
    (kp : ∀ b o, hp.get? b = some o → s.heap.get? b = some o) (he : s.heap.get? e = some (excObj C t none .none)) (hne : hp.get? e = none) (hsz : hp.objs.size ≤ s.heap.objs.size)
    (h : ∀ h' tk dx t', (∀ b o, hp.get? b = some o → h'.get? b = some o) → h'.get? e = some (excObj C t' (some dx) .none) → hp.get? dx = none → dx ≠ e → h'.Ns1 dx (fun y => if y = f then some u else none) → R (.ok (.ret .none)) { s with heap := h', toks := tk }) :
    codeAny (model P w) A (.call (.ref fI) ⟨[.ref e, u], []⟩) R s := by
  obtain ⟨B, newId, initId, bmB, name, qual, params, scope, dV, kV, doc, pm, ct, oc, cl, an, od, cld, cdd, cda, cc, osl, csl, ccs, ccl, vs, file, tf, cd, self, gv, ar, p0, p1, p2, p3, p4, p5, p6, p7, p8, p9,
    FB, KF, SF, q, ov, lk, hcd, har, rfl, hbi, l1, l2, l3, l4, lc, lkd, lco, lge, hpp, n1, n2, n3, n4, lka, hvs, hfile, lkc, hcls, hmro, hsup, hsub⟩ := S.ex
  have Xs : K.In s.heap := fun b o z => kp b o (X b o z)
  refine ks_codeAny_call_defAt (binds := [(ar.arg, .ref e), (gv, u)]) hr (Xs _ _ lk) rfl nl (codeRec_of Xs hcd) rfl (hbi [.ref e, u] s rfl) lc (by
    intro x hx
    simp only [List.mem_cons, List.not_mem_nil, or_false] at hx
    rcases hx with rfl | rfl
    · exact l1
    · exact l2) (fun h0 hns hk0 => ?_) lco lge lkd
  have hm1 : (fun x => ([(ar.arg, Value.ref e), (gv, u)] : List (Str × Value)).reverse.lookup x) ar.arg = some (.ref e) := by
    simp [List.lookup, n1]
  have hm2 : (fun x => ([(ar.arg, Value.ref e), (gv, u)] : List (Str × Value)).reverse.lookup x) gv = some u := by
    simp [List.lookup]
  generalize (fun x => ([(ar.arg, Value.ref e), (gv, u)] : List (Str × Value)).reverse.lookup x) = m at hns hm1 hm2
  have es : e < s.heap.objs.size := Heap.lt_size he
  have F : Fr hp s.heap.objs.size h0 m := ⟨hns, fun b o z => hk0 b o (kp b o z), hsz⟩
  have N : News hp s.heap.objs.size h0 [(e, excObj C t none .none)] := fun p hp' => by
    simp only [List.mem_singleton] at hp'
    subst hp'
    exact ⟨hk0 _ _ he, Nat.ne_of_lt es, hne⟩
  have X0 : K.In h0 := fun b o z => hk0 b o (Xs b o z)
  show _root_.PySem.wpAt _ _ (.func _ (ksEnv qual scope s.heap.objs.size fI (.ref cda) cc)) (execs _ (ksEnv qual scope s.heap.objs.size fI (.ref cda) cc)) _ _ _
  have I0 : InstAt h0 e (excObj C t none .none) C none := ⟨hk0 _ _ he, rfl, rfl, trivial⟩
  obtain ⟨oD, hD1, hD2⟩ : ∃ oD, h0.get? C = some oD ∧ oD.data = .cls cd := by
    unfold clsIn at hcls
    split at hcls
    · rename_i c d cd' sl ho
      cases hcls
      exact ⟨_, X0 _ _ ho, rfl⟩
    · cases hcls
  refine ks_wpAt_execs_cons (ks_wpAt_Expr_any (ks_wpAt_MethodCall (pl := (do return (← importBound (.Call (.Name "super" p0) [] [] p1) (ksEnv qual scope s.heap.objs.size fI (.ref cda) cc)).getD true)) ?_ (call_form hpp)) (int_no lkd) sw_call0)
  refine ks_wpAt_super_base (env := ksEnv qual scope s.heap.objs.size fI (.ref cda) cc) l3 l4 rfl rfl (X0 _ _ lk) rfl har rfl (X0 _ _ lka) rfl hvs hfile S.top ?_
  refine ks_loadName_global lkd l3 (loadGlobal_builtin (env := ksEnv qual scope s.heap.objs.size fI (.ref cda) cc) (gN.keeps F.keep) S.sup (bN.keeps F.keep) hb ⟨rfl, ?_⟩)
  refine wpAny_loadName_free lkd l4 rfl ⟨_, X0 _ _ lkc, rfl⟩ ?_
  refine wpAny_loadName_local lkd l1 hns hm1 ?_
  refine ks_wpAny_isType_cls hD1 hD2 ⟨rfl, ?_⟩
  refine ks_wpAny_call_super hD1 hD2 I0.at_ I0.cls (fun c e => ?_) (looks_mroIn X0 hmro) (fun h1 e1 k1 => ?_)
  · have := I0.no
    unfold notCls at this
    rw [e] at this
    exact Bool.noConfusion this
  have es' : e < h0.objs.size := Heap.lt_size (hk0 _ _ he)
  obtain ⟨F1, N1, q1⟩ := ks_newsPush (s := { s with heap := h0, toks := s.toks + 2 }) F N rfl e1 k1
  refine kxs_method KF F1 X N1 (.head _) (InstAt.of_exc0 (t := t) (c2 := .none) N1 (.tail _ (.head _))) S.op hsup hsub rfl (fun q2 h2 F2 N2 q2l => ?_)
  refine kxs_callWith1 N2 (.head _) (args_cons (wpAny_Name (wpAny_loadName_local lkd l2 F2.ns hm2 (args_nil ⟨kxs_at N2 (.head _), ?_⟩)) n3))
  refine kxs_call F2 X N2 FB q (.head _) (t := t) (dv := none) (c2 := .none) (.tail (Ne.symm (Nat.ne_of_lt (by have := q2l (e, excObj C t none .none) (.tail _ (.head _)); exact this))) (.tail (Nat.ne_of_gt es') (.head fun _ z => nomatch z))) (by show 1 ≤ sizeLine; rw [sizeLine_eq]; omega) (fun t3 h3 F3 N3 _ => ?_)
  refine ks_wpAt_execs_cons (ks_wpAt_Assign_Attr (wpAt_of_wpAny (wpAny_Name (wpAny_loadName_local lkd l2 F3.ns hm2 (wpAny_Name (wpAny_loadName_local lkd l1 F3.ns hm1 ?_) n4)) n3)) rfl)
  have X3 : K.In h3 := fun b o z => F3.keep b o (X b o z)
  have e3 : h3.get? e = some (excObj C t3 none .none) := (N3 (e, excObj C t3 none .none) (.tail _ (.tail _ (.tail _ (.head _))))).1
  refine set_plain (od := none) X3 ⟨e3, rfl, rfl, trivial⟩ S.sa (osa_openX (od := none) SF X3 ⟨e3, rfl, rfl, trivial⟩ ov S.tk fun b => ?_)
  obtain ⟨cd2, hc2, hd2⟩ := any_some S.hd
  refine wpAny_bind (wpAny_pure (wpAny_bind (instanceDict_exc e3 (looks_clsIn X3 hc2) hd2 ?_)))
  have hee : e ≠ h3.objs.size := Nat.ne_of_lt (Heap.lt_size e3)
  refine HandSPX.store_in_new ?_ fun h' tk' hn' hs => ?_
  · exact ⟨_, #[], _, (Heap.get?_update_ne _ _ _ _ hee.symm).trans (Heap.get?_push_at rfl rfl), rfl, fun e he => absurd he (by simp), fun _ => rfl⟩
  · refine wpAt_of_wpAny (wpAny_pure ?_)
    have hx1 : (h3.push (dictOf [] 0)).get? e = some (excObj C t3 none .none) := Heap.get?_push_of_some _ e3
    refine h h' tk' h3.objs.size t3 (fun b o z => ?_) ?_ ?_ hee.symm hn'
    · have zb := F3.keep b o z
      have bne : b ≠ e := fun y => by rw [y, hne] at z; cases z
      exact (hs.2 b (Nat.ne_of_lt (Heap.lt_size zb))).trans ((Heap.get?_update_ne _ _ _ _ bne).trans (Heap.get?_push_of_some _ zb))
    · exact (hs.2 e hee).trans (Heap.get?_update_self _ hx1 rfl)
    · cases z : hp.get? h3.objs.size with
      | none => rfl
      | some o => exact absurd (Heap.lt_size (F3.keep _ _ z)) (Nat.lt_irrefl _)
end
end Ev
set_option Elab.async false
set_option linter.all false
set_option maxRecDepth 100000
set_option maxHeartbeats 2000000
/-! EvSb: own exceptions, called. -/
namespace Ev
open PySem PySem.Calls PySem.Spec PyProof.Rows L2
section
variable {X : Cx} {C fI : Addr} {f x : Str} {e : Expr} {te : TE} {p pos : Pos} {k : Nat}
theorem pmk_sup (S : SupC X.prog X.K X.mg C fI f) (hr : Room (k + 1) X.A) (hg : Gl X x) (hm : X.mg x = some (.ref C)) (he : PE X e te) (hs : starEach [e] X.env = (false, eval e X.env) :: starEach [] X.env := by rfl) (hdb : (x == ("__debug__" : Str)) = false := by decide) :
    PMk X (.Call (.Name x p) [e] [] pos) (fun σ H Q => te σ H fun v H1 => ∀ d, H1 d = none → Q (.ref C) (some d) (upd H1 d (.xd [(f, v)]))) := by
  intro pins s σ H Q I h
  refine wpAny_Call_Name_kw (ld_glob I hg hm ?_ hdb)
  have ha : PA X [e] (tCons te tNil) := pa_cons he pa_nil hs
  refine PySem.W.callWith_K (h₀ := X.base) I.ok.mod.kin S.kC (thn (ha.run pos pins s σ H (fun vs H1 => match vs with | [v] => ∀ d, H1 d = none → Q (.ref C) (some d) (upd H1 d (.xd [(f, v)])) | _ => False) I h) fun us s1 ⟨vs, H1, I1, r1, q0⟩ => ⟨I1.kIn, ?_⟩) hs rfl
  obtain ⟨v, rfl, q1⟩ : ∃ v, vs = [v] ∧ ∀ d, H1 d = none → Q (.ref C) (some d) (upd H1 d (.xd [(f, v)])) := by
    match vs, q0 with
    | [v], q0 => exact ⟨v, rfl, q0⟩
  obtain ⟨u, rfl, ru⟩ : ∃ u, us = [u] ∧ L2.RelV v u := by
    cases r1 with
    | cons ru rn =>
      cases rn
      exact ⟨_, rfl, ru⟩
  show wpAny _ _ (call (.ref C) [u]) _ _ _
  have S' := S
  obtain ⟨B, newId, initId, bmB, name, qual, params, scope, dV, kV, doc, pm, ct, oc, cl, an, od, cld, cdd, cda, cc, osl, csl, ccs, ccl, vs, file, tf, cd, self, gv, ar, p0, p1, p2, p3, p4, p5, p6, p7, p8, p9, FB, KF, SF, qx, ov, lk, hcd, har, rfl, hbi, l1, l2, l3, l4, lc, lkd, lco, lge, hpp, n1, n2, n3, n4, lka, hvs, hfile, lkc, hcls, hmro, hsup, hsub⟩ := S'.ex
  obtain ⟨nm, N', qn, bs, bm, hdct, sn, sub, ab, col, dd, k0, k1, k2, k3, k5, hC, hT⟩ := W.excInit_of I1.kIn qx
  obtain ⟨oI, hoI, hcI⟩ : ∃ oI, s1.heap.get? fI = some oI ∧ oI.cls = .type "function" := by
    obtain ⟨o, ho, hc⟩ := Option.map_eq_some_iff.mp (show (X.K.lookup fI).map (·.cls) = some (.type "function") from beq_iff_eq.mp S.fn)
    exact ⟨o, I1.kIn _ _ ho, hc⟩
  have E0 := I1.env0
  obtain ⟨mb, bN, hbN⟩ := E0.mod.blt
  have kb : ∀ b o, X.base.get? b = some o → s1.heap.get? b = some o := fun b o z => (E0.bs b o z).1
  obtain ⟨hp, g, dr, tk, os⟩ := s1
  have kk : ∀ b o, hp.get? b = some o → ((hp.push (PySem.W.kdv_tup [u])).push (PySem.HandSPX.excO C hp.objs.size)).get? b = some o := fun b o e => Heap.get?_push_of_some _ (Heap.get?_push_of_some _ e)
  have hget : ((hp.push (PySem.W.kdv_tup [u])).push (PySem.HandSPX.excO C hp.objs.size)).get? (hp.objs.size + 1) = some (PySem.HandSPX.excO C hp.objs.size) := by heap_get
  have hne : hp.get? (hp.objs.size + 1) = none := by
    cases z : hp.get? (hp.objs.size + 1) with
    | none => rfl
    | some o => exact absurd (Heap.lt_size z) (Nat.not_lt.mpr (Nat.le_succ _))
  refine wpAny_call (PySem.HandSPX.call_own FB hT hC (PySem.W.looks_findIn I1.kIn S.iC) (fun self => W.exc_bind hoI hcI self) (by show 1 ≤ sizeLine; rw [sizeLine_eq]; omega)
    (init_run S (hp := hp) (t := hp.objs.size) (hr.make C [u] []).depth I1.kIn ((E0.mod.nolimit.keeps kb).keeps kk) (E0.mod.glob.keeps kb) (bN.keeps kb) ((hbN _ (by decide)).trans PyProof.Rows.Boot.super) kk hget hne ?_ fun h' tk' dx t' kp' he' hdx hde hns => ?_))
  · rw [Heap.size_push, Heap.size_push]
    exact Nat.le_trans (Nat.le_succ _) (Nat.le_succ _)
  · obtain ⟨G, g1, g2⟩ := L2.restrict h' fun b => decide (b ≠ hp.objs.size + 1)
    have gk : ∀ b, b ≠ hp.objs.size + 1 → G.get? b = h'.get? b := fun b hb => g1 b (decide_eq_true hb)
    have ge : G.get? (hp.objs.size + 1) = none := g2 _ (by simp)
    have kG : ∀ b o, hp.get? b = some o → G.get? b = some o := fun b o z => (gk b (fun y => by rw [y, hne] at z; cases z)).trans (kp' b o z)
    have hd1 : H1 dx = none := I1.hok.gone hdx
    have J := I1.laidN (t' := tk') (o := .xd [(f, v)]) kG hdx hd1 ⟨_, hns.at fun o z => (gk dx hde).trans z, fun y => ?_⟩
    · refine ⟨rfl, hp.objs.size + 1, _, _, _, _, .ref C, some dx, rfl, J, fun b o z => ?_, ge, he', ⟨rfl, rfl⟩, rfl, rfl, ?_, rfl, I1.bare, raises_own S.exC S.tyC, q1 dx hd1⟩
      · by_cases hb : b = hp.objs.size + 1
        · rw [hb, ge] at z
          cases z
        · exact (gk b hb).symm.trans z
      · rw [upd_ne (Ne.symm hde)]
        exact I1.hok.gone hne
    · show RelO (([(f, v)] : List (Str × V)).lookup y) _
      by_cases hy : y = f
      · subst hy
        simp only [if_true, List.lookup, beq_self_eq_true]
        exact ru
      · have hb : (y == f) = false := beq_false_of_ne hy
        simp only [if_neg hy, List.lookup, hb]
        trivial
end
/-- a class without __init__ of its own -/
structure PlnC (K : W.Frag) (C : Addr) : Prop where
  ex : ∃ (B newId initId : String) (bmB : List Value), ExcBaseFacts B newId initId bmB ∧ W.excIn K C bmB newId = true
  kC : W.keepIn K (.ref C) = true
  exC : W.subIn K (.ref C) (.type "BaseException") = some true
  tyC : W.typeIn K (.ref C) = some (.type "type")
/-- what is known of a class of errors -/
def ExcF (q : Qn) (X : Cx) (x : Str) (c : Nat) (kept : Option Str) : Prop :=
  ∃ a, X.mg x = some (.ref a) ∧ q.ca c = some a ∧ match kept with
    | some f => q.fld c = some f ∧ ∃ fI, SupC X.prog X.K X.mg a fI f
    | none => q.fld c = none ∧ PlnC X.K a
section
variable {q : Qn} {X : Cx} {C : V → Wd → Hp → Prop} {W : WX} {rv : Ev}
/-- raise X('..') -/
theorem st_raiN {x m : Str} {c j : Nat} {p p2 pos pos' : Pos} (hc : X.calm = true) (tk : L2.Takes X W) (hg : Gl X x) (hdb : (x == ("__debug__" : Str)) = false) (h : ExcF q X x c none) :
    PS X (.Raise (some (.Call (.Name x p) [.Constant (.str m) j p2] [] pos)) none pos') (tS (q.at X C) W (sRai rv c none)) := by
  obtain ⟨a, h1, h2, _, h3⟩ := h
  obtain ⟨B, newId, initId, bmB, FB, qx⟩ := h3.ex
  refine ps_of (ps_raise hc tk (pmk_own FB qx h1 h3.kC (raises_own h3.exC h3.tyC) hg hdb)) fun D σ H ⟨F, e, k, o⟩ => ?_
  exact (show ∀ σ' F' H', Stp F σ H e F' σ' H' e → Ok (q.at X C) F' σ' H' e → ∀ cls dd, ExOk (q.at X C) F' cls dd c none → W cls dd σ' H' from o) σ F H .refl k _ _ ⟨a, h2, rfl, rfl⟩
/-- raise X(v), the value kept -/
theorem st_raiV {x f : Str} {c n : Nat} {a : Expr} {y : E} {p pos pos' : Pos} (hc : X.calm = true) (tk : L2.Takes X W) (hr : Room (n + 1) X.A) (hg : Gl X x) (hdb : (x == ("__debug__" : Str)) = false) (h : ExcF q X x c (some f)) (ha : PE X a (tG (q.at X C) W (evGive rv y)))
    (hs : starEach [a] X.env = (false, eval a X.env) :: starEach [] X.env) : PS X (.Raise (some (.Call (.Name x p) [a] [] pos)) none pos') (tS (q.at X C) W (sRai rv c (some y))) := by
  obtain ⟨a, h1, h2, h3, fI, S⟩ := h
  refine ps_of (ps_raise hc tk (pmk_sup S hr hg h1 ha hs hdb)) fun D σ H ⟨F, e, k, o⟩ => ⟨F, e, k, ?_⟩
  refine (show OutS (q.at X C) F σ H e (R.bind (evGive rv y e) fun v e1 => some (.er c (some v) e1)) W D from o).of.imp fun x e1 _ o1 v F1 H1 s1 k1 r1 d hd => ?_
  have hF : F1 d = none := by
    cases z : F1 d with
    | none => rfl
    | some u =>
      have y := k1.sub d u z
      rw [hd] at y
      cases y
  have ps : Pst F1 H1 (upd F1 d (.xd [(f, v)])) (upd H1 d (.xd [(f, v)])) := ⟨Sub.new hF, k1.sub.both, Sub.new hd, fun b hb => by
    by_cases z : b = d
    · rw [z]
      exact .inr hd
    · rw [upd_ne z] at hb
      exact .inl hb⟩
  obtain ⟨s2, k2⟩ := ps.ok k1
  exact (show ∀ σ' F' H', Stp F σ H e F' σ' H' e1 → Ok (q.at X C) F' σ' H' e1 → ∀ cls dd, ExOk (q.at X C) F' cls dd c (some x) → W cls dd σ' H' from o1) σ _ _ (s1.trans s2) k2 _ _ ⟨a, h2, rfl, d, v, f, rfl, h3, upd_same, r1.mono ps.fz⟩
end
end Ev
set_option Elab.async false
set_option linter.all false
set_option maxRecDepth 100000
set_option maxHeartbeats 1000000
/-! EvT: the written text against the small language. -/
namespace Ev
open PySem PySem.Spec PyProof.Rows L2
/-- what a module's name stands for -/
inductive Gn where
  | fn (k : Nat) | hof (k : Nat) | cst (y : PyData) | exc (c : Nat) (kept : Option Str)
/-- what is known of the place where a text stands -/
structure Cc where
  N : List Str
  sc : Scope
  fn : Str → Bool
  calls : Bool
  caps : Bool
  lams : Bool
def Cc.inner (c : Cc) (scope : Scope) : Cc := { c with sc := relS scope c.sc, fn := fun x => scope.names.lookup x == some .cell, caps := false }
def seenK : Option NameKind → Bool
  | some .local => true | some .cell => true | some .free => true | _ => false
def nmOk (c : Cc) (i : Nat) (s : Str) : Bool := decide (c.N[i]? = some s) && seenK (c.sc.names.lookup s) && !(s == ("__debug__" : Str)) && !(s == ("__classdict__" : Str))
def glOk (c : Cc) (s : Str) : Bool := decide (c.sc.names.lookup s = some .globalImplicit) && !(s == ("__debug__" : Str))
def blts : List Str := ["len", "sum", "max", "min", "abs", "all", "any", "int", "list", "tuple", "bool", "str", "dict", "isinstance", "range", "enumerate", "zip", "sorted", "repr"]
def noStar : Expr → Bool
  | .Starred _ _ => false | _ => true
theorem noStar_ok {a : Expr} (h : noStar a = true) : NoStar a := by
  cases a <;> first | trivial | cases h
def notSet : Expr → Bool
  | .Set _ _ _ => false | _ => true
theorem notSet_ok {a : Expr} {env : PySem.Env} (h : notSet a = true) : ∀ x, foldedSetIterable a env x = pure x := by
  cases a <;> first | (intro _; rfl) | cases h
def plainIx : Expr → Bool
  | .Name _ _ => true | .Constant _ _ _ => true | .BinOp _ _ _ _ => true | .UnaryOp _ _ _ => true | .Call _ _ _ _ => true | .Subscript _ _ _ => true | .IfExp _ _ _ _ => true | _ => false
theorem plainIx_ok {a : Expr} (h : plainIx a = true) : PlainIx a := by
  cases a <;> first | (intro _ _; rfl) | cases h
def conOk : Const → PyData → Bool
  | .none, .none => true
  | .bool a, .bool b => a == b
  | .int a, .int b => decide (a = b)
  | .str a, .str b => decide (a = b)
  | _, _ => false
mutual
def same : PyData → PyData → Bool
  | .none, .none => true
  | .bool a, .bool b => a == b
  | .int a, .int b => decide (a = b)
  | .str a, .str b => decide (a = b)
  | .list a, .list b => sames a b
  | .tuple a, .tuple b => sames a b
  | _, _ => false
def sames : List PyData → List PyData → Bool
  | [], [] => true
  | x :: xs, y :: ys => same x y && sames xs ys
  | _, _ => false
end
mutual
theorem same_ok : ∀ (x y : PyData), same x y = true → x = y
  | .none, y, h => by cases y <;> first | rfl | cases h
  | .bool a, y, h => by
    cases y <;> first | cases h | skip
    rename_i b
    have z : (a == b) = true := h
    rw [eq_of_beq z]
  | .int a, y, h => by
    cases y <;> first | cases h | skip
    rename_i b
    have z : decide (a = b) = true := h
    rw [of_decide_eq_true z]
  | .str a, y, h => by
    cases y <;> first | cases h | skip
    rename_i b
    have z : decide (a = b) = true := h
    rw [of_decide_eq_true z]
  | .list a, y, h => by
    cases y <;> first | cases h | skip
    rename_i b
    have z : sames a b = true := by simpa [same] using h
    rw [sames_ok a b z]
  | .tuple a, y, h => by
    cases y <;> first | cases h | skip
    rename_i b
    have z : sames a b = true := by simpa [same] using h
    rw [sames_ok a b z]
  | .dict a, y, h => by cases y <;> simp [same] at h
theorem sames_ok : ∀ (x y : List PyData), sames x y = true → x = y
  | [], [], _ => rfl
  | [], _ :: _, h => by simp [sames] at h
  | _ :: _, [], h => by simp [sames] at h
  | x :: xs, y :: ys, h => by
    have z : (same x y && sames xs ys) = true := by simpa [sames] using h
    rw [Bool.and_eq_true] at z
    rw [same_ok x y z.1, sames_ok xs ys z.2]
end
def binP : Operator → P → Bool
  | .Add, .add => true | .Sub, .sub => true | .Mult, .mul => true | .FloorDiv, .fdiv => true | .Mod, .mod => true | .Pow, .pow => true | _, _ => false
def cmpP : CmpOp → P → Bool
  | .Eq, .eq => true | .NotEq, .ne => true | .Lt, .lt => true | .LtE, .le => true | .Gt, .gt => true | .GtE, .ge => true | .In, .isin => true | .NotIn, .notin => true | _, _ => false
/-- is, is not: the constant that stands on the right -/
def isP : CmpOp → P → Option Const
  | .Is, .isN => some .none | .IsNot, .notN => some .none | .Is, .isB b => some (.bool b) | .IsNot, .notB b => some (.bool b) | _, _ => none
def bltP : P → Option Str
  | .len => some "len" | .sum => some "sum" | .max1 => some "max" | .min1 => some "min" | .abs => some "abs" | .all => some "all" | .any => some "any" | .sorted => some "sorted" | .repr => some "repr" | _ => none
def blt2P : P → Option Str
  | .max2 => some "max" | .min2 => some "min" | .sumL => some "sum" | _ => none
def typP : P → Option Str
  | .int => some "int" | .list => some "list" | .tuple => some "tuple" | _ => none
def rgP : P → Option Bool
  | .lrg => some false | .trg => some true | _ => none
def opB : BoolOp → Bool → Bool
  | .And, true => true | .Or, false => true | _, _ => false
section
variable (gl : Str → Option Gn) (lm : Cc → Nat → Nat → List Nat → Expr → Bool) (rec : Cc → Expr → E → Bool)
def recs (c : Cc) : List Expr → List E → Bool
  | [], [] => true
  | a :: as, x :: xs => noStar a && rec c a x && recs c as xs
  | _, _ => false
def notStarE : E → Bool
  | .star _ => false | _ => true
/-- with stars -/
def recsS (c : Cc) : List Expr → List E → Bool
  | [], [] => true
  | .Starred a _ :: as, .star x :: xs => rec c a x && recsS c as xs
  | a :: as, x :: xs => noStar a && notStarE x && rec c a x && recsS c as xs
  | _, _ => false
def cVar (c : Cc) (i : Nat) : Expr → Bool
  | .Name s _ => nmOk c i s
  | _ => false
def cLit (c : Cc) (d : PyData) : Expr → Bool
  | .Constant k _ _ => conOk k d
  | .Name s _ => glOk c s && (match gl s with | some (.cst y) => same y d | _ => false)
  | _ => false
/-- list or tuple of a range -/
def cRg (c : Cc) (p : P) (f : Str) : Bool := match rgP p with | some t => decide (f = rgN t) && glOk c f && glOk c "range" | none => false
def cRg1 (c : Cc) (p : P) (f : Str) (x : E) : Expr → Bool
  | .Call (.Name g _) [l] [] _ => decide (g = "range") && cRg c p f && noStar l && rec c l x
  | _ => false
def cP1 (c : Cc) (p : P) (x : E) : Expr → Bool
  | .UnaryOp .USub a _ => (match p with | .neg => rec c a x | _ => false)
  | .Compare a [op] [.Constant k _ _] _ => decide (isP op p = some k) && rec c a x
  | .Call (.Name f _) [a] [] _ => (glOk c f && noStar a && rec c a x && (decide (bltP p = some f) || decide (typP p = some f))) || cRg1 rec c p f x a
  | .Call (.Name f _) [a] [⟨some k, .Name g _, _⟩] _ => (match p with | .sortSum => decide (f = "sorted") && decide (k = "key") && decide (g = "sum") && glOk c f && glOk c g && noStar a && rec c a x | _ => false)
  | .Call (.Name f _) [a, .Name ty _] [] _ => (match p with | .isi t => decide (f = "isinstance") && glOk c f && glOk c ty && decide (ty = Str.ofString t.nm) && noStar a && rec c a x | _ => false)
  | _ => false
def cP2 (c : Cc) (p : P) (x y : E) : Expr → Bool
  | .BinOp a op b _ => binP op p && rec c a x && rec c b y
  | .Compare a [op] [b] _ => cmpP op p && !behindInMarks op b && rec c a x && rec c b y
  | .Subscript a b _ => (match p with | .idx => plainIx b && rec c a x && rec c b y | _ => false)
  | .Call (.Attribute a nm ap) [b] [] cp => (match p, x, y with | .count, .var i, .var j => decide (nm = "count") && (ap.endLine == cp.line) && cVar c i a && cVar c j b | _, _, _ => false)
  | .Call (.Name f _) [.Call (.Name g _) [a, b] [] _] [] _ => decide (g = "range") && cRg c p f && noStar a && noStar b && rec c a x && rec c b y
  | .Call (.Name f _) [a, b] [] _ => glOk c f && decide (blt2P p = some f) && noStar a && noStar b && rec c a x && rec c b y
  | _ => false
def cPrim (c : Cc) (p : P) (es : List E) (a : Expr) : Bool :=
  match es with
  | [x] => cP1 rec c p x a
  | [x, y] => cP2 rec c p x y a
  | _ => false
def cPart (c : Cc) : Option Expr → E → Bool
  | none, .lit (.d .none) => true
  | some a, x => rec c a x
  | _, _ => false
def cCut (c : Cc) (x l h : E) : Expr → Bool
  | .Subscript a (.Slice lo hi none _) _ => rec c a x && cPart rec c lo l && cPart rec c hi h
  | _ => false
def cTup (c : Cc) (es : List E) : Expr → Bool
  | .Tuple as _ _ => recsS rec c as es
  | _ => false
def cLst (c : Cc) (es : List E) : Expr → Bool
  | .List as _ => recsS rec c as es
  | _ => false
def cBo (c : Cc) (b : Bool) (es : List E) : Expr → Bool
  | .BoolOp op as _ => opB op b && !as.isEmpty && recs rec c as es
  | _ => false
def cNo (c : Cc) (x : E) : Expr → Bool
  | .UnaryOp .Not a _ => rec c a x
  | _ => false
def cCh (c : Cc) (p p' : P) (x y z : E) : Expr → Bool
  | .Compare a [op, op'] [b, d] _ => cmpP op p && cmpP op' p' && !lastMarks [op, op'] [b, d] && rec c a x && rec c b y && rec c d z
  | _ => false
def cIfe (c : Cc) (x y z : E) : Expr → Bool
  | .IfExp t a b _ => rec c t x && rec c a y && rec c b z
  | _ => false
def cCall (c : Cc) (k : Nat) (es : List E) : Expr → Bool
  | .Call (.Name f _) as [] _ => c.calls && glOk c f && !as.isEmpty && (match gl f with | some (.fn j) => j == k | _ => false) && recs rec c as es
  | _ => false
def cCapp (c : Cc) (i : Nat) : Expr → Bool
  | .Call (.Name f _) [] [] _ => c.caps && nmOk c i f
  | _ => false
def mutN : Mt → Option (Str × Nat)
  | .append => some ("append", 1) | .extend => some ("extend", 1) | .pop => some ("pop", 1) | .popl => some ("pop", 0) | _ => none
def cMut (c : Cc) (m : Mt) (i : Nat) (es : List E) : Expr → Bool
  | .Call (.Attribute (.Name o _) nm ap) as [] cp => nmOk c i o && (ap.endLine == cp.line) && decide (mutN m = some (nm, as.length)) && recs rec c as es && es.all notStarE
  | _ => false
mutual
def tgC (c : Cc) : T → Expr → Bool
  | .nm i, .Name s _ => decide (c.N[i]? = some s) && (decide (c.sc.names.lookup s = some .local) || (decide (c.sc.names.lookup s = some .cell) && c.fn s))
  | .tp ts, .Tuple es _ _ => tgsC c ts es
  | _, _ => false
def tgsC (c : Cc) : List T → List Expr → Bool
  | [], [] => true
  | t :: ts, e :: es => tgC c t e && tgsC c ts es
  | _, _ => false
end
def isTup : Expr → Bool
  | .Tuple _ _ _ => true | _ => false
def itC (c : Cc) (tg : Expr) (it : It) (src : List E) (iter : Expr) : Bool :=
  match it, src with
  | .seq, [x] => notSet iter && rec c iter x
  | .rng, [x] => (match iter with | .Call (.Name f _) [l] [] _ => decide (f = "range") && glOk c f && noStar l && rec c l x | _ => false)
  | .rng, [x, y] => (match iter with | .Call (.Name f _) [l, m] [] _ => decide (f = "range") && glOk c f && noStar l && noStar m && rec c l x && rec c m y | _ => false)
  | .enm, [x] => isTup tg && (match iter with | .Call (.Name f _) [l] [] _ => decide (f = "enumerate") && glOk c f && noStar l && rec c l x | _ => false)
  | .zip, [x, y] => isTup tg && (match iter with | .Call (.Name f _) [l, m] [] _ => decide (f = "zip") && glOk c f && noStar l && noStar m && rec c l x && rec c m y | _ => false)
  | _, _ => false
def ownOf (c : Cc) (own : List Nat) : List (Str × Nat) := own.filterMap fun i => (c.N[i]?).map fun s => (s, i)
def ifsC (c : Cc) : List Expr → List E → Bool
  | [], [] => true
  | [a], [x] => rec c a x
  | _, _ => false
def cCmp (c : Cc) (elt : E) (t : T) (it : It) (src xs : List E) (own : List Nat) : Expr → Bool
  | .ListComp e [⟨tg, iter, ifs, a⟩] scope _ => decide (a = 0) && itC rec c tg it src iter && blkC c.N c.sc scope (ownOf c own) && decide ((ownOf c own).map (·.2) = own) && t.slots.all (own.contains ·) && tgC (c.inner scope) t tg && ifsC rec (c.inner scope) ifs xs && rec (c.inner scope) e elt
  | _ => false
def cCmp2 (c : Cc) (elt : E) (t : T) (it : It) (src xs : List E) (t' : T) (it' : It) (src' xs' : List E) (own : List Nat) : Expr → Bool
  | .ListComp e [⟨tg, iter, ifs, a⟩, ⟨tg', iter', ifs', a'⟩] scope _ => decide (a = 0) && decide (a' = 0) && itC rec c tg it src iter && itC rec (c.inner scope) tg' it' src' iter' && blkC c.N c.sc scope (ownOf c own) && decide ((ownOf c own).map (·.2) = own) &&
      t.slots.all (own.contains ·) && t'.slots.all (own.contains ·) && tgC (c.inner scope) t tg && tgC (c.inner scope) t' tg' && ifsC rec (c.inner scope) ifs xs && ifsC rec (c.inner scope) ifs' xs' && rec (c.inner scope) e elt
  | _ => false
def cDcm (c : Cc) (kx vx : E) (t : T) (it : It) (src xs : List E) (own : List Nat) : Expr → Bool
  | .DictComp ke ve [⟨tg, iter, ifs, a⟩] scope _ => decide (a = 0) && itC rec c tg it src iter && blkC c.N c.sc scope (ownOf c own) && decide ((ownOf c own).map (·.2) = own) && t.slots.all (own.contains ·) && tgC (c.inner scope) t tg && ifsC rec (c.inner scope) ifs xs && rec (c.inner scope) ke kx && rec (c.inner scope) ve vx
  | _ => false
def cDic : List E → List E → Expr → Bool
  | [], [], .Dict [] [] _ => true
  | _, _, _ => false
def cLcall (c : Cc) (k b : Nat) (free : List Nat) : Expr → Bool
  | .Call (.Name f _) [lam] [] _ => c.calls && c.lams && glOk c f && (match gl f with | some (.hof j) => j == k | _ => false) && lm c k b free lam
  | _ => false
def stepC (c : Cc) (a : Expr) (x : E) : Bool :=
  match x with
  | .var i => cVar c i a
  | .lit (.d d) => cLit gl c d a
  | .prim p es => cPrim rec c p es a
  | .cut x l h => cCut rec c x l h a
  | .tup es => cTup rec c es a
  | .lst es => cLst rec c es a
  | .bo b es => cBo rec c b es a
  | .no x => cNo rec c x a
  | .ch p q x y z => cCh rec c p q x y z a
  | .ife x y z => cIfe rec c x y z a
  | .call k es => cCall gl rec c k es a
  | .capp i => cCapp c i a
  | .mut m i es => cMut rec c m i es a
  | .cmp elt t it src xs own => cCmp rec c elt t it src xs own a
  | .cmp2 elt t it src xs t' it' src' xs' own => cCmp2 rec c elt t it src xs t' it' src' xs' own a
  | .dcm kx vx t it src xs own => cDcm rec c kx vx t it src xs own a
  | .dcmI kx vx t it src xs own => cDcm rec c kx vx t it src xs own a
  | .dic ks vs => cDic ks vs a
  | .lcall k b free => cLcall gl lm c k b free a
  | _ => false
end
def chk (gl : Str → Option Gn) (lm : Cc → Nat → Nat → List Nat → Expr → Bool) : Nat → Cc → Expr → E → Bool
  | 0 => fun _ _ _ => false
  | m + 1 => stepC gl lm (chk gl lm m)

/-! ### where a text may stand -/
/-- no closure -/
abbrev C0 : V → Wd → Hp → Prop := fun _ _ _ => False
/-- where lambdas are made: the code object that stands there, its table -/
def LamE (q : Qn) (X : Cx) : Prop := q.ok X.prog X.w X.K X.mg X.base ∧ ∃ cc P, X.env.code = .ref cc ∧ LamX.TabB X.base X.mg cc P ∧ (P, X.env.qual ++ "<lambda>") ∈ q.T ∧ ∀ p ∈ q.T, p.1 = P → p.2 = X.env.qual ++ "<lambda>"
/-- a def's promise, where no repr runs around it -/
def FnG (P : Program) (w : World) (K : PySem.W.Frag) (mg : Str → Option Value) (base : Heap) (CX : CXT) (k : Nat) (f : Addr) (sp : Sp) : Prop :=
  ∀ (A : Around) (outer : List PySem.Env) (s : Shared) (H : Hp) (us : List Value) (vs : List V) (Q : VK) (E : XK), A.guards = some [] → Room k A → L2.Env0 P w K mg base A outer s H → Vals vs us → sp vs H Q E → codeAny (model P w) A (.call (.ref f) ⟨us, []⟩) (L2.CR CX outer P w H s Q E) s
structure Fits (q : Qn) (gl : Str → Option Gn) (call : Nat → Env → Option CO) (clo : Nat → List (Option PyData) → Option CO) (d : Nat) (C : V → Wd → Hp → Prop) (W : WX) (c : Cc) (X : Cx) : Prop where
  N : X.N = c.N
  nd : c.N.Nodup
  sc : X.env.scope = c.sc
  fn : ∀ y, c.fn y = true → X.fn y = true
  calm : X.calm = true
  room : Room (d + 1) X.A
  gd : X.A.guards = some []
  tk : L2.Takes X W
  fns : ∀ x k, gl x = some (.fn k) → ∃ f, X.mg x = some (.ref f) ∧ PySem.W.keepIn X.K (.ref f) = true ∧ FnG X.prog X.w X.K X.mg X.base (L2.CX X.prog X.w) (d + 1) f (SpC (q.at X C0) (call k))
  cst : ∀ x y, gl x = some (.cst y) → ∃ v u, X.mg x = some u ∧ RelV v u ∧ ∀ F, Rep (q.at X C) F v y
  exs : ∀ x c b, gl x = some (.exc c b) → ExcF q X x c b
  blt : ∀ x ∈ blts, X.mg x = none
  c0 : c.calls = true → C = C0
  lamE : c.lams = true → LamE q X
  cap : c.caps = true → ∀ (W : WX) (pn : List (Addr × Obj)) (xe : Value → Shared → Prop), L2.Takes (X.tr pn xe) W → ∀ i s p1 p2, nmOk c i s = true → PE (X.tr pn xe) (.Call (.Name s p1) [] [] p2) (tR (q.at X C) W (eCapp clo i))
/-- lambdas checked by lm are called as the evaluator says -/
def LamH (q : Qn) (gl : Str → Option Gn) (call : Nat → Env → Option CO) (clo : Nat → List (Option PyData) → Option CO) (d : Nat) (lm : Cc → Nat → Nat → List Nat → Expr → Bool) : Prop :=
  ∀ (C : V → Wd → Hp → Prop) (W : WX) (c : Cc) (X : Cx), Fits q gl call clo d C W c X → c.lams = true → c.calls = true → ∀ f k b free lam, glOk c f = true → gl f = some (.hof k) → lm c k b free lam = true → ∀ p pos, PE X (.Call (.Name f p) [lam] [] pos) (tR (q.at X C) W (eLcall call k b free))
section
variable {q : Qn} {gl : Str → Option Gn} {call : Nat → Env → Option CO} {clo : Nat → List (Option PyData) → Option CO} {d : Nat} {C : V → Wd → Hp → Prop} {W : WX} {c : Cc} {X : Cx}
theorem Fits.inner (h : Fits q gl call clo d C W c X) (s : Shared) (H : Hp) (scope : Scope) (D : Addr) (cl : List (Str × Addr)) (fp : List Addr) : Fits q gl call clo d C W0 (c.inner scope) (X.blk s H scope (compEnvC scope cl D X.env) fp) where
  N := h.N
  nd := h.nd
  sc := by
    show relabel scope X.env = relS scope c.sc
    rw [← h.sc]
    rfl
  fn := fun y hy => hy
  calm := h.calm
  room := h.room
  gd := h.gd
  tk := LamX.takes0
  fns := h.fns
  cst := h.cst
  exs := h.exs
  blt := h.blt
  c0 := h.c0
  lamE := h.lamE
  cap := fun z => by cases z
theorem vis_of {k : Option NameKind} {sc : Scope} {s : Str} (hk : sc.names.lookup s = k) (h : seenK k = true) : Vis sc s := by
  cases k with
  | none => cases h
  | some k =>
    cases k with
    | «local» => exact .inl hk
    | cell => exact .inr (.inl hk)
    | free => exact .inr (.inr hk)
    | _ => cases h
theorem Fits.name (h : Fits q gl call clo d C W c X) {i : Nat} {s : Str} (hn : nmOk c i s = true) (pos : Pos) : PE X (.Name s pos) (tVar i) := by
  unfold nmOk at hn
  simp only [Bool.and_eq_true, Bool.not_eq_true', decide_eq_true_eq] at hn
  obtain ⟨⟨⟨h1, h2⟩, h3⟩, h4⟩ := hn
  refine pe_var (by rw [h.N]; exact h1) ?_ h3 h4
  rw [h.sc]
  exact vis_of rfl h2
theorem Fits.glb (h : Fits q gl call clo d C W c X) {s : Str} (hn : glOk c s = true) : Gl X s ∧ (s == ("__debug__" : Str)) = false := by
  unfold glOk at hn
  simp only [Bool.and_eq_true, Bool.not_eq_true', decide_eq_true_eq] at hn
  refine ⟨?_, hn.2⟩
  show X.env.scope.names.lookup s = _
  rw [h.sc]
  exact hn.1
theorem Fits.units5 (h : Fits q gl call clo d C W c X) : X.A.units + 70 < cLine := by
  have := h.room.un
  omega
theorem Fits.units (h : Fits q gl call clo d C W c X) : X.A.units + 65 < cLine := by
  have := h.room.un
  omega
end
theorem pe_zero {X : Cx} {a : Expr} {g : G} {W : WX} {m : Env → R Rs} (h : ∀ e, m e = none) : PE X a (tR g W m) := ⟨fun pins s σ H Q I ⟨F, e, k, o⟩ => by
  rw [h] at o
  exact o.elim⟩
theorem pt_zero {X : Cx} {a : Expr} {g : G} {W : WX} {m : Env → R Rs} (h : ∀ e, m e = none) : PT X a (tB g W m) := ⟨fun pins s σ H Q I ⟨F, e, k, o⟩ => by
  rw [h] at o
  exact o.elim⟩
end Ev
set_option Elab.async false
set_option linter.all false
set_option maxRecDepth 100000
set_option maxHeartbeats 2000000
/-! EvU: what is checked is sound: expressions. -/
namespace Ev
open PySem PySem.Spec PyProof.Rows L2
theorem isP_ok {op : CmpOp} {p : P} {k : Const} (h : isP op p = some k) : (op = .Is ∧ p = .isN ∧ k = .none) ∨ (op = .IsNot ∧ p = .notN ∧ k = .none) ∨ (∃ b, op = .Is ∧ p = .isB b ∧ k = .bool b) ∨ (∃ b, op = .IsNot ∧ p = .notB b ∧ k = .bool b) := by
  cases op <;> cases p <;> simp [isP] at h <;> simp [h]
def boolP : P → Bool
  | .eq => true | .ne => true | .lt => true | .le => true | .gt => true | .ge => true | .isin => true | .notin => true | .isN => true | .notN => true | .isB _ => true | .notB _ => true | _ => false
theorem vB_ok {b : Bool} {r : Rs} (h : vB b = some r) : ∃ c, r = .v (.d (.bool c)) := ⟨b, (Option.some.inj h).symm⟩
theorem run_bool {p : P} (hp : boolP p = true) : ∀ ws r, p.run ws = some r → ∃ c, r = .v (.d (.bool c)) := by
  intro ws r h
  cases p <;> first | cases hp | skip
  · have h' : qEq ws = some r := h
    unfold qEq at h'
    split at h'
    · split at h'
      · exact vB_ok h'
      · cases h'
    · cases h'
  · have h' : qNe ws = some r := h
    unfold qNe at h'
    split at h'
    · split at h'
      · exact vB_ok h'
      · cases h'
    · cases h'
  · have h' : qLt ws = some r := h
    unfold qLt at h'
    split at h'
    · split at h'
      · exact vB_ok h'
      · cases h'
    · cases h'
  · have h' : qLe ws = some r := h
    unfold qLe at h'
    split at h'
    · exact vB_ok h'
    · cases h'
  · have h' : qGt ws = some r := h
    unfold qGt at h'
    split at h'
    · split at h'
      · exact vB_ok h'
      · cases h'
    · cases h'
  · have h' : qGe ws = some r := h
    unfold qGe at h'
    split at h'
    · exact vB_ok h'
    · cases h'
  · have h' : qIsin ws = some r := h
    unfold qIsin at h'
    split at h'
    · split at h'
      · exact vB_ok h'
      · cases h'
    · split at h'
      · exact vB_ok h'
      · cases h'
    · split at h'
      · exact vB_ok h'
      · cases h'
    · cases h'
  · have h' : qNotin ws = some r := h
    unfold qNotin at h'
    split at h'
    · split at h'
      · exact vB_ok h'
      · cases h'
    · split at h'
      · exact vB_ok h'
      · cases h'
    · split at h'
      · exact vB_ok h'
      · cases h'
    · cases h'
  · have h' : qIsN ws = some r := h
    unfold qIsN at h'
    split at h'
    · exact vB_ok h'
    · cases h'
  · have h' : qNotN ws = some r := h
    unfold qNotN at h'
    split at h'
    · exact vB_ok h'
    · cases h'
  · rename_i b
    have h' : qIsB b ws = some r := h
    unfold qIsB at h'
    split at h'
    · exact vB_ok h'
    · cases h'
  · rename_i b
    have h' : qNotB b ws = some r := h
    unfold qNotB at h'
    split at h'
    · exact vB_ok h'
    · cases h'
theorem star_any_false {env : PySem.Env} {pos : Pos} : ∀ {es : List Expr}, (∀ a ∈ es, NoStar a) → (PySem.backTo pos (starEach es env)).any (·.1) = false
  | [], _ => rfl
  | a :: es, h => by
    rw [star_cons (h a List.mem_cons_self)]
    show (false || (PySem.backTo pos (starEach es env)).any (·.1)) = false
    rw [star_any_false fun b hb => h b (List.mem_cons_of_mem _ hb)]
    rfl
section
variable {X : Cx} {k : Nat} {f : Addr} {sp : Sp} {E : L2.St → XK} {x : Str} {p pos : Pos} {e : Expr} {es : List Expr} {t : TA}
theorem pe_callR (F : FnG X.prog X.w X.K X.mg X.base (L2.CX X.prog X.w) k f sp) (gd : X.A.guards = some []) (hr : Room k X.A) (hk : PySem.W.keepIn X.K (.ref f) = true) (hg : Gl X x) (hm : X.mg x = some (.ref f)) (hx : ∀ σ, PassesAt (L2.CX X.prog X.w) X σ (E σ)) (ha : PA X (e :: es) t)
    (hd : (x == ("__debug__" : Str)) = false) (he : starEach (e :: es) X.env = (false, eval e X.env) :: starEach es X.env) (hpl : (PySem.backTo pos (starEach es X.env)).any (·.1) = false) :
    PE X (.Call (.Name x p) (e :: es) [] pos) (fun σ H Q => t σ H fun vs H1 => sp vs H1 Q (E σ)) := by
  refine ⟨fun pins s σ H Q I h => ?_⟩
  refine wpAny_Call_Name_kw (ld_glob I hg hm ?_ hd)
  refine PySem.W.callWith_K (h₀ := X.base) I.ok.mod.kin hk (thn (ha.run pos pins s σ H _ I h) fun us s1 ⟨vs, H1, I1, r, q⟩ => ⟨I1.kIn, ?_⟩) he hpl
  refine wpAny_call (codeAny_mono (F X.A X.stack s1 H1 us vs Q (E σ) gd hr I1.env0 r q) fun r s' hq => ?_)
  cases r with
  | error e => exact hx σ pins H1 s1 e s' I1 hq
  | ok fl =>
    cases fl with
    | ret u => exact I1.after hq
    | next => exact False.elim hq
    | brk => exact False.elim hq
    | cont => exact False.elim hq
end
section
variable {q : Qn} {gl : Str → Option Gn} {call : Nat → Env → Option CO} {clo : Nat → List (Option PyData) → Option CO} {d : Nat} {rec : Cc → Expr → E → Bool}
def SoundAt (q : Qn) (gl : Str → Option Gn) (call : Nat → Env → Option CO) (clo : Nat → List (Option PyData) → Option CO) (d : Nat) (rec : Cc → Expr → E → Bool) : Prop :=
  ∀ (C : V → Wd → Hp → Prop) (W : WX) (c : Cc) (X : Cx), Fits q gl call clo d C W c X → ∀ a x, rec c a x = true → ∀ n, PE X a (tR (q.at X C) W (ev call clo n false x)) ∧ PT X a (tB (q.at X C) W (ev call clo n true x))
def VarAt (rec : Cc → Expr → E → Bool) : Prop := ∀ (c : Cc) (a : Expr) (i : Nat), rec c a (.var i) = true → ∃ s p, a = .Name s p ∧ nmOk c i s = true
section
variable {C : V → Wd → Hp → Prop} {W : WX} {c : Cc} {X : Cx}
theorem op_of (hs : SoundAt q gl call clo d rec) (hv : VarAt rec) (ft : Fits q gl call clo d C W c X) {a : Expr} {x : E} (h : rec c a x = true) (n : Nat) : PE X a (tO (q.at X C) W (evOp (ev call clo n) x)) := by
  by_cases hx : ∃ i, x = .var i
  · obtain ⟨i, rfl⟩ := hx
    obtain ⟨s, p, rfl, hn⟩ := hv c a i h
    exact op_var (ft.name hn p)
  · exact op_other (hs C W c X ft a x h n).1 fun i e => hx ⟨i, e⟩
theorem ops_of (hs : SoundAt q gl call clo d rec) (hv : VarAt rec) (ft : Fits q gl call clo d C W c X) (n : Nat) : ∀ {as : List Expr} {xs : List E}, recs rec c as xs = true → PA X as (tOs (q.at X C) W (evOps (ev call clo n) xs)) ∧ ∀ a ∈ as, NoStar a
  | [], [], _ => ⟨ops_nil, fun a h => by cases h⟩
  | [], _ :: _, h => by cases h
  | _ :: _, [], h => by cases h
  | a :: as, x :: xs, h => by
    have h' : (noStar a && rec c a x && recs rec c as xs) = true := h
    simp only [Bool.and_eq_true] at h'
    obtain ⟨⟨h1, h2⟩, h3⟩ := h'
    obtain ⟨i1, i2⟩ := ops_of hs hv ft n h3
    refine ⟨ops_cons (noStar_ok h1) (op_of hs hv ft h2 n) i1, fun b hb => ?_⟩
    rcases List.mem_cons.mp hb with z | z
    · rw [z]
      exact noStar_ok h1
    · exact i2 b z
theorem notStar_ok {x : E} (h : notStarE x = true) : ∀ y, x ≠ .star y := fun y e => by
  subst e
  cases h
theorem gives_of (hs : SoundAt q gl call clo d rec) (hv : VarAt rec) (ft : Fits q gl call clo d C W c X) (n : Nat) : ∀ {as : List Expr} {xs : List E}, recsS rec c as xs = true → PA X as (tGs (q.at X C) W (evGives (ev call clo n) xs)) := by
  intro as
  induction as with
  | nil =>
    intro xs h
    cases xs with
    | nil => exact gives_nil
    | cons _ _ => simp [recsS] at h
  | cons a as ih =>
    intro xs h
    cases xs with
    | nil => cases a <;> simp [recsS] at h
    | cons x xs =>
      have plain : NoStar a → PA X (a :: as) (tGs (q.at X C) W (evGives (ev call clo n) (x :: xs))) := fun hn => by
        have h' : (noStar a && notStarE x && rec c a x && recsS rec c as xs) = true := by
          cases a <;> first | exact h | exact hn.elim
        simp only [Bool.and_eq_true] at h'
        obtain ⟨⟨⟨h1, h2⟩, h3⟩, h4⟩ := h'
        exact gives_cons hn (notStar_ok h2) (give_of (hs C W c X ft a x h3 n).1) (ih h4)
      by_cases hst : ∃ b p, a = .Starred b p
      · obtain ⟨b, p, rfl⟩ := hst
        cases x with
        | star y =>
          have h' : (rec c b y && recsS rec c as xs) = true := h
          rw [Bool.and_eq_true] at h'
          exact gives_star (op_of hs hv ft h'.1 n) (ih h'.2)
        | _ => simp [recsS, noStar] at h
      · exact plain (by cases a <;> first | trivial | exact absurd ⟨_, _, rfl⟩ hst)
theorem recs_gives (hs : SoundAt q gl call clo d rec) (ft : Fits q gl call clo d C W c X) (n : Nat) : ∀ {as : List Expr} {xs : List E}, recs rec c as xs = true → xs.all notStarE = true → PA X as (tGs (q.at X C) W (evGives (ev call clo n) xs))
  | [], [], _, _ => gives_nil
  | [], _ :: _, h, _ => by cases h
  | _ :: _, [], h, _ => by cases h
  | a :: as, x :: xs, h, h2 => by
    have h' : (noStar a && rec c a x && recs rec c as xs) = true := h
    have h2' : (notStarE x && xs.all notStarE) = true := h2
    simp only [Bool.and_eq_true] at h' h2'
    exact gives_cons (noStar_ok h'.1.1) (notStar_ok h2'.1) (give_of (hs C W c X ft a x h'.1.2 n).1) (recs_gives hs ft n h'.2 h2'.2)
/-- a node whose test is its value's truth -/
theorem both {a : Expr} {m : Env → R Rs} (h : PE X a (tR (q.at X C) W m)) (he : ∀ whole, isTrue a X.env whole = (do let v ← whole; standAt a.pos; holding [v] (truthy v))) : PE X a (tR (q.at X C) W fun e => tested false (m e)) ∧ PT X a (tB (q.at X C) W fun e => tested true (m e)) := ⟨h, pt_plain h he⟩
theorem cRg_ok {p : P} {f : Str} (h : cRg c p f = true) : ∃ t : Bool, p = (if t then .trg else .lrg) ∧ f = rgN t ∧ glOk c f = true ∧ glOk c "range" = true := by
  unfold cRg at h
  split at h
  · next t ht =>
    simp only [Bool.and_eq_true, decide_eq_true_eq] at h
    obtain ⟨⟨h1, h2⟩, h3⟩ := h
    refine ⟨t, ?_, h1, h2, h3⟩
    cases p <;> first | (cases ht; done) | (cases ht; rfl)
  · cases h
theorem blt_of (ft : Fits q gl call clo d C W c X) {s : Str} (h : s ∈ blts) : X.mg s = none := ft.blt s h
theorem sP1 (hs : SoundAt q gl call clo d rec) (hv : VarAt rec) (ft : Fits q gl call clo d C W c X) {p : P} {x : E} {a : Expr} (h : cP1 rec c p x a = true) (n : Nat) :
    PE X a (tR (q.at X C) W fun e => tested false (ePrim (ev call clo n) p [x] e)) ∧ PT X a (tB (q.at X C) W fun e => tested true (ePrim (ev call clo n) p [x] e)) := by
  unfold cP1 at h
  split at h
  · next b pos =>
    split at h
    · exact both (prim_neg (op_of hs hv ft h n)) fun _ => rfl
    · cases h
  · next b op k kk kp pos =>
    simp only [Bool.and_eq_true, decide_eq_true_eq] at h
    obtain ⟨h1, h2⟩ := h
    have ho := op_of hs hv ft h2 n
    rcases isP_ok h1 with ⟨rfl, rfl, rfl⟩ | ⟨rfl, rfl, rfl⟩ | ⟨b, rfl, rfl, rfl⟩ | ⟨b, rfl, rfl, rfl⟩
    · exact ⟨prim_is p_isN ho pe_non rfl, is_test p_isN ho pe_non rfl (run_bool rfl)⟩
    · exact ⟨prim_is p_notN ho pe_non rfl, is_test p_notN ho pe_non rfl (run_bool rfl)⟩
    · exact ⟨prim_is p_isB ho pe_bl rfl, is_test p_isB ho pe_bl rfl (run_bool rfl)⟩
    · exact ⟨prim_is p_notB ho pe_bl rfl, is_test p_notB ho pe_bl rfl (run_bool rfl)⟩
  · next f fp b pos =>
    rw [Bool.or_eq_true] at h
    rcases h with h | h
    rotate_left
    · unfold cRg1 at h
      split at h
      · next g gp l lp =>
        simp only [Bool.and_eq_true, decide_eq_true_eq] at h
        obtain ⟨⟨⟨rfl, h1⟩, h2⟩, h3⟩ := h
        obtain ⟨t, rfl, rfl, h4, h5⟩ := cRg_ok h1
        exact both (rg_one (q := q) (C := C) t ft.calm (ft.glb h4).1 (by cases t <;> exact blt_of ft (by decide)) (ft.glb h5).1 (blt_of ft (by decide)) (op_of hs hv ft h3 n) (noStar_ok h2)) fun _ => by cases t <;> rfl
      · cases h
    simp only [Bool.and_eq_true, Bool.or_eq_true, decide_eq_true_eq] at h
    obtain ⟨⟨⟨h1, h2⟩, h3⟩, h4⟩ := h
    have ho := op_of hs hv ft h3 n
    obtain ⟨g1, g2⟩ := ft.glb h1
    have ns := noStar_ok h2
    refine both ?_ fun _ => rfl
    rcases h4 with h4 | h4
    · cases p <;> simp only [bltP, Option.some.injEq, reduceCtorEq] at h4 <;> subst h4
      · exact blt1 p_len g1 (blt_of ft (by simp [blts])) (by decide +kernel) (by decide) g2 ho ns
      · exact blt1 (p_sum ft.calm) g1 (blt_of ft (by simp [blts])) (by decide +kernel) (by decide) g2 ho ns
      · exact blt1 (p_max1 ft.calm) g1 (blt_of ft (by simp [blts])) boot_max (by decide) g2 ho ns
      · exact blt1 (p_min1 ft.calm) g1 (blt_of ft (by simp [blts])) boot_min (by decide) g2 ho ns
      · exact blt1 p_abs g1 (blt_of ft (by simp [blts])) boot_abs (by decide) g2 ho ns
      · exact blt1 (p_all ft.calm) g1 (blt_of ft (by simp [blts])) (by decide +kernel) (by decide) g2 ho ns
      · exact blt1 (p_any ft.calm) g1 (blt_of ft (by simp [blts])) (by decide +kernel) (by decide) g2 ho ns
      · exact blt1 (p_sorted ft.calm ft.units5) g1 (blt_of ft (by simp [blts])) (by decide +kernel) (by decide) g2 ho ns
      · exact blt1 (p_repr ft.gd ft.units5) g1 (blt_of ft (by simp [blts])) (by decide +kernel) (by decide) g2 ho ns
    · cases p <;> simp only [typP, Option.some.injEq, reduceCtorEq] at h4 <;> subst h4
      · exact typ1 p_int g1 (blt_of ft (by simp [blts])) boot_int (by decide) g2 ho ns
      · exact typ1 p_list g1 (blt_of ft (by simp [blts])) boot_list (by decide) g2 ho ns
      · exact typ1 p_tuple g1 (blt_of ft (by simp [blts])) boot_tuple (by decide) g2 ho ns
  · next f fp b k g gp kp pos =>
    split at h
    · simp only [Bool.and_eq_true, decide_eq_true_eq] at h
      obtain ⟨⟨⟨⟨⟨⟨rfl, rfl⟩, rfl⟩, h1⟩, h2⟩, h3⟩, h4⟩ := h
      refine both (pe_of (pe_sortK (q := q) (C := C) ft.calm ft.units5 (ft.glb h1).1 (blt_of ft (by simp [blts])) (ft.glb h2).1 (blt_of ft (by simp [blts])) (noStar_ok h3) (ops_cons (noStar_ok h3) (op_of hs hv ft h4 n) ops_nil)) fun σ H Q ⟨F, e, k, o⟩ => ⟨F, e, k, ?_⟩) fun _ => rfl
      exact (show Out (q.at X C) F σ H e (R.bind (evOps (ev call clo n) [x] e) (eRun .sortSum)) W _ from o).bind.imp fun os e1 _ o1 vs F1 H1 s1 k1 r1 => run_ok s1 k1 r1 o1
    · cases h
  · next f fp b ty tp pos =>
    split at h
    · next t =>
      simp only [Bool.and_eq_true, decide_eq_true_eq] at h
      obtain ⟨⟨⟨⟨⟨rfl, h1⟩, h2⟩, rfl⟩, h4⟩, h5⟩ := h
      obtain ⟨g1, g2⟩ := ft.glb h1
      obtain ⟨g3, g4⟩ := ft.glb h2
      refine both (isi_ok g1 (blt_of ft (by simp [blts])) g3 ?_ ?_ ?_ g4 (op_of hs hv ft h5 n) (noStar_ok h4)) fun _ => rfl
      · cases t <;> exact blt_of ft (by decide)
      · cases t <;> decide +kernel
      · cases t <;> decide
    · cases h
  · cases h
end
end
end Ev
set_option Elab.async false
set_option linter.all false
set_option maxRecDepth 100000
set_option maxHeartbeats 2000000
/-! EvV: what is checked is sound: expressions, the rest. -/
namespace Ev
open PySem PySem.Spec PyProof.Rows L2
section
variable {q : Qn} {gl : Str → Option Gn} {call : Nat → Env → Option CO} {clo : Nat → List (Option PyData) → Option CO} {d : Nat} {rec : Cc → Expr → E → Bool}
variable {C : V → Wd → Hp → Prop} {W : WX} {c : Cc} {X : Cx}
theorem cmpP_ok {op : CmpOp} {p : P} (h : cmpP op p = true) (hu : X.A.units + 65 < cLine) : OpR X (compareOp op) (rP2 (q.at X C) p) ∧ boolP p = true := by
  have hu' : X.A.units + 64 < cLine := by omega
  cases op <;> cases p <;> first | cases h | skip
  · exact ⟨p_eq hu', rfl⟩
  · exact ⟨p_ne hu', rfl⟩
  · exact ⟨p_lt hu', rfl⟩
  · exact ⟨p_le, rfl⟩
  · exact ⟨p_gt hu', rfl⟩
  · exact ⟨p_ge, rfl⟩
  · exact ⟨p_isin hu, rfl⟩
  · exact ⟨p_notin hu, rfl⟩
theorem binP_ok {op : Operator} {p : P} (h : binP op p = true) : OpR X (binaryOp op) (rP2 (q.at X C) p) := by
  cases op <;> cases p <;> first | cases h | skip
  · exact p_add
  · exact p_sub
  · exact p_mul
  · exact p_mod
  · exact p_pow
  · exact p_fdiv
theorem sP2 (hs : SoundAt q gl call clo d rec) (hv : VarAt rec) (ft : Fits q gl call clo d C W c X) {p : P} {x y : E} {a : Expr} (h : cP2 rec c p x y a = true) (n : Nat) :
    PE X a (tR (q.at X C) W fun e => tested false (ePrim (ev call clo n) p [x, y] e)) ∧ PT X a (tB (q.at X C) W fun e => tested true (ePrim (ev call clo n) p [x, y] e)) := by
  unfold cP2 at h
  split at h
  · next a1 op b1 pos =>
    simp only [Bool.and_eq_true] at h
    exact both (prim_bin (op_of hs hv ft h.1.2 n) (op_of hs hv ft h.2 n) (binP_ok h.1.1)) fun _ => rfl
  · next a1 op b1 pos =>
    simp only [Bool.and_eq_true, Bool.not_eq_true'] at h
    obtain ⟨⟨⟨h1, h2⟩, h3⟩, h4⟩ := h
    obtain ⟨ho, hb⟩ := cmpP_ok (q := q) (C := C) h1 ft.units
    exact ⟨prim_cmp (op_of hs hv ft h3 n) (op_of hs hv ft h4 n) ho h2, cmp_test (op_of hs hv ft h3 n) (op_of hs hv ft h4 n) ho h2 (run_bool hb)⟩
  · next a1 b1 pos =>
    split at h
    · simp only [Bool.and_eq_true] at h
      exact both (prim_ix (op_of hs hv ft h.1.2 n) (op_of hs hv ft h.2 n) (plainIx_ok h.1.1)) fun _ => rfl
    · cases h
  · next a1 nm ap b1 cp =>
    split at h
    · next i j =>
      simp only [Bool.and_eq_true, decide_eq_true_eq] at h
      obtain ⟨⟨⟨rfl, h1⟩, h2⟩, h3⟩ := h
      unfold cVar at h2 h3
      split at h2
      · split at h3
        · exact both (pe_count (ft.name h2 _) (ft.name h3 _) h1) fun _ => rfl
        · cases h3
      · cases h2
    · cases h
  · next f fp g gp a1 b1 rp pos =>
    simp only [Bool.and_eq_true, decide_eq_true_eq] at h
    obtain ⟨⟨⟨⟨⟨rfl, h1⟩, h2⟩, h3⟩, h4⟩, h5⟩ := h
    obtain ⟨t, rfl, rfl, h6, h7⟩ := cRg_ok h1
    exact both (rg_two (q := q) (C := C) t ft.calm (ft.glb h6).1 (by cases t <;> exact blt_of ft (by decide)) (ft.glb h7).1 (blt_of ft (by decide)) (op_of hs hv ft h4 n) (op_of hs hv ft h5 n) (noStar_ok h2) (noStar_ok h3)) fun _ => by cases t <;> rfl
  · next f fp a1 b1 pos =>
    simp only [Bool.and_eq_true, decide_eq_true_eq] at h
    obtain ⟨⟨⟨⟨⟨h1, h2⟩, h3⟩, h4⟩, h5⟩, h6⟩ := h
    obtain ⟨g1, g2⟩ := ft.glb h1
    have o1 := op_of hs hv ft h5 n
    have o2 := op_of hs hv ft h6 n
    refine both ?_ fun _ => rfl
    cases p <;> simp only [blt2P, Option.some.injEq, reduceCtorEq] at h2 <;> subst h2
    · exact blt2 (p_sumL ft.calm) g1 (blt_of ft (by simp [blts])) boot_sum (by decide) g2 o1 o2 (noStar_ok h3) (noStar_ok h4)
    · exact blt2 (p_max2 ft.calm) g1 (blt_of ft (by simp [blts])) boot_max (by decide) g2 o1 o2 (noStar_ok h3) (noStar_ok h4)
    · exact blt2 (p_min2 ft.calm) g1 (blt_of ft (by simp [blts])) boot_min (by decide) g2 o1 o2 (noStar_ok h3) (noStar_ok h4)
  · cases h
theorem sPrim (hs : SoundAt q gl call clo d rec) (hv : VarAt rec) (ft : Fits q gl call clo d C W c X) {p : P} {es : List E} {a : Expr} (h : cPrim rec c p es a = true) (n : Nat) :
    PE X a (tR (q.at X C) W fun e => tested false (ePrim (ev call clo n) p es e)) ∧ PT X a (tB (q.at X C) W fun e => tested true (ePrim (ev call clo n) p es e)) := by
  unfold cPrim at h
  split at h
  · exact sP1 hs hv ft h n
  · exact sP2 hs hv ft h n
  · cases h
theorem lit_at (n : Nat) : ∀ (y : PyData) (e : Env), ev call clo n false (.lit (.d y)) e = none ∨ ev call clo n false (.lit (.d y)) e = some (.ok (.v (.d y)) e) := fun y e => by
  cases n with
  | zero => exact .inl rfl
  | succ n => exact .inr rfl
theorem part_of (hs : SoundAt q gl call clo d rec) (hv : VarAt rec) (ft : Fits q gl call clo d C W c X) {o : Option Expr} {x : E} (h : cPart rec c o x = true) (n : Nat) : Part X q C W (ev call clo n) o x := by
  unfold cPart at h
  split at h
  · exact .no
  · exact .yes (op_of hs hv ft h n)
  · cases h
theorem sCut (hs : SoundAt q gl call clo d rec) (hv : VarAt rec) (ft : Fits q gl call clo d C W c X) {x l u : E} {a : Expr} (h : cCut rec c x l u a = true) (n : Nat) :
    PE X a (tR (q.at X C) W fun e => tested false (eCut (ev call clo n) x l u e)) ∧ PT X a (tB (q.at X C) W fun e => tested true (eCut (ev call clo n) x l u e)) := by
  unfold cCut at h
  split at h
  · simp only [Bool.and_eq_true] at h
    exact both (slice_ok (lit_at n) (op_of hs hv ft h.1.1 n) (part_of hs hv ft h.1.2 n) (part_of hs hv ft h.2 n)) fun _ => rfl
  · cases h
theorem sTup (hs : SoundAt q gl call clo d rec) (hv : VarAt rec) (ft : Fits q gl call clo d C W c X) {es : List E} {a : Expr} (h : cTup rec c es a = true) (n : Nat) :
    PE X a (tR (q.at X C) W fun e => tested false (eTup (ev call clo n) es e)) ∧ PT X a (tB (q.at X C) W fun e => tested true (eTup (ev call clo n) es e)) := by
  unfold cTup at h
  split at h
  · exact both (tup_ok (gives_of hs hv ft n h)) fun _ => rfl
  · cases h
theorem sLst (hs : SoundAt q gl call clo d rec) (hv : VarAt rec) (ft : Fits q gl call clo d C W c X) {es : List E} {a : Expr} (h : cLst rec c es a = true) (n : Nat) :
    PE X a (tR (q.at X C) W fun e => tested false (eLst (ev call clo n) es e)) ∧ PT X a (tB (q.at X C) W fun e => tested true (eLst (ev call clo n) es e)) := by
  unfold cLst at h
  split at h
  · exact both (lst_ok (gives_of hs hv ft n h)) fun _ => rfl
  · cases h
theorem sBo (hs : SoundAt q gl call clo d rec) (ft : Fits q gl call clo d C W c X) {b : Bool} {es : List E} {a : Expr} (h : cBo rec c b es a = true) (n : Nat) :
    PE X a (tR (q.at X C) W (evBo (ev call clo n) false b es)) ∧ PT X a (tB (q.at X C) W (evBo (ev call clo n) true b es)) := by
  unfold cBo at h
  split at h
  · next op as pos =>
    simp only [Bool.and_eq_true] at h
    obtain ⟨⟨h1, h2⟩, h3⟩ := h
    have eo : op = bop b := by
      cases op <;> cases b <;> first | rfl | cases h1
    subst eo
    have go : ∀ (as : List Expr) (es : List E), as ≠ [] → recs rec c as es = true → PE X (.BoolOp (bop b) as pos) (tR (q.at X C) W (evBo (ev call clo n) false b es)) ∧ PW X (.BoolOp (bop b) as pos) (tB (q.at X C) W (evBo (ev call clo n) true b es)) := by
      intro as
      induction as with
      | nil => intro es hn _; exact absurd rfl hn
      | cons a as ih =>
        intro es _ hr
        cases es with
        | nil => cases hr
        | cons x xs =>
          have hr' : (noStar a && rec c a x && recs rec c as xs) = true := hr
          simp only [Bool.and_eq_true] at hr'
          obtain ⟨ha, hb⟩ := hs C W c X ft a x hr'.1.2 n
          cases as with
          | nil =>
            cases xs with
            | nil => exact ⟨bo_one ha, bo_tone hb⟩
            | cons _ _ => exact absurd hr'.2 (by simp [recs])
          | cons a2 as2 =>
            cases xs with
            | nil => exact absurd hr'.2 (by simp [recs])
            | cons x2 xs2 =>
              obtain ⟨i1, i2⟩ := ih (x2 :: xs2) (by simp) hr'.2
              exact ⟨bo_cons ha i1, bo_tcons hb i2⟩
    obtain ⟨h4, h5⟩ := go as es (by cases as <;> simp at h2 <;> simp) h3
    exact ⟨h4, h5.pt⟩
  · cases h
theorem sNo (hs : SoundAt q gl call clo d rec) (hv : VarAt rec) (ft : Fits q gl call clo d C W c X) {x : E} {a : Expr} (h : cNo rec c x a = true) (n : Nat) :
    PE X a (tR (q.at X C) W fun e => eNo (ev call clo n) false x e) ∧ PT X a (tB (q.at X C) W fun e => eNo (ev call clo n) true x e) := by
  unfold cNo at h
  split at h
  · exact ⟨no_val (op_of hs hv ft h n), no_test (hs C W c X ft _ _ h n).2⟩
  · cases h
theorem sCh (hs : SoundAt q gl call clo d rec) (hv : VarAt rec) (ft : Fits q gl call clo d C W c X) {p p' : P} {x y z : E} {a : Expr} (h : cCh rec c p p' x y z a = true) (n : Nat) :
    PE X a (tR (q.at X C) W fun e => eCh (ev call clo n) p p' x y z e) ∧ PT X a (tB (q.at X C) W fun e => eCh (ev call clo n) p p' x y z e) := by
  unfold cCh at h
  split at h
  · simp only [Bool.and_eq_true, Bool.not_eq_true'] at h
    obtain ⟨⟨⟨⟨⟨h1, h2⟩, h3⟩, h4⟩, h5⟩, h6⟩ := h
    have o1 := (cmpP_ok (q := q) (C := C) h1 ft.units).1
    have o2 := (cmpP_ok (q := q) (C := C) h2 ft.units).1
    exact ⟨ch_val o1 o2 (op_of hs hv ft h4 n) (op_of hs hv ft h5 n) (op_of hs hv ft h6 n) h3, ch_test o1 o2 (op_of hs hv ft h4 n) (op_of hs hv ft h5 n) (op_of hs hv ft h6 n) h3⟩
  · cases h
theorem sdIfe (hs : SoundAt q gl call clo d rec) (ft : Fits q gl call clo d C W c X) {x y z : E} {a : Expr} (h : cIfe rec c x y z a = true) (n : Nat) :
    PE X a (tR (q.at X C) W fun e => eIfe (ev call clo n) false x y z e) ∧ PT X a (tB (q.at X C) W fun e => eIfe (ev call clo n) true x y z e) := by
  unfold cIfe at h
  split at h
  · simp only [Bool.and_eq_true] at h
    obtain ⟨⟨h1, h2⟩, h3⟩ := h
    have t := hs C W c X ft _ _ h1 n
    have u := hs C W c X ft _ _ h2 n
    have v := hs C W c X ft _ _ h3 n
    exact ⟨ife_val t.2 u.1 v.1, ife_test t.2 u.2 v.2⟩
  · cases h
theorem sCall (hs : SoundAt q gl call clo d rec) (hv : VarAt rec) (ft : Fits q gl call clo d C W c X) {k : Nat} {es : List E} {a : Expr} (h : cCall gl rec c k es a = true) (n : Nat) :
    PE X a (tR (q.at X C) W fun e => tested false (eCall call (ev call clo n) k es e)) ∧ PT X a (tB (q.at X C) W fun e => tested true (eCall call (ev call clo n) k es e)) := by
  unfold cCall at h
  split at h
  · next f fp as pos =>
    simp only [Bool.and_eq_true] at h
    obtain ⟨⟨⟨⟨h1, h2⟩, h3⟩, h4⟩, h5⟩ := h
    have ec : C = C0 := ft.c0 h1
    subst ec
    obtain ⟨g1, g2⟩ := ft.glb h2
    split at h4
    · next j hj =>
      have ej : j = k := eq_of_beq h4
      subst ej
      obtain ⟨fa, m1, m2, m3⟩ := ft.fns f j hj
      obtain ⟨hA, hN⟩ := ops_of hs hv ft n h5
      cases as with
      | nil => simp at h3
      | cons b bs =>
        refine both (pe_of (pe_callR (E := fun σ cls dd H' => W cls dd σ H') m3 ft.gd ft.room m2 g1 m1 (fun σ => passAt ft.tk σ) hA g2 (star_cons (hN b List.mem_cons_self)) (star_any_false fun x hx => hN x (List.mem_cons_of_mem _ hx))) fun σ H Q i => ?_) fun _ => rfl
        exact call_key i
    · cases h4
  · cases h
theorem sCapp (ft : Fits q gl call clo d C W c X) {i : Nat} {a : Expr} (h : cCapp c i a = true) :
    PE X a (tR (q.at X C) W fun e => tested false (eCapp clo i e)) ∧ PT X a (tB (q.at X C) W fun e => tested true (eCapp clo i e)) := by
  unfold cCapp at h
  split at h
  · rw [Bool.and_eq_true] at h
    exact both (ft.cap h.1 W X.pn X.xe ft.tk i _ _ _ h.2) fun _ => rfl
  · cases h
theorem sMut (hs : SoundAt q gl call clo d rec) (ft : Fits q gl call clo d C W c X) {m : Mt} {i : Nat} {es : List E} {a : Expr} (h : cMut rec c m i es a = true) (n : Nat) :
    PE X a (tR (q.at X C) W fun e => tested false (eMut (ev call clo n) m i es e)) ∧ PT X a (tB (q.at X C) W fun e => tested true (eMut (ev call clo n) m i es e)) := by
  unfold cMut at h
  split at h
  · next o op nm ap as cp =>
    simp only [Bool.and_eq_true, decide_eq_true_eq] at h
    obtain ⟨⟨⟨⟨h1, h2⟩, h3⟩, h4⟩, h5⟩ := h
    have hx := ft.name h1 op
    have hA := recs_gives hs ft n h4 h5
    refine both ?_ fun _ => rfl
    have one : ∀ {nn : Str}, some (nn, 1) = some (nm, as.length) → ∃ b, as = [b] ∧ NoStar b ∧ nm = nn := fun {nn} e => by
      have e1 := Option.some.inj e
      have e2 : nn = nm := congrArg Prod.fst e1
      have e3 : 1 = as.length := congrArg Prod.snd e1
      cases as with
      | nil => cases e3
      | cons b bs =>
        cases bs with
        | nil =>
          cases es with
          | nil => cases h4
          | cons y ys =>
            have h4' : (noStar b && rec c b y && recs rec c [] ys) = true := h4
            simp only [Bool.and_eq_true] at h4'
            exact ⟨b, rfl, noStar_ok h4'.1.1, e2.symm⟩
        | cons _ _ => simp at e3
    cases m with
    | append =>
      obtain ⟨b, rfl, nb, rfl⟩ := one h3
      exact call_append hx nb hA h2
    | extend =>
      obtain ⟨b, rfl, nb, rfl⟩ := one h3
      exact call_extend hx nb hA h2
    | pop =>
      obtain ⟨b, rfl, nb, rfl⟩ := one h3
      exact call_pop hx nb hA h2
    | popl =>
      have e1 := Option.some.inj h3
      have e2 : ("pop" : Str) = nm := congrArg Prod.fst e1
      have e3 : 0 = as.length := congrArg Prod.snd e1
      cases as with
      | cons _ _ => simp at e3
      | nil =>
        cases es with
        | cons _ _ => cases h4
        | nil =>
          subst e2
          exact call_popl hx h2
    | setdef => cases h3
  · cases h
end
end Ev
set_option Elab.async false
set_option linter.all false
set_option maxRecDepth 100000
set_option maxHeartbeats 2000000
/-! EvW: targets, walks, comprehensions; every checked expression. -/
namespace Ev
open PySem PySem.Spec PyProof.Rows L2
section
variable {q : Qn} {gl : Str → Option Gn} {call : Nat → Env → Option CO} {clo : Nat → List (Option PyData) → Option CO} {d : Nat} {rec : Cc → Expr → E → Bool}
variable {C : V → Wd → Hp → Prop} {W : WX} {c : Cc} {X : Cx}
theorem tgs_plain : ∀ {ts : List T} {es : List Expr}, tgsC c ts es = true → (∀ env, assignEach es env = es.map fun e => (false, assign e env)) ∧ es.length = ts.length
  | [], [], _ => ⟨fun _ => rfl, rfl⟩
  | [], _ :: _, h => by simp [tgsC] at h
  | _ :: _, [], h => by simp [tgsC] at h
  | t :: ts, e :: es, h => by
    have h' : (tgC c t e && tgsC c ts es) = true := by simpa [tgsC] using h
    rw [Bool.and_eq_true] at h'
    obtain ⟨i1, i2⟩ := tgs_plain h'.2
    refine ⟨fun env => ?_, by rw [List.length_cons, List.length_cons, i2]⟩
    rw [List.map_cons, ← i1 env]
    cases t <;> cases e <;> first | rfl | (exfalso; have z := h'.1; simp [tgC] at z)
mutual
theorem tg_of (ft : Fits q gl call clo d C W c X) : ∀ {t : T} {e : Expr}, tgC c t e = true → PG X e (tgG X.K t)
  | .nm i, e, h => by
    cases e with
    | Name s p =>
      have h' : (decide (c.N[i]? = some s) && (decide (c.sc.names.lookup s = some .local) || (decide (c.sc.names.lookup s = some .cell) && c.fn s))) = true := by simpa [tgC] using h
      simp only [Bool.and_eq_true, Bool.or_eq_true, decide_eq_true_eq] at h'
      obtain ⟨h1, h2⟩ := h'
      have hN : X.N.Nodup := by rw [ft.N]; exact ft.nd
      have hi : X.N[i]? = some s := by rw [ft.N]; exact h1
      rcases h2 with h2 | ⟨h2, h3⟩
      · exact pg_name hN hi (.inl (by rw [ft.sc]; exact h2)) (.inr (by rw [ft.sc]; exact h2))
      · exact pg_name hN hi (.inr (by rw [ft.sc]; exact h2)) (.inl (ft.fn s h3))
    | _ => simp [tgC] at h
  | .tp ts, e, h => by
    cases e with
    | Tuple es k p =>
      have h' : tgsC c ts es = true := by simpa [tgC] using h
      obtain ⟨h1, h2⟩ := tgs_plain h'
      refine pg_tup ft.calm (tgs_of ft h') ?_ ?_
      · rw [h1, List.length_map, h2]
      · rw [h1]
        induction es with
        | nil => rfl
        | cons _ _ _ => simp [List.findIdx?_eq_none_iff]
    | _ => simp [tgC] at h
theorem tgs_of (ft : Fits q gl call clo d C W c X) : ∀ {ts : List T} {es : List Expr}, tgsC c ts es = true → PGs X es (tgGs X.K ts)
  | [], [], _ => pgs_nil
  | [], _ :: _, h => by simp [tgsC] at h
  | _ :: _, [], h => by simp [tgsC] at h
  | t :: ts, e :: es, h => by
    have h' : (tgC c t e && tgsC c ts es) = true := by simpa [tgsC] using h
    rw [Bool.and_eq_true] at h'
    refine pgs_cons (tg_of ft h'.1) (tgs_of ft h'.2) ?_
    rw [(tgs_plain h).1, (tgs_plain h'.2).1]
    rfl
end
theorem it_of (hs : SoundAt q gl call clo d rec) (hv : VarAt rec) (ft : Fits q gl call clo d C W c X) {tg iter : Expr} {it : It} {src : List E} (h : itC rec c tg it src iter = true) (n : Nat) :
    PI X tg iter (tIt (q.at X C) W (evIt (ev call clo n) it src)) ∧ ∀ env x, foldedSetIterable iter env x = pure x := by
  unfold itC at h
  split at h
  · rw [Bool.and_eq_true] at h
    exact ⟨it_sq (op_of hs hv ft h.2 n), fun env => notSet_ok h.1⟩
  · split at h
    · simp only [Bool.and_eq_true, decide_eq_true_eq] at h
      obtain ⟨⟨⟨rfl, h1⟩, h2⟩, h3⟩ := h
      exact ⟨it_r1 (ft.glb h1).1 (ft.blt _ (by simp [blts])) (op_of hs hv ft h3 n) (noStar_ok h2), fun _ _ => rfl⟩
    · cases h
  · split at h
    · simp only [Bool.and_eq_true, decide_eq_true_eq] at h
      obtain ⟨⟨⟨⟨⟨rfl, h1⟩, h2⟩, h3⟩, h4⟩, h5⟩ := h
      exact ⟨it_r2 (ft.glb h1).1 (ft.blt _ (by simp [blts])) (op_of hs hv ft h4 n) (op_of hs hv ft h5 n) (noStar_ok h2) (noStar_ok h3), fun _ _ => rfl⟩
    · cases h
  · rw [Bool.and_eq_true] at h
    obtain ⟨ht, h⟩ := h
    cases tg <;> first | cases ht | skip
    split at h
    · simp only [Bool.and_eq_true, decide_eq_true_eq] at h
      obtain ⟨⟨⟨rfl, h1⟩, h2⟩, h3⟩ := h
      exact ⟨it_en (ft.glb h1).1 (ft.blt _ (by simp [blts])) (op_of hs hv ft h3 n) (noStar_ok h2), fun _ _ => rfl⟩
    · cases h
  · rw [Bool.and_eq_true] at h
    obtain ⟨ht, h⟩ := h
    cases tg <;> first | cases ht | skip
    split at h
    · simp only [Bool.and_eq_true, decide_eq_true_eq] at h
      obtain ⟨⟨⟨⟨⟨rfl, h1⟩, h2⟩, h3⟩, h4⟩, h5⟩ := h
      exact ⟨it_zip (ft.glb h1).1 (ft.blt _ (by simp [blts])) (op_of hs hv ft h4 n) (op_of hs hv ft h5 n) (noStar_ok h2) (noStar_ok h3), fun _ _ => rfl⟩
    · cases h
  · cases h
theorem ifs_of (hs : SoundAt q gl call clo d rec) (ft : Fits q gl call clo d C W c X) {ifs : List Expr} {xs : List E} (h : ifsC rec c ifs xs = true) (n : Nat) : PTs X ifs (tIfs (q.at X C) W (evIfs (ev call clo n) xs)) := by
  unfold ifsC at h
  split at h
  · exact ifs_nil
  · exact ifs_one (hs C W c X ft _ _ h n).2
  · cases h
theorem sCmp (hs : SoundAt q gl call clo d rec) (hv : VarAt rec) (ft : Fits q gl call clo d C W c X) {elt : E} {t : T} {it : It} {src xs : List E} {own : List Nat} {a : Expr} (h : cCmp rec c elt t it src xs own a = true) (n : Nat) :
    PE X a (tR (q.at X C) W fun e => tested false (eCmp (ev call clo n) elt t it src xs own e)) ∧ PT X a (tB (q.at X C) W fun e => tested true (eCmp (ev call clo n) elt t it src xs own e)) := by
  unfold cCmp at h
  split at h
  · next e tg iter ifs as scope pos =>
    simp only [Bool.and_eq_true, decide_eq_true_eq] at h
    obtain ⟨⟨⟨⟨⟨⟨⟨rfl, h1⟩, h2⟩, h3⟩, h4⟩, h5⟩, h6⟩, h7⟩ := h
    obtain ⟨hi, hf⟩ := it_of hs hv ft h1 n
    have hN : X.N.Nodup := by rw [ft.N]; exact ft.nd
    have ok : BlkOk X.N X.env.scope scope (ownOf c own) := by
      rw [ft.N, ft.sc]
      exact blkOk_by h2
    have ht : ∀ j ∈ t.slots, j ∈ (ownOf c own).map (·.2) := by
      rw [h3]
      intro j hj
      have z := (List.all_eq_true.mp h4) j hj
      simpa using z
    refine both ?_ fun _ => rfl
    have z := cmp_ok (q := q) (C := C) (W := W) (rv := ev call clo n) (own := ownOf c own) (x := elt) (xs := xs) (pos := pos) ft.calm hN hi ok ht (fun s H D cl fp => tg_of (ft.inner s H scope D cl fp) h5) (fun s H D cl fp => ifs_of hs (ft.inner s H scope D cl fp) h6 n)
      (fun s H D cl fp => give_of (hs C W0 (c.inner scope) _ (ft.inner s H scope D cl fp) e elt h7 n).1) (hf X.env)
    rw [h3] at z
    exact z
  · cases h
theorem it_fold {tg iter : Expr} {it : It} {src : List E} (h : itC rec c tg it src iter = true) : ∀ env x, foldedSetIterable iter env x = pure x := by
  unfold itC at h
  split at h
  · rw [Bool.and_eq_true] at h
    exact fun env => notSet_ok h.1
  · split at h
    · exact fun _ _ => rfl
    · cases h
  · split at h
    · exact fun _ _ => rfl
    · cases h
  · rw [Bool.and_eq_true] at h
    obtain ⟨_, h⟩ := h
    split at h
    · exact fun _ _ => rfl
    · cases h
  · rw [Bool.and_eq_true] at h
    obtain ⟨_, h⟩ := h
    split at h
    · exact fun _ _ => rfl
    · cases h
  · cases h
theorem own_all {l own : List Nat} (h : l.all (own.contains ·) = true) : ∀ j ∈ l, j ∈ own := fun j hj => by
  have z := (List.all_eq_true.mp h) j hj
  simpa using z
/-- what a checked comprehension of two clauses brings -/
theorem cmp2_ok (hs : SoundAt q gl call clo d rec) (hv : VarAt rec) (ft : Fits q gl call clo d C W c X) {elt : E} {t t' : T} {it it' : It} {src xs src' xs' : List E} {own : List Nat} {a : Expr} (h : cCmp2 rec c elt t it src xs t' it' src' xs' own a = true) (n : Nat) :
    ∃ e tg iter ifs tg' iter' ifs' scope pos, a = .ListComp e [⟨tg, iter, ifs, 0⟩, ⟨tg', iter', ifs', 0⟩] scope pos ∧ BlkOk X.N X.env.scope scope (ownOf c own) ∧ (ownOf c own).map (·.2) = own ∧ (∀ j ∈ t.slots, j ∈ own) ∧ (∀ j ∈ t'.slots, j ∈ own) ∧
      PI X tg iter (tIt (q.at X C) W (evIt (ev call clo n) it src)) ∧
      (∀ (s : Shared) (H : Hp) (D : Addr) (cl : List (Str × Addr)) (fp : List Addr), PG (X.blk s H scope (compEnvC scope cl D X.env) fp) tg (tgG X.K t)) ∧
      (∀ (s : Shared) (H : Hp) (D : Addr) (cl : List (Str × Addr)) (fp : List Addr), PTs (X.blk s H scope (compEnvC scope cl D X.env) fp) ifs (tIfs (q.at X C) W0 (evIfs (ev call clo n) xs))) ∧
      (∀ (s : Shared) (H : Hp) (D : Addr) (cl : List (Str × Addr)) (fp : List Addr), PI (X.blk s H scope (compEnvC scope cl D X.env) fp) tg' iter' (tIt (q.at X C) W0 (evIt (ev call clo n) it' src'))) ∧
      (∀ (s : Shared) (H : Hp) (D : Addr) (cl : List (Str × Addr)) (fp : List Addr), PG (X.blk s H scope (compEnvC scope cl D X.env) fp) tg' (tgG X.K t')) ∧
      (∀ (s : Shared) (H : Hp) (D : Addr) (cl : List (Str × Addr)) (fp : List Addr), PTs (X.blk s H scope (compEnvC scope cl D X.env) fp) ifs' (tIfs (q.at X C) W0 (evIfs (ev call clo n) xs'))) ∧
      (∀ (s : Shared) (H : Hp) (D : Addr) (cl : List (Str × Addr)) (fp : List Addr), PE (X.blk s H scope (compEnvC scope cl D X.env) fp) e (tG (q.at X C) W0 (evGive (ev call clo n) elt))) ∧
      (∀ x, foldedSetIterable iter X.env x = pure x) ∧ ∀ env x, foldedSetIterable iter' env x = pure x := by
  unfold cCmp2 at h
  split at h
  · next e tg iter ifs as tg' iter' ifs' as' scope pos =>
    simp only [Bool.and_eq_true, decide_eq_true_eq] at h
    obtain ⟨⟨⟨⟨⟨⟨⟨⟨⟨⟨⟨⟨rfl, rfl⟩, h1⟩, h2⟩, h3⟩, h4⟩, h5⟩, h6⟩, h7⟩, h8⟩, h9⟩, h10⟩, h11⟩ := h
    obtain ⟨hi, hf⟩ := it_of hs hv ft h1 n
    refine ⟨e, tg, iter, ifs, tg', iter', ifs', scope, pos, rfl, ?_, h4, own_all h5, own_all h6, hi, fun s H D cl fp => tg_of (ft.inner s H scope D cl fp) h7, fun s H D cl fp => ifs_of hs (ft.inner s H scope D cl fp) h9 n, fun s H D cl fp => ?_, fun s H D cl fp => tg_of (ft.inner s H scope D cl fp) h8,
      fun s H D cl fp => ifs_of hs (ft.inner s H scope D cl fp) h10 n, fun s H D cl fp => (give_of (hs C W0 (c.inner scope) _ (ft.inner s H scope D cl fp) e elt h11 n).1), hf X.env, fun env => ?_⟩
    · rw [ft.N, ft.sc]
      exact blkOk_by h3
    · exact (it_of hs hv (ft.inner s H scope D cl fp) h2 n).1
    · exact it_fold h2 env
  · cases h
theorem sCmp2 (hs : SoundAt q gl call clo d rec) (hv : VarAt rec) (ft : Fits q gl call clo d C W c X) {elt : E} {t t' : T} {it it' : It} {src xs src' xs' : List E} {own : List Nat} {a : Expr} (h : cCmp2 rec c elt t it src xs t' it' src' xs' own a = true) (n : Nat) :
    PE X a (tR (q.at X C) W fun e => tested false (eCmp2 (ev call clo n) elt t it src xs t' it' src' xs' own e)) ∧ PT X a (tB (q.at X C) W fun e => tested true (eCmp2 (ev call clo n) elt t it src xs t' it' src' xs' own e)) := by
  obtain ⟨e, tg, iter, ifs, tg', iter', ifs', scope, pos, rfl, ok, ho, ht, ht', hi, hg, hf, hi', hg', hf', he, s1, s2⟩ := cmp2_ok hs hv ft h n
  have hN : X.N.Nodup := by rw [ft.N]; exact ft.nd
  refine both (pe_of (pe_lc2 ft.calm hN hi ok (vs1 := t'.slots) (fun j hj => by rw [ho]; exact ht' j hj) hg hf hi' hg' hf' he s1 s2) fun σ H Q i => ?_) fun _ => rfl
  rw [ho]
  exact cmp2_key ht ht' i
theorem sDcm (hs : SoundAt q gl call clo d rec) (hv : VarAt rec) (ft : Fits q gl call clo d C W c X) {kx vx : E} {t : T} {it : It} {src xs : List E} {own : List Nat} {a : Expr} (h : cDcm rec c kx vx t it src xs own a = true) (n : Nat) :
    PE X a (tR (q.at X C) W fun e => tested false (eDcm (ev call clo n) kx vx t it src xs own e)) ∧ PT X a (tB (q.at X C) W fun e => tested true (eDcm (ev call clo n) kx vx t it src xs own e)) := by
  unfold cDcm at h
  split at h
  · next ke ve tg iter ifs as scope pos =>
    simp only [Bool.and_eq_true, decide_eq_true_eq] at h
    obtain ⟨⟨⟨⟨⟨⟨⟨⟨rfl, h1⟩, h2⟩, h3⟩, h4⟩, h5⟩, h6⟩, h7⟩, h8⟩ := h
    obtain ⟨hi, hf⟩ := it_of hs hv ft h1 n
    have hN : X.N.Nodup := by rw [ft.N]; exact ft.nd
    have ok : BlkOk X.N X.env.scope scope (ownOf c own) := by
      rw [ft.N, ft.sc]
      exact blkOk_by h2
    have hu := ft.units
    refine both (pe_of (pe_dcx (q := q) (C := C) (tg := tgG X.K t) (tt := tIfs (q.at X C) W0 (evIfs (ev call clo n) xs)) (tk := tG (q.at X C) W0 (evGive (ev call clo n) kx)) (tv := tG (q.at X C) W0 (evGive (ev call clo n) vx)) ft.calm (by omega) hN hi ok (fun s H D cl fp => tg_of (ft.inner s H scope D cl fp) h5) (fun s H D cl fp => ifs_of hs (ft.inner s H scope D cl fp) h6 n)
      (fun s H D cl fp => give_of (hs C W0 (c.inner scope) _ (ft.inner s H scope D cl fp) ke kx h7 n).1) (fun s H D cl fp => give_of (hs C W0 (c.inner scope) _ (ft.inner s H scope D cl fp) ve vx h8 n).1) (hf X.env)) fun σ H Q i => ?_) fun _ => rfl
    rw [h3]
    exact dcm_key (own_all h4) i
  · cases h
theorem sDcmI (hs : SoundAt q gl call clo d rec) (hv : VarAt rec) (ft : Fits q gl call clo d C W c X) {kx vx : E} {t : T} {it : It} {src xs : List E} {own : List Nat} {a : Expr} (h : cDcm rec c kx vx t it src xs own a = true) (n : Nat) :
    PE X a (tR (q.at X C) W fun e => tested false (eDcmI (ev call clo n) kx vx t it src xs own e)) ∧ PT X a (tB (q.at X C) W fun e => tested true (eDcmI (ev call clo n) kx vx t it src xs own e)) := by
  unfold cDcm at h
  split at h
  · next ke ve tg iter ifs as scope pos =>
    simp only [Bool.and_eq_true, decide_eq_true_eq] at h
    obtain ⟨⟨⟨⟨⟨⟨⟨⟨rfl, h1⟩, h2⟩, h3⟩, h4⟩, h5⟩, h6⟩, h7⟩, h8⟩ := h
    obtain ⟨hi, hf⟩ := it_of hs hv ft h1 n
    have hN : X.N.Nodup := by rw [ft.N]; exact ft.nd
    have ok : BlkOk X.N X.env.scope scope (ownOf c own) := by
      rw [ft.N, ft.sc]
      exact blkOk_by h2
    have hu := ft.units
    refine both (pe_of (pe_dc (g := tgG X.K t) (tt := tIfs (q.at X C) W0 (evIfs (ev call clo n) xs)) (tk := tG (q.at X C) W0 (evGive (ev call clo n) kx)) (tv := tG (q.at X C) W0 (evGive (ev call clo n) vx)) ft.calm hN hi ok (fun s H D cl fp => tg_of (ft.inner s H scope D cl fp) h5) (fun s H D cl fp => ifs_of hs (ft.inner s H scope D cl fp) h6 n)
      (fun s H D cl fp => give_of (hs C W0 (c.inner scope) _ (ft.inner s H scope D cl fp) ke kx h7 n).1) (fun s H D cl fp => give_of (hs C W0 (c.inner scope) _ (ft.inner s H scope D cl fp) ve vx h8 n).1) (hf X.env)) fun σ H Q i => ?_) fun _ => rfl
    rw [h3]
    exact dcmI_key (own_all h4) i
  · cases h
theorem dic_ok {pos : Pos} : PE X (.Dict [] [] pos) (tR (q.at X C) W (eDic [] [])) := by
  refine pe_of pe_dnewK fun σ H Q ⟨F, e, k, o⟩ p hp => ?_
  have hF : F p = none := by
    cases z : F p with
    | none => rfl
    | some u =>
      have y := k.sub p u z
      rw [hp] at y
      cases y
  have ps : Pst F H F (upd H p (.dK [])) := ⟨.refl _, k.sub.new2 hp, Sub.new hp, fun a ha => .inl ha⟩
  obtain ⟨s2, k2⟩ := ps.ok k
  refine (show ∀ v F' H', Stp F σ H e F' σ H' e → Ok (q.at X C) F' σ H' e → RsOk (q.at X C) (Bs σ H e) F' σ H' e v (.o (.dict [])) → Q v H' from o) (.ref p) F _ s2 k2 ?_
  exact NwOk.rs (r := .o (.dict [])) ⟨p, rfl, hp, hF, .inl ⟨[], [], [], upd_same, .nil, .nil, rfl⟩⟩ k s2 fun a h => .inr h
theorem sDic {ks vs : List E} {a : Expr} (h : cDic ks vs a = true) : PE X a (tR (q.at X C) W fun e => tested false (eDic ks vs e)) ∧ PT X a (tB (q.at X C) W fun e => tested true (eDic ks vs e)) := by
  unfold cDic at h
  split at h
  · exact both dic_ok fun _ => rfl
  · cases h
theorem sLcall {lm : Cc → Nat → Nat → List Nat → Expr → Bool} (hl : LamH q gl call clo d lm) (ft : Fits q gl call clo d C W c X) {k b : Nat} {free : List Nat} {a : Expr} (h : cLcall gl lm c k b free a = true) :
    PE X a (tR (q.at X C) W fun e => tested false (eLcall call k b free e)) ∧ PT X a (tB (q.at X C) W fun e => tested true (eLcall call k b free e)) := by
  unfold cLcall at h
  split at h
  · next f fp lam pos =>
    simp only [Bool.and_eq_true] at h
    obtain ⟨⟨⟨⟨h1, h2⟩, h3⟩, h4⟩, h5⟩ := h
    split at h4
    · next j hj =>
      have ej : j = k := eq_of_beq h4
      subst ej
      exact both (hl C W c X ft h2 h1 f j b free lam h3 hj h5 fp pos) fun _ => rfl
    · cases h4
  · cases h
end
section
variable {q : Qn} {gl : Str → Option Gn} {call : Nat → Env → Option CO} {clo : Nat → List (Option PyData) → Option CO} {d : Nat} {lm : Cc → Nat → Nat → List Nat → Expr → Bool}
theorem chk_var : ∀ m, VarAt (chk gl lm m)
  | 0 => fun c a i h => by cases h
  | m + 1 => fun c a i h => by
    have h' : cVar c i a = true := h
    unfold cVar at h'
    split at h'
    · exact ⟨_, _, rfl, h'⟩
    · cases h'
theorem chk_sound (hl : LamH q gl call clo d lm) : ∀ m, SoundAt q gl call clo d (chk gl lm m)
  | 0 => fun C W c X ft a x h n => by cases h
  | m + 1 => fun C W c X ft a x h n => by
    have hs := chk_sound hl m
    have hv := chk_var (gl := gl) (lm := lm) m
    cases n with
    | zero => exact ⟨pe_zero fun _ => rfl, pt_zero fun _ => rfl⟩
    | succ n =>
      have h' : stepC gl lm (chk gl lm m) c a x = true := h
      cases x with
      | var i =>
        obtain ⟨s, p, rfl, hn⟩ := chk_var (gl := gl) (lm := lm) (m + 1) c a i h
        exact ⟨var_ok (ft.name hn p), var_test (ft.name hn p)⟩
      | lit w =>
        cases w with
        | d y =>
          have h2 : cLit gl c y a = true := h'
          unfold cLit at h2
          split at h2
          · next k kk p =>
            refine both (m := fun e => some (.ok (.v (.d y)) e)) ?_ fun _ => rfl
            unfold conOk at h2
            split at h2
            · exact const_ok pe_non fun F => .non
            · next a b =>
              have e := eq_of_beq h2
              subst e
              exact const_ok pe_bl fun F => .bl _
            · next a b =>
              have e := of_decide_eq_true h2
              subst e
              exact const_ok pe_int fun F => .int _
            · next a b =>
              have e := of_decide_eq_true h2
              subst e
              exact const_ok pe_str fun F => .str _
            · cases h2
          · next s p =>
            rw [Bool.and_eq_true] at h2
            obtain ⟨h3, h4⟩ := h2
            obtain ⟨g1, g2⟩ := ft.glb h3
            split at h4
            · next z hz =>
              have e := same_ok _ _ h4
              subst e
              obtain ⟨v, u, m1, m2, m3⟩ := ft.cst s z hz
              exact both (m := fun e => some (.ok (.v (.d z)) e)) (const_ok (pe_glob g1 m1 m2 g2) m3) fun _ => rfl
            · cases h4
          · cases h2
        | _ => cases h'
      | prim p es => exact sPrim hs hv ft h' n
      | cut x l u => exact sCut hs hv ft h' n
      | tup es => exact sTup hs hv ft h' n
      | lst es => exact sLst hs hv ft h' n
      | bo b es => exact sBo hs ft h' n
      | no x => exact sNo hs hv ft h' n
      | ch p p' x y z => exact sCh hs hv ft h' n
      | ife x y z => exact sdIfe hs ft h' n
      | call k es => exact sCall hs hv ft h' n
      | capp i => exact sCapp ft h'
      | «mut» m i es => exact sMut hs ft h' n
      | cmp elt t it src xs own => exact sCmp hs hv ft h' n
      | cmp2 elt t it src xs t' it' src' xs' own => exact sCmp2 hs hv ft h' n
      | dcm kx vx t it src xs own => exact sDcm hs hv ft h' n
      | dcmI kx vx t it src xs own => exact sDcmI hs hv ft h' n
      | dic ks vs => exact sDic h'
      | lcall k b free => exact sLcall hl ft h'
      | _ => cases h'
end
end Ev
set_option Elab.async false
set_option linter.all false
set_option maxRecDepth 100000
set_option maxHeartbeats 2000000
/-! EvY: try with several clauses, some of them with a name. -/
namespace Ev
open PySem PySem.Spec PyProof.Rows L2
abbrev Su := Addr → Value → Option Addr → TS
/-- the ends behind a suite whose clause has a name -/
def endN : Option Nat → Ends → Ends
  | none, D => D
  | some i, D => ⟨fun z G => D.nx (z.set i none) G, D.rt, fun z G => D.bk (z.set i none) G, fun z G => D.ct (z.set i none) G⟩
def putN : Option Nat → Addr → L2.St → L2.St
  | none, _, σ => σ
  | some i, a, σ => σ.set i (some (.ref a))
/-- what the clauses ask of an error of the body -/
def wMix (K : W.Frag) (Wo : WX) (D : Ends) : List (Value × Option Nat × Su) → WX
  | [] => Wo
  | (k, n, su) :: r => fun cls d σ H => ∃ b, W.exmOne K cls k = some b ∧ (b = true → ∀ a, H a = none → su a cls d (endN n D) (putN n a σ) H) ∧ (b = false → wMix K Wo D r cls d σ H)
/-- a clause's name -/
def NameAt (X : Cx) : Option Str → Option Nat → Prop
  | none, none => True
  | some n, some i => X.N.Nodup ∧ X.N[i]? = some n ∧ X.env.kindOf n = some .local
  | _, _ => False
inductive MixOk (X : Cx) : List ExceptHandler → List (Value × Option Nat × Su) → Prop
  | nil : MixOk X [] []
  | cons {x : Str} {k : Value} {n : Option Str} {i : Option Nat} {su : Su} {b : Stmt} {bs : List Stmt} {p p' : Pos} {hs : List ExceptHandler} {l : List (Value × Option Nat × Su)} (hk : Names X x k) (hn : NameAt X n i)
      (hb : ∀ (a : Addr) (oe : Obj) (cls : Value) (d : Option Addr) (pn : List (Addr × Obj)), Zc cls d oe → (∃ vs, oe.data = .fields vs) → PSs (X.suite a ((a, oe) :: pn)) (b :: bs) (su a cls d)) (r : MixOk X hs l) :
      MixOk X (.ExceptHandler (some (.Name x p)) n (b :: bs) p' :: hs) ((k, i, su) :: l)
/-- an error on the ground: the heap h of the state s, behind the state z -/
structure Down (X : Cx) (pins : List (Addr × Obj)) (σ : L2.St) (H : Hp) (a : Addr) (cls : Value) (d : Option Addr) (B : Heap) (z s : Shared) (h : Heap) : Prop where
  inv : Inv X pins σ H z
  nb : ∀ b o, z.heap.get? b = some o → b ∉ frs X.stack → B.get? b = some o
  up : z.heap.UpToSlots h
  fly : HandSPX.FlyingZ B (X.env :: X.outer) a (Zc cls d) h
  na : H a = none
  os : s.os = z.os
  bare : AllBare s.gens
  nL : a ≠ X.env.locals
  nF : a ∉ X.fs
section
variable {X : Cx} {pins : List (Addr × Obj)} {σ : L2.St} {H : Hp} {a : Addr} {cls : Value} {d : Option Addr} {B h : Heap} {z s : Shared}
theorem Down.now (g : Down X pins σ H a cls d B z s h) : Inv X pins σ H { s with heap := h } := g.inv.landed (s' := { s with heap := h }) g.nb g.fly.1 g.up g.os g.bare
theorem Down.to {h' : Heap} (g : Down X pins σ H a cls d B z s h) (f : HandSPX.FlyingZ B (X.env :: X.outer) a (Zc cls d) h') (u : h.UpToSlots h') : Down X pins σ H a cls d B z s h' := { g with up := g.up.trans u, fly := f }
theorem Down.in_ (g : Down X pins σ H a cls d B z s h) : ∃ oe vs, h.get? a = some oe ∧ Zc cls d oe ∧ oe.data = .fields vs ∧ Inv (X.suite a ((a, oe) :: (X.pn ++ pins))) [] σ H { s with heap := h } := by
  obtain ⟨oe, vs, e1, e2, e3⟩ := g.fly.there
  exact ⟨oe, vs, e1, e2, e3, g.now.suite e1 e3 g.na g.nL g.nF⟩
/-- no clause takes it -/
theorem Down.off {Wo : WX} {D : Ends} (g : Down X pins σ H a cls d B z s h) (hs : X.stack = X.env :: X.outer) (hf : X.env.frame = some X.env.locals) (tk : L2.Takes X Wo) (w : Wo cls d σ H) :
    wpAny (model X.prog X.w) X.A (handleBy (.ref a) X.env []) (SP X pins D) X.xe { s with heap := h } := by
  refine wpAny_handleBy_nil ?_
  obtain ⟨_, _, _, oe, vs, T, _, _, he, _, hd, h1, _⟩ := id g.fly
  have up : wpAny (model X.prog X.w) X.A (setFlight (.ref a) X.env.frame) (fun _ q => wpAny (model X.prog X.w) X.A (throw (.ref a) : Sem Flow) (SP X pins D) X.xe q) X.xe { s with heap := h } := by
    rw [hf]
    exact HandSPX.setFlight_upZ g.fly fun h4 y4 u4 => wpAny_throw (tk _ _ ⟨a, B, z, pins, σ, H, cls, d, rfl, g.inv, g.nb, g.up.trans u4, .inr (.inr (hs ▸ y4)), g.na, g.os, g.bare, w⟩)
  unfold PySem.passOn
  refine wpAny_bind (wpAny_field he hd h1 ?_)
  rw [if_neg (by simp)]
  first
    | exact wpAny_bind up
    | exact wpAny_bind (wpAny_pure (wpAny_bind up))
/-- the clauses, one behind the other -/
theorem Down.go {Wo : WX} {D : Ends} (g : Down X pins σ H a cls d B z s h) (hs : X.stack = X.env :: X.outer) (hf : X.env.frame = some X.env.locals) (tk : L2.Takes X Wo) (ok : X.Ok) {hds : List ExceptHandler} {l : List (Value × Option Nat × Su)} (m : MixOk X hds l) :
    wMix X.K Wo D l cls d σ H → wpAny (model X.prog X.w) X.A (handleBy (.ref a) X.env hds) (SP X pins D) X.xe { s with heap := h } := by
  induction m with
  | nil => exact fun w => g.off hs hf tk w
  | @cons x k n i su b bs p p' hs' l' hk hn hb r ih =>
    rintro ⟨t, e1, yes, no⟩
    obtain ⟨oe, vs, he, hz, hd, S⟩ := g.in_
    have lt : W.Looks (model X.prog X.w) h (typeOf (.ref a)) cls := fun _ _ _ _ k q => wpAny_typeOf_ref (k _ _ he) (hz.1.symm ▸ q)
    have lm := W.exm_one (M := model X.prog X.w) g.now.kIn lt e1
    have name : ∀ {Q E : Value → Shared → Prop}, Q k { s with heap := h } → wpAny (model X.prog X.w) (X.A.mark (some (.ref a))) (eval (.Name x p) X.env) Q E { s with heap := h } := fun {Q E} q => by
      rcases hk with ⟨hg, hdb, hm | ⟨hm, hv, hnn⟩⟩
      · exact ld_glob (X := X.suite a ((a, oe) :: (X.pn ++ pins))) S hg hm q hdb
      · exact ld_blt (X := X.suite a ((a, oe) :: (X.pn ++ pins))) S hg hm hv q hnn hdb
    refine wpAny_handleBy_cons (codeAny_handlers_test (name (lm.here ?_))) (by intro q; cases q)
    cases t with
    | false => exact ih (no rfl)
    | true =>
      have w := yes rfl a g.na
      match n, i, hn with
      | none, none, _ =>
        refine codeAny_handlers_suite (HandSPX.lands_againZ g.fly fun h4 y4 u4 => ?_)
        obtain ⟨oe4, vs4, _, hz4, hd4, S4⟩ := (g.to y4 u4).in_
        refine wpAny_mono ((hb a oe4 cls d (X.pn ++ pins) hz4 ⟨_, hd4⟩).run [] _ _ H _ S4 w) (fun f q hq => ?_) fun _ _ y => y.elim
        cases f with
        | ret u => exact let ⟨v, σ', H', J, r', o'⟩ := hq; ⟨v, σ', H', J.unsuite ok, r', o'⟩
        | next => exact let ⟨σ', H', J, o'⟩ := hq; ⟨σ', H', J.unsuite ok, o'⟩
        | brk => exact let ⟨σ', H', J, o'⟩ := hq; ⟨σ', H', J.unsuite ok, o'⟩
        | cont => exact let ⟨σ', H', J, o'⟩ := hq; ⟨σ', H', J.unsuite ok, o'⟩
      | some n, some i, ⟨nd, hi, hl⟩ =>
        refine codeAny_handlers_suite_as (HandSPX.lands_againZ g.fly fun h4 y4 u4 => ?_)
        obtain ⟨oe4, vs4, _, hz4, hd4, S4⟩ := (g.to y4 u4).in_
        refine store_ok (X := X.suite a ((a, oe4) :: (X.pn ++ pins))) (v := .ref a) S4 nd hi (.inl hl) rfl (fun s5 S5 => ?_) (.inr hl)
        refine wpAny_mono ((hb a oe4 cls d (X.pn ++ pins) hz4 ⟨_, hd4⟩).run [] s5 _ H _ S5 w) (fun f q hq => ?_) fun _ _ y => y.elim
        have fin : ∀ {σ' : L2.St} {H' : Hp} {Q : Shared → Prop}, Inv (X.suite a ((a, oe4) :: (X.pn ++ pins))) [] σ' H' q → (∀ q', Inv X pins (σ'.set i none) H' q' → Q q') →
            wpAny (model X.prog X.w) X.A (do bindName X.env n .none; unbindBehindTheSuite X.env n p') (fun _ q' => Q q') X.xe q := fun J k => gone_ok (J.unsuite ok) nd hi hl k
        cases f with
        | ret u => exact let ⟨v, σ', H', J, r', o'⟩ := hq; fin J fun q' J' => ⟨v, _, H', J', r', o'⟩
        | next => exact let ⟨σ', H', J, o'⟩ := hq; fin J fun q' J' => ⟨_, H', J', o'⟩
        | brk => exact let ⟨σ', H', J, o'⟩ := hq; fin J fun q' J' => ⟨_, H', J', o'⟩
        | cont => exact let ⟨σ', H', J, o'⟩ := hq; fin J fun q' J' => ⟨_, H', J', o'⟩
/-- try, with any such clauses -/
theorem ps_try_mix {body : List Stmt} {h0 : ExceptHandler} {hds : List ExceptHandler} {l : List (Value × Option Nat × Su)} {pos : Pos} {tb : WX → TS} {Wo : WX} (hs : X.stack = X.env :: X.outer) (hf : X.env.frame = some X.env.locals) (tk : L2.Takes X Wo)
    (hb : ∀ (W : WX) (pn : List (Addr × Obj)) (xe : Value → Shared → Prop), L2.Takes (X.tr pn xe) W → PassesOwn (model X.prog X.w) X.A X.env xe → PSs (X.tr pn xe) body (tb W)) (m : MixOk X (h0 :: hds) l) :
    PS X (.Try body (h0 :: hds) [] [] pos) (fun D σ H => tb (wMix X.K Wo D l) D σ H) := by
  refine ⟨fun pins s σ H D I q => wpAny_Try_except ?_⟩
  have ok := I.ok
  have fr : X.A.frames = some (X.env :: X.outer) := ok.frames.trans (congrArg some hs)
  have hb' := hb (wMix X.K Wo D l) (X.pn ++ pins) (fun e z => wpAny (model X.prog X.w) X.A (noteFrame e X.env) (fun _ z => wpAny (model X.prog X.w) X.A (setFlight e none) (fun _ z => wpAny (model X.prog X.w) X.A (handleBy e X.env (h0 :: hds)) (SP X pins D) X.xe z) X.xe z) X.xe z)
    (fun u z xx => by
      obtain ⟨a, B, sI, pins', σ', H', cls, d, rfl, J, nb, up, sky, na, os, bare, w⟩ := xx
      refine Sky.land Zc.steady fr hf (hs ▸ sky) fun h3 y3 u3 => ?_
      obtain ⟨oe, vs, he, _, hd⟩ := y3.there
      have nfr : a ∉ frs (X.env :: X.outer) := fun hm => by
        obtain ⟨_, o, eo, nf⟩ := y3.2.2.1.mem hm
        rw [he] at eo
        cases eo
        exact nf _ hd
      have g : Down X pins σ' H' a cls d B sI z h3 := ⟨J.ofTry ok, nb, up.trans u3, y3, na, os, bare, fun y => nfr (List.mem_filterMap.mpr ⟨X.env, .head _, hf.trans (congrArg some y.symm)⟩), fun hm => by
        obtain ⟨e, he, y⟩ := List.mem_filterMap.mp hm
        exact nfr (List.mem_filterMap.mpr ⟨e, .tail _ he, y⟩)⟩
      exact g.go hs hf tk ok m w) PassesOwn.looking
  refine wpAny_mono (hb'.run [] s σ H D (I.toTry _) q) (fun f z hz => ?_) fun _ _ y => y
  cases f with
  | next => exact let ⟨σ', H', J, o⟩ := hz; wpAny_execs_nil ⟨σ', H', J.ofTry ok, o⟩
  | ret u => exact let ⟨v, σ', H', J, r, o⟩ := hz; ⟨v, σ', H', J.ofTry ok, r, o⟩
  | brk => exact let ⟨σ', H', J, o⟩ := hz; ⟨σ', H', J.ofTry ok, o⟩
  | cont => exact let ⟨σ', H', J, o⟩ := hz; ⟨σ', H', J.ofTry ok, o⟩
end
end Ev
set_option Elab.async false
set_option linter.all false
set_option maxRecDepth 100000
set_option maxHeartbeats 2000000
/-! EvZ: try checked. -/
namespace Ev
open PySem PySem.Spec PyProof.Rows L2
/-! ### what suites give back -/
def hAtom (c : Cc) (fl : Option Str) (ni : Option Nat) : Expr → E → Bool
  | .Constant (.str m) _ _, .lit (.d (.str m')) => decide (m = m')
  | .Attribute (.Name s _) f _, .prim .fld [.var i] => nmOk c i s && decide (ni = some i) && decide (fl = some f)
  | _, _ => false
/-- repr of an atom, a tuple of one -/
def hOne (c : Cc) (fl : Option Str) (ni : Option Nat) : Expr → E → Bool
  | .Call (.Name f _) [a] [] _, .prim .repr [x] => decide (f = "repr") && glOk c f && hAtom c fl ni a x
  | .Tuple [a] _ _, .tup [x] => hAtom c fl ni a x
  | a, x => hAtom c fl ni a x
def hSum (c : Cc) (fl : Option Str) (ni : Option Nat) : Expr → E → Bool
  | .BinOp a .Add b _, .prim .add [x, y] => hOne c fl ni a x && hOne c fl ni b y
  | a, x => hOne c fl ni a x
def hChk (c : Cc) (fl : Option Str) (ni : Option Nat) : Expr → E → Bool
  | .Tuple [a, b] _ _, .tup [x, y] => hSum c fl ni a x && hSum c fl ni b y
  | a, x => hSum c fl ni a x
/-- what suites need to know of their place -/
structure ReprF (c : Cc) (X : Cx) : Prop where
  gd : X.A.guards = some []
  un : X.A.units + 70 < cLine
  bl : X.mg "repr" = none
  gl : ∀ s, glOk c s = true → Gl X s ∧ (s == ("__debug__" : Str)) = false
/-- the classes of errors, as the evaluator knows them -/
structure TryF (q : Qn) (K : W.Frag) (sub : Nat → Nat → Bool) : Prop where
  one : ∀ c h a b, q.ca c = some a → q.ca h = some b → W.exmOne K (.ref a) (.ref b) = some (sub c h)
  fld : ∀ c h f, q.fld c = some f → sub c h = true → q.fld h = some f
  xf : ∀ c a f, q.ca c = some a → q.fld c = some f → XfC K a ∧ W.findIn K (.ref a) f = some none
section
variable {q : Qn} {X : Cx} {C : V → Wd → Hp → Prop} {sub : Nat → Nat → Bool} {c : Cc} {a : Addr} {cls : Value} {d : Option Addr} {k h : Nat} {v : Option PyData} {ni : Option Nat} {oe : Obj} {pn : List (Addr × Obj)}
/-- a suite's value: z -/
def tH (g : G) (a : Addr) (cls : Value) (d : Option Addr) (k : Nat) (v : Option PyData) (ni : Option Nat) (z : PyData) : TE := fun σ H Q => ∃ F e, Ok g F σ H e ∧ ExOk g F cls d k v ∧ (∀ i, ni = some i → slot σ i = some (.ref a)) ∧ ∀ v' F' H', Pst F H F' H' → Rep g F' v' z → Q v' H'
theorem ExOk.mono {g : G} {F F' : Hp} (x : ExOk g F cls d k v) (s : Sub F F') : ExOk g F' cls d k v := by
  obtain ⟨b, h1, h2, h3⟩ := x
  refine ⟨b, h1, h2, ?_⟩
  cases v with
  | none => exact h3
  | some y =>
    obtain ⟨d, u, f, e1, e2, e3, e4⟩ := h3
    exact ⟨d, u, f, e1, e2, s _ _ e3, e4.mono s⟩
theorem hAtom_ok (T : TryF q X.K sub) (hX : X.N = c.N) (hsc : X.env.scope = c.sc) (hs : sub k h = true) (hz : Zc cls d oe) (hf : ∃ vs, oe.data = .fields vs) {x : Expr} {y : E} {z : PyData} (hc : hAtom c (q.fld h) ni x y = true) (e : evH v y = some z) :
    PE (X.suite a ((a, oe) :: pn)) x (tH (q.at X C) a cls d k v ni z) := by
  unfold hAtom at hc
  split at hc
  · next m _ _ m' =>
    have e1 : m = m' := by simpa using hc
    subst e1
    have e2 : z = .str m := by cases e; rfl
    subst e2
    refine pe_of pe_str fun σ H Q ⟨F, e', k1, _, _, n⟩ => n _ F H (.refl k1.sub) (.str _)
  · next s p f p2 i =>
    simp only [Bool.and_eq_true, decide_eq_true_eq] at hc
    obtain ⟨⟨h1, h2⟩, h3⟩ := hc
    have ev : v = some z := e
    subst ev
    unfold nmOk at h1
    simp only [Bool.and_eq_true, decide_eq_true_eq, Bool.not_eq_true'] at h1
    obtain ⟨⟨⟨n1, n2⟩, n3⟩, n4⟩ := h1
    have hv : Vis X.env.scope s := by
      rw [hsc]
      exact vis_of rfl n2
    have hN : X.N[i]? = some s := by rw [hX]; exact n1
    refine ⟨fun pins s0 σ H Q I hh => ?_⟩
    obtain ⟨F, e', k1, xo, sl, fin⟩ := hh
    obtain ⟨ac, g1, rfl, d0, u, f', rfl, g3, g4, g5⟩ := xo
    have g6 : q.fld h = some f' := T.fld k h f' g3 hs
    have ef : f' = f := by
      rw [h3] at g6
      exact (Option.some.inj g6).symm
    subst ef
    obtain ⟨x1, x2⟩ := T.xf k ac f' g1 g3
    refine (pe_xf (n := f') x1 x2 hz hf (pe_var (X := X.suite a ((a, oe) :: pn)) hN hv n3 n4)).run pins s0 σ H Q I ⟨.ref a, ?_, rfl, rfl, d0, [(f', u)], u, rfl, k1.sub _ _ g4, ?_, fin u F H (.refl k1.sub) g5⟩
    · exact slot_iff.mp (sl i h2)
    · simp [List.lookup]
  · cases hc
theorem pst_tup {F H : Hp} {p : Addr} {vs : List V} (s : Sub F H) (hp : H p = none) : Pst F H (upd F p (.tup vs)) (upd H p (.tup vs)) := by
  have hF : F p = none := by
    cases z : F p with
    | none => rfl
    | some u =>
      have y := s p u z
      rw [hp] at y
      cases y
  refine ⟨Sub.new hF, s.both, Sub.new hp, fun b hb => ?_⟩
  by_cases z : b = p
  · rw [z]
    exact .inr hp
  · rw [upd_ne z] at hb
    exact .inl hb
theorem pst_two {F H F1 H1 F2 H2 : Hp} (a : Pst F H F1 H1) (b : Pst F1 H1 F2 H2) : Pst F H F2 H2 :=
  ⟨a.fz.trans b.fz, b.sub, a.keep.trans b.keep, fun x hx => by
    rcases b.new x hx with z | z
    · exact a.new x z
    · cases y : H x with
      | none => exact .inr rfl
      | some u =>
        rw [a.keep x u y] at z
        cases z⟩
theorem hAtom_ns {x : Expr} {y : E} {fl : Option Str} (hc : hAtom c fl ni x y = true) : NoStar x := by
  cases x <;> first | trivial | cases hc
theorem hOne_ns {x : Expr} {y : E} {fl : Option Str} (hc : hOne c fl ni x y = true) : NoStar x := by
  cases x <;> first | trivial | cases hc
theorem hSum_ns {x : Expr} {y : E} {fl : Option Str} (hc : hSum c fl ni x y = true) : NoStar x := by
  cases x <;> first | trivial | cases hc
theorem hOne_ok (T : TryF q X.K sub) (Z : ReprF c X) (hX : X.N = c.N) (hsc : X.env.scope = c.sc) (hs : sub k h = true) (hz : Zc cls d oe) (hf : ∃ vs, oe.data = .fields vs) {x : Expr} {y : E} {z : PyData} (hc : hOne c (q.fld h) ni x y = true) (e : evH v y = some z) :
    PE (X.suite a ((a, oe) :: pn)) x (tH (q.at X C) a cls d k v ni z) := by
  unfold hOne at hc
  split at hc
  · next f _ x1 _ y1 =>
    simp only [Bool.and_eq_true, decide_eq_true_eq] at hc
    obtain ⟨⟨rfl, h1⟩, h2⟩ := hc
    obtain ⟨g1, g2⟩ := Z.gl _ h1
    cases e1 : evH v y1 with
    | none => rw [evH, e1] at e; cases e
    | some z1 =>
      have e' : (match P.run .repr [.d z1] with | some (.v (.d z)) => some z | _ => none) = some z := by
        rw [evH, e1] at e
        exact e
      have hr : P.run .repr [.d z1] = some (.v (.d z)) ∧ True := by
        split at e'
        · next z2 hz2 =>
          cases e'
          exact ⟨hz2, trivial⟩
        · cases e'
      have h3 := hAtom_ok (C := C) (a := a) (pn := pn) T hX hsc hs hz hf h2 e1
      have hcall : CallR (X.suite a ((a, oe) :: pn)) (.builtin "repr") (rP (q.at X C) .repr) := p_repr (q := q) (C := C) (X := X.suite a ((a, oe) :: pn)) Z.gd Z.un
      refine pe_of (pe_callB hcall g1 Z.bl (by decide +kernel) (pa_cons h3 pa_nil (star_cons (hAtom_ns h2))) (by decide) g2 (star_cons (hAtom_ns h2)) rfl) fun σ H Q ⟨F, e', k1, xo, sl, fin⟩ => ⟨F, e', k1, xo, sl, fun v1 F1 H1 p1 r1 => ⟨F1, [.d z1], .v (.d z), p1.sub, .cons (TopW.of p1.sub (w := .d z1) r1) .nil, hr.1, fun v2 F2 H2 p2 nw => fin v2 F2 H2 (pst_two p1 p2) nw⟩⟩
  · next x1 _ _ y1 =>
    cases e1 : evH v y1 with
    | none => rw [evH, e1] at e; cases e
    | some z1 =>
      rw [evH, e1] at e
      have e2 : z = .tuple [z1] := (Option.some.inj e).symm
      subst e2
      have h1 := hAtom_ok (C := C) (a := a) (pn := pn) T hX hsc hs hz hf hc e1
      refine pe_of (pe_tup (pa_cons h1 pa_nil (star_cons (hAtom_ns hc)))) fun σ H Q ⟨F, e', k1, xo, sl, fin⟩ => ⟨F, e', k1, xo, sl, fun v1 F1 H1 p1 r1 => ⟨?_, fun p hp => ?_⟩⟩
      · show 1 ≤ sizeLine
        rw [sizeLine_eq]
        omega
      · have p2 := pst_tup (vs := [v1]) p1.sub hp
        exact fin (.ref p) _ _ (pst_two p1 p2) (.tup (.inl (.inl upd_same)) (.cons (r1.mono p2.fz) .nil))
  · exact hAtom_ok T hX hsc hs hz hf hc e
theorem hSum_ok (T : TryF q X.K sub) (Z : ReprF c X) (hX : X.N = c.N) (hsc : X.env.scope = c.sc) (hs : sub k h = true) (hz : Zc cls d oe) (hf : ∃ vs, oe.data = .fields vs) {x : Expr} {y : E} {z : PyData} (hc : hSum c (q.fld h) ni x y = true) (e : evH v y = some z) :
    PE (X.suite a ((a, oe) :: pn)) x (tH (q.at X C) a cls d k v ni z) := by
  unfold hSum at hc
  split at hc
  · next x1 x2 _ y1 y2 =>
    rw [Bool.and_eq_true] at hc
    obtain ⟨c1, c2⟩ := hc
    cases e1 : evH v y1 with
    | none => rw [evH, e1] at e; cases e
    | some z1 =>
      cases e2 : evH v y2 with
      | none => rw [evH, e1, e2] at e; cases e
      | some z2 =>
        have e' : (match P.run .add [.d z1, .d z2] with | some (.v (.d z)) => some z | _ => none) = some z := by
          rw [evH, e1, e2] at e
          exact e
        have hr : P.run .add [.d z1, .d z2] = some (.v (.d z)) ∧ True := by
          split at e'
          · next z2 hz2 =>
            cases e'
            exact ⟨hz2, trivial⟩
          · cases e'
        have h1 := hOne_ok (C := C) (a := a) (pn := pn) T Z hX hsc hs hz hf c1 e1
        have h2 := hOne_ok (C := C) (a := a) (pn := pn) T Z hX hsc hs hz hf c2 e2
        have hop : OpR (X.suite a ((a, oe) :: pn)) (binaryOp .Add) (rP2 (q.at X C) .add) := p_add (q := q) (C := C) (X := X.suite a ((a, oe) :: pn))
        refine pe_of (pe_op hop h1 h2) fun σ H Q ⟨F, e', k1, xo, sl, fin⟩ => ⟨F, e', k1, xo, sl, fun v1 F1 H1 p1 r1 => ⟨F1, e', (p1.ok k1).2, xo.mono p1.fz, sl, fun v2 F2 H2 p2 r2 => ⟨F2, [.d z1, .d z2], .v (.d z), p2.sub, .cons (TopW.of p2.sub (w := .d z1) (r1.mono p2.fz)) (.cons (TopW.of p2.sub (w := .d z2) r2) .nil), hr.1, fun v3 F3 H3 p3 nw => fin v3 F3 H3 (pst_two (pst_two p1 p2) p3) nw⟩⟩⟩
  · exact hOne_ok T Z hX hsc hs hz hf hc e
theorem hChk_ok (T : TryF q X.K sub) (Z : ReprF c X) (hX : X.N = c.N) (hsc : X.env.scope = c.sc) (hs : sub k h = true) (hz : Zc cls d oe) (hf : ∃ vs, oe.data = .fields vs) {x : Expr} {y : E} {z : PyData} (hc : hChk c (q.fld h) ni x y = true) (e : evH v y = some z) :
    PE (X.suite a ((a, oe) :: pn)) x (tH (q.at X C) a cls d k v ni z) := by
  unfold hChk at hc
  split at hc
  · next x1 x2 _ _ y1 y2 =>
    rw [Bool.and_eq_true] at hc
    obtain ⟨c1, c2⟩ := hc
    cases e1 : evH v y1 with
    | none => rw [evH, e1] at e; cases e
    | some z1 =>
      cases e2 : evH v y2 with
      | none => rw [evH, e1, e2] at e; cases e
      | some z2 =>
        rw [evH, e1, e2] at e
        have e3 : z = .tuple [z1, z2] := (Option.some.inj e).symm
        subst e3
        have h1 := hSum_ok (C := C) (a := a) (pn := pn) T Z hX hsc hs hz hf c1 e1
        have h2 := hSum_ok (C := C) (a := a) (pn := pn) T Z hX hsc hs hz hf c2 e2
        refine pe_of (pe_tup (pa_cons h1 (pa_cons h2 pa_nil (star_cons (hSum_ns c2))) (star_cons (hSum_ns c1)))) fun σ H Q ⟨F, e', k1, xo, sl, fin⟩ => ⟨F, e', k1, xo, sl, fun v1 F1 H1 p1 r1 => ⟨F1, e', (p1.ok k1).2, xo.mono p1.fz, sl, fun v2 F2 H2 p2 r2 => ⟨?_, fun p hp => ?_⟩⟩⟩
        · show 2 ≤ sizeLine
          rw [sizeLine_eq]
          omega
        · have p3 := pst_tup (vs := [v1, v2]) p2.sub hp
          exact fin (.ref p) _ _ (pst_two (pst_two p1 p2) p3) (.tup (.inl (.inl upd_same)) (.cons (r1.mono (p2.fz.trans p3.fz)) (.cons (r2.mono p3.fz) .nil)))
  · exact hSum_ok T Z hX hsc hs hz hf hc e
/-- a suite's name stored -/
theorem nm_ok {g : G} {F H : Hp} {σ : L2.St} {e e2 : Env} (k1 : Ok g F σ H e) (hu : unName ni e = some e2) : Stp F σ H e F (putN ni a σ) H e2 ∧ Ok g F (putN ni a σ) H e2 ∧ ∀ i, ni = some i → slot (putN ni a σ) i = some (.ref a) := by
  cases ni with
  | none =>
    cases hu
    exact ⟨.refl, k1, fun i z => by cases z⟩
  | some i =>
    have un : ∃ s0, e[i]? = some s0 ∧ (s0 = .un ∨ ∃ w, s0 = .va w) ∧ e2 = e.set i .un := by
      have hu' : (match e[i]? with | some .un => some e | some (.va _) => some (e.set i .un) | _ => none) = some e2 := hu
      clear hu
      have hu := hu'
      clear hu'
      split at hu
      · next h0 =>
        cases hu
        refine ⟨.un, h0, .inl rfl, ?_⟩
        refine (List.ext_getElem? fun j => ?_)
        by_cases hj : i = j
        · subst hj
          rw [List.getElem?_set_self (List.getElem?_eq_some_iff.mp h0).1, h0]
        · rw [List.getElem?_set_ne hj]
      · next w h0 =>
        cases hu
        exact ⟨_, h0, .inr ⟨w, rfl⟩, rfl⟩
      · cases hu
    obtain ⟨s0, h0, h1, rfl⟩ := un
    have hl : i < e.length := (List.getElem?_eq_some_iff.mp h0).1
    have hls : i < σ.length := k1.len ▸ hl
    have other : ∀ {j : Nat} {s : Sl}, (e.set i .un)[j]? = some s → s ≠ .un → i ≠ j ∧ e[j]? = some s ∧ slot (putN (some i) a σ) j = slot σ j := fun {j s} hj hs => by
      by_cases hij : i = j
      · subst hij
        rw [List.getElem?_set_self hl] at hj
        exact absurd (Option.some.inj hj).symm hs
      · rw [List.getElem?_set_ne hij] at hj
        refine ⟨hij, hj, ?_⟩
        show ((σ.set i (some (.ref a)))[j]?).join = _
        rw [List.getElem?_set_ne hij]
        rfl
    have own : ∀ b, Own (putN (some i) a σ) (e.set i .un) b → Own σ e b := fun b ⟨j, s, hj, os, pj⟩ => by
      obtain ⟨_, h2, h3⟩ := other hj (fun z => by rw [z] at os; cases os)
      exact ⟨j, s, h2, os, h3 ▸ pj⟩
    refine ⟨⟨.refl F, fun _ _ z _ _ => z, fun _ z => z, fun _ z => .inl z, fun b z => .inl (own b z), fun j s hj ls => ?_⟩, ⟨k1.sub, ?_, fun j s hj => ?_, fun j l s t b hjl hj hl' oj ol pj => ?_, k1.tab⟩, fun j z => ?_⟩
    · have hij : i ≠ j := fun z => by
        subst z
        rw [h0] at hj
        cases hj
        rcases h1 with z | ⟨w, z⟩
        · rw [z] at ls; cases ls
        · rw [z] at ls; cases ls
      refine ⟨?_, s, by rw [List.getElem?_set_ne hij]; exact hj, (by cases s <;> first | rfl | trivial | exact ⟨_, .inl rfl⟩)⟩
      show ((σ.set i (some (.ref a)))[j]?).join = _
      rw [List.getElem?_set_ne hij]
      rfl
    · rw [List.length_set, k1.len]
      exact (List.length_set).symm
    · by_cases hs : s = .un
      · rw [hs]
        trivial
      · obtain ⟨_, h2, h3⟩ := other hj hs
        rw [h3]
        exact k1.pl j s h2
    · obtain ⟨_, h2, h3⟩ := other hj (fun z => by rw [z] at oj; cases oj)
      obtain ⟨_, h4, h5⟩ := other hl' (fun z => by rw [z] at ol; cases ol)
      rw [h3] at pj
      rw [h5]
      exact k1.apart j l s t b hjl h2 h4 oj ol pj
    · cases z
      show ((σ.set i (some (.ref a)))[i]?).join = _
      rw [List.getElem?_set_self hls]
      rfl
end
end Ev
set_option Elab.async false
set_option linter.all false
set_option maxRecDepth 100000
set_option maxHeartbeats 2000000
/-! EvZa: try checked. -/
namespace Ev
open PySem PySem.Spec PyProof.Rows L2
def cName (c : Cc) : Option Str → Option Nat → Bool
  | none, none => true
  | some s, some j => decide (c.N[j]? = some s) && decide (c.sc.names.lookup s = some .local)
  | _, _ => false
def cHs (gl : Str → Option Gn) (c : Cc) : List ExceptHandler → List (Nat × Option Nat × E) → Bool
  | [], [] => true
  | .ExceptHandler (some (.Name x _)) n [.Return (some b) _] _ :: hs, (h, i, y) :: l => glOk c x && (match gl x with | some (.exc h' f) => decide (h' = h) && hChk c f i b y | _ => false) && cName c n i && cHs gl c hs l
  | _, _ => false
section
variable {q : Qn} {gl : Str → Option Gn} {call : Nat → Env → Option CO} {clo : Nat → List (Option PyData) → Option CO} {sub : Nat → Nat → Bool} {d : Nat}
variable {C : V → Wd → Hp → Prop} {W : WX} {c : Cc} {X : Cx}
/-- what is left to say of a caught error's clauses -/
def After (g : G) (sub : Nat → Nat → Bool) (W : WX) (D : Ends) (k : Nat) (v : Option PyData) (e : Env) (l : List (Nat × Option Nat × E)) (cls : Value) (dd : Option Addr) (F : Hp) (σ : L2.St) (H : Hp) : Prop :=
  match handle sub k l with
  | none => W cls dd σ H
  | some (n, y) => ∃ z e2, evH v y = some z ∧ unName n e = some e2 ∧ ∀ v' F2 σ2 H2, Stp F σ H e F2 σ2 H2 e2 → Ok g F2 σ2 H2 e2 → Rep g F2 v' z → D.rt v' H2
theorem mix_of (T : TryF q X.K sub) (ft : Fits q gl call clo d C W c X) : ∀ (hs : List ExceptHandler) (l : List (Nat × Option Nat × E)), cHs gl c hs l = true → ∃ L, MixOk X hs L ∧
    ∀ (W : WX) (D : Ends) (k : Nat) (v : Option PyData) (e : Env) (cls : Value) (dd : Option Addr) (F : Hp) (σ : L2.St) (H : Hp), Ok (q.at X C) F σ H e → ExOk (q.at X C) F cls dd k v → After (q.at X C) sub W D k v e l cls dd F σ H → wMix X.K W D L cls dd σ H
  | [], [], _ => ⟨[], .nil, fun W D k v e cls dd F σ H _ _ h => h⟩
  | [], _ :: _, h => by cases h
  | hh :: hs, [], h => by unfold cHs at h; split at h <;> simp_all
  | hh :: hs, (h, i, y) :: l, hc => by
    unfold cHs at hc
    split at hc
    · next z1 z2 => cases z1
    · next x p n b p1 p2 hs' h' i' y' l' e1 e2 =>
      cases e1
      cases e2
      simp only [Bool.and_eq_true] at hc
      obtain ⟨⟨⟨h1, h2⟩, h3⟩, h4⟩ := hc
      obtain ⟨L, m, use⟩ := mix_of T ft hs l h4
      obtain ⟨hg, hdb⟩ := ft.glb h1
      split at h2
      · next h'' f hz =>
        rw [Bool.and_eq_true, decide_eq_true_eq] at h2
        obtain ⟨rfl, h2⟩ := h2
        obtain ⟨b0, m1, m2, m3⟩ := ft.exs x h'' f hz
        have ff : q.fld h'' = f := by
          cases f with
          | none => exact m3.1
          | some f => exact m3.1
        have hn : NameAt X n i := by
          cases n with
          | none => cases i <;> first | trivial | cases h3
          | some s =>
            cases i with
            | none => cases h3
            | some j =>
              have h3' : (decide (c.N[j]? = some s) && decide (c.sc.names.lookup s = some .local)) = true := h3
              simp only [Bool.and_eq_true, decide_eq_true_eq] at h3'
              refine ⟨by rw [ft.N]; exact ft.nd, by rw [ft.N]; exact h3'.1, ?_⟩
              show X.env.scope.names.lookup s = _
              rw [ft.sc]
              exact h3'.2
        refine ⟨(.ref b0, i, fun a cls dd D σ H => ∃ k v z, sub k h'' = true ∧ evH v y = some z ∧ tH (q.at X C) a cls dd k v i z σ H D.rt) :: L, .cons ⟨hg, hdb, .inl m1⟩ hn (fun a oe cls dd pn hz' hf => ⟨fun pins s σ H D I ⟨k, v, z, s1, s2, s3⟩ => ?_⟩) m, fun W D k v e cls dd F σ H k1 xo af => ?_⟩
        · have he := hChk_ok (C := C) (a := a) (pn := pn) (k := k) T ⟨ft.gd, ft.units5, ft.blt _ (by simp [blts]), fun s hs => ft.glb hs⟩ ft.N ft.sc s1 hz' hf (ff ▸ h2) s2
          exact (pss_cons (ps_ret he) pss_nil).run pins s σ H D I s3
        · obtain ⟨ac, g1, g2, g3⟩ := id xo
          refine ⟨sub k h'', by rw [g2]; exact T.one k h'' ac b0 g1 m2, fun hs1 a na => ?_, fun hs0 => ?_⟩
          · unfold After handle at af
            rw [if_pos hs1] at af
            obtain ⟨z, e2, a1, a2, a3⟩ := af
            obtain ⟨t1, t2, t3⟩ := nm_ok (a := a) k1 a2
            refine ⟨k, v, z, hs1, a1, F, e2, t2, xo, t3, fun v' F' H' ps r => ?_⟩
            have y1 : (endN i D).rt v' H' ↔ D.rt v' H' := by cases i <;> exact Iff.rfl
            obtain ⟨u1, u2⟩ := ps.ok t2
            exact y1.mpr (a3 v' F' _ H' (t1.trans u1) u2 r)
          · refine use W D k v e cls dd F σ H k1 xo ?_
            unfold After handle at af
            rw [if_neg (by rw [hs0]; exact Bool.false_ne_true)] at af
            exact af
      · cases h2
    · cases hc
end
end Ev
set_option Elab.async false
set_option linter.all false
set_option maxRecDepth 100000
set_option maxHeartbeats 2000000
/-! EvZb: a, b = x, y. -/
namespace Ev
open PySem PySem.Spec PyProof.Rows L2
def isSt : Expr → Bool
  | .Starred _ _ => true | _ => false
/-- two names on one line, two values that are not folded -/
def parB (c : Cc) (i j : Nat) (x y : Str) (px py : Pos) (a b : Expr) : Bool :=
  decide (c.N[i]? = some x) && decide (c.N[j]? = some y) && !decide (i = j) && decide (c.sc.names.lookup x = some .local) && decide (c.sc.names.lookup y = some .local) && decide (c.sc.kind = .function) && (px.line == py.line) && !(x == y) && !(y == x) &&
    !isSt a && !isSt b && !([a, b].all (foldedForSure 8)) && !([a, b].all (constantsAlone 8))
section
variable {q : Qn} {X : Cx} {C : V → Wd → Hp → Prop} {W : WX} {rv : Ev} {c : Cc}
theorem sw_par {i j : Nat} {x y : Str} {px py pt pt2 : Pos} {kt k2 : Nat} {a b : Expr} {env : PySem.Env} (h : parB c i j x y px py a b = true) (hs : env.scope = c.sc) :
    swappedStores [.Tuple [.Name x px, .Name y py] kt pt] (.Tuple [a, b] k2 pt2) env = pure (some [x, y]) := by
  unfold parB at h
  simp only [Bool.and_eq_true, decide_eq_true_eq, Bool.not_eq_true'] at h
  obtain ⟨⟨⟨⟨⟨⟨⟨⟨⟨⟨⟨⟨h1, h2⟩, h3⟩, h4⟩, h5⟩, h6⟩, h7⟩, h8⟩, h9⟩, h10⟩, h11⟩, h12⟩, h13⟩ := h
  have kx : env.kindOf x = some .local := by
    show env.scope.names.lookup x = _
    rw [hs]; exact h4
  have ky : env.kindOf y = some .local := by
    show env.scope.names.lookup y = _
    rw [hs]; exact h5
  have kb : env.blockKind = .function := by
    unfold Env.blockKind
    rw [hs, h6]
    rfl
  have fa : isSt a = false := h10
  have fb : isSt b = false := h11
  have any : ∀ f : Expr → Bool, (∀ e, isSt e = false → f e = false) → [a, b].any f = false := fun f hf => by
    rw [List.any_cons, List.any_cons, List.any_nil, hf a fa, hf b fb]
    rfl
  have e1 : py.line = px.line := by simpa using Eq.symm (by simpa using h7)
  have nx : (x == y) = false := h8
  have ny : (y == x) = false := h9
  unfold swappedStores
  simp only [kb, pure_bind, h12, h13]
  rw [any _ (by intro e he; cases e <;> first | rfl | cases he)]
  simp [kx, ky, e1, nx, ny, Expr.pos, List.eraseDups, List.eraseDupsBy, List.eraseDupsBy.loop]
theorem parV_two {i j : Nat} {ds : List PyData} {e e3 : Env} (h : parV [i, j] ds e = some e3) : ∃ d1 d2 e2, ds = [d1, d2] ∧ put e i (.v (.d d1)) = some e2 ∧ put e2 j (.v (.d d2)) = some e3 := by
  match ds, h with
  | [], h => cases h
  | [d1], h =>
    unfold parV at h
    split at h <;> cases h
  | [d1, d2], h =>
    unfold parV at h
    split at h
    · next e2 h1 =>
      unfold parV at h
      split at h
      · next e4 h2 =>
        cases h
        exact ⟨d1, d2, e2, rfl, h1, h2⟩
      · cases h
    · cases h
  | d1 :: d2 :: d3 :: r, h =>
    unfold parV at h
    split at h
    · unfold parV at h
      split at h <;> cases h
    · cases h
theorem st_par {i j : Nat} {x y : Str} {px py pt pt2 pos : Pos} {kt k2 : Nat} {a b : Expr} {ya yb : E} (hc : X.calm = true) (hN : X.N = c.N) (nd : c.N.Nodup) (hs : X.env.scope = c.sc) (h : parB c i j x y px py a b = true) (ha : PA X [a, b] (tGs (q.at X C) W (evGives rv [ya, yb]))) :
    PS X (.Assign [.Tuple [.Name x px, .Name y py] kt pt] (.Tuple [a, b] k2 pt2) pos) (tS (q.at X C) W (sPar rv [i, j] [ya, yb])) := by
  have h' := h
  unfold parB at h'
  simp only [Bool.and_eq_true, decide_eq_true_eq, Bool.not_eq_true'] at h'
  obtain ⟨⟨⟨⟨⟨⟨⟨⟨⟨⟨⟨⟨h1, h2⟩, h3⟩, h4⟩, h5⟩, h6⟩, h7⟩, h8⟩, h9⟩, h10⟩, h11⟩, h12⟩, h13⟩ := h'
  have hij : i ≠ j := by simpa using h3
  refine ps_of (ps_par hc (by rw [hN]; exact nd) (by rw [hN]; exact h1) (by rw [hN]; exact h2) hij (by rw [hs]; exact h4) (by rw [hs]; exact h5) ha (sw_par h hs)) fun D σ H ⟨F, e, k, o⟩ => ⟨F, e, k, ?_⟩
  refine (show OutS (q.at X C) F σ H e (R.bind (evGives rv [ya, yb] e) (sPar2 [i, j])) W D from o).of.imp fun ds e1 _ o1 vs F1 H1 s1 k1 r1 => ?_
  have o2 : OutS (q.at X C) F σ H e (match parV [i, j] ds e1 with | some e2 => some (.ok .nx e2) | none => none) W D := o1
  cases hp : parV [i, j] ds e1 with
  | none => rw [hp] at o2; exact o2.elim
  | some e3 =>
    rw [hp] at o2
    obtain ⟨d1, d2, e2, rfl, p1, p2⟩ := parV_two hp
    obtain ⟨v, w, rfl, r2, r3⟩ : ∃ v w, vs = [v, w] ∧ Rep (q.at X C) F1 v d1 ∧ Rep (q.at X C) F1 w d2 := by
      cases r1 with
      | cons r2 rs =>
        cases rs with
        | cons r3 rs =>
          cases rs
          exact ⟨_, _, rfl, r2, r3⟩
    obtain ⟨t1, t2⟩ := store_okE (r := .v (.d d1)) s1 k1 r2 p1
    obtain ⟨u1, u2⟩ := store_okE (r := .v (.d d2)) t1 t2 r3 p2
    exact ⟨v, w, rfl, (show ∀ σ' F' H', Stp F σ H e F' σ' H' e3 → Ok (q.at X C) F' σ' H' e3 → D.nx σ' H' from o2) _ _ _ u1 u2⟩
/-- three names on one line -/
def parB3 (c : Cc) (i j l : Nat) (x y z : Str) (px py pz : Pos) (a b d : Expr) : Bool :=
  decide (c.N[i]? = some x) && decide (c.N[j]? = some y) && decide (c.N[l]? = some z) && !decide (i = j) && !decide (i = l) && !decide (j = l) && decide (c.sc.names.lookup x = some .local) && decide (c.sc.names.lookup y = some .local) && decide (c.sc.names.lookup z = some .local) &&
    decide (c.sc.kind = .function) && (px.line == py.line) && (px.line == pz.line) && !(x == y) && !(y == x) && !(x == z) && !(z == x) && !(y == z) && !(z == y) && !isSt a && !isSt b && !isSt d && !([a, b, d].all (foldedForSure 8)) && !([a, b, d].all (constantsAlone 8))
theorem sw_par3 {i j l : Nat} {x y z : Str} {px py pz pt pt2 : Pos} {kt k2 : Nat} {a b d : Expr} {env : PySem.Env} (h : parB3 c i j l x y z px py pz a b d = true) (hs : env.scope = c.sc) :
    swappedStores [.Tuple [.Name x px, .Name y py, .Name z pz] kt pt] (.Tuple [a, b, d] k2 pt2) env = pure (some [x, y, z]) := by
  unfold parB3 at h
  simp only [Bool.and_eq_true, decide_eq_true_eq, Bool.not_eq_true'] at h
  obtain ⟨⟨⟨⟨⟨⟨⟨⟨⟨⟨⟨⟨⟨⟨⟨⟨⟨⟨⟨⟨⟨⟨h1, h2⟩, h3⟩, h4⟩, h5⟩, h6⟩, h7⟩, h8⟩, h9⟩, h10⟩, h11⟩, h12⟩, h13⟩, h14⟩, h15⟩, h16⟩, h17⟩, h18⟩, h19⟩, h20⟩, h21⟩, h22⟩, h23⟩ := h
  have kx : env.kindOf x = some .local := by
    show env.scope.names.lookup x = _
    rw [hs]; exact h7
  have ky : env.kindOf y = some .local := by
    show env.scope.names.lookup y = _
    rw [hs]; exact h8
  have kz : env.kindOf z = some .local := by
    show env.scope.names.lookup z = _
    rw [hs]; exact h9
  have kb : env.blockKind = .function := by
    unfold Env.blockKind
    rw [hs, h10]
    rfl
  have any : ∀ f : Expr → Bool, (∀ e, isSt e = false → f e = false) → [a, b, d].any f = false := fun f hf => by
    rw [List.any_cons, List.any_cons, List.any_cons, List.any_nil, hf a h19, hf b h20, hf d h21]
    rfl
  have e1 : py.line = px.line := by simpa using Eq.symm (by simpa using h11)
  have e2 : pz.line = px.line := by simpa using Eq.symm (by simpa using h12)
  unfold swappedStores
  simp only [kb, pure_bind, h22, h23]
  rw [any _ (by intro e he; cases e <;> first | rfl | cases he)]
  simp [kx, ky, kz, e1, e2, h13, h14, h15, h16, h17, h18, Expr.pos, List.eraseDups, List.eraseDupsBy, List.eraseDupsBy.loop]
theorem parV_three {i j l : Nat} {ds : List PyData} {e e3 : Env} (h : parV [i, j, l] ds e = some e3) : ∃ d1 d2 d3 e1 e2, ds = [d1, d2, d3] ∧ put e i (.v (.d d1)) = some e1 ∧ put e1 j (.v (.d d2)) = some e2 ∧ put e2 l (.v (.d d3)) = some e3 := by
  match ds, h with
  | [], h => cases h
  | d1 :: ds, h =>
    unfold parV at h
    split at h
    · next e1 h1 =>
      obtain ⟨d2, d3, e2, rfl, h2, h3⟩ := parV_two h
      exact ⟨d1, d2, d3, e1, e2, rfl, h1, h2, h3⟩
    · cases h
theorem st_par3 {i j l : Nat} {x y z : Str} {px py pz pt pt2 pos : Pos} {kt k2 : Nat} {a b d : Expr} {ya yb yd : E} (hc : X.calm = true) (hN : X.N = c.N) (nd : c.N.Nodup) (hs : X.env.scope = c.sc) (h : parB3 c i j l x y z px py pz a b d = true) (ha : PA X [a, b, d] (tGs (q.at X C) W (evGives rv [ya, yb, yd]))) :
    PS X (.Assign [.Tuple [.Name x px, .Name y py, .Name z pz] kt pt] (.Tuple [a, b, d] k2 pt2) pos) (tS (q.at X C) W (sPar rv [i, j, l] [ya, yb, yd])) := by
  have h' := h
  unfold parB3 at h'
  simp only [Bool.and_eq_true, decide_eq_true_eq, Bool.not_eq_true'] at h'
  obtain ⟨⟨⟨⟨⟨⟨⟨⟨⟨⟨⟨⟨⟨⟨⟨⟨⟨⟨⟨⟨⟨⟨h1, h2⟩, h3⟩, h4⟩, h5⟩, h6⟩, h7⟩, h8⟩, h9⟩, h10⟩, h11⟩, h12⟩, h13⟩, h14⟩, h15⟩, h16⟩, h17⟩, h18⟩, h19⟩, h20⟩, h21⟩, h22⟩, h23⟩ := h'
  have hij : i ≠ j := by simpa using h4
  have hil : i ≠ l := by simpa using h5
  have hjl : j ≠ l := by simpa using h6
  refine ps_of (ps_par3 hc (by rw [hN]; exact nd) (by rw [hN]; exact h1) (by rw [hN]; exact h2) (by rw [hN]; exact h3) hij hil hjl (by rw [hs]; exact h7) (by rw [hs]; exact h8) (by rw [hs]; exact h9) ha (sw_par3 h hs)) fun D σ H ⟨F, e, k, o⟩ => ⟨F, e, k, ?_⟩
  refine (show OutS (q.at X C) F σ H e (R.bind (evGives rv [ya, yb, yd] e) (sPar2 [i, j, l])) W D from o).of.imp fun ds e1 _ o1 vs F1 H1 s1 k1 r1 => ?_
  have o2 : OutS (q.at X C) F σ H e (match parV [i, j, l] ds e1 with | some e2 => some (.ok .nx e2) | none => none) W D := o1
  cases hp : parV [i, j, l] ds e1 with
  | none => rw [hp] at o2; exact o2.elim
  | some e3 =>
    rw [hp] at o2
    obtain ⟨d1, d2, d3, f1, f2, rfl, p1, p2, p3⟩ := parV_three hp
    obtain ⟨u, v, w, rfl, r2, r3, r4⟩ : ∃ u v w, vs = [u, v, w] ∧ Rep (q.at X C) F1 u d1 ∧ Rep (q.at X C) F1 v d2 ∧ Rep (q.at X C) F1 w d3 := by
      cases r1 with
      | cons r2 rs =>
        cases rs with
        | cons r3 rs =>
          cases rs with
          | cons r4 rs =>
            cases rs
            exact ⟨_, _, _, rfl, r2, r3, r4⟩
    obtain ⟨t1, t2⟩ := store_okE (r := .v (.d d1)) s1 k1 r2 p1
    obtain ⟨u1, u2⟩ := store_okE (r := .v (.d d2)) t1 t2 r3 p2
    obtain ⟨w1, w2⟩ := store_okE (r := .v (.d d3)) u1 u2 r4 p3
    exact ⟨u, v, w, rfl, (show ∀ σ' F' H', Stp F σ H e F' σ' H' e3 → Ok (q.at X C) F' σ' H' e3 → D.nx σ' H' from o2) _ _ _ w1 w2⟩
/-- a, b = x, [] -/
theorem st_parL {i j : Nat} {x y : Str} {px py pt pt2 pos lp : Pos} {kt k2 : Nat} {a : Expr} {ya : E} (hc : X.calm = true) (hN : X.N = c.N) (nd : c.N.Nodup) (hs : X.env.scope = c.sc) (h : parB c i j x y px py a (.List [] lp) = true) (ns : NoStar a) (ha : PE X a (tG (q.at X C) W (evGive rv ya))) (hl : PE X (.List [] lp) (tR (q.at X C) W (eLst rv []))) :
    PS X (.Assign [.Tuple [.Name x px, .Name y py] kt pt] (.Tuple [a, .List [] lp] k2 pt2) pos) (tS (q.at X C) W (sParL rv [i, j] [ya])) := by
  have h' := h
  unfold parB at h'
  simp only [Bool.and_eq_true, decide_eq_true_eq, Bool.not_eq_true'] at h'
  obtain ⟨⟨⟨⟨⟨⟨⟨⟨⟨⟨⟨⟨h1, h2⟩, h3⟩, h4⟩, h5⟩, h6⟩, h7⟩, h8⟩, h9⟩, h10⟩, h11⟩, h12⟩, h13⟩ := h'
  have hij : i ≠ j := by simpa using h3
  refine ps_of (ps_par hc (by rw [hN]; exact nd) (by rw [hN]; exact h1) (by rw [hN]; exact h2) hij (by rw [hs]; exact h4) (by rw [hs]; exact h5) (pa_cons ha (pa_cons hl pa_nil (star_cons trivial)) (star_cons ns)) (sw_par h hs)) fun D σ H ⟨F, e, k, o⟩ => ⟨F, e, k, ?_⟩
  refine (show OutS (q.at X C) F σ H e (R.bind (evGive rv ya e) fun d e1 => sParL2 [i, j] [d] e1) W D from o).of.imp fun d e1 _ o1 v F1 H1 s1 k1 r1 => ⟨F1, e1, k1, ?_⟩
  show ∀ w F2 H2, Stp F1 σ H1 e1 F2 σ H2 e1 → Ok (q.at X C) F2 σ H2 e1 → RsOk (q.at X C) (Bs σ H1 e1) F2 σ H2 e1 w (.o (.list [])) → _
  intro w F2 H2 s2 k2 r2
  have o2 : OutS (q.at X C) F σ H e (match put e1 j (.o (.list [])) with | some e2 => (match put e2 i (.v (.d d)) with | some e3 => some (.ok .nx e3) | none => none) | none => none) W D := o1
  cases p1 : put e1 j (.o (.list [])) with
  | none => rw [p1] at o2; exact o2.elim
  | some e2 =>
    rw [p1] at o2
    simp only at o2
    cases p2 : put e2 i (.v (.d d)) with
    | none => rw [p2] at o2; exact o2.elim
    | some e3 =>
      rw [p2] at o2
      obtain ⟨t1, t2⟩ := store_okE (r := .o (.list [])) (s1.trans s2) k2 (r2.base fun a h => s1.bs h) p1
      obtain ⟨u1, u2⟩ := store_okE (r := .v (.d d)) t1 t2 (r1.mono s2.fz) p2
      rw [List.set_comm _ _ (Ne.symm hij)] at u1 u2
      exact ⟨v, w, rfl, (show ∀ σ' F' H', Stp F σ H e F' σ' H' e3 → Ok (q.at X C) F' σ' H' e3 → D.nx σ' H' from o2) _ _ _ u1 u2⟩
/-- a, b = x, y, each kept as it is -/
theorem rs_store {g : G} {B B1 : Addr → Prop} {F1 F2 H1 H2 : Hp} {σ : L2.St} {e1 e2 e3 : Env} {v1 v2 : V} {r1 r2 : Rs} {i : Nat} (a : RsOk g B F1 σ H1 e1 v1 r1) (b : RsOk g (Bs σ H1 e1) F2 σ H2 e2 v2 r2) (hb : ∀ a, Bs σ H1 e1 a → B1 a) (hp : put e2 i r1 = some e3) : RsOk g B1 F2 (σ.set i (some v1)) H2 e3 v2 r2 := by
  cases r2 with
  | v w => exact b
  | o x =>
    obtain ⟨a2, h1, t2, o2, b2⟩ := b
    refine ⟨a2, h1, ⟨t2.nf, ?_, t2.th⟩, o2, hb _ b2⟩
    rintro ⟨j, s, hj, os, pj⟩
    have e3s : ∃ s0, e3 = e2.set i s0 ∧ i < e2.length ∧ (s0.own = true → ∃ x1, r1 = .o x1) := by
      unfold put at hp
      split at hp
      · cases hp
      · cases hp
      · cases hp
      · cases hp
      · next h9 =>
        have hl : i < e2.length := (List.getElem?_eq_some_iff.mp h9).1
        cases hp
        refine ⟨_, rfl, hl, fun z => ?_⟩
        cases r1 with
        | v w => cases z
        | o x1 => exact ⟨x1, rfl⟩
    obtain ⟨s0, rfl, hl, hs0⟩ := e3s
    by_cases hij : i = j
    · subst hij
      rw [List.getElem?_set_self hl] at hj
      cases hj
      obtain ⟨x1, rfl⟩ := hs0 os
      obtain ⟨a1, q1, t1, _, _⟩ := a
      have z : slot (σ.set i (some v1)) i = some (.ref a2) := pj
      have z1 : v1 = .ref a2 := by
        unfold slot at z
        rw [List.getElem?_set] at z
        by_cases hl2 : i < σ.length
        · rw [if_pos rfl, if_pos hl2] at z
          exact Option.some.inj z
        · rw [if_pos rfl, if_neg hl2] at z
          cases z
      rw [q1] at z1
      cases z1
      rcases b2 with y | y
      · exact t1.no y
      · exact t1.th y
    · rw [List.getElem?_set_ne hij] at hj
      refine t2.no ⟨j, s, hj, os, ?_⟩
      have z : slot (σ.set i (some v1)) j = some (.ref a2) := pj
      unfold slot at z ⊢
      rw [List.getElem?_set_ne hij] at z
      exact z
theorem st_parO {i j : Nat} {x y : Str} {px py pt pt2 pos : Pos} {kt k2 : Nat} {a b : Expr} {ya yb : E} (hc : X.calm = true) (hN : X.N = c.N) (nd : c.N.Nodup) (hs : X.env.scope = c.sc) (h : parB c i j x y px py a b = true) (ns : NoStar a) (ns2 : NoStar b) (ha : PE X a (tR (q.at X C) W (rv false ya))) (hb : PE X b (tR (q.at X C) W (rv false yb))) :
    PS X (.Assign [.Tuple [.Name x px, .Name y py] kt pt] (.Tuple [a, b] k2 pt2) pos) (tS (q.at X C) W (sParO rv i j ya yb)) := by
  have h' := h
  unfold parB at h'
  simp only [Bool.and_eq_true, decide_eq_true_eq, Bool.not_eq_true'] at h'
  obtain ⟨⟨⟨⟨⟨⟨⟨⟨⟨⟨⟨⟨h1, h2⟩, h3⟩, h4⟩, h5⟩, h6⟩, h7⟩, h8⟩, h9⟩, h10⟩, h11⟩, h12⟩, h13⟩ := h'
  have hij : i ≠ j := by simpa using h3
  refine ps_of (ps_par hc (by rw [hN]; exact nd) (by rw [hN]; exact h1) (by rw [hN]; exact h2) hij (by rw [hs]; exact h4) (by rw [hs]; exact h5) (pa_cons ha (pa_cons hb pa_nil (star_cons ns2)) (star_cons ns)) (sw_par h hs)) fun D σ H ⟨F, e, k, o⟩ => ⟨F, e, k, ?_⟩
  refine (show OutS (q.at X C) F σ H e (R.bind (rv false ya e) fun r1 e1 => R.bind (rv false yb e1) fun r2 e2 => sParO2 i j r1 r2 e2) W D from o).of.imp fun r1 e1 _ o1 v F1 H1 s1 k1 q1 => ⟨F1, e1, k1, ?_⟩
  refine ((show OutS (q.at X C) F σ H e (R.bind (rv false yb e1) fun r2 e2 => sParO2 i j r1 r2 e2) W D from o1).of.step s1).imp fun r2 e2 _ o2 w F2 H2 s2 k2 q2 => ?_
  unfold sParO2 at o2
  cases p1 : put e2 i r1 with
  | none => rw [p1] at o2; exact o2.elim
  | some e3 =>
    rw [p1] at o2
    simp only at o2
    cases p2 : put e3 j r2 with
    | none => rw [p2] at o2; exact o2.elim
    | some e4 =>
      rw [p2] at o2
      obtain ⟨t1, t2⟩ := store_okE (r := r1) (s1.trans s2) k2 (q1.step s2) p1
      obtain ⟨u1, u2⟩ := store_okE (r := r2) t1 t2 (rs_store q1 q2 (fun a h => s1.bs h) p1) p2
      exact ⟨v, w, rfl, (show ∀ σ' F' H', Stp F σ H e F' σ' H' e4 → Ok (q.at X C) F' σ' H' e4 → D.nx σ' H' from o2) _ _ _ u1 u2⟩
end
end Ev
set_option Elab.async false
set_option linter.all false
set_option maxRecDepth 100000
set_option maxHeartbeats 2000000
/-! EvX: statements checked. -/
namespace Ev
open PySem PySem.Spec PyProof.Rows L2
def notComp : Expr → Bool
  | .ListComp _ _ _ _ => false | .SetComp _ _ _ _ => false | .DictComp _ _ _ _ _ => false | _ => true
def notTuple : Expr → Bool
  | .Tuple _ _ _ => false | _ => true
theorem sw_plain {a : Expr} {o : Option Expr} {l : Nat} {env : PySem.Env} (h : notComp a = true) : swapsWith a o l env = pure false := by
  cases a <;> first | rfl | cases h
theorem sw_cell {a : Expr} {s : Str} {p : Pos} {l : Nat} {env : PySem.Env} (h : env.kindOf s = some .cell) : swapsWith a (some (.Name s p)) l env = pure false := by
  cases a <;> first | rfl | simp [swapsWith, h, show (NameKind.cell == NameKind.local) = false from rfl]
theorem sw_nm {c : Cc} {a : Expr} {s : Str} {p : Pos} {l : Nat} {env : PySem.Env} (h : (notComp a || decide (c.sc.names.lookup s = some .cell)) = true) (hs : env.scope = c.sc) : swapsWith a (some (.Name s p)) l env = pure false := by
  rw [Bool.or_eq_true, decide_eq_true_eq] at h
  rcases h with h | h
  · exact sw_plain h
  · refine sw_cell ?_
    show env.scope.names.lookup s = _
    rw [hs]
    exact h
theorem sw_tup {a tg : Expr} {l : Nat} {env : PySem.Env} (h : isTup tg = true) : swapsWithSole [tg] a l env = pure false := by
  cases tg <;> first | cases h | skip
  cases a <;> rfl
theorem sw_sub {a b i : Expr} {p : Pos} {l : Nat} {env : PySem.Env} : swapsWithSole [.Subscript b i p] a l env = pure false := by
  cases a <;> rfl
theorem sst_none {tg a : Expr} {env : PySem.Env} (h : notTuple a = true) : swappedStores [tg] a env = pure none := by
  cases a <;> first | cases h | skip
  all_goals (cases tg <;> rfl)
def kFun : ScopeKind → Bool
  | .function => true | _ => false
theorem kFun_ok {k : ScopeKind} (h : kFun k = true) : k = .function := by
  cases k <;> first | rfl | cases h
/-- no stores swapped: no tuple on the right, or a pair to a name that is no plain local -/
def sstB (c : Cc) (tg a : Expr) : Bool := notTuple a || (match tg, a with
  | .Tuple [.Name x _, .Name y _] _ _, .Tuple [u, v] _ _ => kFun c.sc.kind && !isSt u && !isSt v && (!decide (c.sc.names.lookup x = some .local) || !decide (c.sc.names.lookup y = some .local))
  | _, _ => false) || (match tg, a with
  | .Tuple _ _ _, .Tuple vs _ _ => vs.all (foldedForSure 8)
  | _, _ => false)
theorem sst_fold {ts vs : List Expr} {k1 k2 : Nat} {p1 p2 : Pos} {env : PySem.Env} (h : vs.all (foldedForSure 8) = true) : swappedStores [.Tuple ts k1 p1] (.Tuple vs k2 p2) env = pure none := by
  unfold swappedStores
  simp only [h, if_true]
  split
  · rfl
  · split
    · rfl
    · split <;> rfl
theorem sst_ok {c : Cc} {tg a : Expr} {env : PySem.Env} (h : sstB c tg a = true) (hs : env.scope = c.sc) : swappedStores [tg] a env = pure none := by
  unfold sstB at h
  rw [Bool.or_eq_true, Bool.or_eq_true] at h
  rcases h with (h | h) | h
  · exact sst_none h
  · split at h
    · next x px y py _ _ u v _ _ =>
      simp only [Bool.and_eq_true, Bool.or_eq_true, Bool.not_eq_true', decide_eq_false_iff_not] at h
      obtain ⟨⟨⟨h1, h2⟩, h3⟩, h4⟩ := h
      have kd : ∀ x, env.kindOf x = c.sc.names.lookup x := fun x => by rw [← hs]; rfl
      have any : ∀ f : Expr → Bool, (∀ e, isSt e = false → f e = false) → [u, v].any f = false := fun f hf => by
        rw [List.any_cons, List.any_cons, List.any_nil, hf u h2, hf v h3]
        rfl
      unfold swappedStores
      have kb : env.blockKind = .function := by
        unfold Env.blockKind
        rw [hs, kFun_ok h1]
        rfl
      simp only [kb, pure_bind]
      rw [any _ (by intro e he; cases e <;> first | rfl | cases he)]
      rcases h4 with h4 | h4
      · have kx : ¬ env.kindOf x = some NameKind.local := by rw [kd]; exact h4
        by_cases q : env.kindOf y = some NameKind.local ∧ py.line = px.line <;> simp [List.filterMap_cons, kx, q, Expr.pos]
      · have ky : ¬ env.kindOf y = some NameKind.local := by rw [kd]; exact h4
        by_cases q : env.kindOf x = some NameKind.local <;> simp [List.filterMap_cons, ky, q, Expr.pos]
    · cases h
  · split at h
    · exact sst_fold h
    · cases h
theorem asg_one {tg : Expr} {env : PySem.Env} (h : isTup tg = true) : (assignEach [tg] env).map (·.2) = [assign tg env] := by
  cases tg <;> first | rfl | cases h
def hides (scope : Scope) (s : Str) : Bool := scope.names.any fun (n, k) => n == s && (k == .local || k == .cell)
section
variable (gl : Str → Option Gn) (re : Cc → Expr → E → Bool) (rs : Cc → Stmt → S → Bool)
def recSs (c : Cc) : List Stmt → List S → Bool
  | [], [] => true
  | a :: as, x :: xs => rs c a x && recSs c as xs
  | _, _ => false
/-- a name's comprehension on its own line -/
def cSetLc (c : Cc) (i : Nat) (s : Str) (p : Pos) (a : Expr) (y : E) : Bool :=
  match a, y with
  | .ListComp _ _ scope vp, .cmp2 elt t it src xs t' it' src' xs' own => decide (c.N[i]? = some s) && decide (c.sc.names.lookup s = some .local) && kFun c.sc.kind && (p.line == vp.line) && !hides scope s && cCmp2 re c elt t it src xs t' it' src' xs' own a
  | .ListComp _ _ scope vp, .cmp elt t it src xs own => decide (c.N[i]? = some s) && decide (c.sc.names.lookup s = some .local) && kFun c.sc.kind && (p.line == vp.line) && !hides scope s && cCmp re c elt t it src xs own a
  | _, _ => false
def cSet (c : Cc) (t : T) (y : E) : Stmt → Bool
  | .Assign [tg] a _ => (match t, tg with
    | .nm i, .Name s p => ((notComp a || decide (c.sc.names.lookup s = some .cell)) && tgC c (.nm i) (.Name s p) && re c a y) || cSetLc re c i s p a y
    | .tp ts, tg => isTup tg && sstB c tg a && tgC c (.tp ts) tg && re c a y
    | _, _ => false)
  | _ => false
def cSix (c : Cc) (i : Nat) (ix y : E) : Stmt → Bool
  | .Assign [.Subscript (.Name s _) b _] a _ => nmOk c i s && plainIx b && re c a y && re c b ix
  | _ => false
def augP : Operator → P → Bool
  | .Add, .add => true | .Sub, .sub => true | .Mult, .mul => true | _, _ => false
def cAug (c : Cc) (i : Nat) (p : P) (y : E) : Stmt → Bool
  | .AugAssign (.Name s _) op a _ => augP op p && tgC c (.nm i) (.Name s ⟨0, 0, 0, 0⟩) && re c a y
  | _ => false
def cExpr (c : Cc) (y : E) : Stmt → Bool
  | .Expr a _ => notComp a && re c a y
  | _ => false
def cRet (c : Cc) (y : E) : Stmt → Bool
  | .Return (some a) _ => re c a y
  | _ => false
def cRetN : Stmt → Bool
  | .Return none _ => true
  | _ => false
def cPas : Stmt → Bool
  | .Pass _ => true
  | _ => false
def cIf (c : Cc) (t : E) (a b : List S) : Stmt → Bool
  | .If x y z _ => re c x t && recSs rs c y a && recSs rs c z b
  | _ => false
def cFo (c : Cc) (t : T) (it : It) (src : List E) (b : List S) : Stmt → Bool
  | .For tg iter body [] _ => itC re c tg it src iter && tgC c t tg && recSs rs c body b
  | _ => false
def cRai (c : Cc) (cn : Nat) (y : Option E) : Stmt → Bool
  | .Raise (some (.Call (.Name x _) [a] [] _)) none _ => glOk c x && (match gl x, y with
    | some (.exc k none), none => k == cn && (match a with | .Constant (.str _) _ _ => true | _ => false)
    | some (.exc k (some _)), some y => k == cn && noStar a && re c a y
    | _, _ => false)
  | _ => false
def cTr (c : Cc) (b : List S) (l : List (Nat × Option Nat × E)) : Stmt → Bool
  | .Try body (h :: hs) [] [] _ => recSs rs c body b && cHs gl c (h :: hs) l
  | _ => false
def cWh (c : Cc) (x : E) (xb : List S) : Stmt → Bool
  | .While t body [] _ => re c t x && recSs rs c body xb
  | _ => false
def cParL (c : Cc) (is : List Nat) (es : List E) : Stmt → Bool
  | .Assign [.Tuple [.Name x px, .Name y py] _ _] (.Tuple [a, .List [] lp] _ _) _ => (match is, es with
    | [i, j], [ya] => parB c i j x y px py a (.List [] lp) && noStar a && re c a ya
    | _, _ => false)
  | _ => false
def cParO (c : Cc) (i j : Nat) (xa xb : E) : Stmt → Bool
  | .Assign [.Tuple [.Name x px, .Name y py] _ _] (.Tuple [a, b] _ _) _ => parB c i j x y px py a b && noStar a && noStar b && re c a xa && re c b xb
  | _ => false
def cAugx (c : Cc) (i : Nat) (ix : E) (p : P) (y : E) : Stmt → Bool
  | .AugAssign (.Subscript (.Name s _) b _) op a _ => nmOk c i s && plainIx b && augP op p && re c b ix && re c a y
  | _ => false
def cPar (c : Cc) (is : List Nat) (es : List E) : Stmt → Bool
  | .Assign [.Tuple [.Name x px, .Name y py] _ _] (.Tuple [a, b] _ _) _ => (match is, es with
    | [i, j], [ya, yb] => parB c i j x y px py a b && recsS re c [a, b] [ya, yb]
    | _, _ => false)
  | .Assign [.Tuple [.Name x px, .Name y py, .Name z pz] _ _] (.Tuple [a, b, d] _ _) _ => (match is, es with
    | [i, j, l], [ya, yb, yd] => parB3 c i j l x y z px py pz a b d && recsS re c [a, b, d] [ya, yb, yd]
    | _, _ => false)
  | _ => false
def stepCS (c : Cc) (st : Stmt) (x : S) : Bool :=
  match x with
  | .set t y => cSet re c t y st
  | .six i ix y => cSix re c i ix y st
  | .aug i p y => cAug re c i p y st
  | .expr y => cExpr re c y st
  | .ret y => cRet re c y st
  | .retN => cRetN st
  | .pas => cPas st
  | .ife t a b => cIf re rs c t a b st
  | .fo t it src b => cFo re rs c t it src b st
  | .rai cn y => cRai gl re c cn y st
  | .tr b l => cTr gl rs c b l st
  | .par is es => cPar re c is es st
  | .parL is es => cParL re c is es st
  | .wh x xb => cWh re rs c x xb st
  | .parO i j xa xb => cParO re c i j xa xb st
  | .augx i ix p y => cAugx re c i ix p y st
end
def chkS (gl : Str → Option Gn) (lm : Cc → Nat → Nat → List Nat → Expr → Bool) (m : Nat) : Nat → Cc → Stmt → S → Bool
  | 0 => fun _ _ _ => false
  | k + 1 => stepCS gl (chk gl lm m) (chkS gl lm m k)
section
variable {q : Qn} {gl : Str → Option Gn} {call : Nat → Env → Option CO} {clo : Nat → List (Option PyData) → Option CO} {sub : Nat → Nat → Bool} {d : Nat} {lm : Cc → Nat → Nat → List Nat → Expr → Bool} {re : Cc → Expr → E → Bool} {rs : Cc → Stmt → S → Bool}
variable {C : V → Wd → Hp → Prop} {W : WX} {c : Cc} {X : Cx}
/-- where statements may stand -/
structure FitsS (q : Qn) (gl : Str → Option Gn) (call : Nat → Env → Option CO) (clo : Nat → List (Option PyData) → Option CO) (sub : Nat → Nat → Bool) (d : Nat) (C : V → Wd → Hp → Prop) (W : WX) (c : Cc) (X : Cx) : Prop where
  e : Fits q gl call clo d C W c X
  hp : PassesOwn (model X.prog X.w) X.A X.env X.xe
  stk : X.stack = X.env :: X.outer
  frm : X.env.frame = some X.env.locals
  try_ : TryF q X.K sub
theorem FitsS.tr {W' : WX} {pn : List (Addr × Obj)} {xe : Value → Shared → Prop} (h : FitsS q gl call clo sub d C W c X) (tk : L2.Takes (X.tr pn xe) W') (hp : PassesOwn (model X.prog X.w) X.A X.env xe) : FitsS q gl call clo sub d C W' c (X.tr pn xe) :=
  ⟨⟨h.e.N, h.e.nd, h.e.sc, h.e.fn, h.e.calm, h.e.room, h.e.gd, tk, h.e.fns, h.e.cst, h.e.exs, h.e.blt, h.e.c0, h.e.lamE, fun z W2 pn2 xe2 t2 => h.e.cap z W2 pn2 xe2 t2⟩, hp, h.stk, h.frm, h.try_⟩
def SoundSt (q : Qn) (gl : Str → Option Gn) (call : Nat → Env → Option CO) (clo : Nat → List (Option PyData) → Option CO) (sub : Nat → Nat → Bool) (d : Nat) (rs : Cc → Stmt → S → Bool) : Prop :=
  ∀ (C : V → Wd → Hp → Prop) (W : WX) (c : Cc) (X : Cx), FitsS q gl call clo sub d C W c X → ∀ st x, rs c st x = true → ∀ n, PS X st (tS (q.at X C) W (stepS sub (exs call clo sub n) (ev call clo n) x))
theorem block_of (hs : SoundSt q gl call clo sub d rs) (ft : FitsS q gl call clo sub d C W c X) (n : Nat) : ∀ {as : List Stmt} {xs : List S}, recSs rs c as xs = true → PSs X as (tS (q.at X C) W (exGo (stepS sub (exs call clo sub n) (ev call clo n)) xs))
  | [], [], _ => seq_nil
  | [], _ :: _, h => by cases h
  | _ :: _, [], h => by cases h
  | a :: as, x :: xs, h => by
    have h' : (rs c a x && recSs rs c as xs) = true := h
    rw [Bool.and_eq_true] at h'
    exact seq_cons (hs C W c X ft a x h'.1 n) (block_of hs ft n h'.2)
/-- a block under a statement -/
theorem block_in (hs : SoundSt q gl call clo sub d rs) (ft : FitsS q gl call clo sub d C W c X) (n : Nat) {as : List Stmt} {xs : List S} (h : recSs rs c as xs = true) : PSs X as (tS (q.at X C) W (exs call clo sub n xs)) := by
  cases n with
  | zero => exact ⟨fun pins s σ H D I ⟨F, e, k, o⟩ => o.elim⟩
  | succ n => exact block_of hs ft n h
/-- what a checked comprehension brings -/
theorem cmp_parts (hl : LamH q gl call clo d lm) {m : Nat} (ft : Fits q gl call clo d C W c X) {elt : E} {t : T} {it : It} {src xs : List E} {own : List Nat} {e tg iter : Expr} {ifs : List Expr} {as : Int} {scope : Scope} {pos : Pos} (h : cCmp (chk gl lm m) c elt t it src xs own (.ListComp e [⟨tg, iter, ifs, as⟩] scope pos) = true) (n : Nat) :
    as = 0 ∧ (ownOf c own).map (·.2) = own ∧ PI X tg iter (tIt (q.at X C) W (evIt (ev call clo n) it src)) ∧ BlkOk X.N X.env.scope scope (ownOf c own) ∧ (∀ j ∈ t.slots, j ∈ (ownOf c own).map (·.2)) ∧
    (∀ (s : Shared) (H : Hp) (D : Addr) (cl : List (Str × Addr)) (fp : List Addr), PG (X.blk s H scope (compEnvC scope cl D X.env) fp) tg (tgG X.K t)) ∧
    (∀ (s : Shared) (H : Hp) (D : Addr) (cl : List (Str × Addr)) (fp : List Addr), PTs (X.blk s H scope (compEnvC scope cl D X.env) fp) ifs (tIfs (q.at X C) W0 (evIfs (ev call clo n) xs))) ∧
    (∀ (s : Shared) (H : Hp) (D : Addr) (cl : List (Str × Addr)) (fp : List Addr), PE (X.blk s H scope (compEnvC scope cl D X.env) fp) e (tG (q.at X C) W0 (evGive (ev call clo n) elt))) ∧ ∀ x, foldedSetIterable iter X.env x = pure x := by
  have h' : (decide (as = 0) && itC (chk gl lm m) c tg it src iter && blkC c.N c.sc scope (ownOf c own) && decide ((ownOf c own).map (·.2) = own) && t.slots.all (own.contains ·) && tgC (c.inner scope) t tg && ifsC (chk gl lm m) (c.inner scope) ifs xs && chk gl lm m (c.inner scope) e elt) = true := h
  simp only [Bool.and_eq_true, decide_eq_true_eq] at h'
  obtain ⟨⟨⟨⟨⟨⟨⟨h0, h1⟩, h2⟩, h3⟩, h4⟩, h5⟩, h6⟩, h7⟩ := h'
  have hs := chk_sound hl (q := q) (gl := gl) (call := call) (clo := clo) (d := d) m
  obtain ⟨hi, hf⟩ := it_of hs (chk_var (lm := lm) m) ft h1 n
  refine ⟨h0, h3, hi, ?_, ?_, fun s H D cl fp => tg_of (ft.inner s H scope D cl fp) h5, fun s H D cl fp => ifs_of hs (ft.inner s H scope D cl fp) h6 n, fun s H D cl fp => give_of (hs C W0 (c.inner scope) _ (ft.inner s H scope D cl fp) e elt h7 n).1, hf X.env⟩
  · rw [ft.N, ft.sc]
    exact blkOk_by h2
  · rw [h3]
    intro j hj
    have z := (List.all_eq_true.mp h4) j hj
    simpa using z
theorem sdSet (hl : LamH q gl call clo d lm) {m : Nat} (ft : Fits q gl call clo d C W c X) {t : T} {y : E} {st : Stmt} (h : cSet (chk gl lm m) c t y st = true) (n : Nat) : PS X st (tS (q.at X C) W (sSet (ev call clo n) t y)) := by
  have hs := chk_sound hl (q := q) (gl := gl) (call := call) (clo := clo) (d := d) m
  unfold cSet at h
  split at h
  · next tg a pos =>
    split at h
    · next i s p =>
      rw [Bool.or_eq_true] at h
      have hN : X.N.Nodup := by rw [ft.N]; exact ft.nd
      rcases h with h | h
      · simp only [Bool.and_eq_true] at h
        obtain ⟨⟨h1, h2⟩, h3⟩ := h
        have h2' : (decide (c.N[i]? = some s) && (decide (c.sc.names.lookup s = some .local) || (decide (c.sc.names.lookup s = some .cell) && c.fn s))) = true := by simpa [tgC] using h2
        simp only [Bool.and_eq_true, Bool.or_eq_true, decide_eq_true_eq] at h2'
        obtain ⟨h4, h5⟩ := h2'
        have hi : X.N[i]? = some s := by rw [ft.N]; exact h4
        have he := (hs C W c X ft a y h3 n).1
        rcases h5 with h5 | ⟨h5, h6⟩
        · exact st_set (ps_set hN hi (.inl (by rw [ft.sc]; exact h5)) he (sw_nm h1 ft.sc) (.inr (by rw [ft.sc]; exact h5))) fun σ H Q z => z
        · exact st_set (ps_set hN hi (.inr (by rw [ft.sc]; exact h5)) he (sw_nm h1 ft.sc) (.inl (ft.fn s h6))) fun σ H Q z => z
      · unfold cSetLc at h
        split at h
        · next e gs scope vp elt t it src xs t' it' src' xs' own =>
          simp only [Bool.and_eq_true, decide_eq_true_eq, Bool.not_eq_true'] at h
          obtain ⟨⟨⟨⟨⟨h1, h2⟩, h3⟩, h4⟩, h5⟩, h6⟩ := h
          have hi : X.N[i]? = some s := by rw [ft.N]; exact h1
          have hl' : X.env.scope.names.lookup s = some .local := by rw [ft.sc]; exact h2
          have hk : X.env.scope.kind = .function := by rw [ft.sc]; exact kFun_ok h3
          cases n with
          | zero =>
            refine ⟨fun pins s σ H D I ⟨F, e, k, o⟩ => ?_⟩
            exact o.elim
          | succ n =>
            obtain ⟨e', tg, iter, ifs, tg', iter', ifs', scope', pos', ea, ok, ho, ht, ht', p3, p6, p7, p8, p9, p10, p11, s1, s2⟩ := cmp2_ok hs (chk_var (gl := gl) (lm := lm) m) ft h6 n
            cases ea
            refine st_set (ps_setLc2 (vs1 := t'.slots) ft.calm hN hi hl' (sw_true hk hl' h4 h5) p3 ok (fun j hj => by rw [ho]; exact ht' j hj) p6 p7 p8 p9 p10 p11 s1 s2) fun σ H Q z => ?_
            rw [ho]
            exact cmp2_key ht ht' z
        · next e gs scope vp elt t it src xs own =>
          simp only [Bool.and_eq_true, decide_eq_true_eq, Bool.not_eq_true'] at h
          obtain ⟨⟨⟨⟨⟨h1, h2⟩, h3⟩, h4⟩, h5⟩, h6⟩ := h
          have hi : X.N[i]? = some s := by rw [ft.N]; exact h1
          have hlo : X.env.scope.names.lookup s = some .local := by rw [ft.sc]; exact h2
          have hk : X.env.scope.kind = .function := by rw [ft.sc]; exact kFun_ok h3
          -- one clause
          have shape : ∃ tg iter ifs as, gs = [⟨tg, iter, ifs, as⟩] := by
            unfold cCmp at h6
            split at h6
            · next e1 =>
              cases e1
              exact ⟨_, _, _, _, rfl⟩
            · cases h6
          obtain ⟨tg, iter, ifs, as, rfl⟩ := shape
          cases n with
          | zero =>
            refine ⟨fun pins s σ H D I ⟨F, e, k, o⟩ => ?_⟩
            exact o.elim
          | succ n =>
            obtain ⟨rfl, p2, p3, p4, p5, p6, p7, p8, p9⟩ := cmp_parts hl (q := q) (C := C) (W := W) ft h6 n
            refine st_set (cmp_set (q := q) (C := C) (W := W) (rv := ev call clo n) ft.calm hN hi hlo (sw_true hk hlo h4 h5) p3 p4 p5 p6 p7 p8 p9) fun σ H Q z => ?_
            rw [p2] at p5 ⊢
            exact cmp_key p5 z
        · cases h
    · next ts tg hne =>
      simp only [Bool.and_eq_true] at h
      obtain ⟨⟨⟨h1, h2⟩, h3⟩, h4⟩ := h
      exact st_tup (ps_asg (hs C W c X ft a y h4 n).1 (tg_of ft h3) (sw_tup h1) (sst_ok h2 ft.sc) (asg_one h1))
    · cases h
  · cases h
theorem sdSix (hl : LamH q gl call clo d lm) {m : Nat} (ft : Fits q gl call clo d C W c X) {i : Nat} {ix y : E} {st : Stmt} (h : cSix (chk gl lm m) c i ix y st = true) (n : Nat) : PS X st (tS (q.at X C) W (sSix (ev call clo n) i ix y)) := by
  have hs := chk_sound hl (q := q) (gl := gl) (call := call) (clo := clo) (d := d) m
  unfold cSix at h
  split at h
  · next s sp b bp a pos =>
    simp only [Bool.and_eq_true] at h
    obtain ⟨⟨⟨h1, h2⟩, h3⟩, h4⟩ := h
    refine st_six ft.units (ft.name h1 sp) (give_of (hs C W c X ft a y h3 n).1) (give_of (hs C W c X ft b ix h4 n).1) sw_sub ?_
    cases b <;> first | (intro v; rfl) | cases h2
  · cases h
theorem augP_ok {op : Operator} {p : P} (h1 : augP op p = true) : (op = .Add ∧ p = .add) ∨ (op = .Sub ∧ p = .sub) ∨ (op = .Mult ∧ p = .mul) := by
  cases op <;> cases p <;> first | (simp; done) | cases h1
theorem sdAug (hl : LamH q gl call clo d lm) {m : Nat} (ft : Fits q gl call clo d C W c X) {i : Nat} {p : P} {y : E} {st : Stmt} (h : cAug (chk gl lm m) c i p y st = true) (n : Nat) : PS X st (tS (q.at X C) W (sAug (ev call clo n) i p y)) := by
  have hs := chk_sound hl (q := q) (gl := gl) (call := call) (clo := clo) (d := d) m
  unfold cAug at h
  split at h
  · next s sp op a pos =>
    simp only [Bool.and_eq_true] at h
    obtain ⟨⟨h1, h2⟩, h3⟩ := h
    have h2' : (decide (c.N[i]? = some s) && (decide (c.sc.names.lookup s = some .local) || (decide (c.sc.names.lookup s = some .cell) && c.fn s))) = true := by simpa [tgC] using h2
    simp only [Bool.and_eq_true, Bool.or_eq_true, decide_eq_true_eq] at h2'
    obtain ⟨h4, h5⟩ := h2'
    have hN : X.N.Nodup := by rw [ft.N]; exact ft.nd
    have hi : X.N[i]? = some s := by rw [ft.N]; exact h4
    have hp : (op = .Add ∧ p = .add) ∨ (op = .Sub ∧ p = .sub) ∨ (op = .Mult ∧ p = .mul) := by
      cases op <;> cases p <;> first | (simp; done) | cases h1
    have ho := op_of hs (chk_var (lm := lm) m) ft h3 n
    rcases h5 with h5 | ⟨h5, h6⟩
    · exact st_aug hN hi (.inl (by rw [ft.sc]; exact h5)) (.inr (by rw [ft.sc]; exact h5)) ho hp
    · exact st_aug hN hi (.inr (by rw [ft.sc]; exact h5)) (.inl (ft.fn s h6)) ho hp
  · cases h
/-- try: body, clauses -/
theorem st_tr (hs : SoundSt q gl call clo sub d rs) (ft : FitsS q gl call clo sub d C W c X) (n : Nat) {b : List S} {l : List (Nat × Option Nat × E)} {st : Stmt} (h : cTr gl rs c b l st = true) : PS X st (tS (q.at X C) W (sTr sub (exs call clo sub n) b l)) := by
  unfold cTr at h
  split at h
  · next body h0 hds pos =>
    rw [Bool.and_eq_true] at h
    obtain ⟨h1, h2⟩ := h
    obtain ⟨L, m, use⟩ := mix_of ft.try_ ft.e (h0 :: hds) l h2
    have hb : ∀ (W' : WX) (pn : List (Addr × Obj)) (xe : Value → Shared → Prop), L2.Takes (X.tr pn xe) W' → PassesOwn (model X.prog X.w) X.A X.env xe → PSs (X.tr pn xe) body (tS (q.at X C) W' (exs call clo sub n b)) :=
      fun W' pn xe tk hp => block_in hs (ft.tr tk hp) n h1
    refine ps_of (ps_try_mix ft.stk ft.frm ft.e.tk hb m) fun D σ H ⟨F, e, k, o⟩ => ⟨F, e, k, ?_⟩
    have o' : OutS (q.at X C) F σ H e (match exs call clo sub n b e with
      | some (.er c v e1) => (match handle sub c l with
        | none => some (.er c v e1)
        | some (n, y) => (match evH v y, unName n e1 with
          | some z, some e2 => some (.ok (.rt (.v (.d z))) e2)
          | _, _ => none))
      | m => m) W D := o
    cases hm : exs call clo sub n b e with
    | none => rw [hm] at o'; exact o'
    | some u =>
      rw [hm] at o'
      cases u with
      | ok f e1 => cases f <;> exact o'
      | er kc v e1 =>
        intro σ' F' H' s k1 cls dd xo
        refine use W D kc v e1 cls dd F' σ' H' k1 xo ?_
        unfold After
        cases hh : handle sub kc l with
        | none =>
          simp only [hh] at o'
          exact o' σ' F' H' s k1 cls dd xo
        | some r =>
          obtain ⟨nn, y⟩ := r
          simp only [hh] at o'
          cases hz : evH v y with
          | none => simp only [hz] at o'; exact o'.elim
          | some z =>
            cases he : unName nn e1 with
            | none => simp only [hz, he] at o'; exact o'.elim
            | some e2 =>
              simp only [hz, he] at o'
              exact ⟨z, e2, by first | rfl | exact hz, by first | rfl | exact he, fun v' F2 σ2 H2 s2 k2 r => o' v' σ2 F2 H2 (s.trans s2) k2 r⟩
  · cases h
theorem chkS_sound (hl : LamH q gl call clo d lm) {m : Nat} : ∀ k, SoundSt q gl call clo sub d (chkS gl lm m k)
  | 0 => fun C W c X ft st x h n => by cases h
  | k + 1 => fun C W c X ft st x h n => by
    have hs := chk_sound hl (q := q) (gl := gl) (call := call) (clo := clo) (d := d) m
    have hv := chk_var (gl := gl) (lm := lm) m
    have hb := chkS_sound hl (m := m) k
    have h' : stepCS gl (chk gl lm m) (chkS gl lm m k) c st x = true := h
    cases x with
    | set t y => exact sdSet hl ft.e h' n
    | six i ix y => exact sdSix hl ft.e h' n
    | aug i p y => exact sdAug hl ft.e h' n
    | expr y =>
      have h2 : cExpr (chk gl lm m) c y st = true := h'
      unfold cExpr at h2
      split at h2
      · rw [Bool.and_eq_true] at h2
        exact st_expr (hs C W c X ft.e _ _ h2.2 n).1 (sw_plain h2.1)
      · cases h2
    | ret y =>
      have h2 : cRet (chk gl lm m) c y st = true := h'
      unfold cRet at h2
      split at h2
      · next a p =>
        by_cases hy : ∃ i, y = .var i
        · obtain ⟨i, rfl⟩ := hy
          obtain ⟨s, sp, rfl, hn⟩ := hv c a i h2
          exact st_retv (rv := ev call clo n) (ft.e.name hn sp)
        · exact st_ret (hs C W c X ft.e _ _ h2 n).1 fun i e => hy ⟨i, e⟩
      · cases h2
    | retN =>
      have h2 : cRetN st = true := h'
      unfold cRetN at h2
      split at h2
      · exact st_retN
      · cases h2
    | rai cn y =>
      have h2 : cRai gl (chk gl lm m) c cn y st = true := h'
      unfold cRai at h2
      split at h2
      · next x p a pos pos' =>
        rw [Bool.and_eq_true] at h2
        obtain ⟨hg, hdb⟩ := ft.e.glb h2.1
        have h3 := h2.2
        split at h3
        · next k hz =>
          rw [Bool.and_eq_true] at h3
          obtain ⟨h4, h5⟩ := h3
          have e1 : k = cn := by simpa using h4
          subst e1
          split at h5
          · exact st_raiN (rv := ev call clo n) ft.e.calm ft.e.tk hg hdb (ft.e.exs x k none hz)
          · cases h5
        · next k f y hz =>
          simp only [Bool.and_eq_true] at h3
          obtain ⟨⟨h4, h5⟩, h6⟩ := h3
          have e1 : k = cn := by simpa using h4
          subst e1
          exact st_raiV ft.e.calm ft.e.tk ft.e.room hg hdb (ft.e.exs x k (some f) hz) (give_of (hs C W c X ft.e _ _ h6 n).1) (star_cons (noStar_ok h5))
        · cases h3
      · cases h2
    | tr b l => exact st_tr hb ft n h'
    | par is es =>
      have h2 : cPar (chk gl lm m) c is es st = true := h'
      unfold cPar at h2
      split at h2
      · split at h2
        · rw [Bool.and_eq_true] at h2
          exact st_par ft.e.calm ft.e.N ft.e.nd ft.e.sc h2.1 (gives_of hs hv ft.e n h2.2)
        · cases h2
      · split at h2
        · rw [Bool.and_eq_true] at h2
          exact st_par3 ft.e.calm ft.e.N ft.e.nd ft.e.sc h2.1 (gives_of hs hv ft.e n h2.2)
        · cases h2
      · cases h2
    | parL is es =>
      have h2 : cParL (chk gl lm m) c is es st = true := h'
      unfold cParL at h2
      split at h2
      · split at h2
        · rw [Bool.and_eq_true, Bool.and_eq_true] at h2
          exact st_parL ft.e.calm ft.e.N ft.e.nd ft.e.sc h2.1.1 (noStar_ok h2.1.2) (give_of (hs C W c X ft.e _ _ h2.2 n).1) (lst_ok (gives_of hs hv ft.e n (as := []) (xs := []) rfl))
        · cases h2
      · cases h2
    | pas =>
      have h2 : cPas st = true := h'
      unfold cPas at h2
      split at h2
      · exact st_pass
      · cases h2
    | ife t a b =>
      have h2 : cIf (chk gl lm m) (chkS gl lm m k) c t a b st = true := h'
      unfold cIf at h2
      split at h2
      · simp only [Bool.and_eq_true] at h2
        obtain ⟨⟨h3, h4⟩, h5⟩ := h2
        exact st_if (hs C W c X ft.e _ _ h3 n).2 (block_in hb ft n h4) (block_in hb ft n h5)
      · cases h2
    | fo t it src b =>
      have h2 : cFo (chk gl lm m) (chkS gl lm m k) c t it src b st = true := h'
      unfold cFo at h2
      split at h2
      · simp only [Bool.and_eq_true] at h2
        obtain ⟨⟨h3, h4⟩, h5⟩ := h2
        obtain ⟨hi, hf⟩ := it_of hs hv ft.e h3 n
        exact st_for ft.hp ft.e.calm hi (tg_of ft.e h4) (block_in hb ft n h5) (hf X.env)
      · cases h2
    | augx i ix p y =>
      have h2 : cAugx (chk gl lm m) c i ix p y st = true := h'
      unfold cAugx at h2
      split at h2
      · next s sp b bp op a pos =>
        simp only [Bool.and_eq_true] at h2
        obtain ⟨⟨⟨⟨h3, h4⟩, h5⟩, h6⟩, h7⟩ := h2
        refine st_augx ft.e.units (ft.e.name h3 sp) (give_of (hs C W c X ft.e b ix h6 n).1) (op_of hs hv ft.e h7 n) (augP_ok h5) ?_
        cases b <;> first | (intro _ _ _; rfl) | cases h4
      · cases h2
    | parO i j xa xb =>
      have h2 : cParO (chk gl lm m) c i j xa xb st = true := h'
      unfold cParO at h2
      split at h2
      · simp only [Bool.and_eq_true] at h2
        obtain ⟨⟨⟨⟨h3, h4⟩, h5⟩, h6⟩, h7⟩ := h2
        exact st_parO ft.e.calm ft.e.N ft.e.nd ft.e.sc h3 (noStar_ok h4) (noStar_ok h5) (hs C W c X ft.e _ _ h6 n).1 (hs C W c X ft.e _ _ h7 n).1
      · cases h2
    | wh x xb =>
      have h2 : cWh (chk gl lm m) (chkS gl lm m k) c x xb st = true := h'
      unfold cWh at h2
      split at h2
      · rw [Bool.and_eq_true] at h2
        exact st_wh ft.hp (fun n => (hs C W c X ft.e _ _ h2.1 n).2) (fun n => block_in hb ft n h2.2) n
      · cases h2
end
end Ev
set_option Elab.async false
set_option linter.all false
set_option maxRecDepth 100000
set_option maxHeartbeats 2000000
/-! EvLa: lambdas handed to a def, with a default or none. -/
namespace Ev
open PySem PySem.Spec PyProof.Rows L2
/-- a lambda's objects (need), its own object at f, and what it binds when it is called without arguments -/
structure LamO (need : List (Addr × Obj)) (f c' : Addr) (qual : Str) (body : Expr) (scope : Scope) (cells : List (Str × Addr)) (binds : List (Str × Value)) : Prop where
  ob : ∃ params dV doc pm ctv, (f, PySem.W.kdv_obj "<lambda>" qual params (.expr body) scope cells dV doc pm c' ctv) ∈ need ∧
    ∀ s : Shared, (∀ p ∈ need, s.heap.get? p.1 = some p.2) → BindsTo s (PySem.W.kdv_fn "<lambda>" qual params (.expr body) scope cells dV doc pm (.ref c') ctv) ⟨[], []⟩ binds
  loc : ∀ y ∈ binds, scope.names.lookup y.1 = some .local
/-- the maker's places, those whose names are the lambda's own emptied -/
def shd (N : List Str) (scope : Scope) (σ : L2.St) : L2.St := List.zipWith (fun y v => if scope.names.lookup y = some .local then none else v) N σ
theorem shd_get {N : List Str} {scope : Scope} {σ : L2.St} {i : Nat} {y : Str} {v : V} (hN : N[i]? = some y) (h : (shd N scope σ)[i]? = some (some v)) : σ[i]? = some (some v) ∧ scope.names.lookup y ≠ some .local := by
  unfold shd at h
  rw [List.getElem?_zipWith, hN] at h
  cases hs : σ[i]? with
  | none => rw [hs] at h; cases h
  | some u =>
    rw [hs] at h
    by_cases z : scope.names.lookup y = some .local
    · simp [z] at h
    · simp only [z, if_false] at h
      exact ⟨h, z⟩
theorem shd_of {N : List Str} {scope : Scope} {σ : L2.St} {i : Nat} {y : Str} {v : Option V} (hN : N[i]? = some y) (hs : σ[i]? = some v) (hl : scope.names.lookup y ≠ some .local) : (shd N scope σ)[i]? = some v := by
  unfold shd
  rw [List.getElem?_zipWith, hN, hs]
  simp [hl]
theorem shd_len {N : List Str} {scope : Scope} {σ : L2.St} (h : σ.length = N.length) : (shd N scope σ).length = N.length := by
  unfold shd
  rw [List.length_zipWith, h, Nat.min_self]
/-- what a lambda's names are -/
structure LamT (N : List Str) (sc scope : Scope) : Prop where
  kind : scope.kind = .function
  co : scope.isCoroutine = false
  gen : scope.isGenerator = false
  cell : ∀ y ∈ scope.names, y.2 ≠ .cell
  free : ∀ y ∈ scope.names, y.2 = .free → sc.names.lookup y.1 = some .cell ∨ sc.names.lookup y.1 = some .free
def lamTB (N : List Str) (sc scope : Scope) : Bool :=
  decide (scope.kind = .function) && !scope.isCoroutine && !scope.isGenerator && scope.names.all fun y => !decide (y.2 = .cell) && (!decide (y.2 = .free) || (decide (sc.names.lookup y.1 = some .cell) || decide (sc.names.lookup y.1 = some .free)))
theorem lamT_by {N : List Str} {sc scope : Scope} (h : lamTB N sc scope = true) : LamT N sc scope := by
  unfold lamTB at h
  rw [Bool.and_eq_true, Bool.and_eq_true, Bool.and_eq_true, List.all_eq_true] at h
  obtain ⟨⟨⟨h1, h2⟩, h3⟩, h4⟩ := h
  have h5 : ∀ y ∈ scope.names, y.2 ≠ .cell ∧ (y.2 = .free → sc.names.lookup y.1 = some .cell ∨ sc.names.lookup y.1 = some .free) := fun y hy => by
    have z := h4 y hy
    simp only [Bool.and_eq_true, Bool.or_eq_true, Bool.not_eq_true', decide_eq_true_eq, decide_eq_false_iff_not] at z
    obtain ⟨z1, z3⟩ := z
    exact ⟨z1, fun e => z3.elim (fun w => absurd e w) id⟩
  exact ⟨of_decide_eq_true h1, by simpa using h2, by simpa using h3, fun y hy => (h5 y hy).1, fun y hy => (h5 y hy).2⟩
section
variable {X : Cx} {pins : List (Addr × Obj)} {σ : L2.St} {H HZ : Hp} {s z : Shared}
theorem LamT.has {scope : Scope} (L : LamT X.N X.env.scope scope) (ok : X.Ok) : ∀ y ∈ scope.names, y.2 = .free → ∃ c, X.env.cells.lookup y.1 = some c := fun y hy e =>
  (L.free y hy e).elim (fun k => ok.has _ (.inl k)) fun k => ok.has _ (.inr k)
/-- the lambda's frame, from the maker's slots -/
theorem lam_begin {A : Around} {outer : List PySem.Env} {E : XK} {scope : Scope} {f c' : Addr} {hp : Heap} {tk : Nat} {m : Str → Option Value} (I : Inv X pins σ H s) (L : LamT X.N X.env.scope scope) (g0 : Env0 X.prog X.w X.K X.mg X.base A outer z HZ) (hh : A.handled = none)
    (U : Un (frs X.stack) [] H HZ s.heap z.heap) (ns : hp.Ns z.heap.objs.size m) (up : ∀ b o, z.heap.get? b = some o → hp.get? b = some o) : Inv (LamX.lamCx X A outer z HZ E scope f c') [] (shd X.N scope σ) HZ { z with heap := hp, toks := tk } := by
  have got := L.has I.ok
  -- a captured cell is the maker's
  have same : ∀ {y c}, (cloFrom X.env.cells scope.names []).lookup y = some c → X.env.cells.lookup y = some c := by
    intro y c e
    rcases cloFrom_mem (PySem.mem_of_lookup e) with n | ⟨n1, n2⟩
    · cases n
    · obtain ⟨c1, h1⟩ := got _ n1 rfl
      have h1 : X.env.cells.lookup y = some c1 := h1
      have e2 : c = c1 := by
        rw [n2, h1] <;> rfl
      rw [e2]
      exact h1
  have there : ∀ {y}, scope.names.lookup y = some .free → ∃ c, (cloFrom X.env.cells scope.names []).lookup y = some c := fun {y} hl => mem_lookup (cloFrom_has (cells := X.env.cells) (acc := []) (PySem.mem_of_lookup hl))
  have cellUp : ∀ {c : Addr} {v : Option Value}, H c = none → s.heap.IsCell c v → hp.IsCell c v := by
    rintro c v n ⟨o, ho, hd⟩
    obtain ⟨sl, e⟩ := U.any ho n (by simp)
    exact ⟨_, up _ _ e, hd⟩
  have noEx : ∀ b : Addr, b ∉ (LamX.lamCx X A outer z HZ E scope f c').ex := fun b y => absurd (show b ∈ ([] : List Addr) from y) (by simp)
  refine ⟨?ok, rfl, g0.bare, Un.kept up, ⟨_, ns, fun i y v e1 e2 e3 => ?_⟩, fun y c e => ?_, g0.hok.fresh (Nat.le_refl _), fun y c e => ?_, fun p hp => absurd (show p ∈ ([] : List (Addr × Obj)) ++ [] from hp) (by simp), g0.hok.kept up, shd_len I.len⟩
  case ok =>
    refine ⟨g0.mod, L.kind, rfl, rfl, Nat.le_refl _, fun y w c e1 e2 => I.ok.inj y w c (same e1) (same e2), fun y hy => ?_, fun y c w _ => ?_, fun _ => hh, Around.frames_deeper g0.frames, .inr ⟨rfl, rfl⟩, fun b w => absurd w (noEx b), g0.bs, g0.bsz, fun b _ _ => noEx b, fun b w => absurd w (noEx b), g0.funs, g0.frf⟩
    · have hy : scope.names.lookup y = some .cell ∨ scope.names.lookup y = some .free := hy
      rcases hy with hy | hy
      · exact absurd rfl (L.cell _ (PySem.mem_of_lookup hy))
      · exact there hy
    · have w : false = true := w
      cases w
  · have e3 : Vis scope y := e3
    have e1 : X.N[i]? = some y := e1
    obtain ⟨e2, nl⟩ := shd_get e1 e2
    rcases e3 with k | k | k
    · exact absurd k nl
    · exact absurd rfl (L.cell _ (PySem.mem_of_lookup k))
    · obtain ⟨m', hn, hl⟩ := I.loc
      have hvis : Vis X.env.scope y := (L.free _ (PySem.mem_of_lookup k) rfl).elim (fun k => .inr (.inl k)) fun k => .inr (.inr k)
      obtain ⟨w', r, q⟩ := hl i y v e1 e2 hvis
      obtain ⟨c2, h2⟩ := there k
      refine ⟨w', r, .inr ⟨.inr k, c2, h2, ?_⟩⟩
      have c1 := same h2
      rcases q with ⟨k', _⟩ | ⟨_, c3, e', w⟩
      · have k' : X.env.scope.names.lookup y = some .local := k'
        rcases L.free _ (PySem.mem_of_lookup k) rfl with k2 | k2 <;> rw [show X.env.scope.names.lookup y = _ from k2] at k' <;> cases k'
      · rw [c1] at e'
        cases e'
        exact cellUp (I.freeC y _ c1) w
  · obtain ⟨w', e'⟩ := I.cell y c (same e)
    exact ⟨w', cellUp (I.freeC y c (same e)) e'⟩
  · obtain ⟨v, o, ho, hd⟩ := I.cell y c (same e)
    exact U.free c o ho (I.freeC y c (same e)) (by simp)
/-- x(), in the def that got the lambda; what it lets out is wished for at that def's own slots -/
theorem lam_act {CXg : CXT} {Eg : XK} {Ng : List Str} {qg : Str} {sg : Scope} {g f c' : Addr} {cdg : Value} {body : Expr} {scope : Scope} {k i : Nat} {a : Str} {pn : List (Addr × Obj)} {xe : Value → Shared → Prop} {W : WX} {tb : XK → TE} {p1 p2 : Pos} {need : List (Addr × Obj)} {binds : List (Str × Value)}
    (I : Inv X pins σ H s) (L : LamT X.N X.env.scope scope) (O : LamO need f c' (X.env.qual ++ "<lambda>") body scope (cloFrom X.env.cells scope.names []) binds) (hn : ∀ p ∈ need, s.heap.get? p.1 = some p.2 ∧ H p.1 = none ∧ p.1 ∉ frs X.stack)
    (tk : L2.Takes ((cxOf CXg X.prog X.w X.K X.mg X.base Ng qg sg g cdg X.A X.stack s H Eg).tr pn xe) W) (hr : Room (k + 1) (X.A.deeper (envOfC qg sg s.heap.objs.size g cdg)))
    (hbody : ∀ (A : Around) (outer : List PySem.Env) (z : Shared) (H : Hp) (E : XK), A.guards = X.A.guards → Room k (A.deeper (LamX.lamEnv X scope z.heap.objs.size f c')) → PE (LamX.lamCx X A outer z H E scope f c') body (tb E))
    (hN : Ng[i]? = some a) (hv : Vis sg a) (hd : (a == ("__debug__" : Str)) = false) (hcd : (a == ("__classdict__" : Str)) = false) :
    PE ((cxOf CXg X.prog X.w X.K X.mg X.base Ng qg sg g cdg X.A X.stack s H Eg).tr pn xe) (.Call (.Name a p1) [] [] p2)
      (fun σZ HZ Q => σZ[i]? = some (some (.ref f)) ∧ HZ c' = some (LamX.CodeO c' (X.env.qual ++ "<lambda>")) ∧ tb (WE W σZ) (shd X.N scope σ) HZ Q) := by
  obtain ⟨⟨params, dV, doc, pm, ctv, hf, hbind⟩, hloc⟩ := O
  refine ⟨fun pz sz σZ HZ Q IZ ⟨hs, hc, ht⟩ => ?_⟩
  refine wpAny_Call_Name_kw (thn ((pe_var (pos := p1) (i := i) hN hv hd hcd).run pz sz σZ HZ (fun v H1 => v = .ref f ∧ H1 = HZ) IZ ⟨.ref f, hs, rfl, rfl⟩) fun u s1 ⟨v, H1, I1, r1, ev, eH⟩ => ?_)
  subst ev
  rw [eH] at I1
  obtain rfl : u = Value.ref f := r1
  have U : Un (frs X.stack) [] H HZ s.heap s1.heap := I1.base
  have hn1 : ∀ p ∈ need, s1.heap.get? p.1 = some p.2 := fun p hp => let ⟨a1, a2, a3⟩ := hn p hp; U.keep p.1 p.2 a1 a2 a3 (fun y => nomatch (show p.1 ∈ ([] : List Addr) from y))
  have of1 := hn1 _ hf
  refine PySem.W.callWith_F0 ⟨_, _, _, _, of1⟩ ?_
  obtain ⟨⟨oc, vs, t, hoc, hdc, hvc⟩, _, _⟩ := I1.hok c' _ hc
  have hx := passAt tk σZ
  have rc : codeAny (model X.prog X.w) (X.A.deeper (envOfC qg sg s.heap.objs.size g cdg)) (.call (.ref f) ⟨[], []⟩) (CR (L2.CX X.prog X.w) (envOfC qg sg s.heap.objs.size g cdg :: X.stack) X.prog X.w HZ s1 Q (WE W σZ)) s1 := by
    refine PySem.W.kla_callFunE hr.depth of1 rfl L.co L.gen rfl ⟨c', oc, vs, t, rfl, hoc, hdc, hvc⟩ (hbind s1 hn1 _ _ _ _ ?_)
    refine wpAny_newFunctionEnv (fun y hy => L.cell y hy) hloc (fun h₁ hns hsb => ⟨I1.nolimit.fresh _ hsb, ?_⟩) L.kind
    show codeAny _ _ (.expr body (LamX.lamEnv X scope s1.heap.objs.size f c')) _ _
    have up : ∀ b o, s1.heap.get? b = some o → h₁.get? b = some o := fun b o e => hsb.extBut b o (Nat.ne_of_lt (Heap.lt_size e)) (Heap.get?_push_of_some _ e)
    have J := lam_begin (A := X.A.deeper (envOfC qg sg s.heap.objs.size g cdg)) (outer := envOfC qg sg s.heap.objs.size g cdg :: X.stack) (E := WE W σZ) (f := f) (c' := c') (tk := s1.toks + binds.length) I L I1.env0 hr.hd U hns up
    refine PySem.W.kla_codeExpr (wpAny_mono ((hbody (X.A.deeper (envOfC qg sg s.heap.objs.size g cdg)) _ s1 HZ _ rfl (hr.deeper _)).run [] _ _ HZ Q J ht) (fun v s' hq => ?_) fun e s' hq => hq)
    obtain ⟨w', H', J', rv, q⟩ := hq
    exact ⟨w', H', J'.os, J'.bare, J'.base, J'.hok, rv, q⟩
  refine wpAny_call (codeAny_mono rc fun r s' hq => ?_)
  cases r with
  | error e => exact hx pz HZ s1 e s' I1 hq
  | ok fl =>
    cases fl with
    | ret u => exact I1.after hq
    | next => exact False.elim hq
    | brk => exact False.elim hq
    | cont => exact False.elim hq
end
end Ev
set_option Elab.async false
set_option linter.all false
set_option maxRecDepth 100000
set_option maxHeartbeats 2000000
/-! EvLb: lambdas made. -/
namespace Ev
open PySem PySem.Spec PyProof.Rows L2
/-- no parameter, or one with a whole number for default -/
def lamPs : Arguments → Bool
  | ⟨[], [], none, [], [], none, []⟩ => true
  | ⟨[], [_], none, [], [], none, [.Constant (.int _) _ _]⟩ => true
  | _ => false
/-- the parameter is a name of the lambda's own -/
def lamOwn (scope : Scope) : Arguments → Bool
  | ⟨_, as, _, _, _, _, _⟩ => as.all fun a => decide (scope.names.lookup a.arg = some .local)
theorem kdf0 (qual : Str) (body : Expr) (scope : Scope) (cells : List (Str × Addr)) (doc pm cv ctv : Value) :
    bindArgs (PySem.W.kdv_fn "<lambda>" qual ⟨[], [], none, [], [], none, []⟩ (.expr body) scope cells .none doc pm cv ctv) ⟨[], []⟩ = pure [] := rfl
theorem kdf1 (qual : Str) (a : Arg) (e : Expr) (body : Expr) (scope : Scope) (cells : List (Str × Addr)) (T : Addr) (doc pm cv ctv v : Value) {s : Shared} (h : s.heap.get? T = some (PySem.W.kdv_tup [v])) :
    BindsTo s (PySem.W.kdv_fn "<lambda>" qual ⟨[], [a], none, [], [], none, [e]⟩ (.expr body) scope cells (.ref T) doc pm cv ctv) ⟨[], []⟩ [(a.arg, v)] :=
  BindsTo.of_defaults rfl h rfl rfl (by simp [List.lookup])
theorem mk_dflt {M : Model} {A : Around} {E : Value → Shared → Prop} {s : Shared} {name qual : Str} {params : Arguments} {body : FuncBody} {scope : Scope} {env : PySem.Env} {pos : Pos} {l : Nat} {Q : Value → Shared → Prop} {u : Value}
    (h : wpAny M A (makeTail name qual params body scope env (.ref s.heap.objs.size) .none none pos l) Q E { s with heap := s.heap.push (PySem.W.kdv_tup [u]) }) : wpAny M A (makeFunction name qual params body scope env [u] [] [] pos l) Q E s := by
  rw [makeFunction_eq]
  have e1 : ([u] : List Value).isEmpty = false := rfl
  simp only [e1, List.zip_nil_right, List.filterMap_nil, List.isEmpty_nil, if_true, pure_bind, Bool.false_eq_true, if_false]
  exact wpAny_bind (wpAny_newTextTuple h)
section
variable {X : Cx} {pins : List (Addr × Obj)} {σ : L2.St} {H : Hp} {s : Shared}
theorem not_fr (I : Inv X pins σ H s) {f : Addr} (hf : s.heap.objs.size ≤ f) : f ∉ frs X.stack := fun z => by
  rcases List.mem_cons.mp (I.stkSub _ z) with e | e
  · have h1 := I.lt
    rw [← e] at h1
    exact absurd (Nat.lt_of_lt_of_le h1 hf) (Nat.lt_irrefl _)
  · exact I.nofs hf e
/-- the lambda's end of making: dV its defaults, more the objects that these are -/
theorem lam_tail {T : List (Addr × Str)} {c P : Addr} {params : Arguments} {body : Expr} {scope : Scope} {pos : Pos} {Q E : Value → Shared → Prop} {dV : Value} {more : List (Addr × Obj)} {binds : List (Str × Value)} (I : Inv X pins σ H s) (TB : LamX.TabB X.base X.mg c P) (hcode : X.env.code = .ref c)
    (hm : (P, X.env.qual ++ "<lambda>") ∈ T) (hu : ∀ p ∈ T, p.1 = P → p.2 = X.env.qual ++ "<lambda>") (hT : LamX.Tabs T H) (hfree : ∀ y ∈ scope.names, y.2 = .free → ∃ c, X.env.cells.lookup y.1 = some c) (hmore : ∀ p ∈ more, s.heap.get? p.1 = some p.2 ∧ H p.1 = none ∧ p.1 ∉ frs X.stack)
    (hloc : ∀ y ∈ binds, scope.names.lookup y.1 = some .local)
    (hb : ∀ (z : Shared) (doc pm cv ctv : Value), (∀ p ∈ more, z.heap.get? p.1 = some p.2) → BindsTo z (PySem.W.kdv_fn "<lambda>" (X.env.qual ++ "<lambda>") params (.expr body) scope (cloFrom X.env.cells scope.names []) dV doc pm cv ctv) ⟨[], []⟩ binds)
    (h : ∀ (need : List (Addr × Obj)) (f c' : Addr) (H1 : Hp) (s' : Shared), Inv X pins σ H1 s' → (∀ b o, H b = some o → b ≠ P → H1 b = some o) → LamX.Tabs T H1 → LamO need f c' (X.env.qual ++ "<lambda>") body scope (cloFrom X.env.cells scope.names []) binds →
      (∀ p ∈ need, s'.heap.get? p.1 = some p.2 ∧ H1 p.1 = none ∧ p.1 ∉ frs X.stack) → H1 c' = some (LamX.CodeO c' (X.env.qual ++ "<lambda>")) → Q (.ref f) s') :
    wpAny (model X.prog X.w) X.A (makeTail "<lambda>" (X.env.qual ++ "<lambda>") params (.expr body) scope X.env dV .none none pos pos.line) Q E s := by
  obtain ⟨ps, hP, htr, ha⟩ := hT _ hm
  have bP : s.heap.BuiltinsAt X.mg P := TB.bm.keeps I.bk
  have hP' : s.heap.get? P = some { cls := .none, data := .fields ps } := I.hok P _ hP
  have mP : ∀ p ∈ more, p.1 ≠ P := fun p hp z => by
    have y := (hmore p hp).2.1
    rw [z, hP] at y
    cases y
  have lamo : ∀ (f c' : Addr) (doc pm ctv : Value), LamO ((f, PySem.W.kdv_obj "<lambda>" (X.env.qual ++ "<lambda>") params (.expr body) scope (cloFrom X.env.cells scope.names []) dV doc pm c' ctv) :: more) f c' (X.env.qual ++ "<lambda>") body scope (cloFrom X.env.cells scope.names []) binds := fun f c' doc pm ctv =>
    ⟨⟨params, dV, doc, pm, ctv, List.mem_cons_self, fun z hz => hb z doc pm _ ctv fun p hp => hz p (List.mem_cons_of_mem _ hp)⟩, hloc⟩
  cases hc : codeAmong pos ps.toList with
  | none =>
    refine PySem.W.kdv_makeTail (mg := X.mg) (c := c) (P := P) (ps := ps) (closure_ok hfree) I.ok.glob (I.mod.glob.keeps I.bk) hcode (TB.code.keeps I.bk) hP' htr hc TB.gP bP fun c' ctv doc h' tk hx hge hlt hrec htb => ?_
    obtain ⟨c2, oc, vs, tt, e2, hoc, hd, hv⟩ := hrec
    cases e2
    have hsz : s.heap.objs.size ≤ h'.objs.size := Nat.le_trans hge (Nat.le_of_lt hlt)
    have nC : H c' = none := I.hok.fresh hge
    have lo := lamo h'.objs.size c' doc ((X.mg "__name__").getD .none) ctv
    generalize hfo : PySem.W.kdv_obj "<lambda>" (X.env.qual ++ "<lambda>") params (.expr body) scope (cloFrom X.env.cells scope.names []) dV doc ((X.mg "__name__").getD .none) c' ctv = fo at lo
    have fo_ok : (h'.push fo).get? h'.objs.size = some fo := by
      rw [← hfo]
      exact Heap.get?_push_size _ rfl
    have I3 := LamX.inv_table (t' := tk) (more := #[rawInt pos.line, rawInt pos.col, .ref c']) (h' := h'.push fo) I hP (fun b o hb e => Heap.get?_push_of_some _ (hx b o hb e)) (Heap.get?_push_of_some _ htb) hge ⟨oc, vs, tt, Heap.get?_push_of_some _ hoc, hd, hv⟩
    have hE : ∀ b o, H b = some o → b ≠ P → upd (upd H P (.tbl (ps ++ #[rawInt pos.line, rawInt pos.col, .ref c']))) c' (LamX.CodeO c' (X.env.qual ++ "<lambda>")) b = some o := fun b o e nb => by
      rw [upd_ne (ne_of_none e nC), upd_ne nb]
      exact e
    have eL : (ps ++ #[rawInt pos.line, rawInt pos.col, .ref c']).toList = ps.toList ++ [rawInt pos.line, rawInt pos.col, .ref c'] := by simp
    have codeP : ∀ {c0 : Addr} {n : Str}, H c0 = some (LamX.CodeO c0 n) → c0 ≠ P := fun {c0 n} e z => by
      rw [z, hP] at e
      exact LamX.codeO_ne ps (Option.some.inj e).symm
    refine h _ _ c' _ _ I3 hE (fun p hp => ?_) lo (fun p hp => ?_) upd_same
    · by_cases hb : p.1 = P
      · rw [hu p hp hb, hb]
        refine ⟨_, by rw [upd_ne (ne_of_none hP nC), upd_same], by rw [eL]; exact PySem.TriplesOk_snoc _ _ _ _ htr, fun p' cv hcv => ?_⟩
        rw [eL] at hcv
        rcases LamX.among_app _ htr hcv with z | z
        · obtain ⟨c0, e1, e2⟩ := ha p' cv z
          exact ⟨c0, e1, hE _ _ e2 (codeP e2)⟩
        · exact ⟨c', z, upd_same⟩
      · obtain ⟨ps', a1, a2, a3⟩ := hT p hp
        refine ⟨ps', hE _ _ a1 hb, a2, fun p' cv hcv => ?_⟩
        obtain ⟨c0, e1, e2⟩ := a3 p' cv hcv
        exact ⟨c0, e1, hE _ _ e2 (codeP e2)⟩
    · rcases List.mem_cons.mp hp with z | z
      · rw [z]
        refine ⟨fo_ok, ?_, not_fr I hsz⟩
        rw [upd_ne (Nat.ne_of_gt hlt), upd_ne (Nat.ne_of_gt (Nat.lt_of_lt_of_le (Heap.lt_size hP') hsz))]
        exact I.hok.fresh hsz
      · obtain ⟨m1, m2, m3⟩ := hmore p z
        refine ⟨Heap.get?_push_of_some _ (hx p.1 _ (mP p z) m1), ?_, m3⟩
        rw [upd_ne (Nat.ne_of_lt (Nat.lt_of_lt_of_le (Heap.lt_size m1) hge)), upd_ne (mP p z)]
        exact m2
  | some cv =>
    obtain ⟨c', e, hco⟩ := ha pos cv hc
    subst e
    refine PySem.W.kdv_makeTailHit (mg := X.mg) (c := c) (P := P) (ps := ps) (closure_ok hfree) I.ok.glob (I.mod.glob.keeps I.bk) hcode (TB.code.keeps I.bk) hP' htr hc bP fun ctv doc h' tk hx hsz => ?_
    have lo := lamo h'.objs.size c' doc ((X.mg "__name__").getD .none) ctv
    show Q (.ref h'.objs.size) { s with heap := h'.push (PySem.W.kdv_obj "<lambda>" (X.env.qual ++ "<lambda>") params (.expr body) scope (cloFrom X.env.cells scope.names []) dV doc ((X.mg "__name__").getD .none) c' ctv), toks := tk }
    generalize hfo : PySem.W.kdv_obj "<lambda>" (X.env.qual ++ "<lambda>") params (.expr body) scope (cloFrom X.env.cells scope.names []) dV doc ((X.mg "__name__").getD .none) c' ctv = fo at lo
    have fo_ok : (h'.push fo).get? h'.objs.size = some fo := by
      rw [← hfo]
      exact Heap.get?_push_size _ rfl
    have I3 : Inv X pins σ H { s with heap := h'.push fo, toks := tk } := I.kept fun b o e => Heap.get?_push_of_some _ (hx b o e)
    refine h _ _ c' _ _ I3 (fun _ _ e _ => e) hT lo (fun p hp => ?_) hco
    rcases List.mem_cons.mp hp with z | z
    · rw [z]
      exact ⟨fo_ok, I.hok.fresh hsz, not_fr I hsz⟩
    · obtain ⟨m1, m2, m3⟩ := hmore p z
      exact ⟨Heap.get?_push_of_some _ (hx p.1 _ m1), m2, m3⟩
theorem mk_none {M : Model} {A : Around} {E : Value → Shared → Prop} {s : Shared} {name qual : Str} {params : Arguments} {body : FuncBody} {scope : Scope} {env : PySem.Env} {pos : Pos} {l : Nat} {Q : Value → Shared → Prop}
    (h : wpAny M A (makeTail name qual params body scope env .none .none none pos l) Q E s) : wpAny M A (makeFunction name qual params body scope env [] [] [] pos l) Q E s := by
  rw [makeFunction_eq]
  simp only [List.zip_nil_right, List.filterMap_nil, List.isEmpty_nil, if_true, pure_bind]
  exact h
theorem lam_made {T : List (Addr × Str)} {c P : Addr} {params : Arguments} {body : Expr} {scope : Scope} {pos : Pos} {Q : Value → Shared → Prop} (I : Inv X pins σ H s) (TB : LamX.TabB X.base X.mg c P) (hcode : X.env.code = .ref c) (hm : (P, X.env.qual ++ "<lambda>") ∈ T)
    (hu : ∀ p ∈ T, p.1 = P → p.2 = X.env.qual ++ "<lambda>") (hT : LamX.Tabs T H) (hp : lamPs params = true) (ho : lamOwn scope params = true) (hfree : ∀ y ∈ scope.names, y.2 = .free → ∃ c, X.env.cells.lookup y.1 = some c)
    (h : ∀ (need : List (Addr × Obj)) (f c' : Addr) (binds : List (Str × Value)) (H1 : Hp) (s' : Shared), Inv X pins σ H1 s' → (∀ b o, H b = some o → b ≠ P → H1 b = some o) → LamX.Tabs T H1 → LamO need f c' (X.env.qual ++ "<lambda>") body scope (cloFrom X.env.cells scope.names []) binds →
      (∀ p ∈ need, s'.heap.get? p.1 = some p.2 ∧ H1 p.1 = none ∧ p.1 ∉ frs X.stack) → H1 c' = some (LamX.CodeO c' (X.env.qual ++ "<lambda>")) → Q (.ref f) s') :
    wpAny (model X.prog X.w) X.A (eval (.Lambda params body scope pos) X.env) Q X.xe s := by
  unfold lamPs at hp
  split at hp
  · refine PySem.W.kla_eval rfl (mk_none (lam_tail (more := []) (binds := []) I TB hcode hm hu hT hfree (fun p hp => by cases hp) (fun y hy => by cases hy) (fun z doc pm cv ctv _ => BindsTo.of_eq (kdf0 _ _ _ _ _ _ _ _)) fun need f c' H1 s' => h need f c' [] H1 s'))
  · next a n k kp =>
    refine PySem.W.kdv_lam rfl rfl (PySem.W.kdv_all1 (thn ((pe_int (X := X)).run pins s σ H (fun v H1 => v = .int n ∧ H1 = H) I ⟨rfl, rfl⟩) fun u s1 ⟨v, H1, I1, r1, ev, eH⟩ => PySem.W.kdv_all0 (mk_dflt ?_)))
    subst ev
    subst eH
    have I2 : Inv X pins σ H1 { s1 with heap := s1.heap.push (PySem.W.kdv_tup [u]) } := I1.kept (t' := s1.toks) fun b o e => Heap.get?_push_of_some _ e
    have ht : (s1.heap.push (PySem.W.kdv_tup [u])).get? s1.heap.objs.size = some (PySem.W.kdv_tup [u]) := Heap.get?_push_size _ rfl
    have hHt : H1 s1.heap.objs.size = none := I1.hok.fresh (Nat.le_refl _)
    have hfr := not_fr I1 (Nat.le_refl s1.heap.objs.size)
    have own : scope.names.lookup a.arg = some .local := by
      have z : ([a].all fun a => decide (scope.names.lookup a.arg = some .local)) = true := ho
      simpa using z
    refine lam_tail (more := [(s1.heap.objs.size, PySem.W.kdv_tup [u])]) (binds := [(a.arg, u)]) I2 TB hcode hm hu hT hfree (fun p hp => ?_) (fun y hy => ?_) (fun z doc pm cv ctv hz => kdf1 _ a _ body scope _ _ doc pm cv ctv u (hz _ (List.mem_singleton.mpr rfl))) fun need f c' H2 s' => h need f c' _ H2 s'
    · rw [List.mem_singleton] at hp
      subst hp
      exact ⟨ht, hHt, hfr⟩
    · rw [List.mem_singleton] at hy
      subst hy
      exact own
  · cases hp
end
end Ev
set_option Elab.async false
set_option linter.all false
set_option maxRecDepth 100000
set_option maxHeartbeats 2000000
/-! EvLc: what a lambda captures; data seen from two defs. -/
namespace Ev
open PySem PySem.Spec PyProof.Rows L2
/-- the same heap facts, closures aside -/
structure Alike (g g' : G) : Prop where
  K : g.K = g'.K
  prog : g.prog = g'.prog
  w : g.w = g'.w
  fa : g.fa = g'.fa
  ca : g.ca = g'.ca
  fld : g.fld = g'.fld
section
variable {g g' : G} {F F' H : Hp}
theorem rd_conv (hF : ∀ a o, F a = some o → (∀ c, o ≠ LamX.CodeO a c) → F' a = some o) {a : Addr} {u : HO} (hu : ∀ c, u ≠ LamX.CodeO a c) (r : Rd F a u) : Rd F' a u := by
  rcases r with r | ⟨o, r⟩
  · exact .inl (hF _ _ r hu)
  · exact .inr ⟨o, hF _ _ r fun c z => by unfold LamX.CodeO at z; cases z⟩
theorem rep_conv (h : Alike g g') (hF : ∀ a o, F a = some o → (∀ c, o ≠ LamX.CodeO a c) → F' a = some o) : (∀ {v : V} {d : PyData}, Rep g F v d → Rep g' F' v d) ∧ (∀ {vs : List V} {ds : List PyData}, RepAll g F vs ds → RepAll g' F' vs ds) := by
  obtain ⟨hK, hp, hw, _, _, _⟩ := h
  obtain ⟨prog, w, K, fa, ca, fld, C, T⟩ := g
  obtain ⟨prog', w', K', fa', ca', fld', C', T'⟩ := g'
  simp only at hK hp hw
  subst hK
  subst hp
  subst hw
  constructor
  · intro v d r
    refine Rep.rec (motive_1 := fun v d _ => Rep ⟨prog, w, K, fa', ca', fld', C', T'⟩ F' v d) (motive_2 := fun vs ds _ => RepAll ⟨prog, w, K, fa', ca', fld', C', T'⟩ F' vs ds) ?_ ?_ ?_ ?_ ?_ ?_ ?_ ?_ ?_ ?_ r
    · exact .non
    · exact .bl
    · exact .int
    · exact .str
    · exact fun q _ i => .lst (hF _ _ q fun c z => by unfold LamX.CodeO at z; cases z) i
    · exact fun q _ i => .tup (q.imp (rd_conv hF fun c z => by unfold LamX.CodeO at z; cases z) id) i
    · exact fun q _ _ i j => .dicK (rd_conv hF (fun c z => by unfold LamX.CodeO at z; cases z) q) i j
    · exact fun q _ _ i j => .dicT (rd_conv hF (fun c => dic_code) q) i j
    · exact .nil
    · exact fun _ _ i j => .cons i j
  · intro v d r
    refine RepAll.rec (motive_1 := fun v d _ => Rep ⟨prog, w, K, fa', ca', fld', C', T'⟩ F' v d) (motive_2 := fun vs ds _ => RepAll ⟨prog, w, K, fa', ca', fld', C', T'⟩ F' vs ds) ?_ ?_ ?_ ?_ ?_ ?_ ?_ ?_ ?_ ?_ r
    · exact .non
    · exact .bl
    · exact .int
    · exact .str
    · exact fun q _ i => .lst (hF _ _ q fun c z => by unfold LamX.CodeO at z; cases z) i
    · exact fun q _ i => .tup (q.imp (rd_conv hF fun c z => by unfold LamX.CodeO at z; cases z) id) i
    · exact fun q _ _ i j => .dicK (rd_conv hF (fun c z => by unfold LamX.CodeO at z; cases z) q) i j
    · exact fun q _ _ i j => .dicT (rd_conv hF (fun c => dic_code) q) i j
    · exact .nil
    · exact fun _ _ i j => .cons i j
theorem own_conv (h : Alike g g') (hF : ∀ a o, F a = some o → (∀ c, o ≠ LamX.CodeO a c) → F' a = some o) {a : Addr} {x : PyData} (o : OwnAt g F H a x) : OwnAt g' F' H a x := by
  obtain ⟨r1, r2⟩ := rep_conv h hF
  have hp := h.prog
  have hw := h.w
  cases x with
  | list ds =>
    obtain ⟨xs, h1, h2⟩ := o
    exact ⟨xs, h1, r2 h2⟩
  | dict kvs =>
    rcases o with ⟨kv, k1, k2, h1, a1, a2, e⟩ | ⟨ks, vs, vds, h1, a1, a2, e⟩
    · exact .inl ⟨kv, k1, k2, h1, r2 a1, r2 a2, e⟩
    · exact .inr ⟨ks, vs, vds, by rw [h1, hp, hw], r2 a1, r2 a2, e⟩
  | _ => exact o.elim
theorem ex_conv (h : Alike g g') {cls : Value} {dd : Option Addr} {c : Nat} {v : Option PyData} (x : ExOk g F cls dd c v) : ExOk g' F cls dd c v := by
  obtain ⟨a, h1, h2, h3⟩ := x
  refine ⟨a, by rw [← h.ca]; exact h1, h2, ?_⟩
  cases v with
  | none => exact h3
  | some y =>
    obtain ⟨d, u, f, e1, e2, e3, e4⟩ := h3
    exact ⟨d, u, f, e1, by rw [← h.fld]; exact e2, e3, (rep_conv h fun _ _ z _ => z).1 e4⟩
end
/-! ### what is captured -/
section
variable {g : G} {F F2 H H2 : Hp} {σ : L2.St}
theorem capGo_ok : ∀ {l : List Nat} {F : Hp} {e e1 : Env}, Ok g F σ H e → capGo l e = some e1 → ∃ F1, Stp F σ H e F1 σ H e1 ∧ Ok g F1 σ H e1
  | [], F, e, e1, k, h => by
    cases h
    exact ⟨F, .refl, k⟩
  | i :: r, F, e, e1, k, h => by
    unfold capGo at h
    split at h
    · next rr e2 ht =>
      obtain ⟨v, F1, _, s1, k1, _⟩ := take_ok k ht
      obtain ⟨F2, s2, k2⟩ := capGo_ok k1 h
      exact ⟨F2, s1.trans s2, k2⟩
    · cases h
theorem capOf_get {free : List Nat} : ∀ {e : Env} {k i : Nat}, (capOf free k e)[i]? = (e[i]?).map fun s => if free.contains (k + i) then s.cap else none
  | [], k, i => by simp [capOf]
  | s :: e, k, 0 => by simp [capOf]
  | s :: e, k, i + 1 => by
    rw [capOf, List.getElem?_cons_succ, List.getElem?_cons_succ, capOf_get]
    rw [show k + 1 + i = k + (i + 1) by omega]
theorem capE_get {free : List Nat} {e : Env} {i : Nat} {s : Sl} (h : (capE (capOf free 0 e))[i]? = some s) : ∃ t, e[i]? = some t ∧ (s = .un ∨ ∃ x, s = .va (.d x) ∧ t.cap = some x ∧ i ∈ free) := by
  unfold capE at h
  rw [List.getElem?_map, capOf_get] at h
  cases ht : e[i]? with
  | none => rw [ht] at h; cases h
  | some t =>
    rw [ht] at h
    refine ⟨t, rfl, ?_⟩
    by_cases hc : free.contains (0 + i) = true
    · simp only [Option.map_some, hc, if_true] at h
      cases hx : t.cap with
      | none =>
        rw [hx] at h
        exact .inl (Option.some.inj h).symm
      | some x =>
        rw [hx] at h
        have hc : free.contains (0 + i) = true := hc
        rw [Nat.zero_add] at hc
        exact .inr ⟨x, (Option.some.inj h).symm, rfl, List.contains_iff_mem.mp hc⟩
    · simp only [Option.map_some, hc, if_false, Bool.false_eq_true] at h
      exact .inl (Option.some.inj h).symm
theorem cap_none {free : List Nat} {e : Env} {a : Addr} : ¬ Own σ (capE (capOf free 0 e)) a := by
  rintro ⟨j, s, hj, os, _⟩
  obtain ⟨t, _, z | ⟨x, z, _⟩⟩ := capE_get hj <;> (rw [z] at os; cases os)
theorem cap_ok {g' : G} {free : List Nat} {e : Env} {N : List Str} {scope : Scope} (hl : σ.length = N.length) (hfr : ∀ i ∈ free, ∀ y, N[i]? = some y → scope.names.lookup y ≠ some .local) (k : Ok g F σ H e) (sb : Sub F F2) (s2 : Sub F2 H2) (ht : LamX.Tabs g.T H2 ∧ ∀ p ∈ g.T, F2 p.1 = none) : Ok g F2 (shd N scope σ) H2 (capE (capOf free 0 e)) := by
  have ps : ∀ {i v}, i ∈ free → σ[i]? = some (some v) → (shd N scope σ)[i]? = some (some v) := fun {i v} hf hs => by
    have hi : i < N.length := by
      rw [← hl]
      exact (List.getElem?_eq_some_iff.mp hs).1
    exact shd_of (List.getElem?_eq_getElem hi) hs (hfr i hf _ (List.getElem?_eq_getElem hi))
  refine ⟨s2, ?_, fun i s hi => ?_, fun i j s t a _ hi hj os => ?_, ht⟩
  · have z : (capOf free 0 e).length = e.length := by
      have go : ∀ (e : Env) (k : Nat), (capOf free k e).length = e.length := by
        intro e
        induction e with
        | nil => intro _; rfl
        | cons s e ih => intro k; rw [capOf, List.length_cons, List.length_cons, ih]
      exact go e 0
    unfold capE
    rw [List.length_map, z, k.len, shd_len hl, hl]
  · obtain ⟨t, ht, z | ⟨x, z, hx, hf⟩⟩ := capE_get hi
    · rw [z]
      trivial
    · rw [z]
      have p := k.pl i t ht
      cases t with
      | va w =>
        cases w with
        | d y =>
          cases hx
          obtain ⟨v, h1, h2⟩ := p
          exact ⟨v, slot_iff.mpr (ps hf (slot_iff.mp h1)), RepW.mono sb h2⟩
        | _ => cases hx
      | ls y =>
        cases hx
        obtain ⟨v, h1, h2⟩ := p
        exact ⟨v, slot_iff.mpr (ps hf (slot_iff.mp h1)), h2.mono sb⟩
      | _ => cases hx
  · obtain ⟨t, _, z | ⟨x, z, _⟩⟩ := capE_get hi <;> (rw [z] at os; cases os)
end
/-! ### objects that come from elsewhere -/
section
variable {g g0 : G} {F F' H H' : Hp} {σ σ0 σ1 : L2.St} {e e0 e2 : Env}
/-- things are added, all that was is kept -/
theorem seen (k : Ok g F σ H e) (fz : Sub F F') (keep : ∀ a o, H a = some o → (∀ ps, o ≠ .tbl ps) → H' a = some o) (there : ∀ a, H a ≠ none → H' a ≠ none) (nw : ∀ a, F' a ≠ none → F a ≠ none ∨ H a = none) (sb : Sub F' H') (ht : LamX.Tabs g.T H' ∧ ∀ p ∈ g.T, F' p.1 = none) : Stp F σ H e F' σ H' e ∧ Ok g F' σ H' e := by
  have mv : ∀ b y, F b = none → OwnAt g F H b y → F' b = none ∧ OwnAt g F' H' b y := fun b y nb o => by
    obtain ⟨u, hu, hn, _⟩ := o.here
    refine ⟨?_, o.move fz ((keep b u hu hn).trans hu.symm)⟩
    cases q : F' b with
    | none => rfl
    | some z =>
      rcases nw b (by rw [q]; simp) with h | h
      · exact absurd nb h
      · rw [hu] at h
        cases h
  refine ⟨⟨fz, fun a o h _ n => keep a o h n, there, fun a h => (nw a h).imp id .inr, fun a h => .inl h, fun i s h l => ⟨rfl, s, h, ?_⟩⟩, ⟨sb, k.len, fun i s h => ?_, k.apart, ht⟩⟩
  · cases s <;> first | rfl | trivial | exact ⟨_, .inl rfl⟩
  · have pl := k.pl i s h
    cases s with
    | un => trivial
    | va w =>
      obtain ⟨v, h1, h2⟩ := pl
      exact ⟨v, h1, h2.mono fz⟩
    | ls y =>
      obtain ⟨v, h1, h2⟩ := pl
      exact ⟨v, h1, h2.mono fz⟩
    | ow y =>
      obtain ⟨b, h1, h2, h3⟩ := pl
      exact ⟨b, h1, mv b y h2 h3⟩
    | le y =>
      obtain ⟨b, h1, h2, h3⟩ := pl
      exact ⟨b, h1, mv b y h2 h3⟩
    | lk y =>
      obtain ⟨b, h1, h2, h3⟩ := pl
      exact ⟨b, h1, mv b y h2 h3⟩
/-- a step of another frame, that has no list of its own, seen from here -/
theorem step_seen (k : Ok g F σ H e) (st : Stp F σ0 H e0 F' σ1 H' e2) (no : ∀ a, ¬ Own σ0 e0 a) (sb : Sub F' H') (ht : LamX.Tabs g.T H' ∧ ∀ p ∈ g.T, F' p.1 = none) : Stp F σ H e F' σ H' e ∧ Ok g F' σ H' e :=
  seen k st.fz (fun a o h n => st.keep a o h (no a) n) st.there (fun a h => by
    rcases st.newF a h with z | z | z
    · exact .inl z
    · exact absurd z (no a)
    · exact .inr z) sb ht
end
end Ev
set_option Elab.async false
set_option linter.all false
set_option maxRecDepth 100000
set_option maxHeartbeats 2000000
/-! EvLd: the lambda called in the def that got it. -/
namespace Ev
open PySem PySem.Spec PyProof.Rows L2
/-- the closure of one call -/
abbrev CloC (f : Addr) (b : Nat) (cap : List (Option PyData)) (F0 : Hp) : V → Wd → Hp → Prop := fun v w F => v = .ref f ∧ w = .clo b cap ∧ F = F0
theorem nm_parts {c : Cc} {i : Nat} {s : Str} (h : nmOk c i s = true) : c.N[i]? = some s ∧ Vis c.sc s ∧ (s == ("__debug__" : Str)) = false ∧ (s == ("__classdict__" : Str)) = false := by
  unfold nmOk at h
  simp only [Bool.and_eq_true, Bool.not_eq_true', decide_eq_true_eq] at h
  obtain ⟨⟨⟨h1, h2⟩, h3⟩, h4⟩ := h
  exact ⟨h1, vis_of rfl h2, h3, h4⟩
section
variable {q : Qn} {X : Cx} {pins : List (Addr × Obj)} {σ : L2.St} {H : Hp} {s : Shared}
theorem cap_pe {p : Prg} {d b : Nat} {x : E} {need : List (Addr × Obj)} {binds : List (Str × Value)} {f c' g : Addr} {body : Expr} {scope sg : Scope} {Ng : List Str} {qg : Str} {cdg : Value} {F0 : Hp} {e1 : Env} {free : List Nat}
    (I : Inv X pins σ H s) (L : LamT X.N X.env.scope scope) (O : LamO need f c' (X.env.qual ++ "<lambda>") body scope (cloFrom X.env.cells scope.names []) binds) (hn : ∀ p ∈ need, s.heap.get? p.1 = some p.2 ∧ H p.1 = none ∧ p.1 ∉ frs X.stack)
    {F1 Hk : Hp} (hfr : ∀ i ∈ free, ∀ y, X.N[i]? = some y → scope.names.lookup y ≠ some .local) (k0 : Ok (q.at X C0) F1 σ Hk e1) (h01 : Sub F1 F0) (hc : F0 c' = some (LamX.CodeO c' (X.env.qual ++ "<lambda>"))) (hr : Room (d + 2) (X.A.deeper (envOfC qg sg s.heap.objs.size g cdg))) (hx : p.lams[b]? = some x)
    (hbody : ∀ (A : Around) (outer : List PySem.Env) (z : Shared) (Hz : Hp) (E : XK), A.guards = X.A.guards → Room (d + 1) (A.deeper (LamX.lamEnv X scope z.heap.objs.size f c')) → PE (LamX.lamCx X A outer z Hz E scope f c') body (tR (q.at X C0) (fun cls dd _ H' => E cls dd H') (ev (callD p d) (cloD p d) fuel false x)))
    {W : WX} {pn : List (Addr × Obj)} {xe : Value → Shared → Prop} (tk : L2.Takes ((cxOf C8.CX0 X.prog X.w X.K X.mg X.base Ng qg sg g cdg X.A X.stack s H C8.E0).tr pn xe) W) {cz : Cc} (hN : cz.N = Ng) (hs : cz.sc = sg) {i : Nat} {y : Str} {p1 p2 : Pos} (hi : nmOk cz i y = true) :
    PE ((cxOf C8.CX0 X.prog X.w X.K X.mg X.base Ng qg sg g cdg X.A X.stack s H C8.E0).tr pn xe) (.Call (.Name y p1) [] [] p2) (tR (q.at X (CloC f b (capOf free 0 e1) F0)) W (eCapp (cloD p (d + 1)) i)) := by
  obtain ⟨n1, n2, n3, n4⟩ := nm_parts hi
  rw [hN] at n1
  rw [hs] at n2
  refine pe_of (lam_act (i := i) (k := d + 1) I L O hn tk hr hbody n1 n2 n3 n4) fun σZ HZ Q ⟨FZ, eZ, kZ, o⟩ => ?_
  unfold eCapp at o
  cases hp : peek eZ i with
  | none => rw [hp] at o; exact o.elim
  | some w =>
    rw [hp] at o
    obtain ⟨v, v1, v2⟩ := peek_ok kZ hp
    cases w with
    | clo b2 cap2 =>
      obtain ⟨Fz, ⟨rfl, ew, rfl⟩, sb⟩ := (show ∃ Fz, CloC f b (capOf free 0 e1) F0 v (.clo b2 cap2) Fz ∧ Sub Fz FZ from v2)
      cases ew
      refine ⟨slot_iff.mp v1, kZ.sub _ _ (sb _ _ hc), FZ, capE (capOf free 0 e1), cap_ok (g' := q.at X C0) I.len hfr k0 (h01.trans sb) kZ.sub kZ.tab, ?_⟩
      have al : Alike (q.at X C0) (q.at X (CloC f b (capOf free 0 e1) Fz)) := ⟨rfl, rfl, rfl, rfl, rfl, rfl⟩
      have idF : ∀ {F : Hp} (a : Addr) (o : HO), F a = some o → (∀ c, o ≠ LamX.CodeO a c) → F a = some o := fun _ _ z _ => z
      simp only [cloD, hx] at o
      cases hev : ev (callD p d) (cloD p d) fuel false x (capE (capOf free 0 e1)) with
      | none => rw [hev] at o; exact o.elim
      | some u =>
        rw [hev] at o
        cases u with
        | er c v e' =>
          intro F' H' st k cls dd xo
          obtain ⟨s2, k2⟩ := step_seen kZ st (fun a => cap_none) k.sub k.tab
          exact (show ∀ F' H', Stp FZ σZ HZ eZ F' σZ H' eZ → Ok (q.at X (CloC f b (capOf free 0 e1) Fz)) F' σZ H' eZ → ∀ cls dd, ExOk (q.at X (CloC f b (capOf free 0 e1) Fz)) F' cls dd c v → W cls dd σZ H' from o) F' H' s2 k2 cls dd (ex_conv al xo)
        | ok r e' =>
          intro v F' H' st k r'
          obtain ⟨s2, k2⟩ := step_seen kZ st (fun a => cap_none) k.sub k.tab
          refine (show ∀ v F' H', Stp FZ σZ HZ eZ F' σZ H' eZ → Ok (q.at X (CloC f b (capOf free 0 e1) Fz)) F' σZ H' eZ → RsOk (q.at X (CloC f b (capOf free 0 e1) Fz)) (Bs σZ HZ eZ) F' σZ H' eZ v r → Q v H' from o) v F' H' s2 k2 ?_
          cases r with
          | v w =>
            cases w with
            | d y => exact (rep_conv al idF).1 r'
            | fn i => exact r'
            | st xs => exact r'
            | sc ns => exact r'
            | clo _ _ =>
              obtain ⟨_, z, _⟩ := (show ∃ F0 : Hp, False ∧ Sub F0 F' from r')
              exact z.elim
            | ex _ _ =>
              obtain ⟨_, z, _⟩ := (show ∃ F0 : Hp, False ∧ Sub F0 F' from r')
              exact z.elim
          | o y =>
            obtain ⟨a, h1, h2, h3, h4⟩ := r'
            have fresh : HZ a = none := by
              rcases h4 with h4 | h4
              · exact absurd h4 cap_none
              · exact h4
            exact ⟨a, h1, ⟨h2.nf, fun z => kZ.ownH z fresh, h2.th⟩, own_conv al idF h3, .inr fresh⟩
    | _ => exact o.elim
end
end Ev
set_option Elab.async false
set_option linter.all false
set_option maxRecDepth 100000
set_option maxHeartbeats 4000000
/-! EvLe: a def called with a lambda. -/
namespace Ev
open PySem PySem.Spec PyProof.Rows L2
/-- no lambdas -/
def lm0 : Cc → Nat → Nat → List Nat → Expr → Bool := fun _ _ _ _ _ => false
theorem lamH0 {q : Qn} {gl : Str → Option Gn} {call : Nat → Env → Option CO} {clo : Nat → List (Option PyData) → Option CO} {d : Nat} : LamH q gl call clo d lm0 := fun _ _ _ _ _ _ _ _ _ _ _ _ _ _ h => by cases h
def lamCc (c : Cc) (scope : Scope) : Cc := ⟨c.N, scope, fun _ => false, true, false, false⟩
/-- what is captured is none of the lambda's own names -/
def lamFr (N : List Str) (scope : Scope) (free : List Nat) : Bool := free.all fun i => match N[i]? with | some y => !decide (scope.names.lookup y = some .local) | none => true
theorem lamFr_by {N : List Str} {scope : Scope} {free : List Nat} (h : lamFr N scope free = true) : ∀ i ∈ free, ∀ y, N[i]? = some y → scope.names.lookup y ≠ some .local := fun i hi y hy => by
  unfold lamFr at h
  rw [List.all_eq_true] at h
  have z := h i hi
  rw [hy] at z
  simpa using z
def lmOf (gl : Str → Option Gn) (lams : List E) (m : Nat) : Cc → Nat → Nat → List Nat → Expr → Bool := fun c _ b free lam =>
  match lam with
  | .Lambda params body scope _ => lamPs params && lamOwn scope params && lamTB c.N c.sc scope && lamFr c.N scope free && (match lams[b]? with | some x => chk gl lm0 m (lamCc c scope) body x | none => false)
  | _ => false
/-- what is known of the module's names -/
structure Stat (q : Qn) (gl : Str → Option Gn) (sub : Nat → Nat → Bool) (P : Program) (w : World) (K : PySem.W.Frag) (mg : Str → Option Value) : Prop where
  cst : ∀ x y, gl x = some (.cst y) → ∃ v u, mg x = some u ∧ RelV v u ∧ ∀ (g : G) (F : Hp), g.K = K → g.prog = P → g.w = w → Rep g F v y
  exs : ∀ x c b, gl x = some (.exc c b) → ∀ X : Cx, X.prog = P → X.K = K → X.mg = mg → ExcF q X x c b
  blt : ∀ x ∈ blts, mg x = none
  try_ : TryF q K sub
/-- the context of a def that gets a lambda -/
def hofCc (N : List Str) (sg : Scope) : Cc := ⟨N, sg, fun _ => true, false, true, false⟩
/-- a def that gets a lambda -/
def HofF (gl : Str → Option Gn) (p : Prg) (m kk : Nat) (K : PySem.W.Frag) (mg : Str → Option Value) (x : Str) (k : Nat) : Prop :=
  ∃ (g : Addr) (name qual : Str) (params : Arguments) (body : List Stmt) (sg : Scope) (dV kV doc pm cdv ct oc : Value) (an od : Option Addr) (osl : Array (Option Value)) (Ng : List Str) (a : Str) (df : Df),
    mg x = some (.ref g) ∧ PySem.W.keepIn K (.ref g) = true ∧ K.lookup g = some ⟨oc, od, .func (PySem.W.fnOf name qual params body sg dV kV doc pm an cdv ct), osl⟩ ∧ PySem.W.codeIn K cdv qual = true ∧
    L2.Binds K (PySem.W.fnOf name qual params body sg dV kV doc pm an cdv ct) [a] [] ∧ FnScope Ng [a] sg ∧ p.defs[k]? = some df ∧ df.np = 1 ∧ df.star = false ∧ df.ns = Ng.length ∧ recSs (chkS gl lm0 m kk) (hofCc Ng sg) body df.body = true
def gOf (q : Qn) (P : Program) (w : World) (K : PySem.W.Frag) : G := ⟨P, w, K, q.fa, q.ca, q.fld, C0, q.T⟩
/-- every def keeps its promise, at the depth d -/
def FnsAt (q : Qn) (gl : Str → Option Gn) (p : Prg) (P : Program) (w : World) (K : PySem.W.Frag) (mg : Str → Option Value) (base : Heap) (d : Nat) : Prop :=
  ∀ x k, gl x = some (.fn k) → ∃ f, mg x = some (.ref f) ∧ PySem.W.keepIn K (.ref f) = true ∧ FnG P w K mg base (L2.CX P w) (d + 1) f (SpC (gOf q P w K) (callD p d k))
section
variable {q : Qn} {gl : Str → Option Gn} {p : Prg} {m kk : Nat} {P : Program} {w : World} {K : PySem.W.Frag} {mg : Str → Option Value} {base : Heap}
theorem lamH_of (hq : ∀ P' w' K' mg' base', q.ok P' w' K' mg' base' → P' = P ∧ w' = w ∧ K' = K ∧ mg' = mg ∧ base' = base) (S : Stat q gl p.sub P w K mg) (Hh : ∀ x k, gl x = some (.hof k) → HofF gl p m kk K mg x k) : ∀ d, (∀ d', d' < d → FnsAt q gl p P w K mg base d') → LamH q gl (callD p d) (cloD p d) d (lmOf gl p.lams m) := by
  intro d hd C W c X ft hl hcalls f k b free lam hgl hh hlm p1 pos
  have eC : C = C0 := ft.c0 hcalls
  subst eC
  obtain ⟨okq, cc, P0, hcode, TB, hm, hu⟩ := ft.lamE hl
  obtain ⟨rfl, rfl, rfl, rfl, rfl⟩ := hq _ _ _ _ _ okq
  cases lam <;> first | cases hlm | skip
  next params body scope lpos =>
  have hlm' : (lamPs params && lamOwn scope params && lamTB c.N c.sc scope && lamFr c.N scope free && (match p.lams[b]? with | some x => chk gl lm0 m (lamCc c scope) body x | none => false)) = true := hlm
  simp only [Bool.and_eq_true] at hlm'
  obtain ⟨⟨⟨⟨hps, how⟩, hlt⟩, hfr0⟩, hx⟩ := hlm'
  have hfr : ∀ i ∈ free, ∀ y, X.N[i]? = some y → scope.names.lookup y ≠ some .local := by
    rw [ft.N]
    exact lamFr_by hfr0
  have L : LamT X.N X.env.scope scope := by
    rw [ft.N, ft.sc]
    exact lamT_by hlt
  obtain ⟨x, hx1, hx2⟩ : ∃ x, p.lams[b]? = some x ∧ chk gl lm0 m (lamCc c scope) body x = true := by
    cases hb : p.lams[b]? with
    | none => rw [hb] at hx; cases hx
    | some x =>
      rw [hb] at hx
      exact ⟨x, rfl, hx⟩
  obtain ⟨g, name, qual, gparams, gbody, sg, dV, kV, doc, pm, cdv, ct, oc, an, od, osl, Ng, a, df, hmg, hkeep, lk, hcd, hb, Sg, hdf, hnp, hst, hns, hchk⟩ := Hh f k hh
  obtain ⟨g1, g2⟩ := ft.glb hgl
  cases d with
  | zero =>
    refine pe_zero fun e => ?_
    unfold eLcall
    cases capGo free e <;> rfl
  | succ d1 =>
    refine ⟨fun pins s σ H Q I ⟨F, e, k0, o⟩ => ?_⟩
    unfold eLcall at o
    cases hcg : capGo free e with
    | none => rw [hcg] at o; exact o.elim
    | some e1 =>
      rw [hcg] at o
      simp only at o
      obtain ⟨F1, s1, k1⟩ := capGo_ok k0 hcg
      -- what comes of the call
      obtain ⟨r, bs, hcall, hres⟩ : ∃ r bs, callD p (d1 + 1) k [.va (.clo b (capOf free 0 e1))] = some (.ok r bs) ∧ ((∃ y, r = .v (.d y)) ∨ ∃ y, r = .o y) ∧ ∀ v F' H', Stp F σ H e F' σ H' e1 → Ok (q.at X C0) F' σ H' e1 → RsOk (q.at X C0) (Bs σ H e) F' σ H' e1 v r → Q v H' := by
        cases hc : callD p (d1 + 1) k [.va (.clo b (capOf free 0 e1))] with
        | none => rw [hc] at o; exact o.elim
        | some u =>
          rw [hc] at o
          cases u with
          | er _ _ _ => exact o.elim
          | ok r bs =>
            cases r with
            | v w =>
              cases w with
              | d y => exact ⟨_, bs, rfl, .inl ⟨y, rfl⟩, o⟩
              | _ => exact o.elim
            | o y => exact ⟨_, bs, rfl, .inr ⟨y, rfl⟩, o⟩
      obtain ⟨hdat, done⟩ := hres
      refine wpAny_Call_Name_kw (ld_glob I g1 hmg ?_ g2)
      refine PySem.W.callWith_K (h₀ := X.base) I.ok.mod.kin hkeep ?_ (by rfl) (by rfl)
      show wpAny _ _ (spliced ((false, PySem.eval (.Lambda params body scope lpos) X.env) :: PySem.backTo pos (starEach [] X.env))) _ _ s
      refine Calls.spliced_cons (lam_made I TB hcode hm hu k1.tab.1 hps how (L.has I.ok) fun need fa c' binds H1 s' I1 eP T1 O hn hco => ?_)
      refine Calls.spliced_nil ⟨I1.kIn, ?_⟩
      -- what stays known
      have P1 : F1 P0 = none := k1.tab.2 _ hm
      have up1 : Sub F1 H1 := fun b o hb => eP b o (k1.sub b o hb) fun z => by rw [z, P1] at hb; cases hb
      generalize hF2 : upd F1 c' (LamX.CodeO c' (X.env.qual ++ "<lambda>")) = F2
      have c2 : F2 c' = some (LamX.CodeO c' (X.env.qual ++ "<lambda>")) := by rw [← hF2, upd_same]
      have s12 : Sub F1 F2 := fun b o hb => by
        by_cases z : b = c'
        · rw [z] at hb ⊢
          rw [c2]
          have y := up1 c' o hb
          rw [hco] at y
          exact y
        · rw [← hF2, upd_ne z]
          exact hb
      have up2 : Sub F2 H1 := fun b o hb => by
        by_cases z : b = c'
        · rw [z, c2] at hb
          rw [z, hco]
          exact hb
        · rw [← hF2, upd_ne z] at hb
          exact up1 b o hb
      have tn : ∀ pr ∈ q.T, pr.1 ≠ c' := fun pr hp z => by
        obtain ⟨ps, h1, _⟩ := T1 pr hp
        rw [z, hco] at h1
        exact LamX.codeO_ne ps (Option.some.inj h1)
      have t2 : ∀ pr ∈ q.T, F2 pr.1 = none := fun pr hp => by
        rw [← hF2, upd_ne (tn pr hp)]
        exact k1.tab.2 pr hp
      have there1 : ∀ b, H b ≠ none → H1 b ≠ none := fun b hb => by
        cases z : H b with
        | none => exact absurd z hb
        | some o =>
          by_cases y : b = P0
          · obtain ⟨ps, h1, _⟩ := T1 _ hm
            rw [y]
            rw [show H1 P0 = _ from h1]
            simp
          · rw [eP b o z y]
            simp
      have kA : Ok (q.at X (CloC fa b (capOf free 0 e1) F2)) F2 (fr [.ref fa]) H1 [.va (.clo b (capOf free 0 e1))] := by
        refine ⟨up2, rfl, fun i s hi => ?_, fun i j s t a _ hi hj os => ?_, T1, t2⟩
        · cases i with
          | zero =>
            cases hi
            exact ⟨.ref fa, rfl, F2, ⟨rfl, rfl, rfl⟩, .refl _⟩
          | succ i => cases hi
        · cases i with
          | zero =>
            cases hi
            cases os
          | succ i => cases hi
      have noA : ∀ a, ¬ Own (fr [.ref fa]) [.va (.clo b (capOf free 0 e1))] a := by
        rintro a ⟨i, s, hi, os, _⟩
        cases i with
        | zero =>
          cases hi
          cases os
        | succ i => cases hi
      -- the def's body
      have hrun : fin [.va (.clo b (capOf free 0 e1))] (exs (callD p d1) (cloD p d1) p.sub fuel df.body ([.va (.clo b (capOf free 0 e1))] ++ List.replicate (Ng.length - 1) .un)) = some (.ok r bs) := by
        have z := hcall
        rw [callD, hdf] at z
        simp only [starArgs, hst, hnp, List.length_singleton, if_true] at z
        rw [← hns]
        exact z
      have rc : codeAny (model X.prog X.w) X.A (.call (.ref g) ⟨[.ref fa], []⟩) (CR C8.CX0 X.stack X.prog X.w H1 s' Q C8.E0) s' := by
        refine LamX.run_ofS (k := d1 + 1) (N := Ng) (ps := [a]) (us := [.ref fa]) (vs := [.ref fa]) lk hcd Sg ft.room I1.env0 (hb s' [.ref fa] I1.kIn rfl) (.cons rfl .nil) rfl fun hr' => ?_
        have ftS : FitsS q gl (callD p d1) (cloD p d1) p.sub d1 (CloC fa b (capOf free 0 e1) F2) W0 (hofCc Ng sg) (cxOf C8.CX0 X.prog X.w X.K X.mg X.base Ng qual sg g cdv X.A X.stack s' H1 C8.E0) := by
          refine ⟨⟨rfl, Sg.nd, rfl, fun _ _ => rfl, rfl, hr', ft.gd, LamX.takes0, fun y j hy => hd d1 (Nat.lt_succ_self _) y j hy, fun y v hy => ?_, fun y j b hy => S.exs y j b hy _ rfl rfl rfl, S.blt, fun z => (by cases z), fun z => (by cases z), fun _ W2 pn xe tk i sn p2 p3 hi => ?_⟩, L2.passes_of rfl, rfl, rfl, S.try_⟩
          · obtain ⟨v', u, h1, h2, h3⟩ := S.cst y v hy
            exact ⟨v', u, h1, h2, fun F => h3 _ F rfl rfl rfl⟩
          · cases d1 with
            | zero =>
              refine pe_zero fun e => ?_
              unfold eCapp
              split <;> rfl
            | succ d2 =>
              refine cap_pe (cz := hofCc Ng sg) I1 L O hn hfr k1 s12 c2 hr' hx1 (fun A outer z Hz E gd2 hr2 => ?_) tk rfl rfl hi
              have ftL : Fits q gl (callD p d2) (cloD p d2) d2 C0 (fun cls dd _ H' => E cls dd H') (lamCc c scope) (LamX.lamCx X A outer z Hz E scope fa c') := by
                refine ⟨ft.N, ft.nd, rfl, fun y hy => (by cases hy), rfl, hr2, gd2.trans ft.gd, ?_, fun y j hy => hd d2 (by omega) y j hy, fun y v hy => ?_, fun y j b hy => S.exs y j b hy _ rfl rfl rfl, S.blt, fun _ => rfl, fun z => (by cases z), fun z => (by cases z)⟩
                · exact L2.takes_of rfl rfl rfl rfl
                · obtain ⟨v', u, h1, h2, h3⟩ := S.cst y v hy
                  exact ⟨v', u, h1, h2, fun F => h3 _ F rfl rfl rfl⟩
              exact (chk_sound lamH0 m C0 _ _ _ ftL body x hx2 fuel).1
        have hS := block_in (chkS_sound (lm := lm0) lamH0 (m := m) kk) ftS fuel hchk
        refine ⟨_, hS, body_key (g := q.at X (CloC fa b (capOf free 0 e1) F2)) (N := Ng) (vs := [.ref fa]) (n := Ng.length - 1) (E := fun _ _ _ => False) rfl ⟨F2, _, kA, ?_⟩⟩
        simp only [hrun]
        intro v F' H' st k' r'
        -- seen by the caller
        generalize hF3 : (fun b => if b = c' ∧ F1 c' = none then none else F' b : Hp) = F3
        have at3 : ∀ b, F3 b = if b = c' ∧ F1 c' = none then none else F' b := fun b => by rw [← hF3]
        have f12 : Sub F1 F' := s12.trans st.fz
        have f13 : Sub F1 F3 := fun b o hb => by
          rw [at3, if_neg]
          · exact f12 b o hb
          · rintro ⟨z, y⟩
            rw [z, y] at hb
            cases hb
        have f3' : ∀ {b o}, F3 b = some o → F' b = some o := fun {b o} hb => by
          rw [at3] at hb
          split at hb
          · cases hb
          · exact hb
        have nw : ∀ b, F3 b ≠ none → F1 b ≠ none ∨ H b = none := fun b hb => by
          cases z : F3 b with
          | none => exact absurd z hb
          | some o =>
            rcases st.newF b (by rw [f3' z]; simp) with y | y | y
            · by_cases e9 : b = c'
              · refine .inl fun e8 => ?_
                rw [at3, if_pos ⟨e9, by rw [← e9]; exact e8⟩] at z
                cases z
              · rw [← hF2, upd_ne e9] at y
                exact .inl y
            · exact absurd y (noA b)
            · refine .inr ?_
              cases e9 : H b with
              | none => rfl
              | some o => exact absurd y (there1 b (by rw [e9]; simp))
        have keep : ∀ b o, H b = some o → (∀ ps, o ≠ .tbl ps) → H' b = some o := fun b o hb hnt => by
          refine st.keep b o (eP b o hb fun z => ?_) (noA b) hnt
          obtain ⟨ps, h1, _⟩ := k1.tab.1 _ hm
          rw [z, show H P0 = _ from h1] at hb
          exact hnt ps (Option.some.inj hb).symm
        obtain ⟨s3, k3⟩ := seen (F' := F3) (H' := H') k1 f13 keep (fun b hb => st.there b (there1 b hb)) nw (fun b o hb => k'.sub b o (f3' hb)) ⟨k'.tab.1, fun pr hp => by
          cases z : F3 pr.1 with
          | none => rfl
          | some o =>
            have y := k'.tab.2 pr hp
            rw [f3' z] at y
            cases y⟩
        have al : Alike (q.at X (CloC fa b (capOf free 0 e1) F2)) (q.at X C0) := ⟨rfl, rfl, rfl, rfl, rfl, rfl⟩
        have hF : ∀ b o, F' b = some o → (∀ n, o ≠ LamX.CodeO b n) → F3 b = some o := fun b o hb hc => by
          rw [at3, if_neg]
          · exact hb
          · rintro ⟨z, _⟩
            have y := st.fz _ _ c2
            rw [z] at hb hc
            rw [y] at hb
            exact hc _ (Option.some.inj hb).symm
        refine done v F3 H' (s1.trans s3) k3 ?_
        rcases hdat with ⟨y, rfl⟩ | ⟨y, rfl⟩
        · exact (rep_conv al hF).1 r'
        · obtain ⟨b2, h1, h2, h3, h4⟩ := r'
          have fresh : H b2 = none := by
            rcases h4 with h4 | h4
            · exact absurd h4 (noA b2)
            · cases e9 : H b2 with
              | none => rfl
              | some o => exact absurd h4 (there1 b2 (by rw [e9]; simp))
          refine ⟨b2, h1, ⟨?_, fun z => k1.ownH z fresh, h2.th⟩, own_conv al hF h3, .inr fresh⟩
          cases z : F3 b2 with
          | none => rfl
          | some o =>
            have y := h2.nf
            rw [f3' z] at y
            cases y
      refine wpAny_call (codeAny_mono rc fun r2 s2 hq => ?_)
      cases r2 with
      | error e => exact (show False from hq).elim
      | ok fl =>
        cases fl with
        | ret u => exact I1.after hq
        | next => exact False.elim hq
        | brk => exact False.elim hq
        | cont => exact False.elim hq
end
end Ev
set_option Elab.async false
set_option linter.all false
set_option maxRecDepth 100000
set_option maxHeartbeats 4000000
/-! EvLf: every def keeps its promise. -/
namespace Ev
open PySem PySem.Spec PyProof.Rows L2
def vaW : Sl → Wd
  | .va w => w | _ => .fn 0
def defCc (N : List Str) (sg : Scope) (lams : Bool) : Cc := ⟨N, sg, fun _ => true, true, false, lams⟩
/-- a def of the program -/
def DefF (q : Qn) (gl : Str → Option Gn) (lm : Cc → Nat → Nat → List Nat → Expr → Bool) (p : Prg) (m kk : Nat) (K : PySem.W.Frag) (mg : Str → Option Value) (base : Heap) (x : Str) (k : Nat) : Prop :=
  ∃ (f : Addr) (name qual : Str) (params : Arguments) (body : List Stmt) (sg : Scope) (dV kV doc pm cdv ct oc : Value) (an od : Option Addr) (osl : Array (Option Value)) (N ps : List Str) (df : Df) (lams : Bool),
    mg x = some (.ref f) ∧ PySem.W.keepIn K (.ref f) = true ∧ K.lookup f = some ⟨oc, od, .func (PySem.W.fnOf name qual params body sg dV kV doc pm an cdv ct), osl⟩ ∧ PySem.W.codeIn K cdv qual = true ∧
    p.defs[k]? = some df ∧ df.ns = N.length ∧ recSs (chkS gl lm m kk) (defCc N sg lams) body df.body = true ∧
    (lams = true → ∃ cc P0, cdv = .ref cc ∧ LamX.TabB base mg cc P0 ∧ (P0, (envOfC qual sg 0 f cdv).qual ++ "<lambda>") ∈ q.T ∧ ∀ pr ∈ q.T, pr.1 = P0 → pr.2 = (envOfC qual sg 0 f cdv).qual ++ "<lambda>") ∧
    ((df.star = false ∧ df.np = ps.length ∧ FnScope N ps sg ∧ L2.Binds K (PySem.W.fnOf name qual params body sg dV kV doc pm an cdv ct) ps []) ∨
      ∃ pv, df.star = true ∧ df.np = ps.length + 1 ∧ FnScope N (ps ++ [pv]) sg ∧ ∀ us rest : List Value, us.length = ps.length → bindArgs (PySem.W.fnOf name qual params body sg dV kV doc pm an cdv ct) ⟨us ++ rest, []⟩ = (newTuple rest >>= fun t => pure (ps.zip us ++ [(pv, t)])))
theorem vals_cut : ∀ {ws rest : List V} {us : List Value}, Vals (ws ++ rest) us → ∃ u1 u2, us = u1 ++ u2 ∧ Vals ws u1 ∧ Vals rest u2
  | [], rest, us, h => ⟨[], us, rfl, .nil, h⟩
  | w :: ws, rest, us, h => by
    cases h with
    | cons h1 h2 =>
      obtain ⟨u1, u2, rfl, a, b⟩ := vals_cut h2
      exact ⟨_ :: u1, u2, rfl, .cons h1 a, b⟩
theorem vals_one {ws : List V} {u1 : List Value} {p : Addr} (h : Vals ws u1) : Vals (ws ++ [.ref p]) (u1 ++ [.ref p]) := by
  induction h with
  | nil => exact .cons rfl .nil
  | cons a _ ih => exact .cons a ih
/-- a def with *args, called -/
theorem star_run {P : Program} {w : World} {K : PySem.W.Frag} {mg : Str → Option Value} {base : Heap} {k : Nat} {f : Addr} {name qual : Str} {params : Arguments} {body : List Stmt} {scope : Scope} {dV kV doc pm cdv ct oc : Value} {an od : Option Addr} {osl : Array (Option Value)} {N ps : List Str} {pv : Str}
    {A : Around} {outer : List PySem.Env} {s : Shared} {H : Hp} {us : List Value} {ws rest : List V} {Q : VK} {E : XK}
    (lk : K.lookup f = some ⟨oc, od, .func (PySem.W.fnOf name qual params body scope dV kV doc pm an cdv ct), osl⟩) (hcd : PySem.W.codeIn K cdv qual = true) (Sg : FnScope N (ps ++ [pv]) scope)
    (hb : ∀ us rest : List Value, us.length = ps.length → bindArgs (PySem.W.fnOf name qual params body scope dV kV doc pm an cdv ct) ⟨us ++ rest, []⟩ = (newTuple rest >>= fun t => pure (ps.zip us ++ [(pv, t)])))
    (hr : Room (k + 1) A) (e0 : L2.Env0 P w K mg base A outer s H) (r : Vals (ws ++ rest) us) (hw : ws.length = ps.length) (hl : rest.length ≤ sizeLine)
    (hbody : ∀ (s2 : Shared) (H2 : Hp) (p : Addr), H p = none → H2 = upd H p (.tup rest) → Room k (A.deeper (envOfC qual scope s2.heap.objs.size f cdv)) → ∃ t, PSs (cxOf (L2.CX P w) P w K mg base N qual scope f cdv A outer s2 H2 E) body t ∧ t { nx := fun _ H' => Q .non H', rt := Q } (L2.start N (ws ++ [.ref p])) H2) :
    codeAny (model P w) A (.call (.ref f) ⟨us, []⟩) (L2.CR (L2.CX P w) outer P w H s Q E) s := by
  obtain ⟨u1, u2, rfl, v1, v2⟩ := vals_cut r
  refine StX.run_bnd (G := fun vs2 H2 => ∃ p, H p = none ∧ vs2 = ws ++ [.ref p] ∧ H2 = upd H p (.tup rest)) lk hcd Sg hr e0 (fun A' Ex Q2 hq => ?_) fun s2 H2 vs2 ⟨p, hp, e1, e2⟩ hr2 => ?_
  · have l1 : u1.length = ps.length := by rw [← v1.length]; exact hw
    rw [hb u1 u2 l1]
    have hp : H s.heap.objs.size = none := e0.hok.fresh (Nat.le_refl _)
    have lz : u2.length ≤ sizeLine := by rw [← v2.length]; exact hl
    have un := StX.un_laid (s := s) (H := H) (fs := frs outer) (o := { cls := .type "tuple", data := .seq u2.toArray }) (u := .tup rest) hp
    have z := hq { s with heap := s.heap.push { cls := .type "tuple", data := .seq u2.toArray } } (upd H s.heap.objs.size (.tup rest)) (ws ++ [.ref s.heap.objs.size]) (u1 ++ [.ref s.heap.objs.size])
      (StX.env0_laid e0 (by rw [ObjOk.eq_2]; exact ⟨hl, u2, v2, ⟨_, Heap.get?_push_size _ rfl, rfl, ⟨_, rfl⟩⟩⟩)) un rfl (fun e s' h => StX.cxUp outer s H { s with heap := s.heap.push { cls := .type "tuple", data := .seq u2.toArray } } (upd H s.heap.objs.size (.tup rest)) E e s' un (fun b o hb => Heap.get?_push_of_some _ hb) rfl h) (vals_one v1) (by rw [List.length_append, List.length_append, hw]; rfl) ⟨_, hp, rfl, rfl⟩
    rw [List.zip_append l1.symm] at z
    exact wpAny_bind (wpAny_newTuple (wpAny_pure z) lz)
  · subst e1
    exact hbody s2 H2 p hp e2 hr2
section
variable {q : Qn} {gl : Str → Option Gn} {p : Prg} {m kk : Nat} {P : Program} {w : World} {K : PySem.W.Frag} {mg : Str → Option Value} {base : Heap}
theorem all_fns (hq : ∀ P' w' K' mg' base', q.ok P' w' K' mg' base' ↔ P' = P ∧ w' = w ∧ K' = K ∧ mg' = mg ∧ base' = base) (S : Stat q gl p.sub P w K mg) (Hh : ∀ x k, gl x = some (.hof k) → HofF gl p m kk K mg x k)
    (Hd : ∀ x k, gl x = some (.fn k) → DefF q gl (lmOf gl p.lams m) p m kk K mg base x k) : ∀ d, FnsAt q gl p P w K mg base d := by
  intro d
  induction d using Nat.strongRecOn with
  | _ d ih =>
  intro x k hx
  obtain ⟨f, name, qual, params, body, sg, dV, kV, doc, pm, cdv, ct, oc, an, od, osl, N, ps, df, lams, hmg, hkeep, lk, hcd, hdf, hns, hchk, hlam, hbind⟩ := Hd x k hx
  refine ⟨f, hmg, hkeep, ?_⟩
  cases d with
  | zero =>
    intro A outer s H us vs Q E gd hr e0 r ⟨_, _, _, z⟩
    exact z.elim
  | succ d =>
    have LH : LamH q gl (callD p d) (cloD p d) d (lmOf gl p.lams m) := lamH_of (fun P' w' K' mg' base' h => (hq P' w' K' mg' base').mp h) S Hh d fun d' h => ih d' (by omega)
    have body_of : ∀ (A : Around) (outer : List PySem.Env) (s : Shared) (H : Hp) (E : XK), A.guards = some [] → N.Nodup → Room (d + 1) (A.deeper (envOfC qual sg s.heap.objs.size f cdv)) → PSs (cxOf (L2.CX P w) P w K mg base N qual sg f cdv A outer s H E) body (tS (gOf q P w K) (fun cls dd _ H' => E cls dd H') (exs (callD p d) (cloD p d) p.sub fuel df.body)) := by
      intro A outer s H E gd nd hr'
      have ftS : FitsS q gl (callD p d) (cloD p d) p.sub d C0 (fun cls dd _ H' => E cls dd H') (defCc N sg lams) (cxOf (L2.CX P w) P w K mg base N qual sg f cdv A outer s H E) := by
        refine ⟨⟨rfl, nd, rfl, fun _ _ => rfl, rfl, hr', gd, L2.takes_of rfl rfl rfl rfl, fun y j hy => ih d (Nat.lt_succ_self _) y j hy, fun y v hy => ?_, fun y j b hy => S.exs y j b hy _ rfl rfl rfl, S.blt, fun _ => rfl, fun z => ?_, fun z => (by cases z)⟩, L2.passes_of rfl, rfl, rfl, S.try_⟩
        · obtain ⟨v', u, h1, h2, h3⟩ := S.cst y v hy
          exact ⟨v', u, h1, h2, fun F => h3 _ F rfl rfl rfl⟩
        · obtain ⟨cc, P0, e1, e2, e3, e4⟩ := hlam z
          exact ⟨(hq _ _ _ _ _).mpr ⟨rfl, rfl, rfl, rfl, rfl⟩, cc, P0, e1, e2, e3, e4⟩
      exact block_in (chkS_sound LH (m := m) kk) ftS fuel hchk
    rcases hbind with ⟨hst, hnp, Sg, hb⟩ | ⟨pv, hst, hnp, Sg, hb⟩
    · intro A outer s H us vs Q E gd hr e0 r ⟨F, as, ka, o⟩
      have la : as.length = vs.length := by
        have z := ka.len
        rw [List.length_map] at z
        exact z
      have e1 : callD p (d + 1) k as = if as.length = df.np then fin as (exs (callD p d) (cloD p d) p.sub fuel df.body (as ++ List.replicate (df.ns - df.np) .un)) else none := by
        rw [callD, hdf]
        simp only [starArgs, hst]
        by_cases hl : as.length = df.np
        · rw [if_pos hl, if_pos hl]
        · rw [if_neg hl, if_neg hl]
      by_cases hl : as.length = df.np
      · rw [e1, if_pos hl] at o
        have hvs : vs.length = ps.length := by rw [← la, hl, hnp]
        have KX : K.In s.heap := e0.mod.kin.keeps fun b o e => (e0.bs b o e).1
        have hbs : BindsTo s (PySem.W.fnOf name qual params body sg dV kV doc pm an cdv ct) ⟨us, []⟩ (ps.zip us) := by
          have z := hb s us KX (by rw [List.append_nil, ← r.length]; exact hvs)
          rw [List.append_nil] at z
          exact z
        refine LamX.run_ofS (k := d + 1) lk hcd Sg hr e0 hbs r hvs fun hr' => ⟨_, body_of A outer s H E gd Sg.nd hr', ?_⟩
        refine body_key (n := df.ns - df.np) (by rw [hns, hnp, hvs]) ⟨F, as, ka, o⟩
      · rw [e1, if_neg hl] at o
        exact o.elim
    · have hp0 : 0 < df.np := by omega
      intro A outer s H us vs Q E gd hr e0 r ⟨F, as, ka, o⟩
      have la : as.length = vs.length := by
        have z := ka.len
        rw [List.length_map] at z
        exact z
      have e1 : callD p (d + 1) k as = (match starArgs df as with | none => none | some as' => fin as (exs (callD p d) (cloD p d) p.sub fuel df.body (as' ++ List.replicate (df.ns - df.np) .un))) := by
        rw [callD, hdf] <;> rfl
      have e2 : starArgs df as = if df.np ≤ as.length + 1 ∧ 0 < df.np then (match datas ((as.drop (df.np - 1)).map vaW) with | some ds => if ds.length ≤ lim then some (as.take (df.np - 1) ++ [.va (.d (.tuple ds))]) else none | none => none) else none := by
        unfold starArgs
        rw [hst]
        rfl
      rw [e2] at e1
      by_cases hc : df.np ≤ as.length + 1 ∧ 0 < df.np
      · rw [if_pos hc] at e1
        cases hd : datas ((as.drop (df.np - 1)).map vaW) with
        | none =>
          rw [hd] at e1
          simp only at e1
          rw [e1] at o
          exact o.elim
        | some ds =>
          rw [hd] at e1
          simp only at e1
          by_cases hz : ds.length ≤ lim
          · rw [if_pos hz] at e1
            simp only at e1
            have hsp : SpC (gOf q P w K) (fun as => if df.np ≤ as.length + 1 then (match datas ((as.drop (df.np - 1)).map vaW) with | some ds => fin as (exs (callD p d) (cloD p d) p.sub fuel df.body (as.take (df.np - 1) ++ [.va (.d (.tuple ds))] ++ List.replicate (df.ns - df.np) .un)) | none => none) else none) vs H Q E := ⟨F, as, ka, by
              simp only [if_pos hc.1, hd]
              rw [e1] at o
              exact o⟩
            have key := star_key (g := gOf q P w K) (N := N) (n := df.ns - df.np) (m := exs (callD p d) (cloD p d) p.sub fuel df.body) (Q := Q) (E := E) (np := df.np) hp0 (by rw [hns]) (vs := vs) (H := H) hsp
            have dl : ∀ (l : List Wd) (ds : List PyData), datas l = some ds → ds.length = l.length := by
              intro l
              induction l with
              | nil =>
                intro ds h
                cases h
                rfl
              | cons w l ih2 =>
                intro ds h
                cases w with
                | d y =>
                  rw [datas] at h
                  split at h
                  · next xs hxs =>
                    cases h
                    rw [List.length_cons, List.length_cons, ih2 _ hxs]
                  · cases h
                | _ => cases h
            have e9 : lim = sizeLine := by rw [sizeLine_eq]; rfl
            have l9 := dl _ _ hd
            rw [List.length_map, List.length_drop] at l9
            have n1 : df.np - 1 = ps.length := by omega
            have r' : Vals (vs.take (df.np - 1) ++ vs.drop (df.np - 1)) us := by rw [List.take_append_drop]; exact r
            refine star_run (k := d + 1) lk hcd Sg hb hr e0 r' ?_ ?_ fun s2 H2 p2 hp2 e2 hr2 => ⟨_, body_of A outer s2 H2 E gd Sg.nd hr2, ?_⟩
            · rw [List.length_take, n1]
              have := key.1
              omega
            · rw [List.length_drop]
              omega
            · rw [e2]
              exact key.2 p2 hp2
          · rw [if_neg hz] at e1
            simp only at e1
            rw [e1] at o
            exact o.elim
      · rw [if_neg hc] at e1
        simp only at e1
        rw [e1] at o
        exact o.elim
end
end Ev
set_option Elab.async false
set_option linter.all false
set_option maxRecDepth 100000
set_option maxHeartbeats 1000000
namespace Ev
open PySem PySem.Spec PyProof.Rows L2
theorem zip_find : ∀ {ns : List Str} {us : List Value} {n : Str}, us.length = ns.length → n ∈ ns → ((ns.zip us).lookup n).isNone = false
  | [], _, _, _, h => by cases h
  | m :: ns, [], _, h, _ => by cases h
  | m :: ns, u :: us, n, h, hm => by
    rw [List.zip_cons_cons, List.lookup_cons]
    by_cases e : n = m
    · simp [e]
    · have e2 : (n == m) = false := by simp [e]
      rw [e2]
      rcases List.mem_cons.mp hm with z | z
      · exact absurd z e
      · exact zip_find (by simpa using h) z
theorem fmap_congr {α β : Type} {f g : α → Option β} : ∀ {l : List α}, (∀ x ∈ l, f x = g x) → l.filterMap f = l.filterMap g
  | [], _ => rfl
  | x :: r, h => by
    rw [List.filterMap_cons, List.filterMap_cons, h x List.mem_cons_self, fmap_congr fun y hy => h y (List.mem_cons_of_mem _ hy)]
theorem zip_map : ∀ {ns : List Str} {us : List Value}, ns.Nodup → us.length = ns.length → ns.filterMap (fun n => ((ns.zip us).lookup n).map (n, ·)) = ns.zip us
  | [], [], _, _ => rfl
  | [], _ :: _, _, h => by cases h
  | _ :: _, [], _, h => by cases h
  | m :: ns, u :: us, nd, h => by
    rw [List.nodup_cons] at nd
    have ih := zip_map nd.2 (us := us) (by simpa using h)
    rw [List.zip_cons_cons, List.filterMap_cons]
    have e1 : (((m, u) :: ns.zip us).lookup m).map (fun v => (m, v)) = some (m, u) := by simp [List.lookup_cons]
    rw [e1]
    simp only
    congr 1
    refine Eq.trans (fmap_congr fun n hn => ?_) ih
    have ne : (n == m) = false := by
      simp only [beq_eq_false_iff_ne]
      intro e
      exact nd.1 (e ▸ hn)
    rw [List.lookup_cons, ne]
theorem bind_all {name qual : Str} {as : List Arg} {body : List Stmt} {scope : Scope} {kV doc pm cdv ct : Value} {an : Option Addr} {cl : List (Str × Addr)} {us : List Value} (h : us.length = as.length) (nd : (as.map (·.arg)).Nodup) :
    bindArgs (PySem.W.fnX name qual ⟨[], as, none, [], [], none, []⟩ body scope cl .none kV doc pm an cdv ct) ⟨us, []⟩ = pure ((as.map (·.arg)).zip us) := by
  have miss : (as.map (·.arg)).filter (fun n => (((as.map (·.arg)).zip us).lookup n).isNone) = [] := by
    rw [List.filter_eq_nil_iff]
    intro n hn
    rw [zip_find (by simpa using h) hn]
    simp
  have fm : (as.map (·.arg)).filterMap (fun n => (((as.map (·.arg)).zip us).lookup n).map (n, ·)) = (as.map (·.arg)).zip us := zip_map nd (by simpa using h)
  have e1 : ([] : List Arg).map (·.arg) ++ as.map (·.arg) = as.map (·.arg) := rfl
  have e3 : ((as.map (·.arg)).length < us.length) = False := by simp [h]
  have n0 : notAStandIn Value.none = pure () := rfl
  generalize hns : as.map (·.arg) = ns at miss fm e1 e3
  have hl : us.length = ns.length := by rw [← hns]; simpa using h
  unfold bindArgs
  dsimp only
  simp only [hns, List.map_nil, List.nil_append, seqItems?, pure_bind, Option.getD_none, List.drop_nil, List.length_nil, Nat.sub_zero, List.take_length, miss, fm]
  simp [hl, n0]
  refine (if_neg ?_).trans (congrArg pure fm)
  intro hc
  have e5 : List.take (ns.length - (List.drop ((#[] : Array Value).size - ns.length) ([] : List Value)).length) ns = ns := by simp
  rw [e5] at hc
  have e6 : (!(List.filter (fun n => (List.lookup n (ns.zip us)).isNone) ns).isEmpty) = true := hc
  rw [miss] at e6
  cases e6
theorem bind_star {name qual : Str} {as : List Arg} {pv : Arg} {body : List Stmt} {scope : Scope} {kV doc pm cdv ct : Value} {an : Option Addr} {cl : List (Str × Addr)} {us rest : List Value} (h : us.length = as.length) (nd : (as.map (·.arg)).Nodup) :
    bindArgs (PySem.W.fnX name qual ⟨[], as, some pv, [], [], none, []⟩ body scope cl .none kV doc pm an cdv ct) ⟨us ++ rest, []⟩ = (newTuple rest >>= fun t => pure ((as.map (·.arg)).zip us ++ [(pv.arg, t)])) := by
  have zz : (as.map (·.arg)).zip (us ++ rest) = (as.map (·.arg)).zip us := by
    have z := List.zip_append (l₁ := as.map (·.arg)) (r₁ := ([] : List Str)) (l₂ := us) (r₂ := rest) (by simpa using h.symm)
    rw [List.append_nil, List.zip_nil_left, List.append_nil] at z
    exact z
  have miss : (as.map (·.arg)).filter (fun n => (((as.map (·.arg)).zip us).lookup n).isNone) = [] := by
    rw [List.filter_eq_nil_iff]
    intro n hn
    rw [zip_find (by simpa using h) hn]
    simp
  have fm : (as.map (·.arg)).filterMap (fun n => (((as.map (·.arg)).zip us).lookup n).map (n, ·)) = (as.map (·.arg)).zip us := zip_map nd (by simpa using h)
  have dr : (us ++ rest).drop (as.map (·.arg)).length = rest := by rw [List.length_map, ← h, List.drop_left]
  generalize hns : as.map (·.arg) = ns at miss fm zz dr
  have hl : us.length = ns.length := by rw [← hns]; simpa using h
  have n0 : notAStandIn Value.none = pure () := rfl
  unfold bindArgs
  dsimp only
  simp only [hns, List.map_nil, List.nil_append, seqItems?, pure_bind, Option.getD_none, List.drop_nil, List.length_nil, Nat.sub_zero, List.take_length, miss, fm]
  simp [hl, n0, zz, dr]
  refine (if_neg ?_).trans ?_
  · intro hc
    have e5 : List.take (ns.length - (List.drop ((#[] : Array Value).size - ns.length) ([] : List Value)).length) ns = ns := by simp
    rw [e5] at hc
    have e6 : (!(List.filter (fun n => (List.lookup n (ns.zip us)).isNone) ns).isEmpty) = true := hc
    rw [miss] at e6
    cases e6
  · have e7 := fm
    rw [show List.filterMap (fun n => Option.map (fun x => (n, x)) (List.lookup n (ns.zip us))) ns = ns.zip us from e7]
end Ev
set_option Elab.async false
set_option linter.all false
set_option maxRecDepth 100000
set_option maxHeartbeats 1000000
/-! EvMb: a law's program told, what the head's heap is asked. -/
namespace Ev
open PySem PySem.Spec PyProof.Rows L2
/-- a def: its name, its place in the text, parameters, places, whether it makes lambdas, whether it gets one -/
structure DD where
  name : Str
  top : Nat
  ps : List Str
  pv : Option Str
  N : List Str
  lams : Bool
  hof : Bool
/-- a class of errors -/
structure ED where
  name : Str
  top : Nat
  kept : Option Str
  B : String
  newId : String
  initId : String
  bmB : List Value
structure Lw where
  P : Program
  p : Prg
  D : List DD
  E : List ED
  cs : List (Str × PyData)
def topS (P : Program) (i : Nat) : Stmt := P.main.body.getD i (.Pass ⟨0, 0, 0, 0⟩)
def dGo (x : Str) : Nat → List DD → Option Gn
  | _, [] => none
  | k, d :: r => match decide (d.name = x) with
    | true => some (match d.hof with | true => .hof k | false => .fn k)
    | false => dGo x (k + 1) r
def eGo (x : Str) : Nat → List ED → Option Gn
  | _, [] => none
  | k, d :: r => match decide (d.name = x) with | true => some (.exc k d.kept) | false => eGo x (k + 1) r
def cGo (x : Str) : List (Str × PyData) → Option Gn
  | [] => none
  | d :: r => match decide (d.1 = x) with | true => some (.cst d.2) | false => cGo x r
def Lw.gl (l : Lw) (x : Str) : Option Gn := match dGo x 0 l.D with | some g => some g | none => match eGo x 0 l.E with | some g => some g | none => cGo x l.cs
theorem dGo_ok {x : Str} : ∀ {D : List DD} {k : Nat} {g : Gn}, dGo x k D = some g → ∃ (i : Nat) (d : DD), D[i]? = some d ∧ d.name = x ∧ g = (match d.hof with | true => .hof (k + i) | false => .fn (k + i))
  | [], _, _, h => by cases h
  | d :: r, k, g, h => by
    rw [dGo] at h
    split at h
    · next e => exact ⟨0, d, rfl, of_decide_eq_true e, (Option.some.inj h).symm⟩
    · obtain ⟨i, d', h1, h2, h3⟩ := dGo_ok h
      refine ⟨i + 1, d', h1, h2, ?_⟩
      rw [h3, show k + 1 + i = k + (i + 1) by omega]
theorem eGo_ok {x : Str} : ∀ {D : List ED} {k : Nat} {g : Gn}, eGo x k D = some g → ∃ (i : Nat) (d : ED), D[i]? = some d ∧ d.name = x ∧ g = .exc (k + i) d.kept
  | [], _, _, h => by cases h
  | d :: r, k, g, h => by
    rw [eGo] at h
    split at h
    · next e => exact ⟨0, d, rfl, of_decide_eq_true e, (Option.some.inj h).symm⟩
    · obtain ⟨i, d', h1, h2, h3⟩ := eGo_ok h
      refine ⟨i + 1, d', h1, h2, ?_⟩
      rw [h3, show k + 1 + i = k + (i + 1) by omega]
theorem cGo_ok {x : Str} : ∀ {D : List (Str × PyData)} {g : Gn}, cGo x D = some g → ∃ y, (x, y) ∈ D ∧ g = .cst y
  | [], _, h => by cases h
  | d :: r, g, h => by
    rw [cGo] at h
    split at h
    · next e =>
      refine ⟨d.2, ?_, (Option.some.inj h).symm⟩
      rw [← of_decide_eq_true e]
      exact List.mem_cons_self
    · obtain ⟨y, h1, h2⟩ := cGo_ok h
      exact ⟨y, List.mem_cons_of_mem _ h1, h2⟩
theorem gl_fn {l : Lw} {x : Str} {k : Nat} (h : l.gl x = some (.fn k)) : ∃ d : DD, l.D[k]? = some d ∧ d.name = x ∧ d.hof = false := by
  unfold Lw.gl at h
  split at h
  · next g hg =>
    obtain ⟨i, d, h1, h2, h3⟩ := dGo_ok hg
    have e := Option.some.inj h
    rw [e] at h3
    cases hh : d.hof with
    | true => rw [hh] at h3; cases h3
    | false =>
      rw [hh] at h3
      have e2 : k = 0 + i := by injection h3
      rw [Nat.zero_add] at e2
      exact ⟨d, by rw [e2]; exact h1, h2, hh⟩
  · split at h
    · next g hg =>
      obtain ⟨_, _, _, _, h3⟩ := eGo_ok hg
      rw [h3] at h
      cases h
    · obtain ⟨_, _, h3⟩ := cGo_ok h
      cases h3
theorem gl_hof {l : Lw} {x : Str} {k : Nat} (h : l.gl x = some (.hof k)) : ∃ d : DD, l.D[k]? = some d ∧ d.name = x ∧ d.hof = true := by
  unfold Lw.gl at h
  split at h
  · next g hg =>
    obtain ⟨i, d, h1, h2, h3⟩ := dGo_ok hg
    have e := Option.some.inj h
    rw [e] at h3
    cases hh : d.hof with
    | false => rw [hh] at h3; cases h3
    | true =>
      rw [hh] at h3
      have e2 : k = 0 + i := by injection h3
      rw [Nat.zero_add] at e2
      exact ⟨d, by rw [e2]; exact h1, h2, hh⟩
  · split at h
    · next g hg =>
      obtain ⟨_, _, _, _, h3⟩ := eGo_ok hg
      rw [h3] at h
      cases h
    · obtain ⟨_, _, h3⟩ := cGo_ok h
      cases h3
theorem gl_exc {l : Lw} {x : Str} {c : Nat} {b : Option Str} (h : l.gl x = some (.exc c b)) : ∃ e : ED, l.E[c]? = some e ∧ e.name = x ∧ e.kept = b := by
  unfold Lw.gl at h
  split at h
  · next g hg =>
    obtain ⟨i, d, h1, h2, h3⟩ := dGo_ok hg
    have e := Option.some.inj h
    rw [e] at h3
    cases hh : d.hof <;> (rw [hh] at h3; cases h3)
  · split at h
    · next g hg =>
      obtain ⟨i, e, h1, h2, h3⟩ := eGo_ok hg
      rw [h3] at h
      have e2 := Option.some.inj h
      injection e2 with e3 e4
      rw [Nat.zero_add] at e3
      exact ⟨e, by rw [← e3]; exact h1, h2, e4⟩
    · obtain ⟨_, _, h3⟩ := cGo_ok h
      cases h3
theorem gl_cst {l : Lw} {x : Str} {y : PyData} (h : l.gl x = some (.cst y)) : (x, y) ∈ l.cs := by
  unfold Lw.gl at h
  split at h
  · next g hg =>
    obtain ⟨i, d, h1, h2, h3⟩ := dGo_ok hg
    have e := Option.some.inj h
    rw [e] at h3
    cases hh : d.hof <;> (rw [hh] at h3; cases h3)
  · split at h
    · next g hg =>
      obtain ⟨i, e, h1, h2, h3⟩ := eGo_ok hg
      rw [h3] at h
      cases h
    · obtain ⟨y', h1, h2⟩ := cGo_ok h
      cases h2
      exact h1
/-! ### the text, asked -/
def argB (a : Arguments) (ps : List Str) (pv : Option Str) : Bool :=
  match a with
  | ⟨[], as, none, [], [], none, []⟩ => pv.isNone && decide (as.map (·.arg) = ps) && decide ps.Nodup
  | ⟨[], as, some v, [], [], none, []⟩ => decide (pv = some v.arg) && decide (as.map (·.arg) = ps) && decide ps.Nodup
  | _ => false
def scB (N ps : List Str) (sc : Scope) : Bool :=
  decide (sc.kind = .function) && !sc.isCoroutine && !sc.isGenerator && decide N.Nodup && decide (N.take ps.length = ps) && (ps.all fun x => decide (sc.names.lookup x = some .local) || decide (sc.names.lookup x = some .cell)) && sc.names.all fun y => !decide (y.2 = .free)
theorem scB_ok {N ps : List Str} {sc : Scope} (h : scB N ps sc = true) : FnScope N ps sc := by
  unfold scB at h
  simp only [Bool.and_eq_true, Bool.or_eq_true, Bool.not_eq_true', decide_eq_true_eq, decide_eq_false_iff_not, List.all_eq_true] at h
  obtain ⟨⟨⟨⟨⟨⟨h1, h2⟩, h3⟩, h4⟩, h5⟩, h6⟩, h7⟩ := h
  exact ⟨h1, h2, h3, h4, h5, h6, h7⟩
def defCC (d : DD) (sg : Scope) : Cc := match d.hof with | true => hofCc d.N sg | false => defCc d.N sg d.lams
def Lw.lmD (l : Lw) (m : Nat) (d : DD) : Cc → Nat → Nat → List Nat → Expr → Bool := match d.hof with | true => lm0 | false => lmOf l.gl l.p.lams m
def Lw.stB (l : Lw) (m kk k : Nat) (d : DD) : Bool :=
  match l.p.defs[k]? with
  | none => false
  | some df => decide (df.ns = d.N.length) && decide (df.np = (d.ps ++ d.pv.toList).length) && (df.star == d.pv.isSome) && argB (defArgs (topS l.P d.top)) d.ps d.pv && scB d.N (d.ps ++ d.pv.toList) (defScope (topS l.P d.top)) &&
    (!d.hof || (decide (d.ps.length = 1) && d.pv.isNone)) && recSs (chkS l.gl (l.lmD m d) m kk) (defCC d (defScope (topS l.P d.top))) (defBody (topS l.P d.top)) df.body
def Lw.stGo (l : Lw) (m kk : Nat) : Nat → List DD → Bool
  | _, [] => true
  | k, d :: r => match l.stB m kk k d with | true => l.stGo m kk (k + 1) r | false => false
theorem stGo_ok {l : Lw} {m kk : Nat} : ∀ {D : List DD} {k i : Nat} {d : DD}, l.stGo m kk k D = true → D[i]? = some d → l.stB m kk (k + i) d = true
  | [], _, _, _, _, h => by cases h
  | d :: r, k, i, d', h, hi => by
    rw [Lw.stGo] at h
    split at h
    · next e =>
      cases i with
      | zero =>
        cases hi
        exact e
      | succ i =>
        have z := stGo_ok h (i := i) hi
        rw [show k + 1 + i = k + (i + 1) by omega] at z
        exact z
    · cases h
/-! ### the heap, asked -/
def isTab : Obj → Bool
  | ⟨.none, none, .fields vs, sl⟩ => decide (vs.size = 0) && decide (sl.size = 0)
  | _ => false
/-- without the empty tables -/
def filt (K : PySem.W.Frag) : PySem.W.Frag := K.filter fun p => !isTab p.2
def AllIn (K : PySem.W.Frag) (h : Heap) : Prop := ∀ p ∈ K, h.get? p.1 = some p.2
theorem lookup_in {b : Addr} {o : Obj} : ∀ {K : PySem.W.Frag}, K.lookup b = some o → (b, o) ∈ K
  | [], h => by cases h
  | (a, u) :: r, h => by
    rw [List.lookup_cons] at h
    cases q : (b == a) with
    | true =>
      rw [q] at h
      rw [eq_of_beq q]
      cases h
      exact List.mem_cons_self
    | false =>
      rw [q] at h
      exact List.mem_cons_of_mem _ (lookup_in h)
theorem AllIn.inn {K : PySem.W.Frag} {h : Heap} (a : AllIn K h) : K.In h := fun b o e => a (b, o) (lookup_in e)
theorem AllIn.filt {K : PySem.W.Frag} {h : Heap} (a : AllIn K h) : AllIn (filt K) h := fun p hp => a p (List.mem_filter.mp hp).1
def ddOf (P : Program) (d : DD) : He.DefD := ⟨(d.name, none), d.name, d.name, defArgs (topS P d.top), defBody (topS P d.top), defScope (topS P d.top), [], []⟩
def litB : Value → PyData → Bool
  | .none, .none => true
  | .bool a, .bool b => a == b
  | .int i _, .int j => decide (i = j)
  | .str x _, .str y => decide (x = y)
  | _, _ => false
def cstB (K : PySem.W.Frag) (c : Str × PyData) : Bool := match PySem.W.nsIn K mainGlobals c.1 with
  | some (some u) => litB u c.2
  | _ => false
abbrev cA (K : PySem.W.Frag) (e : ED) : Addr := He.ga K e.name
def plnB (K : PySem.W.Frag) (e : ED) : Bool := PySem.W.excIn K (cA K e) e.bmB e.newId && PySem.W.keepIn K (.ref (cA K e)) && decide (PySem.W.subIn K (.ref (cA K e)) (.type "BaseException") = some true) && decide (PySem.W.typeIn K (.ref (cA K e)) = some (.type "type"))
def initFn : List Stmt → Stmt
  | [] => .Pass ⟨0, 0, 0, 0⟩
  | .FunctionDef n a b d r t s ts bd p :: _ => .FunctionDef n a b d r t s ts bd p
  | _ :: r => initFn r
def initOf (P : Program) (e : ED) : Stmt := match topS P e.top with
  | .ClassDef _ _ _ body _ _ _ _ _ _ _ => initFn body
  | _ => .Pass ⟨0, 0, 0, 0⟩
abbrev FnI : Type := Option (Str × Str × Arguments × FuncBody × Scope × Addr × List Str × Addr)
def fnI (K : PySem.W.Frag) (e : ED) : FnI := match e.kept with
  | none => none
  | some _ => (match K.lookup (He.ma K (cA K e) "__init__") with
    | some ⟨_, _, .func fd, _⟩ => some (fd.name, fd.qualname, fd.params, fd.body, fd.scope, fd.globals, fd.closure.map (·.1), fd.builtins)
    | _ => none)
def fnIv (P : Program) (e : ED) : FnI := match e.kept with
  | none => none
  | some _ => some ("__init__", e.name ++ ".__init__", defArgs (initOf P e), .stmts (defBody (initOf P e)), defScope (initOf P e), mainGlobals, ["__class__"], builtinsNs)
/-- def __init__(self, v): super().__init__(v); self.f = v -/
def shapeB (f : Str) (a : Arguments) (sc : Scope) : List Stmt → Bool
  | [.Expr (.Call (.Attribute (.Call (.Name s p0) [] [] p1) i p2) [.Name gv p3] [] p4) p5, .Assign [.Attribute (.Name self p6) f' p7] (.Name gv' p8) p9] =>
    decide (s = "super") && decide (i = "__init__") && decide (f' = f) && decide (gv' = gv) && argB a [self, gv] none && decide (sc.names.lookup self = some .local) && decide (sc.names.lookup gv = some .local) && decide (sc.names.lookup ("super" : Str) = some .globalImplicit) &&
      decide (sc.names.lookup ("__class__" : Str) = some .free) && (sc.names.all fun y => !decide (y.2 = .cell)) && decide (sc.kind = .function) && !sc.isCoroutine && !sc.isGenerator && (p2.endLine == p4.line) && !(self == gv) && !(gv == self) && !(gv == ("__debug__" : Str)) && !(self == ("__debug__" : Str))
  | _ => false
def supB (P : Program) (K : PySem.W.Frag) (e : ED) (f : Str) : Bool :=
  PySem.W.excInitIn K (cA K e) e.bmB e.newId && PySem.W.excOver K (cA K e) e.bmB &&
  (match K.lookup (He.ma K (cA K e) "__init__") with
  | some ⟨_, _, .func fd, _⟩ => (match fd.code, fd.closure, fd.defaults with
    | .ref cda, [(_, cc)], .none => PySem.W.codeIn K (.ref cda) fd.qualname && (match K.lookup cda with
        | some ⟨_, _, .fields vs, _⟩ => (match (vs[2]? : Option Value) with | some (.str file _) => P.main.file == file | _ => false)
        | _ => false) &&
        (match K.lookup cc with | some ⟨_, _, .cell (some (.ref C)), _⟩ => C == cA K e | _ => false)
    | _, _, _ => false)
  | _ => false) &&
  (PySem.W.clsIn K (cA K e)).isSome && decide (PySem.W.mroIn K (cA K e) (.ref (cA K e)) = some true) && decide (PySem.W.ks_superIn K (cA K e) (cA K e) "__init__" = some (some (.builtin e.initId))) && decide (PySem.W.subIn K (.ref (cA K e)) (.type e.B) = some true) &&
  decide (PySem.W.findIn K (.ref (cA K e)) "__init__" = some (some (.ref (He.ma K (cA K e) "__init__")))) && PySem.W.isFn K (.ref (He.ma K (cA K e) "__init__")) && decide (PySem.W.findIn K (.ref (cA K e)) "__setattr__" = some (some (.builtin "object.__setattr__"))) &&
  decide (PySem.W.takerIn K (cA K e) f = some none) && PySem.W.hasDictIn K (cA K e) && !(P.main.scope.names.lookup ("super" : Str)).isSome && decide (PySem.W.nsIn K cStatics "thirdparty.any" = some none) && decide (PySem.W.subIn K (.ref (cA K e)) (.type "BaseException") = some true) &&
  decide (PySem.W.typeIn K (.ref (cA K e)) = some (.type "type")) && PySem.W.keepIn K (.ref (cA K e)) && shapeB f (defArgs (initOf P e)) (defScope (initOf P e)) (defBody (initOf P e))
def excB (P : Program) (K : PySem.W.Frag) (e : ED) : Bool := (He.Fa.glo e.name).ok K && (match e.kept with
  | none => plnB K e
  | some f => supB P K e f && xfB K (cA K e) && decide (PySem.W.findIn K (.ref (cA K e)) f = some none))
/-- except h: of an error of the class c -/
def tryGo (K : PySem.W.Frag) (sub : Nat → Nat → Bool) (e : ED) (c : Nat) : Nat → List ED → Bool
  | _, [] => true
  | h, g :: r => decide (PySem.W.exmOne K (.ref (cA K e)) (.ref (cA K g)) = some (sub c h)) && (!sub c h || e.kept.isNone || decide (g.kept = e.kept)) && tryGo K sub e c (h + 1) r
def tryAll (K : PySem.W.Frag) (sub : Nat → Nat → Bool) (E : List ED) : Nat → List ED → Bool
  | _, [] => true
  | c, e :: r => tryGo K sub e c 0 E && tryAll K sub E (c + 1) r
/-- a def's code object, its table -/
def tabOf (K : PySem.W.Frag) (d : DD) : Addr × Addr := match K.lookup (He.ga K d.name) with
  | some ⟨_, _, .func fd, _⟩ => (match fd.code with
    | .ref c => (match K.lookup c with
      | some ⟨_, _, .fields vs, _⟩ => (match (vs[11]? : Option Value) with | some (.ref P) => (c, P) | _ => (c, 0))
      | _ => (c, 0))
    | _ => (0, 0))
  | _ => (0, 0)
def codeB (K : PySem.W.Frag) (d : DD) (c : Addr) : Bool := match K.lookup (He.ga K d.name) with
  | some ⟨_, _, .func fd, _⟩ => (match fd.code with | .ref c' => c' == c | _ => false)
  | _ => false
def tabB (Kf K : PySem.W.Frag) (d : DD) : Bool := codeB K d (tabOf K d).1 && PySem.W.codeHdIn K (tabOf K d).1 (tabOf K d).2 && (match Kf.lookup (tabOf K d).2 with | some o => isTab o | none => false) && (K.lookup (tabOf K d).2).isNone && !(mainGlobals == (tabOf K d).2)
def lamName (P : Program) (d : DD) : Str := (envOfC d.name (defScope (topS P d.top)) 0 0 .none).qual ++ "<lambda>"
def Lw.tabs (l : Lw) (K : PySem.W.Frag) : List (Addr × Addr) := (l.D.filter (·.lams)).map (tabOf K)
def Lw.T (l : Lw) (K : PySem.W.Frag) : List (Addr × Str) := (l.D.filter (·.lams)).map fun d => ((tabOf K d).2, lamName l.P d)
def Lw.kB (l : Lw) (Kf : PySem.W.Frag) : Bool :=
  let K := filt Kf
  (l.D.all fun d => (He.Fa.glo d.name).ok K && (ddOf l.P d).ok K && (!d.lams || tabB Kf K d)) && (l.cs.all (cstB K)) && (l.E.all (excB l.P K)) && (blts.all fun x => (He.Fa.free x).ok K) && (He.Fa.free "super").ok K && tryAll K l.p.sub l.E 0 l.E &&
    ((l.T K).all fun a => (l.T K).all fun b => !(a.1 == b.1) || decide (a.2 = b.2))
abbrev AlM : Type := Bool × List He.FnW × List FnI
def Lw.obs (l : Lw) (Kf : PySem.W.Frag) : AlM := (l.kB Kf, l.D.map fun d => He.fnW (filt Kf) (d.name, none), l.E.map fun e => fnI (filt Kf) e)
def Lw.val (l : Lw) : AlM := (true, l.D.map fun d => (ddOf l.P d).val, l.E.map fun e => fnIv l.P e)
def asM (g : Addr → Option Obj) : Nat → List Addr
  | 0 => [mainGlobals, cStatics]
  | n + 1 => He.growD g (asM g n)
theorem frG_all {as : List Addr} {h : Heap} : AllIn (He.frG h.get? as) h := fun p hp => by
  unfold He.frG at hp
  obtain ⟨a, _, e⟩ := List.mem_filterMap.mp hp
  cases q : h.get? a with
  | none => rw [q] at e; cases e
  | some o =>
    rw [q] at e
    cases e
    exact q
def Lw.hook (l : Lw) : PySem.W.Hook where
  α := AlM
  obs := fun s => l.obs (He.frG s.heap.get? (asM s.heap.get? 5))
  val := fun _ => l.val
  says := fun _ h => ∃ Kf : PySem.W.Frag, AllIn Kf h ∧ l.obs Kf = l.val
  of := fun _ _ e => ⟨_, frG_all, e⟩
  keeps := fun _ _ _ ⟨K, hK, c⟩ k => ⟨K, fun p hp => k _ _ (hK p hp), c⟩
def Lw.ob (l : Lw) (s : PySem.W.SharedT) : AlM := l.obs (He.frG (HandSHeadRun.getT s) (asM (HandSHeadRun.getT s) 5))
theorem Lw.ob_eq (l : Lw) (s : PySem.W.SharedT) : l.ob s = l.hook.obs s.abs := by
  have e : HandSHeadRun.getT s = s.abs.heap.get? := funext (HandSHeadRun.getT_eq s)
  unfold Lw.ob Lw.hook
  rw [e]
end Ev
set_option Elab.async false
set_option linter.all false
set_option maxRecDepth 100000
set_option maxHeartbeats 1000000
/-! EvMc: what the head's answers bring. -/
namespace Ev
open PySem PySem.Spec PyProof.Rows L2
def Lw.q (l : Lw) (w : World) (K : PySem.W.Frag) (mg : Str → Option Value) (base : Heap) : Qn :=
  ⟨fun k => (l.D[k]?).map fun d => He.ga K d.name, fun c => (l.E[c]?).map (cA K), fun c => (l.E[c]?).bind (·.kept), l.T K, fun P' w' K' mg' base' => P' = l.P ∧ w' = w ∧ K' = K ∧ mg' = mg ∧ base' = base⟩
theorem argB_plain {a : Arguments} {ps : List Str} (h : argB a ps none = true) : ∃ as, a = ⟨[], as, none, [], [], none, []⟩ ∧ as.map (·.arg) = ps ∧ ps.Nodup := by
  unfold argB at h
  split at h
  · simp only [Bool.and_eq_true, decide_eq_true_eq] at h
    exact ⟨_, rfl, h.1.2, h.2⟩
  · simp at h
  · cases h
theorem argB_star {a : Arguments} {ps : List Str} {pv : Str} (h : argB a ps (some pv) = true) : ∃ as v, a = ⟨[], as, some v, [], [], none, []⟩ ∧ v.arg = pv ∧ as.map (·.arg) = ps ∧ ps.Nodup := by
  unfold argB at h
  split at h
  · simp at h
  · next as v =>
    simp only [Bool.and_eq_true, decide_eq_true_eq, Option.some.injEq] at h
    exact ⟨as, v, rfl, h.1.1.symm, h.1.2, h.2⟩
  · cases h
theorem binds_plain {K : PySem.W.Frag} {name qual : Str} {a : Arguments} {ps : List Str} {body : List Stmt} {sg : Scope} {kV doc pm cdv ct : Value} {an : Option Addr} (h : argB a ps none = true) : L2.Binds K (PySem.W.fnOf name qual a body sg .none kV doc pm an cdv ct) ps [] := by
  obtain ⟨as, rfl, e, nd⟩ := argB_plain h
  subst e
  refine L2.Binds.all fun us hl => ?_
  exact bind_all (by simpa using hl) nd
theorem ba2 {a b : Bool} (h : (a && b) = true) : a = true ∧ b = true := Bool.and_eq_true_iff.mp h
/-- what was asked of the text -/
structure StP (l : Lw) (m kk k : Nat) (d : DD) (df : Df) : Prop where
  at_ : l.p.defs[k]? = some df
  ns : df.ns = d.N.length
  np : df.np = (d.ps ++ d.pv.toList).length
  star : df.star = d.pv.isSome
  arg : argB (defArgs (topS l.P d.top)) d.ps d.pv = true
  sc : FnScope d.N (d.ps ++ d.pv.toList) (defScope (topS l.P d.top))
  one : d.hof = true → d.ps.length = 1 ∧ d.pv = none
  body : recSs (chkS l.gl (l.lmD m d) m kk) (defCC d (defScope (topS l.P d.top))) (defBody (topS l.P d.top)) df.body = true
theorem stB_ok {l : Lw} {m kk k : Nat} {d : DD} (h : l.stB m kk k d = true) : ∃ df, StP l m kk k d df := by
  unfold Lw.stB at h
  cases hd : l.p.defs[k]? with
  | none => rw [hd] at h; cases h
  | some df =>
    rw [hd] at h
    simp only [Bool.and_eq_true, decide_eq_true_eq] at h
    obtain ⟨⟨⟨⟨⟨⟨h1, h2⟩, h3⟩, h4⟩, h5⟩, h6⟩, h7⟩ := h
    refine ⟨df, hd, h1, h2, eq_of_beq h3, h4, scB_ok h5, fun z => ?_, h7⟩
    rw [z] at h6
    simpa using h6
section
variable {l : Lw} {m kk : Nat} {w : World} {Kf : PySem.W.Frag} {mg : Str → Option Value} {base h : Heap}
/-- what the head's heap h answers -/
structure Told (l : Lw) (Kf : PySem.W.Frag) (h : Heap) (mg : Str → Option Value) : Prop where
  inn : AllIn Kf h
  ns : h.Ns mainGlobals mg
  eq : l.obs Kf = l.val
  base : ∀ e ∈ l.E, ExcBaseFacts e.B e.newId e.initId e.bmB ∧ (e.kept.isSome = true → PySem.W.KxsFacts e.B e.initId ∧ StoreFacts e.B e.bmB "object.__setattr__" "object")
theorem Told.kin (t : Told l Kf h mg) : (filt Kf).In h := t.inn.filt.inn
theorem Told.kb (t : Told l Kf h mg) : l.kB Kf = true := congrArg (fun z : AlM => z.1) t.eq
structure KB (l : Lw) (Kf : PySem.W.Frag) : Prop where
  d : ∀ d ∈ l.D, (He.Fa.glo d.name).ok (filt Kf) = true ∧ (ddOf l.P d).ok (filt Kf) = true ∧ (d.lams = true → tabB Kf (filt Kf) d = true)
  c : ∀ c ∈ l.cs, cstB (filt Kf) c = true
  e : ∀ e ∈ l.E, excB l.P (filt Kf) e = true
  b : ∀ x ∈ blts, (He.Fa.free x).ok (filt Kf) = true
  s : (He.Fa.free "super").ok (filt Kf) = true
  t : tryAll (filt Kf) l.p.sub l.E 0 l.E = true
  u : ∀ a ∈ l.T (filt Kf), ∀ b ∈ l.T (filt Kf), a.1 = b.1 → a.2 = b.2
theorem Told.all (t : Told l Kf h mg) : KB l Kf := by
  have z := t.kb
  unfold Lw.kB at z
  simp only [Bool.and_eq_true] at z
  obtain ⟨⟨⟨⟨⟨⟨h1, h2⟩, h3⟩, h4⟩, h5⟩, h6⟩, h7⟩ := z
  refine ⟨fun d hd => ?_, List.all_eq_true.mp h2, List.all_eq_true.mp h3, List.all_eq_true.mp h4, h5, h6, fun a ha b hb e => ?_⟩
  · have y := List.all_eq_true.mp h1 d hd
    simp only [Bool.and_eq_true, Bool.or_eq_true, Bool.not_eq_true'] at y
    refine ⟨y.1.1, y.1.2, fun e => y.2.elim (fun z => ?_) id⟩
    rw [e] at z
    cases z
  · have y := List.all_eq_true.mp (List.all_eq_true.mp h7 a ha) b hb
    rw [e] at y
    simpa using y
theorem Told.fnw (t : Told l Kf h mg) {k : Nat} {d : DD} (hd : l.D[k]? = some d) : He.fnW (filt Kf) (d.name, none) = (ddOf l.P d).val := by
  have e : (l.D.map fun d => He.fnW (filt Kf) (d.name, none)) = l.D.map fun d => (ddOf l.P d).val := congrArg (fun z : AlM => z.2.1) t.eq
  have e2 : (l.D.map fun d => He.fnW (filt Kf) (d.name, none))[k]? = (l.D.map fun d => (ddOf l.P d).val)[k]? := by rw [e]
  rw [List.getElem?_map, List.getElem?_map, hd] at e2
  exact Option.some.inj e2
theorem Told.fni (t : Told l Kf h mg) {c : Nat} {e : ED} (hd : l.E[c]? = some e) : fnI (filt Kf) e = fnIv l.P e := by
  have e1 : (l.E.map fun e => fnI (filt Kf) e) = l.E.map fun e => fnIv l.P e := congrArg (fun z : AlM => z.2.2) t.eq
  have e2 : (l.E.map fun e => fnI (filt Kf) e)[c]? = (l.E.map fun e => fnIv l.P e)[c]? := by rw [e1]
  rw [List.getElem?_map, List.getElem?_map, hd] at e2
  exact Option.some.inj e2
/-- a def's object -/
theorem Told.fn (t : Told l Kf h mg) {k : Nat} {d : DD} (hd : l.D[k]? = some d) : mg d.name = some (.ref (He.ga (filt Kf) d.name)) ∧ PySem.W.keepIn (filt Kf) (.ref (He.ga (filt Kf) d.name)) = true ∧ ∃ (kV doc pm cdv ct oc : Value) (an od : Option Addr) (osl : Array (Option Value)),
    (filt Kf).lookup (He.ga (filt Kf) d.name) = some ⟨oc, od, .func (PySem.W.fnOf d.name d.name (defArgs (topS l.P d.top)) (defBody (topS l.P d.top)) (defScope (topS l.P d.top)) .none kV doc pm an cdv ct), osl⟩ ∧ PySem.W.codeIn (filt Kf) cdv d.name = true := by
  have hm := List.mem_of_getElem? hd
  obtain ⟨h1, h2, _⟩ := t.all.d d hm
  obtain ⟨fd, F⟩ := He.DefD.funD (t.fnw hd) h2
  obtain ⟨oc, od, dV, kV, doc, pm, an, cdv, ct, osl, rfl, lk, cd, df, _⟩ := F.ex
  have e : dV = .none := by
    rcases df with ⟨_, e⟩ | ⟨z, _⟩
    · exact e
    · exact absurd rfl z
  subst e
  exact ⟨He.glo_ok t.kin t.ns h1, F.kp, kV, doc, pm, cdv, ct, oc, an, od, osl, lk, cd⟩
theorem Told.defF (t : Told l Kf h mg) (hs : l.stGo m kk 0 l.D = true) (tb : ∀ p ∈ l.tabs (filt Kf), LamX.TabB base mg p.1 p.2) {x : Str} {k : Nat} (hx : l.gl x = some (.fn k)) : DefF (l.q w (filt Kf) mg base) l.gl (lmOf l.gl l.p.lams m) l.p m kk (filt Kf) mg base x k := by
  obtain ⟨d, hd, rfl, hh⟩ := gl_fn hx
  have st := stGo_ok hs hd
  rw [Nat.zero_add] at st
  obtain ⟨df, S⟩ := stB_ok st
  obtain ⟨hmg, hk, kV, doc, pm, cdv, ct, oc, an, od, osl, lk, cd⟩ := t.fn hd
  have hb := S.body
  unfold Lw.lmD defCC at hb
  rw [hh] at hb
  have tabs : d.lams = true → ∃ cc P0, cdv = .ref cc ∧ LamX.TabB base mg cc P0 ∧ (P0, (envOfC d.name (defScope (topS l.P d.top)) 0 (He.ga (filt Kf) d.name) cdv).qual ++ "<lambda>") ∈ l.T (filt Kf) ∧ ∀ pr ∈ l.T (filt Kf), pr.1 = P0 → pr.2 = (envOfC d.name (defScope (topS l.P d.top)) 0 (He.ga (filt Kf) d.name) cdv).qual ++ "<lambda>" := fun hl => by
    have hm := List.mem_of_getElem? hd
    have tt := (t.all.d d hm).2.2 hl
    unfold tabB at tt
    simp only [Bool.and_eq_true] at tt
    have c1 := tt.1.1.1.1
    unfold codeB at c1
    rw [lk] at c1
    have ce : cdv = .ref (tabOf (filt Kf) d).1 := by
      cases cdv with
      | ref c =>
        have z : (c == (tabOf (filt Kf) d).1) = true := c1
        rw [eq_of_beq z]
      | _ => cases c1
    have mf : d ∈ l.D.filter (·.lams) := List.mem_filter.mpr ⟨hm, hl⟩
    have mT : ((tabOf (filt Kf) d).2, lamName l.P d) ∈ l.T (filt Kf) := List.mem_map.mpr ⟨d, mf, rfl⟩
    exact ⟨_, _, ce, tb _ (List.mem_map.mpr ⟨d, mf, rfl⟩), mT, fun pr hp e => t.all.u pr hp _ mT e⟩
  refine ⟨He.ga (filt Kf) d.name, d.name, d.name, _, _, _, .none, kV, doc, pm, cdv, ct, oc, an, od, osl, d.N, d.ps, df, d.lams, hmg, hk, lk, cd, S.at_, S.ns, hb, tabs, ?_⟩
  cases hpv : d.pv with
  | none =>
    have e1 := S.np
    have e2 := S.sc
    have e3 := S.arg
    rw [hpv] at e1 e2 e3
    simp only [Option.toList, List.append_nil] at e1 e2
    exact .inl ⟨by rw [S.star, hpv]; rfl, e1, e2, binds_plain e3⟩
  | some pv =>
    have e1 := S.np
    have e2 := S.sc
    have e3 := S.arg
    rw [hpv] at e1 e2 e3
    simp only [Option.toList, List.length_append, List.length_singleton] at e1 e2
    obtain ⟨as, v, ea, ev, ep, nd⟩ := argB_star e3
    refine .inr ⟨pv, by rw [S.star, hpv]; rfl, e1, e2, fun us rest hl => ?_⟩
    rw [ea, ← ev, ← ep]
    exact bind_star (by rw [← ep] at hl; simpa using hl) (by rw [ep]; exact nd)
theorem Told.hofF (t : Told l Kf h mg) (hs : l.stGo m kk 0 l.D = true) {x : Str} {k : Nat} (hx : l.gl x = some (.hof k)) : HofF l.gl l.p m kk (filt Kf) mg x k := by
  obtain ⟨d, hd, rfl, hh⟩ := gl_hof hx
  have st := stGo_ok hs hd
  rw [Nat.zero_add] at st
  obtain ⟨df, S⟩ := stB_ok st
  obtain ⟨hmg, hk, kV, doc, pm, cdv, ct, oc, an, od, osl, lk, cd⟩ := t.fn hd
  have hb := S.body
  unfold Lw.lmD defCC at hb
  rw [hh] at hb
  obtain ⟨o1, o2⟩ := S.one hh
  obtain ⟨a, ea⟩ : ∃ a, d.ps = [a] := by
    cases hp : d.ps with
    | nil => rw [hp] at o1; cases o1
    | cons a r =>
      cases r with
      | nil => exact ⟨a, rfl⟩
      | cons b r => rw [hp] at o1; simp at o1
  have e1 := S.np
  have e2 := S.sc
  have e3 := S.arg
  have e4 := S.star
  rw [o2] at e1 e2 e3 e4
  rw [ea] at e1 e2 e3
  exact ⟨He.ga (filt Kf) d.name, d.name, d.name, _, _, _, .none, kV, doc, pm, cdv, ct, oc, an, od, osl, d.N, a, df, hmg, hk, lk, cd, binds_plain e3, e2, S.at_, e1, e4, S.ns, hb⟩
end
end Ev
set_option Elab.async false
set_option linter.all false
set_option maxRecDepth 100000
set_option maxHeartbeats 1000000
/-! EvMd: constants, errors. -/
namespace Ev
open PySem PySem.Spec PyProof.Rows L2
/-- which error is of which class -/
def subOf (ps : List (Nat × Nat)) (c h : Nat) : Bool := ps.any fun p => decide (p.1 = c) && decide (p.2 = h)
theorem subOf_lt {ps : List (Nat × Nat)} {n : Nat} (hp : (ps.all fun p => decide (p.2 < n)) = true) {c h : Nat} (hs : subOf ps c h = true) : h < n := by
  unfold subOf at hs
  obtain ⟨p, h1, h2⟩ := List.any_eq_true.mp hs
  simp only [Bool.and_eq_true, decide_eq_true_eq] at h2
  have z := List.all_eq_true.mp hp p h1
  rw [← h2.2]
  exact of_decide_eq_true z
theorem litB_ok {u : Value} {y : PyData} (h : litB u y = true) : ∃ v, RelV v u ∧ ∀ (g : G) (F : Hp), Rep g F v y := by
  unfold litB at h
  split at h
  · exact ⟨.non, rfl, fun g F => .non⟩
  · next a b =>
    rw [eq_of_beq h]
    exact ⟨.bl b, rfl, fun g F => .bl b⟩
  · next i t j =>
    rw [of_decide_eq_true h]
    exact ⟨.int j, ⟨t, rfl⟩, fun g F => .int j⟩
  · next x t y =>
    rw [of_decide_eq_true h]
    exact ⟨.str y, ⟨t, rfl⟩, fun g F => .str y⟩
  · cases h
theorem tryGo_ok {K : PySem.W.Frag} {sub : Nat → Nat → Bool} {e : ED} {c : Nat} : ∀ {E : List ED} {h i : Nat} {g : ED}, tryGo K sub e c h E = true → E[i]? = some g → PySem.W.exmOne K (.ref (cA K e)) (.ref (cA K g)) = some (sub c (h + i)) ∧ (sub c (h + i) = true → e.kept ≠ none → g.kept = e.kept)
  | [], _, _, _, _, hi => by cases hi
  | g :: r, h, i, g', ht, hi => by
    rw [tryGo] at ht
    simp only [Bool.and_eq_true, Bool.or_eq_true, Bool.not_eq_true', decide_eq_true_eq] at ht
    obtain ⟨⟨h1, h2⟩, h3⟩ := ht
    cases i with
    | zero =>
      cases hi
      refine ⟨h1, fun z y => ?_⟩
      rcases h2 with (h2 | h2) | h2
      · rw [Nat.add_zero, h2] at z
        cases z
      · cases hk : e.kept with
        | none => exact absurd hk y
        | some f => rw [hk] at h2; cases h2
      · exact h2
    | succ i =>
      have z := tryGo_ok h3 (i := i) hi
      rw [show h + 1 + i = h + (i + 1) by omega] at z
      exact z
theorem tryAll_ok {K : PySem.W.Frag} {sub : Nat → Nat → Bool} {E0 : List ED} : ∀ {E : List ED} {c i : Nat} {e : ED}, tryAll K sub E0 c E = true → E[i]? = some e → tryGo K sub e (c + i) 0 E0 = true
  | [], _, _, _, _, hi => by cases hi
  | g :: r, c, i, e, ht, hi => by
    rw [tryAll, Bool.and_eq_true] at ht
    cases i with
    | zero =>
      cases hi
      exact ht.1
    | succ i =>
      have z := tryAll_ok ht.2 (i := i) hi
      rw [show c + 1 + i = c + (i + 1) by omega] at z
      exact z
/-- the shape of a class's __init__ -/
theorem shape_ok {f : Str} {a : Arguments} {sc : Scope} {b : List Stmt} (h : shapeB f a sc b = true) : ∃ (self gv : Str) (ar gr : Arg) (p0 p1 p2 p3 p4 p5 p6 p7 p8 p9 : Pos),
    b = [.Expr (.Call (.Attribute (.Call (.Name "super" p0) [] [] p1) "__init__" p2) [.Name gv p3] [] p4) p5, .Assign [.Attribute (.Name self p6) f p7] (.Name gv p8) p9] ∧ a = ⟨[], [ar, gr], none, [], [], none, []⟩ ∧ ar.arg = self ∧ gr.arg = gv ∧ self ≠ gv ∧
    sc.names.lookup self = some .local ∧ sc.names.lookup gv = some .local ∧ sc.names.lookup ("super" : Str) = some .globalImplicit ∧ sc.names.lookup ("__class__" : Str) = some .free ∧ (∀ x ∈ sc.names, x.2 ≠ .cell) ∧ sc.kind = .function ∧ sc.isCoroutine = false ∧ sc.isGenerator = false ∧
    (p2.endLine == p4.line) = true ∧ (self == gv) = false ∧ (gv == self) = false ∧ (gv == ("__debug__" : Str)) = false ∧ (self == ("__debug__" : Str)) = false := by
  unfold shapeB at h
  split at h
  · next s p0 p1 i p2 gv p3 p4 p5 self p6 f' p7 gv' p8 p9 =>
    simp only [Bool.and_eq_true, Bool.not_eq_true', decide_eq_true_eq, decide_eq_false_iff_not, List.all_eq_true] at h
    obtain ⟨⟨⟨⟨⟨⟨⟨⟨⟨⟨⟨⟨⟨⟨⟨⟨⟨rfl, rfl⟩, rfl⟩, rfl⟩, h1⟩, h2⟩, h3⟩, h4⟩, h5⟩, h6⟩, h7⟩, h8⟩, h9⟩, h10⟩, h11⟩, h12⟩, h13⟩, h14⟩ := h
    obtain ⟨as, rfl, ea, nd⟩ := argB_plain h1
    cases as with
    | nil => cases ea
    | cons ar as =>
      cases as with
      | nil => cases ea
      | cons gr as =>
        cases as with
        | cons _ _ => simp at ea
        | nil =>
          simp only [List.map_cons, List.map_nil, List.cons.injEq, and_true] at ea
          exact ⟨self, gv', ar, gr, p0, p1, p2, p3, p4, p5, p6, p7, p8, p9, rfl, rfl, ea.1, ea.2, by simpa using nd, h2, h3, h4, h5, fun x hx => h6 x hx, h7, h8, h9, h10, h11, h12, h13, h14⟩
  · cases h
section
variable {l : Lw} {m kk : Nat} {w : World} {Kf : PySem.W.Frag} {mg : Str → Option Value} {base h : Heap}
theorem Told.sup (t : Told l Kf h mg) {c : Nat} {e : ED} {f : Str} (he : l.E[c]? = some e) (hk : e.kept = some f) (hs : supB l.P (filt Kf) e f = true) : SupC l.P (filt Kf) mg (cA (filt Kf) e) (He.ma (filt Kf) (cA (filt Kf) e) "__init__") f := by
  have hm := List.mem_of_getElem? he
  obtain ⟨b1, b2⟩ := t.base e hm
  obtain ⟨b3, b4⟩ := b2 (by rw [hk]; rfl)
  have fi := t.fni he
  unfold fnI fnIv at fi
  rw [hk] at fi
  simp only at fi
  unfold supB at hs
  simp only [Bool.and_eq_true, Bool.not_eq_true', decide_eq_true_eq] at hs
  obtain ⟨⟨⟨⟨⟨⟨⟨⟨⟨⟨⟨⟨⟨⟨⟨⟨⟨s1, s2⟩, s3⟩, s4⟩, s5⟩, s6⟩, s7⟩, s8⟩, s9⟩, s10⟩, s11⟩, s12⟩, s13⟩, s14⟩, s15⟩, s16⟩, s17⟩, s18⟩ := hs
  obtain ⟨self, gv, ar, gr, p0, p1, p2, p3, p4, p5, p6, p7, p8, p9, hb, ha, ea, eg, hne, c1, c2, c3, c4, c5, c6, c7, c8, c9, c10, c11, c12, c13⟩ := shape_ok s18
  -- the function's object
  cases hl : (filt Kf).lookup (He.ma (filt Kf) (cA (filt Kf) e) "__init__") with
  | none => rw [hl] at s3; cases s3
  | some o =>
    obtain ⟨oc, od, dt, osl⟩ := o
    rw [hl] at s3 fi
    cases dt with
    | func fd =>
      obtain ⟨n1, n2, n3, n4, n5, n6, n7, n8, n9, n10, n11, n12, n13, n14, n15⟩ := fd
      simp only [Option.some.injEq, Prod.mk.injEq] at fi
      obtain ⟨f1, f2, f3, f4, f5, f6, f7, f8⟩ := fi
      subst f1 f2 f3 f4 f5 f6 f8
      simp only at s3
      obtain ⟨cda, x, cc, rfl, rfl, rfl⟩ : ∃ cda x cc, n13 = .ref cda ∧ n7 = [(x, cc)] ∧ n8 = .none := by
        cases n13 with
        | ref cda =>
          cases n7 with
          | nil => cases s3
          | cons p r =>
            cases r with
            | nil =>
              cases n8 with
              | none => exact ⟨cda, p.1, p.2, rfl, rfl, rfl⟩
              | _ => cases s3
            | cons _ _ => cases s3
        | _ => cases s3
      · simp only at s3
        simp only [List.map_cons, List.map_nil, List.cons.injEq, and_true] at f7
        subst f7
        simp only [Bool.and_eq_true] at s3
        obtain ⟨⟨k1, k2⟩, k3⟩ := s3
        cases hcd : (filt Kf).lookup cda with
        | none => rw [hcd] at k2; cases k2
        | some o2 =>
          obtain ⟨ccl, cdd, dt2, ccs⟩ := o2
          rw [hcd] at k2
          cases dt2 with
          | fields vs =>
            simp only at k2
            cases hv : (vs[2]? : Option Value) with
            | none => rw [hv] at k2; cases k2
            | some v2 =>
              rw [hv] at k2
              cases v2 with
              | str file tf =>
                cases hcc : (filt Kf).lookup cc with
                | none => rw [hcc] at k3; cases k3
                | some o3 =>
                  obtain ⟨cl, cld, dt3, csl⟩ := o3
                  rw [hcc] at k3
                  cases dt3 with
                  | cell cv =>
                    cases cv with
                    | none => cases k3
                    | some cv =>
                      cases cv with
                      | ref C =>
                        have eC : C = cA (filt Kf) e := eq_of_beq k3
                        subst eC
                        obtain ⟨cd, hcls⟩ := Option.isSome_iff_exists.mp s4
                        refine ⟨⟨e.B, e.newId, e.initId, e.bmB, "__init__", e.name ++ ".__init__", _, defScope (initOf l.P e), .none, n9, n10, n11, n14, oc, cl, n12, od, cld, cdd, cda, cc, osl, csl, ccs, ccl, vs, file, tf, cd, self, gv, ar, p0, p1, p2, p3, p4, p5, p6, p7, p8, p9,
                          b1, b3, b4, s1, s2, by rw [← hb, hl], k1, by rw [ha]; rfl, ea, fun us s hu => ?_, c1, c2, c3, c4, c5, c6, c7, c8, c9, c10, c11, c12, c13, hcd, hv, k2, hcc, hcls, s5, s6, s7⟩, s8, s9, s10, s11, s12, He.free_ok t.kin t.ns t.all.s, s13, s14, s15, s16, s17⟩
                        rw [ha, ← ea, ← eg]
                        exact BindsTo.of_eq (bind_all (as := [ar, gr]) hu (by simpa [ea, eg] using hne))
                      | _ => cases k3
                  | _ => cases k3
              | _ => cases k2
          | _ => cases k2
    | _ => cases s3
theorem Told.stat (t : Told l Kf h mg) (hsub : ∀ c h, l.p.sub c h = true → h < l.E.length) : Stat (l.q w (filt Kf) mg base) l.gl l.p.sub l.P w (filt Kf) mg := by
  refine ⟨fun x y hx => ?_, fun x c b hx X hP hK hmg => ?_, fun x hx => He.free_ok t.kin t.ns (t.all.b x hx), ⟨fun c h a b ha hb => ?_, fun c h f hf hs => ?_, fun c a f ha hf => ?_⟩⟩
  · have z := t.all.c _ (gl_cst hx)
    unfold cstB at z
    split at z
    · next u hu =>
      obtain ⟨v, h1, h2⟩ := litB_ok z
      exact ⟨v, u, PySem.W.mg_of t.kin t.ns hu, h1, fun g F _ _ _ => h2 g F⟩
    · cases z
  · obtain ⟨e, he, rfl, hk⟩ := gl_exc hx
    have hm := List.mem_of_getElem? he
    have z := t.all.e e hm
    unfold excB at z
    rw [Bool.and_eq_true] at z
    obtain ⟨z1, z2⟩ := z
    refine ⟨cA (filt Kf) e, by rw [hmg]; exact He.glo_ok t.kin t.ns z1, by show (l.E[c]?).map _ = _; rw [he]; rfl, ?_⟩
    cases hke : e.kept with
    | none =>
      rw [hke] at z2 hk
      subst hk
      have z3 : plnB (filt Kf) e = true := z2
      unfold plnB at z3
      simp only [Bool.and_eq_true, decide_eq_true_eq] at z3
      refine ⟨by show (l.E[c]?).bind _ = _; rw [he]; exact hke, ?_⟩
      rw [hK]
      exact ⟨⟨e.B, e.newId, e.initId, e.bmB, (t.base e hm).1, z3.1.1.1⟩, z3.1.1.2, z3.1.2, z3.2⟩
    | some f =>
      rw [hke] at z2 hk
      subst hk
      simp only [Bool.and_eq_true] at z2
      refine ⟨by show (l.E[c]?).bind _ = _; rw [he]; exact hke, He.ma (filt Kf) (cA (filt Kf) e) "__init__", ?_⟩
      rw [hP, hK, hmg]
      exact t.sup he hke z2.1.1
  · have ha' : (l.E[c]?).map (cA (filt Kf)) = some a := ha
    have hb' : (l.E[h]?).map (cA (filt Kf)) = some b := hb
    obtain ⟨e, he, rfl⟩ := Option.map_eq_some_iff.mp ha'
    obtain ⟨g, hg, rfl⟩ := Option.map_eq_some_iff.mp hb'
    have z := (tryGo_ok (tryAll_ok t.all.t he) hg).1
    rw [Nat.zero_add, Nat.zero_add] at z
    exact z
  · have hf' : (l.E[c]?).bind (·.kept) = some f := hf
    obtain ⟨e, he, hk⟩ := Option.bind_eq_some_iff.mp hf'
    have hl := hsub c h hs
    have hg : l.E[h]? = some l.E[h] := List.getElem?_eq_getElem hl
    have z := (tryGo_ok (tryAll_ok t.all.t he) hg).2
    rw [Nat.zero_add, Nat.zero_add] at z
    show (l.E[h]?).bind (·.kept) = some f
    rw [hg]
    show (l.E[h]).kept = some f
    rw [z hs (by rw [hk]; simp), hk]
  · have ha' : (l.E[c]?).map (cA (filt Kf)) = some a := ha
    have hf' : (l.E[c]?).bind (·.kept) = some f := hf
    obtain ⟨e, he, rfl⟩ := Option.map_eq_some_iff.mp ha'
    rw [he] at hf'
    have hk : e.kept = some f := hf'
    have z := t.all.e e (List.mem_of_getElem? he)
    unfold excB at z
    rw [hk] at z
    simp only [Bool.and_eq_true, decide_eq_true_eq] at z
    exact ⟨xfB_ok z.2.1.2, z.2.2⟩
end
end Ev
set_option Elab.async false
set_option linter.all false
set_option maxRecDepth 100000
set_option maxHeartbeats 1000000
/-! EvMf: the law's call, at the caller that the statement names. -/
namespace Ev
open PySem PySem.Spec PyProof.Rows L2
/-- a heap, some of its objects put away -/
def hidH (D : List Addr) (h : Heap) : Heap := { h with objs := h.objs.mapIdx fun i o => if i ∈ D then { cls := .none, data := .freed } else o }
theorem hid_get {D : List Addr} {h : Heap} {b : Addr} : (hidH D h).get? b = if b ∈ D then none else h.get? b := by
  unfold Heap.get? hidH
  simp only [Array.getElem?_mapIdx]
  by_cases hb : b ∈ D
  · cases h.objs[b]? <;> simp [hb]
  · cases h.objs[b]? <;> simp [hb]
theorem hid_size {D : List Addr} {h : Heap} : (hidH D h).objs.size = h.objs.size := by simp [hidH]
theorem law_run {P : Program} {w : World} {K : PySem.W.Frag} {mg mb : Str → Option Value} {fa a : Addr} {cs : List (Addr × Addr)} {s₁ : Shared} {vs : List Value} {ns : List Int}
    (kin : K.In s₁.heap) (hmg : s₁.heap.Ns mainGlobals mg) (hmb : s₁.heap.Ns builtinsNs mb) (hbt : ∀ x : Str, x ≠ "__name__" → mb x = bootBuiltins x) (nl : s₁.heap.NoLimit) (hg : s₁.gens = #[])
    (t1 : ∀ p ∈ cs, s₁.heap.get? p.2 = some { cls := .none, data := .fields #[] }) (t2 : ∀ p ∈ cs, K.lookup p.2 = none) (t3 : ∀ p ∈ cs, PySem.W.CodeHd s₁.heap p.1 p.2)
    (hbm : ∃ bm ob, mg "__builtins__" = some (.ref bm) ∧ bm ≠ builtinsNs ∧ s₁.heap.get? bm = some ob ∧ ob.cls = .type "module" ∧ ob.dict = some builtinsNs ∧ ob.data = .plain)
    (hobj : s₁.heap.get? a = some { cls := .type "list", data := .seq vs.toArray }) (hints : IntsAre vs ns) (hlen : ns.length ≤ sizeLine)
    (run : ∀ (base : Heap) (H : Hp), K.In base → base.Ns mainGlobals mg → (∀ p ∈ cs, LamX.TabB base mg p.1 p.2) → L2.Env0 P w K mg base callerA [] s₁ H → (∀ p ∈ cs, H p.2 = some (.tbl #[])) → SqL K H a (ns.map V.int) →
      codeAny (model P w) callerA (.call (.ref fa) ⟨[.ref a], []⟩) (L2.CR (L2.CX P w) [] P w H s₁ (fun v _ => v = .bl true) (fun _ _ _ => False)) s₁) :
    codeAny (model P w) callerA (.call (.ref fa) ⟨[.ref a], []⟩) (fun r s' => r = .ok (.ret (.bool true)) ∧ OldK s₁.heap s'.heap ∧ s'.os = s₁.os ∧ AllBare s'.gens) s₁ := by
  have hvl : Vals (ns.map V.int) vs := vals_ints hints
  have hlv : vs.length = ns.length := by have := hvl.length; rw [List.length_map] at this; omega
  generalize hD : (cs.map (·.2) ++ (if K.lookup a = none then [a] else [])) = D
  have memD : ∀ b, b ∈ D ↔ (∃ p ∈ cs, p.2 = b) ∨ (K.lookup a = none ∧ b = a) := fun b => by
    rw [← hD, List.mem_append, List.mem_map]
    by_cases z : K.lookup a = none
    · rw [if_pos z, List.mem_singleton]
      exact ⟨fun h => h.imp id fun y => ⟨z, y⟩, fun h => h.imp id fun y => y.2⟩
    · rw [if_neg z]
      exact ⟨fun h => h.imp id (fun y => by cases y), fun h => h.imp id fun y => absurd y.1 z⟩
  have notA : ∀ p ∈ cs, p.2 ≠ a := fun p hp z => by
    have y := t1 p hp
    rw [z, hobj] at y
    cases y
  -- an object of another kind is kept
  have kept : ∀ {b : Addr} {o : Obj}, s₁.heap.get? b = some o → (o.data ≠ .fields #[] ∨ o.cls ≠ .none) → (o.data ≠ .seq vs.toArray) → (hidH D s₁.heap).get? b = some o := fun {b o} e n1 n2 => by
    rw [hid_get, if_neg, e]
    intro z
    rcases (memD b).mp z with ⟨p, hp, rfl⟩ | ⟨_, rfl⟩
    · have y := t1 p hp
      rw [e] at y
      cases y
      rcases n1 with n1 | n1
      · exact n1 rfl
      · exact n1 rfl
    · rw [hobj] at e
      cases e
      exact n2 rfl
  have keptNs : ∀ {b : Addr} {m : Str → Option Value}, s₁.heap.Ns b m → (hidH D s₁.heap).Ns b m := fun {b m} ⟨o, es, ep, e1, e2, e3, e4⟩ => ⟨o, es, ep, kept e1 (.inl (by rw [e2]; intro z; cases z)) (by rw [e2]; intro z; cases z), e2, e3, e4⟩
  have kinB : K.In (hidH D s₁.heap) := fun b o e => by
    rw [hid_get, if_neg, kin b o e]
    intro z
    rcases (memD b).mp z with ⟨p, hp, rfl⟩ | ⟨y, rfl⟩
    · rw [t2 p hp] at e
      cases e
    · rw [y] at e
      cases e
  generalize hH : (fun b => if b ∈ cs.map (·.2) then some (HO.tbl #[]) else if K.lookup a = none ∧ b = a then some (.frz { cls := .type "list", data := .seq vs.toArray } (.lst (ns.map V.int))) else none : Hp) = H
  have atH : ∀ b, H b = if b ∈ cs.map (·.2) then some (HO.tbl #[]) else if K.lookup a = none ∧ b = a then some (.frz { cls := .type "list", data := .seq vs.toArray } (.lst (ns.map V.int))) else none := fun b => by rw [← hH]
  have tabH : ∀ p ∈ cs, H p.2 = some (.tbl #[]) := fun p hp => by rw [atH, if_pos (List.mem_map.mpr ⟨p, hp, rfl⟩)]
  have noneH : ∀ b, b ∉ D → H b = none := fun b hb => by
    rw [atH, if_neg, if_neg]
    · exact fun z => hb ((memD b).mpr (.inr z))
    · intro z
      obtain ⟨p, hp, e⟩ := List.mem_map.mp z
      exact hb ((memD b).mpr (.inl ⟨p, hp, e⟩))
  have env : L2.Env0 P w K mg (hidH D s₁.heap) callerA [] s₁ H := by
    refine ⟨rfl, ⟨kinB, keptNs hmg, ⟨mb, keptNs hmb, hbt⟩, ?_⟩, fun b o e => ?_, by rw [hid_size]; exact Nat.le_refl _, by rw [Heap.FunFrames.eq_1]; trivial, (fun b hb => by cases hb), fun b o e => ?_, by rw [hg]; intro y hy; simp at hy⟩
    · obtain ⟨mc, h1, h2⟩ := nl
      exact ⟨mc, keptNs h1, h2⟩
    · rw [hid_get] at e
      split at e
      · cases e
      · next nb => exact ⟨e, noneH b nb⟩
    · rw [atH] at e
      split at e
      · next z =>
        cases e
        obtain ⟨p, hp, rfl⟩ := List.mem_map.mp z
        rw [ObjOk.eq_11]
        exact t1 p hp
      · split at e
        · next z =>
          cases e
          obtain ⟨_, rfl⟩ := z
          rw [ObjOk.eq_10, ObjOk.eq_1]
          refine ⟨hobj, by rw [List.length_map]; exact hlen, vs, _, hvl, hobj⟩
        · cases e
  have tabs : ∀ p ∈ cs, LamX.TabB (hidH D s₁.heap) mg p.1 p.2 := fun p hp => by
    obtain ⟨bm, ob, b1, b2, b3, b4, b5, b6⟩ := hbm
    obtain ⟨og, esg, epg, g1, g2, _, _⟩ := hmg
    obtain ⟨o, vs0, file, tf, flags, tg, inF, text, tt, c1, c2, c3⟩ := t3 p hp
    have kb := kept b3 (.inl (by rw [b6]; intro z; cases z)) (by rw [b6]; intro z; cases z)
    refine ⟨⟨o, vs0, file, tf, flags, tg, inF, text, tt, kept c1 (.inr (by rw [c2]; intro z; cases z)) (by rw [c3.1]; intro z; cases z), c2, c3⟩, ⟨bm, ob, b1, b2, fun z => ?_, fun z => ?_, kb, b4, b5, b6⟩, fun z => ?_⟩
    · rw [z, g1] at b3
      cases b3
      rw [g2] at b6
      cases b6
    · have y := t1 p hp
      rw [← z, b3] at y
      cases y
      cases b6
    · have y := t1 p hp
      rw [← z, g1] at y
      cases y
      cases g2
  have sq : SqL K H a (ns.map V.int) := by
    cases z : K.lookup a with
    | none =>
      refine .inl (.inr ⟨{ cls := .type "list", data := .seq vs.toArray }, ?_⟩)
      rw [atH, if_neg, if_pos ⟨z, rfl⟩]
      intro y
      obtain ⟨p, hp, e⟩ := List.mem_map.mp y
      exact notA p hp e
    | some o =>
      have y := kin a o z
      rw [hobj] at y
      cases y
      exact .inr ⟨_, vs.toArray, _, z, rfl, rfl, rfl, by rw [List.size_toArray, hlv]; exact hlen, hvl⟩
  refine codeAny_mono (run _ H kinB (keptNs hmg) tabs env tabH sq) fun r s' hq => ?_
  cases r with
  | error e =>
    obtain ⟨_, _, _, _, _, _, _, _, _, _, _, _, y⟩ := (show L2.CX P w [] H s₁ (fun _ _ _ => False) e s' from hq)
    exact y.elim
  | ok fl =>
    cases fl with
    | next => exact (show False from hq).elim
    | brk => exact (show False from hq).elim
    | cont => exact (show False from hq).elim
    | ret u =>
      obtain ⟨v, H', c1, c2, c3, c4, c5, c6⟩ := (show L2.CE [] P w H s₁ (fun v _ => v = .bl true) u s' from hq)
      subst c6
      have eu : u = .bool true := c5
      subst eu
      refine ⟨rfl, ⟨fun b o e => ?_, fun b o e => c3.there b o e (by intro z; cases z)⟩, c1, c2⟩
      by_cases hb : b ∈ D
      · rcases (memD b).mp hb with ⟨p, hp, rfl⟩ | ⟨z, rfl⟩
        · obtain ⟨more, h1⟩ := c3.tbls _ _ (tabH p hp)
          have h2 := c4 _ _ h1
          rw [ObjOk.eq_11] at h2
          rw [t1 p hp] at e
          cases e
          obtain ⟨o, vs0, file, tf, flags, tg, inF, text, tt, d1, d2, d3, d4, _⟩ := t3 p hp
          exact .inr (.inl ⟨⟨p.1, o, vs0, d1, d2, d3, d4⟩, rfl, #[], more, rfl, h2⟩)
        · have h0 : H b = some (.frz { cls := .type "list", data := .seq vs.toArray } (.lst (ns.map V.int))) := by
            rw [atH, if_neg, if_pos ⟨z, rfl⟩]
            intro y
            obtain ⟨p, hp, e⟩ := List.mem_map.mp y
            exact notA p hp e
          have h2 := c4 _ _ (c3.frzs _ _ _ h0)
          rw [ObjOk.eq_10] at h2
          rw [hobj] at e
          cases e
          exact .inl h2.1
      · exact .inl (c3.keep b o e (noneH b hb) (by intro z; cases z) (by intro z; cases z))
end Ev
set_option Elab.async false
set_option linter.all false
set_option maxRecDepth 100000
set_option maxHeartbeats 4000000
/-! EvMe: the law's end. -/
namespace Ev
open PySem PySem.Spec PyProof.Rows L2
theorem isTab_ok {o : Obj} (h : isTab o = true) : o = { cls := .none, data := .fields #[] } := by
  unfold isTab at h
  split at h
  · next vs sl =>
    simp only [Bool.and_eq_true, decide_eq_true_eq] at h
    rw [Array.size_eq_zero_iff.mp h.1, Array.size_eq_zero_iff.mp h.2]
  · cases h
section
variable {q : Qn} {gl : Str → Option Gn} {p : Prg} {m kk : Nat} {P : Program} {w : World} {K : PySem.W.Frag} {mg : Str → Option Value} {base : Heap}
theorem body_ps (hq : ∀ P' w' K' mg' base', q.ok P' w' K' mg' base' ↔ P' = P ∧ w' = w ∧ K' = K ∧ mg' = mg ∧ base' = base) (S : Stat q gl p.sub P w K mg) (Hh : ∀ x k, gl x = some (.hof k) → HofF gl p m kk K mg x k) {d : Nat} (ih : ∀ d', FnsAt q gl p P w K mg base d') {N : List Str} {sg : Scope} {lams : Bool} {body : List Stmt} {df : Df} {qual : Str} {f : Addr} {cdv : Value}
    (nd : N.Nodup) (hchk : recSs (chkS gl (lmOf gl p.lams m) m kk) (defCc N sg lams) body df.body = true) (hlam : lams = true → ∃ cc P0, cdv = .ref cc ∧ LamX.TabB base mg cc P0 ∧ (P0, (envOfC qual sg 0 f cdv).qual ++ "<lambda>") ∈ q.T ∧ ∀ pr ∈ q.T, pr.1 = P0 → pr.2 = (envOfC qual sg 0 f cdv).qual ++ "<lambda>")
    (A : Around) (outer : List PySem.Env) (s : Shared) (H : Hp) (E : XK) (gd : A.guards = some []) (hr' : Room (d + 1) (A.deeper (envOfC qual sg s.heap.objs.size f cdv))) : PSs (cxOf (L2.CX P w) P w K mg base N qual sg f cdv A outer s H E) body (tS (gOf q P w K) (fun cls dd _ H' => E cls dd H') (exs (callD p d) (cloD p d) p.sub fuel df.body)) := by
  have LH : LamH q gl (callD p d) (cloD p d) d (lmOf gl p.lams m) := lamH_of (fun P' w' K' mg' base' h => (hq P' w' K' mg' base').mp h) S Hh d fun d' h => ih d'
  have ftS : FitsS q gl (callD p d) (cloD p d) p.sub d C0 (fun cls dd _ H' => E cls dd H') (defCc N sg lams) (cxOf (L2.CX P w) P w K mg base N qual sg f cdv A outer s H E) := by
    refine ⟨⟨rfl, nd, rfl, fun _ _ => rfl, rfl, hr', gd, L2.takes_of rfl rfl rfl rfl, fun y j hy => ih d y j hy, fun y v hy => ?_, fun y j b hy => S.exs y j b hy _ rfl rfl rfl, S.blt, fun _ => rfl, fun z => ?_, fun z => (by cases z)⟩, L2.passes_of rfl, rfl, rfl, S.try_⟩
    · obtain ⟨v', u, h1, h2, h3⟩ := S.cst y v hy
      exact ⟨v', u, h1, h2, fun F => h3 _ F rfl rfl rfl⟩
    · obtain ⟨cc, P0, e1, e2, e3, e4⟩ := hlam z
      exact ⟨(hq _ _ _ _ _).mpr ⟨rfl, rfl, rfl, rfl, rfl⟩, cc, P0, e1, e2, e3, e4⟩
  exact block_in (chkS_sound LH (m := m) kk) ftS fuel hchk
end
/-- the law, over a head that answered -/
theorem law_end {L : PySem.W.OpenLaw} {l : Lw} {m kk kl d n : Nat} {dl : DD} {x : Str} {dr : DefRec} {qv : Program} {loose : List Str} {XP : (Str → Option Value) → Heap → Prop} (hP : L.prog = l.P) (hn : L.most = some n) (hn2 : n ≤ sizeLine) (hdf : dr.params.defaults = []) (hnm : dr.name = dl.name)
    (hb : ∀ e ∈ l.E, ExcBaseFacts e.B e.newId e.initId e.bmB ∧ (e.kept.isSome = true → PySem.W.KxsFacts e.B e.initId ∧ StoreFacts e.B e.bmB "object.__setattr__" "object")) (hsub : ∀ c h, l.p.sub c h = true → h < l.E.length) (hs : l.stGo m kk 0 l.D = true)
    (hd : l.D[kl]? = some dl) (hgl : l.gl dl.name = some (.fn kl)) (hps : dl.ps = [x]) (hpv : dl.pv = none) (hof : dl.hof = false) (hr : Room (d + 2) callerA)
    (law : ∀ ns : List Int, ns.length ≤ n → (∀ k ∈ ns, Builtin.Int.intBits k ≤ 1048576) → ∃ bs, callD l.p (d + 1) kl [.va (.sc ns)] = some (.ok (.v (.d (.bool true))) bs)) :
    PySem.W.WalkO qv loose XP l.hook.says L.row.toRowW dr [] (fun f vs => PySem.call f vs) := by
  refine Att.attach_callB hn hdf fun w s₀ s₁ mg mb fa o pm cd doc a vs ns G Y ho hd0 hcd hmg hobj hints hlen hbits hg => ?_
  obtain ⟨Kf, hin, heq⟩ := (show ∃ Kf : PySem.W.Frag, AllIn Kf s₁.heap ∧ l.obs Kf = l.val from Y)
  have T : Told l Kf s₁.heap mg := ⟨hin, G.T.g, heq, hb⟩
  obtain ⟨hmg2, hk, kV, doc2, pm2, cdv, ct, oc, an, od, osl, lk, cdI⟩ := T.fn hd
  have efa : fa = He.ga (filt Kf) dl.name := by
    rw [hnm, hmg2] at hmg
    cases hmg
    rfl
  subst efa
  have tabs : ∀ pr ∈ l.tabs (filt Kf), s₁.heap.get? pr.2 = some { cls := .none, data := .fields #[] } ∧ (filt Kf).lookup pr.2 = none ∧ PySem.W.CodeHd s₁.heap pr.1 pr.2 := fun pr hp => by
    obtain ⟨dd, hdd, e⟩ := List.mem_map.mp hp
    obtain ⟨hm, hl⟩ := List.mem_filter.mp hdd
    have tt := (T.all.d dd hm).2.2 hl
    unfold tabB at tt
    simp only [Bool.and_eq_true] at tt
    obtain ⟨⟨⟨⟨t1, t2⟩, t3⟩, t4⟩, t5⟩ := tt
    rw [← e]
    refine ⟨?_, ?_, PySem.W.codeHd_of_K T.kin t2⟩
    · cases hl2 : Kf.lookup (tabOf (filt Kf) dd).2 with
      | none => rw [hl2] at t3; cases t3
      | some ob =>
        rw [hl2] at t3
        have z := hin.inn _ _ hl2
        rw [isTab_ok t3] at z
        exact z
    · cases hl2 : (filt Kf).lookup (tabOf (filt Kf) dd).2 with
      | none => rfl
      | some ob => rw [hl2] at t4; cases t4
  have st := stGo_ok hs hd
  rw [Nat.zero_add] at st
  obtain ⟨df, Sd⟩ := stB_ok st
  have hbody := Sd.body
  unfold Lw.lmD defCC at hbody
  rw [hof] at hbody
  have e1 := Sd.np
  have e2 := Sd.sc
  have e3 := Sd.arg
  have e4 := Sd.star
  rw [hpv] at e1 e2 e3 e4
  rw [hps] at e1 e2 e3
  simp only [Option.toList, List.append_nil] at e1 e2
  have e4 : df.star = false := e4
  have e1 : df.np = 1 := e1
  obtain ⟨as, ea, ea2, nd2⟩ := argB_plain e3
  have hbd : ∀ (s : Shared) (u : Value), BindsTo s (PySem.W.fnOf dl.name dl.name (defArgs (topS l.P dl.top)) (defBody (topS l.P dl.top)) (defScope (topS l.P dl.top)) .none kV doc2 pm2 an cdv ct) ⟨[u], []⟩ [(x, u)] := fun s u => by
    rw [ea]
    have z := bind_all (name := dl.name) (qual := dl.name) (as := as) (body := defBody (topS l.P dl.top)) (scope := defScope (topS l.P dl.top)) (kV := kV) (doc := doc2) (pm := pm2) (cdv := cdv) (ct := ct) (an := an) (cl := []) (us := [u]) (by have := congrArg List.length ea2; simpa using this.symm) (by rw [ea2]; exact nd2)
    rw [ea2] at z
    exact BindsTo.of_eq z
  have hlam : ∀ base : Heap, (∀ p ∈ l.tabs (filt Kf), LamX.TabB base mg p.1 p.2) → dl.lams = true → ∃ cc P0, cdv = .ref cc ∧ LamX.TabB base mg cc P0 ∧ (P0, (envOfC dl.name (defScope (topS l.P dl.top)) 0 (He.ga (filt Kf) dl.name) cdv).qual ++ "<lambda>") ∈ l.T (filt Kf) ∧ ∀ pr ∈ l.T (filt Kf), pr.1 = P0 → pr.2 = (envOfC dl.name (defScope (topS l.P dl.top)) 0 (He.ga (filt Kf) dl.name) cdv).qual ++ "<lambda>" := fun base tb hl => by
    have hm := List.mem_of_getElem? hd
    have tt := (T.all.d dl hm).2.2 hl
    unfold tabB at tt
    simp only [Bool.and_eq_true] at tt
    have c1 := tt.1.1.1.1
    unfold codeB at c1
    rw [lk] at c1
    have ce : cdv = .ref (tabOf (filt Kf) dl).1 := by
      cases cdv with
      | ref c =>
        have z : (c == (tabOf (filt Kf) dl).1) = true := c1
        rw [eq_of_beq z]
      | _ => cases c1
    have mf : dl ∈ l.D.filter (·.lams) := List.mem_filter.mpr ⟨hm, hl⟩
    have mT : ((tabOf (filt Kf) dl).2, lamName l.P dl) ∈ l.T (filt Kf) := List.mem_map.mpr ⟨dl, mf, rfl⟩
    exact ⟨_, _, ce, tb _ (List.mem_map.mpr ⟨dl, mf, rfl⟩), mT, fun pr hp e => T.all.u pr hp _ mT e⟩
  rw [hP]
  refine law_run (mb := mb) (cs := l.tabs (filt Kf)) (K := filt Kf) T.kin G.T.g G.T.b G.T.builtins G.T.nolimit hg (fun pr hp => (tabs pr hp).1) (fun pr hp => (tabs pr hp).2.1) (fun pr hp => (tabs pr hp).2.2) G.T.bmain hobj hints (Nat.le_trans hlen hn2) fun base H hKb hNs hTB e0 hH hS => ?_
  have hq : ∀ P' w' K' mg' base', (l.q w (filt Kf) mg base).ok P' w' K' mg' base' ↔ P' = l.P ∧ w' = w ∧ K' = filt Kf ∧ mg' = mg ∧ base' = base := fun _ _ _ _ _ => Iff.rfl
  have S : Stat (l.q w (filt Kf) mg base) l.gl l.p.sub l.P w (filt Kf) mg := T.stat hsub
  have Hh : ∀ x k, l.gl x = some (.hof k) → HofF l.gl l.p m kk (filt Kf) mg x k := fun x k hx => T.hofF hs hx
  have all := all_fns hq S Hh (fun x k hx => T.defF hs hTB hx)
  have spc : SpC (gOf (l.q w (filt Kf) mg base) l.P w (filt Kf)) (callD l.p (d + 1) kl) [V.ref a] H (fun v _ => v = .bl true) (fun _ _ _ => False) := by
    obtain ⟨bs, hb2⟩ := law ns hlen hbits
    generalize hF : (fun b => match H b with | some (.tbl _) => none | z => z : Hp) = F
    have at3 : ∀ b, F b = match H b with | some (.tbl _) => none | z => z := fun b => by rw [← hF]
    have sub : Sub F H := fun b o hb => by
      rw [at3] at hb
      split at hb
      · cases hb
      · exact hb
    have keep : ∀ {b o}, H b = some o → (∀ ps, o ≠ .tbl ps) → F b = some o := fun {b o} hb hn => by
      rw [at3]
      split
      · next ps hz =>
        rw [hb] at hz
        exact absurd (Option.some.inj hz) (hn ps)
      · exact hb
    have tbs : LamX.Tabs (l.T (filt Kf)) H ∧ ∀ p ∈ l.T (filt Kf), F p.1 = none := by
      have z : ∀ p ∈ l.T (filt Kf), H p.1 = some (.tbl #[]) := fun p hp => by
        obtain ⟨dd, hdd, e⟩ := List.mem_map.mp hp
        rw [← e]
        exact hH _ (List.mem_map.mpr ⟨dd, hdd, rfl⟩)
      refine ⟨fun p hp => LamX.TabS.nil (z p hp), fun p hp => ?_⟩
      rw [at3, z p hp]
    refine ⟨F, [.va (.sc ns)], ⟨sub, rfl, fun i s hi => ?_, fun i j s t a _ hi hj os => ?_, tbs⟩, ?_⟩
    · cases i with
      | zero =>
        cases hi
        refine ⟨_, rfl, a, rfl, ?_⟩
        rcases hS with hS | hS
        · left
          rcases hS with hS | ⟨o, hS⟩
          · exact .inl (keep hS fun ps z => by cases z)
          · exact .inr ⟨o, keep hS fun ps z => by cases z⟩
        · exact .inr hS
      | succ i => cases hi
    · cases i with
      | zero =>
        cases hi
        cases os
      | succ i => cases hi
    · rw [hb2]
      intro v F' H' _ _ r
      cases r
      rfl
  obtain ⟨F, as, ka, o⟩ := spc
  have la : as.length = 1 := by
    have z := ka.len
    rw [List.length_map] at z
    exact z
  have e5 : callD l.p (d + 1) kl as = fin as (exs (callD l.p d) (cloD l.p d) l.p.sub fuel df.body (as ++ List.replicate (df.ns - df.np) .un)) := by
    rw [callD, Sd.at_]
    simp only [starArgs, e4]
    rw [if_pos (by rw [la, e1])]
  rw [e5] at o
  refine LamX.run_ofS (k := d + 1) (us := [.ref a]) (vs := [V.ref a]) lk cdI (e2 : FnScope dl.N [x] _) hr e0 (hbd s₁ (.ref a)) (.cons rfl .nil) rfl fun hr' => ⟨_, body_ps hq S Hh all (e2 : FnScope dl.N [x] _).nd hbody (hlam base hTB) callerA [] s₁ H _ rfl hr', ?_⟩
  exact body_key (n := df.ns - df.np) (by rw [Sd.ns, e1]; rfl) ⟨F, as, ka, o⟩
end Ev
set_option Elab.async false
set_option linter.all false
set_option maxRecDepth 100000
set_option maxHeartbeats 0
namespace Lq
open PySem PySem.Spec PySem.F PyProof.Rows L2 Ev
/-- is_int(value): 0 value -/
def f_is_int : Df := { np := 1, star := false, ns := 1, body := [(.ret (.bo true [(.prim (.isi .int) [(.var 0)]), (.no (.prim (.isi .bool) [(.var 0)]))]))] }
/-- is_within(value, low, high): 0 value, 1 low, 2 high -/
def f_is_within : Df := { np := 3, star := false, ns := 3, body := [(.ret (.bo true [(.call 0 [(.var 0)]), (.ch .le .le (.var 1) (.var 0) (.var 2))]))] }
/-- is_power_of(letters, value): 0 letters, 1 value, 2 one -/
def f_is_power_of : Df := { np := 2, star := false, ns := 3, body := [(.ife (.bo false [(.no (.prim (.isi .tuple) [(.var 1)])), (.prim .ne [(.prim .len [(.var 1)]), (.var 0)])]) [(.ret (.lit (.d (.bool false))))] []),
  (.ret (.prim .all [(.cmp (.call 1 [(.var 2), (.lit (.d (.int 0))), (.lit (.d (.int 9)))]) (.nm 2) .seq [(.var 1)] [] [2])]))] }
/-- is_lot_of(letters, value): 0 letters, 1 value, 2 one, 3 far -/
def f_is_lot_of : Df := { np := 2, star := false, ns := 4, body := [(.ife (.bo false [(.no (.prim (.isi .tuple) [(.var 1)])), (.no (.prim .all [(.cmp (.call 1 [(.var 2), (.lit (.d (.int 0))), (.prim .sub [(.var 0), (.lit (.d (.int 1)))])]) (.nm 2) .seq [(.var 1)] [] [2])]))]) [(.ret (.lit (.d (.bool false))))] []),
  (.ret (.prim .all [(.cmp (.prim .lt [(.var 2), (.var 3)]) (.tp [(.nm 2), (.nm 3)]) .zip [(.var 1), (.cut (.var 1) (.lit (.d (.int 1))) (.lit (.d .none)))] [] [2, 3])]))] }
/-- divides(one, far): 0 one, 1 far, 2 first, 3 second -/
def f_divides : Df := { np := 2, star := false, ns := 4, body := [(.ret (.prim .all [(.cmp (.prim .le [(.var 2), (.var 3)]) (.tp [(.nm 2), (.nm 3)]) .zip [(.var 0), (.var 1)] [] [2, 3])]))] }
/-- join_pair(one, far): 0 one, 1 far, 2 first, 3 second -/
def f_join_pair : Df := { np := 2, star := false, ns := 4, body := [(.ret (.prim .tuple [(.cmp (.prim .max2 [(.var 2), (.var 3)]) (.tp [(.nm 2), (.nm 3)]) .zip [(.var 0), (.var 1)] [] [2, 3])]))] }
/-- less_of(one, far): 0 one, 1 far, 2 first, 3 second -/
def f_less_of : Df := { np := 2, star := false, ns := 4, body := [(.ret (.prim .tuple [(.cmp (.prim .max2 [(.lit (.d (.int 0))), (.prim .sub [(.var 2), (.var 3)])]) (.tp [(.nm 2), (.nm 3)]) .zip [(.var 0), (.var 1)] [] [2, 3])]))] }
/-- joined_all(letters, powers): 0 letters, 1 powers, 2 found, 3 power -/
def f_joined_all : Df := { np := 2, star := false, ns := 4, body := [(.set (.nm 2) (.prim .mul [(.tup [(.lit (.d (.int 0)))]), (.var 0)])),
  (.fo (.nm 3) .seq [(.var 1)] [(.set (.nm 2) (.call 5 [(.var 2), (.var 3)]))]),
  (.ret (.var 2))] }
/-- least_of(powers): 0 powers, 1 found, 2 power, 3 one -/
def f_least_of : Df := { np := 1, star := false, ns := 4, body := [(.set (.nm 1) (.lst [])),
  (.fo (.nm 2) .seq [(.prim .sortSum [(.dcm (.var 2) (.lit (.d (.bool true))) (.nm 2) .seq [(.var 0)] [] [2])])] [(.ife (.no (.prim .any [(.cmp (.call 4 [(.var 3), (.var 2)]) (.nm 3) .seq [(.var 1)] [] [3])])) [(.expr (.mut .append 1 [(.var 2)]))] [])]),
  (.ret (.prim .sorted [(.var 1)]))] }
/-- require_letters(letters): 0 letters -/
def f_require_letters : Df := { np := 1, star := false, ns := 1, body := [(.ife (.no (.call 1 [(.var 0), (.lit (.d (.int 1))), (.lit (.d (.int 6)))])) [(.rai 4 (some (.var 0)))] [])] }
/-- require_power(letters, powers): 0 letters, 1 powers, 2 power -/
def f_require_power : Df := { np := 2, star := true, ns := 3, body := [(.ife (.no (.prim .all [(.cmp (.call 2 [(.var 0), (.var 2)]) (.nm 2) .seq [(.var 1)] [] [2])])) [(.rai 2 none)] [])] }
/-- require_lot(letters, lots): 0 letters, 1 lots, 2 lot -/
def f_require_lot : Df := { np := 2, star := true, ns := 3, body := [(.ife (.no (.prim .all [(.cmp (.call 3 [(.var 0), (.var 2)]) (.nm 2) .seq [(.var 1)] [] [2])])) [(.rai 3 none)] [])] }
/-- is_stair_of(value): 0 value, 1 letters, 2 corners, 3 corner -/
def f_is_stair_of : Df := { np := 1, star := false, ns := 4, body := [(.ife (.bo false [(.no (.prim (.isi .tuple) [(.var 0)])), (.prim .ne [(.prim .len [(.var 0)]), (.lit (.d (.int 2)))]), (.no (.call 1 [(.prim .idx [(.var 0), (.lit (.d (.int 0)))]), (.lit (.d (.int 1))), (.lit (.d (.int 6)))]))]) [(.ret (.lit (.d (.bool false))))] []),
  (.set (.tp [(.nm 1), (.nm 2)]) (.var 0)),
  (.ife (.bo false [(.no (.prim (.isi .tuple) [(.var 2)])), (.prim .gt [(.prim .len [(.var 2)]), (.lit (.d (.int 12)))])]) [(.ret (.lit (.d (.bool false))))] []),
  (.ife (.no (.prim .all [(.cmp (.call 2 [(.var 1), (.var 3)]) (.nm 3) .seq [(.var 2)] [] [3])])) [(.ret (.lit (.d (.bool false))))] []),
  (.ret (.prim .eq [(.prim .list [(.var 2)]), (.call 8 [(.var 2)])]))] }
/-- stair_by(letters, powers): 0 letters, 1 powers, 2 corners, 3 corner -/
def f_stair_by : Df := { np := 2, star := false, ns := 4, body := [(.set (.nm 2) (.call 8 [(.var 1)])),
  (.ife (.prim .gt [(.prim .len [(.var 2)]), (.lit (.d (.int 12)))]) [(.rai 5 (some (.lit (.d (.int 12)))))] []),
  (.ife (.prim .any [(.cmp (.prim .gt [(.prim .max1 [(.var 3)]), (.lit (.d (.int 9)))]) (.nm 3) .seq [(.var 2)] [] [3])]) [(.rai 5 (some (.lit (.d (.int 9)))))] []),
  (.ret (.tup [(.var 0), (.prim .tuple [(.var 2)])]))] }
/-- quotient_in(stair, power): 0 stair, 1 power, 2 corner -/
def f_quotient_in : Df := { np := 2, star := false, ns := 3, body := [(.ret (.call 8 [(.cmp (.call 6 [(.var 2), (.var 1)]) (.nm 2) .seq [(.prim .idx [(.var 0), (.lit (.d (.int 1)))])] [] [2])]))] }
/-- is_proper_in(stair): 0 stair -/
def f_is_proper_in : Df := { np := 1, star := false, ns := 1, body := [(.ret (.bo true [(.prim .ne [(.prim .idx [(.var 0), (.lit (.d (.int 1)))]), (.tup [])]), (.prim .gt [(.prim .sum [(.prim .idx [(.prim .idx [(.var 0), (.lit (.d (.int 1)))]), (.lit (.d (.int 0)))])]), (.lit (.d (.int 0)))])]))] }
/-- box_in(stair): 0 stair -/
def f_box_in : Df := { np := 1, star := false, ns := 1, body := [(.ret (.call 7 [(.prim .idx [(.var 0), (.lit (.d (.int 0)))]), (.prim .idx [(.var 0), (.lit (.d (.int 1)))])]))] }
/-- require_stair(stairs): 0 stairs, 1 stair -/
def f_require_stair : Df := { np := 1, star := true, ns := 2, body := [(.ife (.no (.prim .all [(.cmp (.call 12 [(.var 1)]) (.nm 1) .seq [(.var 0)] [] [1])])) [(.rai 1 none)] [])] }
/-- require_proper(stair): 0 stair -/
def f_require_proper : Df := { np := 1, star := false, ns := 1, body := [(.ife (.no (.call 15 [(.var 0)])) [(.rai 6 (some (.tup [(.lit (.d (.str ⟨#[112, 114, 111, 112, 101, 114]⟩)))])))] [])] }
/-- pure_corners(bounds): 0 bounds, 1 letters, 2 found, 3 letter, 4 bound, 5 at -/
def f_pure_corners : Df := { np := 1, star := false, ns := 6, body := [(.parL [1, 2] [(.prim .len [(.var 0)])]),
  (.fo (.tp [(.nm 3), (.nm 4)]) .enm [(.var 0)] [(.ife (.prim .gt [(.var 4), (.lit (.d (.int 0)))]) [(.expr (.mut .append 2 [(.prim .tuple [(.cmp (.ife (.prim .eq [(.var 5), (.var 3)]) (.var 4) (.lit (.d (.int 0)))) (.nm 5) .rng [(.var 1)] [] [5])])]))] [])]),
  (.ret (.prim .sorted [(.var 2)]))] }
/-- has_pure(bounds, power): 0 bounds, 1 power, 2 bound, 3 entry -/
def f_has_pure : Df := { np := 2, star := false, ns := 4, body := [(.ret (.prim .any [(.cmp (.ch .lt .le (.lit (.d (.int 0))) (.var 2) (.var 3)) (.tp [(.nm 2), (.nm 3)]) .zip [(.var 0), (.var 1)] [] [2, 3])]))] }
/-- is_within_pure(one, far): 0 one, 1 far, 2 first, 3 second -/
def f_is_within_pure : Df := { np := 2, star := false, ns := 4, body := [(.ret (.prim .all [(.cmp (.bo false [(.prim .eq [(.var 2), (.lit (.d (.int 0)))]), (.ch .lt .le (.lit (.d (.int 0))) (.var 3) (.var 2))]) (.tp [(.nm 2), (.nm 3)]) .zip [(.var 0), (.var 1)] [] [2, 3])]))] }
/-- least_pure(some): 0 some, 1 found, 2 one, 3 bounds, 4 far -/
def f_least_pure : Df := { np := 1, star := false, ns := 5, body := [(.set (.nm 1) (.prim .sorted [(.dcm (.var 3) (.lit (.d (.bool true))) (.nm 3) .seq [(.var 0)] [] [3])])),
  (.ret (.cmp (.var 2) (.nm 2) .seq [(.var 1)] [(.no (.prim .any [(.cmp (.bo true [(.prim .ne [(.var 4), (.var 2)]), (.call 21 [(.var 4), (.var 2)])]) (.nm 4) .seq [(.var 1)] [] [4])]))] [2]))] }
/-- split_by(bounds, corner): 0 bounds, 1 corner, 2 found, 3 letter, 4 entry -/
def f_split_by : Df := { np := 2, star := false, ns := 5, body := [(.ife (.call 20 [(.var 0), (.var 1)]) [(.ret (.lst [(.var 0)]))] []),
  (.set (.nm 2) (.lst [])),
  (.fo (.tp [(.nm 3), (.nm 4)]) .enm [(.var 1)] [(.ife (.prim .gt [(.var 4), (.lit (.d (.int 0)))]) [(.expr (.mut .append 2 [(.tup [(.star (.cut (.var 0) (.lit (.d .none)) (.var 3))), (.var 4), (.star (.cut (.var 0) (.prim .add [(.var 3), (.lit (.d (.int 1)))]) (.lit (.d .none))))])]))] [])]),
  (.ret (.var 2))] }
/-- parts_in(stair): 0 stair, 1 letters, 2 corners, 3 found, 4 corner, 5 bounds, 6 later -/
def f_parts_in : Df := { np := 1, star := false, ns := 7, body := [(.set (.tp [(.nm 1), (.nm 2)]) (.var 0)),
  (.set (.nm 3) (.lst [(.prim .mul [(.tup [(.lit (.d (.int 0)))]), (.var 1)])])),
  (.fo (.nm 4) .seq [(.var 2)] [(.set (.nm 3) (.call 22 [(.cmp2 (.var 6) (.nm 5) .seq [(.var 3)] [] (.nm 6) .seq [(.call 23 [(.var 5), (.var 4)])] [] [5, 6])]))]),
  (.ret (.var 3))] }
/-- letters_in(power): 0 power, 1 letter, 2 entry -/
def f_letters_in : Df := { np := 1, star := false, ns := 3, body := [(.ret (.prim .tuple [(.cmp (.var 1) (.tp [(.nm 1), (.nm 2)]) .enm [(.var 0)] [(.prim .gt [(.var 2), (.lit (.d (.int 0)))])] [1, 2])]))] }
/-- primes_in(stair): 0 stair, 1 part -/
def f_primes_in : Df := { np := 1, star := false, ns := 2, body := [(.ret (.prim .sorted [(.dcm (.call 25 [(.var 1)]) (.lit (.d (.bool true))) (.nm 1) .seq [(.call 24 [(.var 0)])] [] [1])]))] }
/-- least_in(stair): 0 stair, 1 every, 2 lot, 3 far -/
def f_least_in : Df := { np := 1, star := false, ns := 4, body := [(.set (.nm 1) (.call 26 [(.var 0)])),
  (.ret (.cmp (.var 2) (.nm 2) .seq [(.var 1)] [(.no (.prim .any [(.cmp (.bo true [(.prim .ne [(.var 3), (.var 2)]), (.call 28 [(.var 3), (.var 2)])]) (.nm 3) .seq [(.var 1)] [] [3])]))] [2]))] }
/-- set_in(lot, other): 0 lot, 1 other, 2 letter -/
def f_set_in : Df := { np := 2, star := false, ns := 3, body := [(.ret (.prim .all [(.cmp (.prim .isin [(.var 2), (.var 1)]) (.nm 2) .seq [(.var 0)] [] [2])]))] }
/-- lot_corners(letters, lot): 0 letters, 1 lot, 2 letter -/
def f_lot_corners : Df := { np := 2, star := false, ns := 3, body := [(.ret (.prim .tuple [(.call 19 [(.prim .tuple [(.cmp (.prim .int [(.prim .isin [(.var 2), (.var 1)])]) (.nm 2) .rng [(.var 0)] [] [2])])])]))] }
/-- is_witness(stair, lot, power): 0 stair, 1 lot, 2 power -/
def f_is_witness : Df := { np := 3, star := false, ns := 3, body := [(.ret (.prim .eq [(.call 14 [(.var 0), (.var 2)]), (.prim .list [(.call 29 [(.prim .idx [(.var 0), (.lit (.d (.int 0)))]), (.var 1)])])]))] }
/-- witness_in(stair, lot): 0 stair, 1 lot, 2 box, 3 some, 4 part, 5 entry, 6 far -/
def f_witness_in : Df := { np := 2, star := false, ns := 7, body := [(.set (.nm 2) (.call 16 [(.var 0)])),
  (.set (.nm 3) (.cmp (.var 4) (.nm 4) .seq [(.call 24 [(.var 0)])] [(.prim .eq [(.call 25 [(.var 4)]), (.var 1)])] [4])),
  (.ret (.ife (.prim .ne [(.var 3), (.lst [])]) (.prim .tuple [(.cmp (.ife (.prim .gt [(.var 5), (.lit (.d (.int 0)))]) (.prim .sub [(.var 5), (.lit (.d (.int 1)))]) (.var 6)) (.tp [(.nm 5), (.nm 6)]) .zip [(.prim .idx [(.var 3), (.lit (.d (.int 0)))]), (.var 2)] [] [5, 6])]) (.lit (.d .none))))] }
/-- bare_corners(stair, lot): 0 stair, 1 lot, 2 corner, 3 letter -/
def f_bare_corners : Df := { np := 2, star := false, ns := 4, body := [(.ret (.cmp (.var 2) (.nm 2) .seq [(.prim .idx [(.var 0), (.lit (.d (.int 1)))])] [(.no (.prim .any [(.cmp (.prim .gt [(.prim .idx [(.var 2), (.var 3)]), (.lit (.d (.int 0)))]) (.nm 3) .seq [(.var 1)] [] [3])]))] [2]))] }
/-- bare_letters(stair): 0 stair, 1 only, 2 corner, 3 letter -/
def f_bare_letters : Df := { np := 1, star := false, ns := 4, body := [(.set (.nm 1) (.cmp (.prim .idx [(.call 25 [(.var 2)]), (.lit (.d (.int 0)))]) (.nm 2) .seq [(.prim .idx [(.var 0), (.lit (.d (.int 1)))])] [(.prim .eq [(.prim .len [(.call 25 [(.var 2)])]), (.lit (.d (.int 1)))])] [2])),
  (.ret (.cmp2 (.tup [(.var 2), (.var 3)]) (.nm 2) .seq [(.prim .idx [(.var 0), (.lit (.d (.int 1)))])] [] (.nm 3) .seq [(.call 25 [(.var 2)])] [(.prim .notin [(.var 3), (.var 1)])] [2, 3]))] }
/-- crossed_corners(letters, parts): 0 letters, 1 parts, 2 found, 3 part, 4 one, 5 far -/
def f_crossed_corners : Df := { np := 2, star := false, ns := 6, body := [(.set (.nm 2) (.lst [(.prim .mul [(.tup [(.lit (.d (.int 0)))]), (.var 0)])])),
  (.fo (.nm 3) .seq [(.var 1)] [(.set (.nm 2) (.call 8 [(.cmp2 (.call 5 [(.var 4), (.var 5)]) (.nm 4) .seq [(.var 2)] [] (.nm 5) .seq [(.call 19 [(.var 3)])] [] [4, 5])]))]),
  (.ret (.var 2))] }
/-- require_two(stair, lot): 0 stair, 1 lot -/
def f_require_two : Df := { np := 2, star := false, ns := 2, body := [(.expr (.call 17 [(.var 0)])),
  (.expr (.call 11 [(.prim .idx [(.var 0), (.lit (.d (.int 0)))]), (.var 1)]))] }
/-- is_prime_lot(stair, lot): 0 stair, 1 lot -/
def f_is_prime_lot : Df := { np := 2, star := false, ns := 2, body := [(.expr (.call 35 [(.var 0), (.var 1)])),
  (.ret (.prim .isin [(.var 1), (.call 26 [(.var 0)])]))] }
/-- prime_paper(stair, lot): 0 stair, 1 lot, 2 found -/
def f_prime_paper : Df := { np := 2, star := false, ns := 3, body := [(.expr (.call 35 [(.var 0), (.var 1)])),
  (.set (.nm 2) (.call 31 [(.var 0), (.var 1)])),
  (.ret (.ife (.prim .isN [(.var 2)]) (.tup [(.lit (.d (.str ⟨#[110, 111, 110, 101]⟩)))]) (.tup [(.lit (.d (.str ⟨#[112, 114, 105, 109, 101]⟩))), (.var 2)])))] }
/-- is_prime_paper(stair, lot, value): 0 stair, 1 lot, 2 value -/
def f_is_prime_paper : Df := { np := 3, star := false, ns := 3, body := [(.expr (.call 35 [(.var 0), (.var 1)])),
  (.ife (.bo false [(.no (.prim (.isi .tuple) [(.var 2)])), (.prim .notin [(.prim .len [(.var 2)]), (.tup [(.lit (.d (.int 1))), (.lit (.d (.int 2)))])]), (.no (.prim (.isi .str) [(.prim .idx [(.var 2), (.lit (.d (.int 0)))])]))]) [(.ret (.lit (.d (.bool false))))] []),
  (.ife (.prim .eq [(.prim .len [(.var 2)]), (.lit (.d (.int 1)))]) [(.ret (.bo true [(.prim .eq [(.prim .idx [(.var 2), (.lit (.d (.int 0)))]), (.lit (.d (.str ⟨#[110, 111, 110, 101]⟩)))]), (.prim .notin [(.var 1), (.call 26 [(.var 0)])])]))] []),
  (.ret (.bo true [(.prim .eq [(.prim .idx [(.var 2), (.lit (.d (.int 0)))]), (.lit (.d (.str ⟨#[112, 114, 105, 109, 101]⟩)))]), (.call 2 [(.prim .idx [(.var 0), (.lit (.d (.int 0)))]), (.prim .idx [(.var 2), (.lit (.d (.int 1)))])]), (.call 30 [(.var 0), (.var 1), (.prim .idx [(.var 2), (.lit (.d (.int 1)))])])]))] }
/-- prime_lots(stair): 0 stair -/
def f_prime_lots : Df := { np := 1, star := false, ns := 1, body := [(.expr (.call 17 [(.var 0)])),
  (.ret (.prim .tuple [(.call 26 [(.var 0)])]))] }
/-- least_primes(stair): 0 stair -/
def f_least_primes : Df := { np := 1, star := false, ns := 1, body := [(.expr (.call 17 [(.var 0)])),
  (.ret (.prim .tuple [(.call 27 [(.var 0)])]))] }
/-- inner_primes(stair): 0 stair, 1 least, 2 lot -/
def f_inner_primes : Df := { np := 1, star := false, ns := 3, body := [(.expr (.call 17 [(.var 0)])),
  (.set (.nm 1) (.call 27 [(.var 0)])),
  (.ret (.prim .tuple [(.cmp (.var 2) (.nm 2) .seq [(.call 26 [(.var 0)])] [(.prim .notin [(.var 2), (.var 1)])] [2])]))] }
/-- cover_paper(stair, lot): 0 stair, 1 lot, 2 found -/
def f_cover_paper : Df := { np := 2, star := false, ns := 3, body := [(.expr (.call 35 [(.var 0), (.var 1)])),
  (.set (.nm 2) (.call 32 [(.var 0), (.var 1)])),
  (.ret (.ife (.prim .ne [(.var 2), (.lst [])]) (.tup [(.lit (.d (.str ⟨#[99, 111, 114, 110, 101, 114]⟩))), (.prim .idx [(.var 2), (.lit (.d (.int 0)))])]) (.tup [(.lit (.d (.str ⟨#[99, 111, 118, 101, 114]⟩)))])))] }
/-- is_cover_paper(stair, lot, value): 0 stair, 1 lot, 2 value, 3 found -/
def f_is_cover_paper : Df := { np := 3, star := false, ns := 4, body := [(.expr (.call 35 [(.var 0), (.var 1)])),
  (.set (.nm 3) (.call 32 [(.var 0), (.var 1)])),
  (.ife (.bo false [(.no (.prim (.isi .tuple) [(.var 2)])), (.prim .notin [(.prim .len [(.var 2)]), (.tup [(.lit (.d (.int 1))), (.lit (.d (.int 2)))])]), (.no (.prim (.isi .str) [(.prim .idx [(.var 2), (.lit (.d (.int 0)))])]))]) [(.ret (.lit (.d (.bool false))))] []),
  (.ife (.prim .eq [(.prim .len [(.var 2)]), (.lit (.d (.int 1)))]) [(.ret (.bo true [(.prim .eq [(.prim .idx [(.var 2), (.lit (.d (.int 0)))]), (.lit (.d (.str ⟨#[99, 111, 118, 101, 114]⟩)))]), (.prim .eq [(.var 3), (.lst [])])]))] []),
  (.ret (.bo true [(.prim .eq [(.prim .idx [(.var 2), (.lit (.d (.int 0)))]), (.lit (.d (.str ⟨#[99, 111, 114, 110, 101, 114]⟩)))]), (.call 2 [(.prim .idx [(.var 0), (.lit (.d (.int 0)))]), (.prim .idx [(.var 2), (.lit (.d (.int 1)))])]), (.prim .isin [(.prim .idx [(.var 2), (.lit (.d (.int 1)))]), (.var 3)])]))] }
/-- is_cover(stair, lot): 0 stair, 1 lot -/
def f_is_cover : Df := { np := 2, star := false, ns := 2, body := [(.expr (.call 35 [(.var 0), (.var 1)])),
  (.ret (.prim .eq [(.call 32 [(.var 0), (.var 1)]), (.lst [])]))] }
/-- height(stair): 0 stair, 1 lot -/
def f_height : Df := { np := 1, star := false, ns := 2, body := [(.expr (.call 17 [(.var 0)])),
  (.expr (.call 18 [(.var 0)])),
  (.ret (.prim .min1 [(.cmp (.prim .len [(.var 1)]) (.nm 1) .seq [(.call 27 [(.var 0)])] [] [1])]))] }
/-- is_unmixed(stair): 0 stair, 1 lot -/
def f_is_unmixed : Df := { np := 1, star := false, ns := 2, body := [(.expr (.call 17 [(.var 0)])),
  (.expr (.call 18 [(.var 0)])),
  (.ret (.prim .eq [(.prim .len [(.dcmI (.prim .len [(.var 1)]) (.lit (.d (.bool true))) (.nm 1) .seq [(.call 26 [(.var 0)])] [] [1])]), (.lit (.d (.int 1)))]))] }
/-- primary_paper(stair): 0 stair, 1 found -/
def f_primary_paper : Df := { np := 1, star := false, ns := 2, body := [(.expr (.call 17 [(.var 0)])),
  (.expr (.call 18 [(.var 0)])),
  (.set (.nm 1) (.call 33 [(.var 0)])),
  (.ret (.ife (.prim .ne [(.var 1), (.lst [])]) (.tup [(.lit (.d (.str ⟨#[108, 101, 116, 116, 101, 114]⟩))), (.star (.prim .idx [(.var 1), (.lit (.d (.int 0)))]))]) (.tup [(.lit (.d (.str ⟨#[112, 114, 105, 109, 97, 114, 121]⟩))), (.prim .idx [(.call 26 [(.var 0)]), (.lit (.d (.int 0)))])])))] }
/-- is_primary_paper(stair, value): 0 stair, 1 value, 2 found, 3 one -/
def f_is_primary_paper : Df := { np := 2, star := false, ns := 4, body := [(.expr (.call 17 [(.var 0)])),
  (.expr (.call 18 [(.var 0)])),
  (.ife (.bo false [(.no (.prim (.isi .tuple) [(.var 1)])), (.prim .notin [(.prim .len [(.var 1)]), (.tup [(.lit (.d (.int 2))), (.lit (.d (.int 3)))])]), (.no (.prim (.isi .str) [(.prim .idx [(.var 1), (.lit (.d (.int 0)))])]))]) [(.ret (.lit (.d (.bool false))))] []),
  (.set (.nm 2) (.call 33 [(.var 0)])),
  (.ife (.prim .eq [(.prim .len [(.var 1)]), (.lit (.d (.int 2)))]) [(.ife (.bo false [(.prim .ne [(.prim .idx [(.var 1), (.lit (.d (.int 0)))]), (.lit (.d (.str ⟨#[112, 114, 105, 109, 97, 114, 121]⟩)))]), (.prim .ne [(.var 2), (.lst [])]), (.no (.prim (.isi .tuple) [(.prim .idx [(.var 1), (.lit (.d (.int 1)))])]))]) [(.ret (.lit (.d (.bool false))))] []), (.ret (.bo true [(.prim .all [(.cmp (.call 1 [(.var 3), (.lit (.d (.int 0))), (.prim .sub [(.prim .idx [(.var 0), (.lit (.d (.int 0)))]), (.lit (.d (.int 1)))])]) (.nm 3) .seq [(.prim .idx [(.var 1), (.lit (.d (.int 1)))])] [] [3])]), (.prim .eq [(.prim .idx [(.var 1), (.lit (.d (.int 1)))]), (.prim .idx [(.call 26 [(.var 0)]), (.lit (.d (.int 0)))])])]))] []),
  (.ife (.bo false [(.prim .ne [(.prim .idx [(.var 1), (.lit (.d (.int 0)))]), (.lit (.d (.str ⟨#[108, 101, 116, 116, 101, 114]⟩)))]), (.no (.call 2 [(.prim .idx [(.var 0), (.lit (.d (.int 0)))]), (.prim .idx [(.var 1), (.lit (.d (.int 1)))])])), (.no (.call 1 [(.prim .idx [(.var 1), (.lit (.d (.int 2)))]), (.lit (.d (.int 0))), (.prim .sub [(.prim .idx [(.var 0), (.lit (.d (.int 0)))]), (.lit (.d (.int 1)))])]))]) [(.ret (.lit (.d (.bool false))))] []),
  (.ret (.prim .isin [(.cut (.var 1) (.lit (.d (.int 1))) (.lit (.d .none))), (.var 2)]))] }
/-- primary_parts(stair): 0 stair, 1 every, 2 found, 3 lot, 4 some, 5 part -/
def f_primary_parts : Df := { np := 1, star := false, ns := 6, body := [(.expr (.call 17 [(.var 0)])),
  (.set (.nm 1) (.call 24 [(.var 0)])),
  (.set (.nm 2) (.lst [])),
  (.fo (.nm 3) .seq [(.call 26 [(.var 0)])] [(.set (.nm 4) (.cmp (.var 5) (.nm 5) .seq [(.var 1)] [(.prim .eq [(.call 25 [(.var 5)]), (.var 3)])] [5])), (.expr (.mut .append 2 [(.tup [(.var 3), (.call 13 [(.prim .idx [(.var 0), (.lit (.d (.int 0)))]), (.call 34 [(.prim .idx [(.var 0), (.lit (.d (.int 0)))]), (.var 4)])])])]))]),
  (.ret (.prim .tuple [(.var 2)]))] }
/-- stair_of_lot(letters, lot): 0 letters, 1 lot -/
def f_stair_of_lot : Df := { np := 2, star := false, ns := 2, body := [(.expr (.call 9 [(.var 0)])),
  (.expr (.call 11 [(.var 0), (.var 1)])),
  (.ret (.tup [(.var 0), (.call 29 [(.var 0), (.var 1)])]))] }
/-- within_lot(stair, lot): 0 stair, 1 lot, 2 some, 3 corner, 4 at, 5 entry -/
def f_within_lot : Df := { np := 2, star := false, ns := 6, body := [(.expr (.call 35 [(.var 0), (.var 1)])),
  (.set (.nm 2) (.cmp (.prim .tuple [(.cmp (.ife (.prim .isin [(.var 4), (.var 1)]) (.var 5) (.lit (.d (.int 0)))) (.tp [(.nm 4), (.nm 5)]) .enm [(.var 3)] [] [4, 5])]) (.nm 3) .seq [(.prim .idx [(.var 0), (.lit (.d (.int 1)))])] [] [3])),
  (.ret (.call 13 [(.prim .idx [(.var 0), (.lit (.d (.int 0)))]), (.var 2)]))] }
/-- meets_prime(stair, power): 0 stair, 1 power, 2 some, 3 lot, 4 letter -/
def f_meets_prime : Df := { np := 2, star := false, ns := 5, body := [(.expr (.call 17 [(.var 0)])),
  (.expr (.call 10 [(.prim .idx [(.var 0), (.lit (.d (.int 0)))]), (.var 1)])),
  (.set (.nm 2) (.call 25 [(.var 1)])),
  (.ret (.prim .any [(.cmp (.prim .any [(.cmp (.prim .isin [(.var 4), (.var 3)]) (.nm 4) .seq [(.var 2)] [] [4])]) (.nm 3) .seq [(.call 26 [(.var 0)])] [] [3])]))] }
/-- _law_box(script, at): 0 script, 1 at, 2 cell, 3 great -/
def f__law_box : Df := { np := 2, star := false, ns := 4, body := [(.set (.nm 2) (.ife (.prim .lt [(.var 1), (.prim .len [(.var 0)])]) (.prim .idx [(.var 0), (.var 1)]) (.prim .add [(.prim .mul [(.lit (.d (.int 53))), (.var 1)]), (.lit (.d (.int 29)))]))),
  (.set (.nm 3) (.prim .mod [(.prim .int [(.prim .abs [(.var 2)])]), (.prim .pow [(.prim .pow [(.lit (.d (.int 10))), (.lit (.d (.int 47)))]), (.lit (.d (.int 12)))])])),
  (.ret (.lst [(.prim .max2 [(.lit (.d (.int 0))), (.prim .sub [(.var 3), (.prim .pow [(.lit (.d (.int 10))), (.lit (.d (.int 18)))])])]), (.prim .add [(.prim .add [(.prim .mul [(.prim .mod [(.prim .int [(.var 3)]), (.lit (.d (.int 2305843009213693669)))]), (.lit (.d (.int 7933)))]), (.prim .mul [(.lit (.d (.int 104759))), (.var 1)])]), (.prim .int [(.prim .lt [(.var 2), (.lit (.d (.int 0)))])])]), (.lit (.d (.int 0)))]))] }
/-- _law_next(box, many): 0 box, 1 many, 2 found, 3 one, 4 two -/
def f__law_next : Df := { np := 2, star := false, ns := 5, body := [(.ife (.prim .gt [(.prim .idx [(.var 0), (.lit (.d (.int 0)))]), (.lit (.d (.int 0)))]) [(.set (.nm 2) (.prim .mod [(.prim .int [(.prim .idx [(.var 0), (.lit (.d (.int 0)))])]), (.var 1)])), (.six 0 (.lit (.d (.int 0))) (.prim .fdiv [(.prim .idx [(.var 0), (.lit (.d (.int 0)))]), (.var 1)])), (.ret (.var 2))] []),
  (.six 0 (.lit (.d (.int 2))) (.prim .add [(.prim .idx [(.var 0), (.lit (.d (.int 2)))]), (.lit (.d (.int 1)))])),
  (.set (.nm 3) (.prim .mod [(.prim .int [(.prim .add [(.prim .idx [(.var 0), (.lit (.d (.int 1)))]), (.prim .mul [(.lit (.d (.int 15485867))), (.prim .idx [(.var 0), (.lit (.d (.int 2)))])])])]), (.lit (.d (.int 2305843009213693951)))])),
  (.set (.nm 4) (.prim .add [(.prim .mul [(.prim .mod [(.prim .int [(.prim .mul [(.var 3), (.var 3)])]), (.lit (.d (.int 2305843009213693921)))]), (.var 3)]), (.prim .mul [(.lit (.d (.int 32452867))), (.prim .idx [(.var 0), (.lit (.d (.int 2)))])])])),
  (.ret (.prim .mod [(.prim .int [(.prim .fdiv [(.prim .mod [(.prim .int [(.var 4)]), (.lit (.d (.int 2305843009213693907)))]), (.lit (.d (.int 8192)))])]), (.var 1)]))] }
/-- _law_one_of(box, items): 0 box, 1 items -/
def f__law_one_of : Df := { np := 2, star := false, ns := 2, body := [(.ret (.prim .idx [(.var 1), (.call 54 [(.var 0), (.prim .len [(.var 1)])])]))] }
/-- _law_bad_stair(box): 0 box, 1 odd, 2 at -/
def f__law_bad_stair : Df := { np := 1, star := false, ns := 3, body := [(.set (.nm 1) (.lst [(.lit (.d .none)), (.tup []), (.lit (.d (.int 0))), (.tup [(.lit (.d (.int 2)))]), (.lst [(.lit (.d (.int 2))), (.tup [(.tup [(.lit (.d (.int 0))), (.lit (.d (.int 1)))])])]), (.tup [(.lit (.d (.int 2))), (.lst [(.tup [(.lit (.d (.int 0))), (.lit (.d (.int 1)))])])]), (.tup [(.lit (.d (.int 0))), (.tup [])]), (.tup [(.lit (.d (.int 7))), (.tup [])]), (.tup [(.lit (.d (.bool true))), (.tup [])]), (.tup [(.lit (.d (.str ⟨#[50]⟩))), (.tup [])]), (.tup [(.lit (.d (.int 2))), (.tup [(.tup [(.lit (.d (.int 0))), (.lit (.d (.int 1))), (.lit (.d (.int 0)))])])]), (.tup [(.lit (.d (.int 2))), (.tup [(.tup [(.lit (.d (.int 0))), (.lit (.d (.int 10)))])])]), (.tup [(.lit (.d (.int 2))), (.tup [(.tup [(.lit (.d (.int 0))), (.prim .sub [(.lit (.d (.int 0))), (.lit (.d (.int 1)))])])])]), (.tup [(.lit (.d (.int 2))), (.tup [(.tup [(.lit (.d (.int 0))), (.lit (.d (.bool true)))])])])])),
  (.set (.nm 1) (.prim .add [(.var 1), (.lst [(.tup [(.lit (.d (.int 2))), (.tup [(.tup [(.lit (.d (.int 0))), (.lit (.d (.int 1)))]), (.tup [(.lit (.d (.int 0))), (.lit (.d (.int 1)))])])]), (.tup [(.lit (.d (.int 2))), (.tup [(.tup [(.lit (.d (.int 1))), (.lit (.d (.int 0)))]), (.tup [(.lit (.d (.int 0))), (.lit (.d (.int 1)))])])]), (.tup [(.lit (.d (.int 2))), (.tup [(.tup [(.lit (.d (.int 0))), (.lit (.d (.int 1)))]), (.tup [(.lit (.d (.int 1))), (.lit (.d (.int 1)))])])]), (.tup [(.lit (.d (.int 2))), (.tup [(.tup [(.lit (.d (.int 0))), (.lit (.d (.int 1)))])]), (.lit (.d (.int 0)))]), (.dic [] []), (.lit (.d (.str ⟨#[115, 116, 97, 105, 114]⟩))), (.tup [(.prim .pow [(.lit (.d (.int 10))), (.lit (.d (.int 60)))]), (.tup [])]), (.tup [(.lit (.d (.int 2))), (.tup [(.lit (.d (.int 0))), (.lit (.d (.int 1)))])]), (.tup [(.lit (.d (.int 2))), (.tup [(.lst [(.lit (.d (.int 0))), (.lit (.d (.int 1)))])])]), (.tup [(.lit (.d (.int 2))), (.lit (.d .none))])])])),
  (.ret (.call 55 [(.var 0), (.prim .add [(.var 1), (.lst [(.tup [(.lit (.d (.int 2))), (.tup [(.tup [(.lit (.d (.int 0))), (.lit (.d .none))])])]), (.tup [(.lit (.d (.int 2))), (.prim .tuple [(.cmp (.tup [(.var 2), (.prim .sub [(.lit (.d (.int 13))), (.var 2)])]) (.nm 2) .rng [(.lit (.d (.int 14)))] [] [2])])]), (.tup [(.lit (.d (.int 1))), (.tup [(.tup [(.lit (.d (.int 1)))]), (.tup [(.lit (.d (.int 2)))])])]), (.tup [(.lit (.d (.int 2))), (.tup [(.tup [(.lit (.d (.int 0))), (.lit (.d (.str ⟨#[49]⟩)))])])])])])]))] }
/-- _law_met(call): 0 call, 1 error -/
def f__law_met : Df := { np := 1, star := false, ns := 2, body := [(.tr [(.expr (.capp 0))] [(1, none, (.lit (.d (.str ⟨#[115, 116, 97, 105, 114]⟩)))), (3, none, (.lit (.d (.str ⟨#[108, 111, 116]⟩)))), (2, none, (.lit (.d (.str ⟨#[112, 111, 119, 101, 114]⟩)))), (4, some 1, (.prim .add [(.lit (.d (.str ⟨#[110, 117, 109, 98, 101, 114, 32]⟩))), (.prim .repr [(.prim .fld [(.var 1)])])])), (6, some 1, (.prim .fld [(.var 1)]))]),
  (.ret (.lit (.d (.str ⟨#[116, 111, 108, 100]⟩))))] }
/-- _law_plain(stair): 0 stair, 1 told -/
def f__law_plain : Df := { np := 1, star := false, ns := 2, body := [(.set (.nm 1) (.lst [(.lcall 57 0 [0]), (.lcall 57 1 [0]), (.lcall 57 2 [0])])),
  (.set (.nm 1) (.prim .add [(.var 1), (.lst [(.lcall 57 3 [0]), (.lcall 57 4 [0]), (.lcall 57 5 [0])])])),
  (.ret (.prim .add [(.var 1), (.lst [(.lcall 57 6 [0]), (.lcall 57 7 [0])])]))] }
/-- _law_more(stair, lot, power): 0 stair, 1 lot, 2 power, 3 told -/
def f__law_more : Df := { np := 3, star := false, ns := 4, body := [(.set (.nm 3) (.lst [(.lcall 57 8 [0, 1]), (.lcall 57 9 [0, 1]), (.lcall 57 10 [0, 1])])),
  (.set (.nm 3) (.prim .add [(.var 3), (.lst [(.lcall 57 11 [0, 1]), (.lcall 57 12 [0, 1]), (.lcall 57 13 [0, 1])])])),
  (.ret (.prim .add [(.var 3), (.lst [(.lcall 57 14 [0, 1]), (.lcall 57 15 [0, 2])])]))] }
/-- _law_right(box): 0 box, 1 bad, 2 inner, 3 lot, 4 power, 5 odd, 6 letters, 7 told -/
def f__law_right : Df := { np := 1, star := false, ns := 8, body := [(.par [1, 2] [(.call 56 [(.var 0)]), (.tup [(.lit (.d (.int 2))), (.tup [(.tup [(.lit (.d (.int 0))), (.lit (.d (.int 2)))]), (.tup [(.lit (.d (.int 1))), (.lit (.d (.int 1)))])])])]),
  (.set (.nm 3) (.call 55 [(.var 0), (.lst [(.lit (.d .none)), (.lst [(.lit (.d (.int 0)))]), (.tup [(.lit (.d (.int 1))), (.lit (.d (.int 0)))]), (.tup [(.lit (.d (.int 0))), (.lit (.d (.int 0)))]), (.tup [(.lit (.d (.int 2)))]), (.tup [(.prim .sub [(.lit (.d (.int 0))), (.lit (.d (.int 1)))])]), (.tup [(.lit (.d (.bool true)))]), (.tup [(.lit (.d (.str ⟨#[48]⟩)))]), (.lit (.d (.int 0))), (.tup [(.lit (.d (.int 0))), (.lit (.d .none))])])])),
  (.set (.nm 4) (.call 55 [(.var 0), (.lst [(.lit (.d .none)), (.tup []), (.tup [(.lit (.d (.int 0)))]), (.lst [(.lit (.d (.int 0))), (.lit (.d (.int 0)))]), (.tup [(.lit (.d (.int 0))), (.lit (.d (.int 10)))]), (.tup [(.lit (.d (.int 0))), (.prim .sub [(.lit (.d (.int 0))), (.lit (.d (.int 1)))])]), (.tup [(.lit (.d (.int 0))), (.lit (.d (.bool true)))]), (.tup [(.lit (.d (.int 0))), (.lit (.d (.str ⟨#[49]⟩)))]), (.tup [(.lit (.d (.int 0))), (.lit (.d (.int 0))), (.lit (.d (.int 0)))]), (.lit (.d (.int 0)))])])),
  (.ife (.bo false [(.prim .ne [(.prim .add [(.call 58 [(.var 1)]), (.call 59 [(.var 1), (.var 3), (.var 4)])]), (.prim .mul [(.lst [(.lit (.d (.str ⟨#[115, 116, 97, 105, 114]⟩)))]), (.lit (.d (.int 16)))])]), (.prim .ne [(.call 59 [(.var 2), (.var 3), (.var 4)]), (.prim .add [(.prim .mul [(.lst [(.lit (.d (.str ⟨#[108, 111, 116]⟩)))]), (.lit (.d (.int 7)))]), (.lst [(.lit (.d (.str ⟨#[112, 111, 119, 101, 114]⟩)))])])])]) [(.ret (.lit (.d (.bool false))))] []),
  (.ife (.bo false [(.prim .ne [(.prim .add [(.call 58 [(.var 2)]), (.call 59 [(.var 2), (.tup [(.lit (.d (.int 0))), (.lit (.d (.int 1)))]), (.tup [(.lit (.d (.int 9))), (.lit (.d (.int 0)))])])]), (.prim .mul [(.lst [(.lit (.d (.str ⟨#[116, 111, 108, 100]⟩)))]), (.lit (.d (.int 16)))])]), (.prim .ne [(.call 59 [(.var 2), (.tup []), (.tup [(.lit (.d (.int 0))), (.lit (.d (.int 0)))])]), (.prim .mul [(.lst [(.lit (.d (.str ⟨#[116, 111, 108, 100]⟩)))]), (.lit (.d (.int 8)))])])]) [(.ret (.lit (.d (.bool false))))] []),
  (.set (.nm 5) (.call 55 [(.var 0), (.lst [(.tup [(.lit (.d (.int 2))), (.tup [])]), (.tup [(.lit (.d (.int 1))), (.tup [])]), (.tup [(.lit (.d (.int 2))), (.tup [(.tup [(.lit (.d (.int 0))), (.lit (.d (.int 0)))])])]), (.tup [(.lit (.d (.int 3))), (.tup [(.tup [(.lit (.d (.int 0))), (.lit (.d (.int 0))), (.lit (.d (.int 0)))])])])])])),
  (.ife (.prim .ne [(.call 58 [(.var 5)]), (.prim .add [(.prim .mul [(.lst [(.lit (.d (.str ⟨#[116, 111, 108, 100]⟩)))]), (.lit (.d (.int 4)))]), (.prim .mul [(.lst [(.tup [(.lit (.d (.str ⟨#[112, 114, 111, 112, 101, 114]⟩)))])]), (.lit (.d (.int 4)))])])]) [(.ret (.lit (.d (.bool false))))] []),
  (.set (.nm 6) (.call 55 [(.var 0), (.lst [(.lit (.d (.int 0))), (.lit (.d (.int 7))), (.prim .sub [(.lit (.d (.int 0))), (.lit (.d (.int 1)))]), (.lit (.d .none)), (.lit (.d (.bool true))), (.lit (.d (.str ⟨#[50]⟩))), (.tup [(.lit (.d (.int 2)))]), (.prim .pow [(.lit (.d (.int 10))), (.lit (.d (.int 60)))])])])),
  (.set (.nm 7) (.lst [(.lcall 57 16 [3, 6]), (.lcall 57 17 [3]), (.lcall 57 18 [])])),
  (.ret (.prim .eq [(.var 7), (.lst [(.prim .add [(.lit (.d (.str ⟨#[110, 117, 109, 98, 101, 114, 32]⟩))), (.prim .repr [(.var 6)])]), (.lit (.d (.str ⟨#[108, 111, 116]⟩))), (.lit (.d (.str ⟨#[116, 111, 108, 100]⟩)))])]))] }
/-- law(script): 0 script, 1 at, 2 box, 3 inner, 4 odd, 5 wrong, 6 value, 7 turn -/
def f_law : Df := { np := 1, star := false, ns := 8, body := [(.fo (.nm 1) .rng [(.prim .max2 [(.lit (.d (.int 1))), (.prim .min2 [(.lit (.d (.int 4))), (.prim .len [(.var 0)])])])] [(.set (.nm 2) (.call 53 [(.var 0), (.var 1)])), (.ife (.prim .ne [(.cmp (.lit (.d (.int 1))) (.nm 7) .rng [(.lit (.d (.int 6)))] [(.no (.call 60 [(.var 2)]))] [7]), (.lst [])]) [(.ret (.lit (.d (.bool false))))] [])]),
  (.set (.nm 3) (.tup [(.lit (.d (.int 2))), (.tup [(.tup [(.lit (.d (.int 0))), (.lit (.d (.int 2)))]), (.tup [(.lit (.d (.int 1))), (.lit (.d (.int 1)))])])])),
  (.set (.nm 4) (.lst [(.lit (.d .none)), (.lit (.d (.int 0))), (.tup []), (.lst []), (.dic [] []), (.lit (.d (.str ⟨#[110, 111, 110, 101]⟩))), (.lst [(.lit (.d (.str ⟨#[110, 111, 110, 101]⟩)))]), (.tup [(.lit (.d (.str ⟨#[110, 111, 110, 101]⟩)))]), (.tup [(.lit (.d (.str ⟨#[112, 114, 105, 109, 101]⟩))), (.tup [(.lit (.d (.int 0))), (.lit (.d (.int 0)))])]), (.tup [(.lit (.d (.str ⟨#[112, 114, 105, 109, 101]⟩))), (.lit (.d .none))]), (.tup [(.lit (.d (.str ⟨#[99, 111, 114, 110, 101, 114]⟩))), (.tup [(.lit (.d (.int 0))), (.lit (.d (.int 2)))])]), (.tup [(.lit (.d (.str ⟨#[99, 111, 118, 101, 114]⟩))), (.lit (.d (.int 0)))]), (.tup [(.lit (.d .none))]), (.tup [(.lit (.d (.str ⟨#[112, 114, 105, 109, 97, 114, 121]⟩))), (.tup [(.lit (.d (.int 0))), (.lit (.d (.int 1)))])])])),
  (.set (.nm 4) (.prim .add [(.var 4), (.lst [(.tup [(.lit (.d (.str ⟨#[108, 101, 116, 116, 101, 114]⟩))), (.tup [(.lit (.d (.int 0))), (.lit (.d (.int 2)))]), (.lit (.d (.int 1)))]), (.tup [(.lit (.d (.str ⟨#[108, 101, 116, 116, 101, 114]⟩))), (.tup [(.lit (.d (.int 1))), (.lit (.d (.int 1)))]), (.lit (.d (.int 1)))])])])),
  (.set (.nm 5) (.cmp (.var 6) (.nm 6) .seq [(.var 4)] [(.bo false [(.prim (.notB false) [(.call 38 [(.var 3), (.tup [(.lit (.d (.int 0))), (.lit (.d (.int 1)))]), (.var 6)])]), (.prim (.notB false) [(.call 43 [(.var 3), (.tup [(.lit (.d (.int 0))), (.lit (.d (.int 1)))]), (.var 6)])]), (.prim (.notB false) [(.call 48 [(.var 3), (.var 6)])])])] [6])),
  (.ret (.bo true [(.prim .eq [(.var 5), (.lst [])]), (.prim (.isB true) [(.call 43 [(.var 3), (.tup [(.lit (.d (.int 1)))]), (.tup [(.lit (.d (.str ⟨#[99, 111, 118, 101, 114]⟩)))])])]), (.prim (.isB true) [(.call 48 [(.var 3), (.tup [(.lit (.d (.str ⟨#[108, 101, 116, 116, 101, 114]⟩))), (.tup [(.lit (.d (.int 1))), (.lit (.d (.int 1)))]), (.lit (.d (.int 0)))])])])]))] }
def lams : List E := [(.call 39 [(.var 0)]),
  (.call 40 [(.var 0)]),
  (.call 41 [(.var 0)]),
  (.call 49 [(.var 0)]),
  (.call 45 [(.var 0)]),
  (.call 46 [(.var 0)]),
  (.call 47 [(.var 0)]),
  (.call 48 [(.var 0), (.lit (.d .none))]),
  (.call 36 [(.var 0), (.var 1)]),
  (.call 37 [(.var 0), (.var 1)]),
  (.call 38 [(.var 0), (.var 1), (.lit (.d .none))]),
  (.call 42 [(.var 0), (.var 1)]),
  (.call 43 [(.var 0), (.var 1), (.lit (.d .none))]),
  (.call 44 [(.var 0), (.var 1)]),
  (.call 51 [(.var 0), (.var 1)]),
  (.call 52 [(.var 0), (.var 2)]),
  (.call 50 [(.var 6), (.var 3)]),
  (.call 50 [(.lit (.d (.int 2))), (.var 3)]),
  (.call 50 [(.lit (.d (.int 6))), (.tup [(.lit (.d (.int 0))), (.lit (.d (.int 5)))])])]
def pairs : List (Nat × Nat) := [(0, 0), (1, 0), (1, 1), (2, 0), (2, 2), (3, 0), (3, 3), (4, 4), (5, 5), (6, 6)]
def prg : Prg := { defs := [f_is_int, f_is_within, f_is_power_of, f_is_lot_of, f_divides, f_join_pair, f_less_of, f_joined_all, f_least_of, f_require_letters, f_require_power, f_require_lot, f_is_stair_of, f_stair_by, f_quotient_in, f_is_proper_in, f_box_in, f_require_stair, f_require_proper, f_pure_corners, f_has_pure, f_is_within_pure, f_least_pure, f_split_by, f_parts_in, f_letters_in, f_primes_in, f_least_in, f_set_in, f_lot_corners, f_is_witness, f_witness_in, f_bare_corners, f_bare_letters, f_crossed_corners, f_require_two, f_is_prime_lot, f_prime_paper, f_is_prime_paper, f_prime_lots, f_least_primes, f_inner_primes, f_cover_paper, f_is_cover_paper, f_is_cover, f_height, f_is_unmixed, f_primary_paper, f_is_primary_paper, f_primary_parts, f_stair_of_lot, f_within_lot, f_meets_prime, f__law_box, f__law_next, f__law_one_of, f__law_bad_stair, f__law_met, f__law_plain, f__law_more, f__law_right, f_law], lams := lams, sub := subOf pairs }
def lawD : DD := ⟨("law" : Str), 84, [("script" : Str)], none, [("script" : Str), ("at" : Str), ("box" : Str), ("inner" : Str), ("odd" : Str), ("wrong" : Str), ("value" : Str), ("turn" : Str)], false, false⟩
def DL : List DD := [⟨("is_int" : Str), 11, [("value" : Str)], none, [("value" : Str)], false, false⟩,
  ⟨("is_within" : Str), 12, [("value" : Str), ("low" : Str), ("high" : Str)], none, [("value" : Str), ("low" : Str), ("high" : Str)], false, false⟩,
  ⟨("is_power_of" : Str), 13, [("letters" : Str), ("value" : Str)], none, [("letters" : Str), ("value" : Str), ("one" : Str)], false, false⟩,
  ⟨("is_lot_of" : Str), 14, [("letters" : Str), ("value" : Str)], none, [("letters" : Str), ("value" : Str), ("one" : Str), ("far" : Str)], false, false⟩,
  ⟨("divides" : Str), 15, [("one" : Str), ("far" : Str)], none, [("one" : Str), ("far" : Str), ("first" : Str), ("second" : Str)], false, false⟩,
  ⟨("join_pair" : Str), 16, [("one" : Str), ("far" : Str)], none, [("one" : Str), ("far" : Str), ("first" : Str), ("second" : Str)], false, false⟩,
  ⟨("less_of" : Str), 17, [("one" : Str), ("far" : Str)], none, [("one" : Str), ("far" : Str), ("first" : Str), ("second" : Str)], false, false⟩,
  ⟨("joined_all" : Str), 18, [("letters" : Str), ("powers" : Str)], none, [("letters" : Str), ("powers" : Str), ("found" : Str), ("power" : Str)], false, false⟩,
  ⟨("least_of" : Str), 19, [("powers" : Str)], none, [("powers" : Str), ("found" : Str), ("power" : Str), ("one" : Str)], false, false⟩,
  ⟨("require_letters" : Str), 20, [("letters" : Str)], none, [("letters" : Str)], false, false⟩,
  ⟨("require_power" : Str), 21, [("letters" : Str)], (some ("powers" : Str)), [("letters" : Str), ("powers" : Str), ("power" : Str)], false, false⟩,
  ⟨("require_lot" : Str), 22, [("letters" : Str)], (some ("lots" : Str)), [("letters" : Str), ("lots" : Str), ("lot" : Str)], false, false⟩,
  ⟨("is_stair_of" : Str), 26, [("value" : Str)], none, [("value" : Str), ("letters" : Str), ("corners" : Str), ("corner" : Str)], false, false⟩,
  ⟨("stair_by" : Str), 27, [("letters" : Str), ("powers" : Str)], none, [("letters" : Str), ("powers" : Str), ("corners" : Str), ("corner" : Str)], false, false⟩,
  ⟨("quotient_in" : Str), 28, [("stair" : Str), ("power" : Str)], none, [("stair" : Str), ("power" : Str), ("corner" : Str)], false, false⟩,
  ⟨("is_proper_in" : Str), 29, [("stair" : Str)], none, [("stair" : Str)], false, false⟩,
  ⟨("box_in" : Str), 30, [("stair" : Str)], none, [("stair" : Str)], false, false⟩,
  ⟨("require_stair" : Str), 31, [], (some ("stairs" : Str)), [("stairs" : Str), ("stair" : Str)], false, false⟩,
  ⟨("require_proper" : Str), 32, [("stair" : Str)], none, [("stair" : Str)], false, false⟩,
  ⟨("pure_corners" : Str), 34, [("bounds" : Str)], none, [("bounds" : Str), ("letters" : Str), ("found" : Str), ("letter" : Str), ("bound" : Str), ("at" : Str)], false, false⟩,
  ⟨("has_pure" : Str), 35, [("bounds" : Str), ("power" : Str)], none, [("bounds" : Str), ("power" : Str), ("bound" : Str), ("entry" : Str)], false, false⟩,
  ⟨("is_within_pure" : Str), 36, [("one" : Str), ("far" : Str)], none, [("one" : Str), ("far" : Str), ("first" : Str), ("second" : Str)], false, false⟩,
  ⟨("least_pure" : Str), 37, [("some" : Str)], none, [("some" : Str), ("found" : Str), ("one" : Str), ("bounds" : Str), ("far" : Str)], false, false⟩,
  ⟨("split_by" : Str), 38, [("bounds" : Str), ("corner" : Str)], none, [("bounds" : Str), ("corner" : Str), ("found" : Str), ("letter" : Str), ("entry" : Str)], false, false⟩,
  ⟨("parts_in" : Str), 39, [("stair" : Str)], none, [("stair" : Str), ("letters" : Str), ("corners" : Str), ("found" : Str), ("corner" : Str), ("bounds" : Str), ("later" : Str)], false, false⟩,
  ⟨("letters_in" : Str), 47, [("power" : Str)], none, [("power" : Str), ("letter" : Str), ("entry" : Str)], false, false⟩,
  ⟨("primes_in" : Str), 48, [("stair" : Str)], none, [("stair" : Str), ("part" : Str)], false, false⟩,
  ⟨("least_in" : Str), 49, [("stair" : Str)], none, [("stair" : Str), ("every" : Str), ("lot" : Str), ("far" : Str)], false, false⟩,
  ⟨("set_in" : Str), 50, [("lot" : Str), ("other" : Str)], none, [("lot" : Str), ("other" : Str), ("letter" : Str)], false, false⟩,
  ⟨("lot_corners" : Str), 51, [("letters" : Str), ("lot" : Str)], none, [("letters" : Str), ("lot" : Str), ("letter" : Str)], false, false⟩,
  ⟨("is_witness" : Str), 52, [("stair" : Str), ("lot" : Str), ("power" : Str)], none, [("stair" : Str), ("lot" : Str), ("power" : Str)], false, false⟩,
  ⟨("witness_in" : Str), 53, [("stair" : Str), ("lot" : Str)], none, [("stair" : Str), ("lot" : Str), ("box" : Str), ("some" : Str), ("part" : Str), ("entry" : Str), ("far" : Str)], false, false⟩,
  ⟨("bare_corners" : Str), 54, [("stair" : Str), ("lot" : Str)], none, [("stair" : Str), ("lot" : Str), ("corner" : Str), ("letter" : Str)], false, false⟩,
  ⟨("bare_letters" : Str), 55, [("stair" : Str)], none, [("stair" : Str), ("only" : Str), ("corner" : Str), ("letter" : Str)], false, false⟩,
  ⟨("crossed_corners" : Str), 56, [("letters" : Str), ("parts" : Str)], none, [("letters" : Str), ("parts" : Str), ("found" : Str), ("part" : Str), ("one" : Str), ("far" : Str)], false, false⟩,
  ⟨("require_two" : Str), 57, [("stair" : Str), ("lot" : Str)], none, [("stair" : Str), ("lot" : Str)], false, false⟩,
  ⟨("is_prime_lot" : Str), 58, [("stair" : Str), ("lot" : Str)], none, [("stair" : Str), ("lot" : Str)], false, false⟩,
  ⟨("prime_paper" : Str), 59, [("stair" : Str), ("lot" : Str)], none, [("stair" : Str), ("lot" : Str), ("found" : Str)], false, false⟩,
  ⟨("is_prime_paper" : Str), 60, [("stair" : Str), ("lot" : Str), ("value" : Str)], none, [("stair" : Str), ("lot" : Str), ("value" : Str)], false, false⟩,
  ⟨("prime_lots" : Str), 61, [("stair" : Str)], none, [("stair" : Str)], false, false⟩,
  ⟨("least_primes" : Str), 62, [("stair" : Str)], none, [("stair" : Str)], false, false⟩,
  ⟨("inner_primes" : Str), 63, [("stair" : Str)], none, [("stair" : Str), ("least" : Str), ("lot" : Str)], false, false⟩,
  ⟨("cover_paper" : Str), 64, [("stair" : Str), ("lot" : Str)], none, [("stair" : Str), ("lot" : Str), ("found" : Str)], false, false⟩,
  ⟨("is_cover_paper" : Str), 65, [("stair" : Str), ("lot" : Str), ("value" : Str)], none, [("stair" : Str), ("lot" : Str), ("value" : Str), ("found" : Str)], false, false⟩,
  ⟨("is_cover" : Str), 66, [("stair" : Str), ("lot" : Str)], none, [("stair" : Str), ("lot" : Str)], false, false⟩,
  ⟨("height" : Str), 67, [("stair" : Str)], none, [("stair" : Str), ("lot" : Str)], false, false⟩,
  ⟨("is_unmixed" : Str), 68, [("stair" : Str)], none, [("stair" : Str), ("lot" : Str)], false, false⟩,
  ⟨("primary_paper" : Str), 69, [("stair" : Str)], none, [("stair" : Str), ("found" : Str)], false, false⟩,
  ⟨("is_primary_paper" : Str), 70, [("stair" : Str), ("value" : Str)], none, [("stair" : Str), ("value" : Str), ("found" : Str), ("one" : Str)], false, false⟩,
  ⟨("primary_parts" : Str), 71, [("stair" : Str)], none, [("stair" : Str), ("every" : Str), ("found" : Str), ("lot" : Str), ("some" : Str), ("part" : Str)], false, false⟩,
  ⟨("stair_of_lot" : Str), 72, [("letters" : Str), ("lot" : Str)], none, [("letters" : Str), ("lot" : Str)], false, false⟩,
  ⟨("within_lot" : Str), 73, [("stair" : Str), ("lot" : Str)], none, [("stair" : Str), ("lot" : Str), ("some" : Str), ("corner" : Str), ("at" : Str), ("entry" : Str)], false, false⟩,
  ⟨("meets_prime" : Str), 74, [("stair" : Str), ("power" : Str)], none, [("stair" : Str), ("power" : Str), ("some" : Str), ("lot" : Str), ("letter" : Str)], false, false⟩,
  ⟨("_law_box" : Str), 76, [("script" : Str), ("at" : Str)], none, [("script" : Str), ("at" : Str), ("cell" : Str), ("great" : Str)], false, false⟩,
  ⟨("_law_next" : Str), 77, [("box" : Str), ("many" : Str)], none, [("box" : Str), ("many" : Str), ("found" : Str), ("one" : Str), ("two" : Str)], false, false⟩,
  ⟨("_law_one_of" : Str), 78, [("box" : Str), ("items" : Str)], none, [("box" : Str), ("items" : Str)], false, false⟩,
  ⟨("_law_bad_stair" : Str), 79, [("box" : Str)], none, [("box" : Str), ("odd" : Str), ("at" : Str)], false, false⟩,
  ⟨("_law_met" : Str), 80, [("call" : Str)], none, [("call" : Str), ("error" : Str)], false, true⟩,
  ⟨("_law_plain" : Str), 81, [("stair" : Str)], none, [("stair" : Str), ("told" : Str)], true, false⟩,
  ⟨("_law_more" : Str), 82, [("stair" : Str), ("lot" : Str), ("power" : Str)], none, [("stair" : Str), ("lot" : Str), ("power" : Str), ("told" : Str)], true, false⟩,
  ⟨("_law_right" : Str), 83, [("box" : Str)], none, [("box" : Str), ("bad" : Str), ("inner" : Str), ("lot" : Str), ("power" : Str), ("odd" : Str), ("letters" : Str), ("told" : Str)], true, false⟩,
  lawD]
def EL : List ED := [⟨("StairsError" : Str), 1, none, "ValueError", "ValueError.__new__", "ValueError.__init__", [.type "ValueError", .type "Exception", .type "BaseException", .type "object"]⟩,
  ⟨("InvalidStair" : Str), 2, none, "ValueError", "ValueError.__new__", "ValueError.__init__", [.type "ValueError", .type "Exception", .type "BaseException", .type "object"]⟩,
  ⟨("InvalidPower" : Str), 3, none, "ValueError", "ValueError.__new__", "ValueError.__init__", [.type "ValueError", .type "Exception", .type "BaseException", .type "object"]⟩,
  ⟨("InvalidLot" : Str), 4, none, "ValueError", "ValueError.__new__", "ValueError.__init__", [.type "ValueError", .type "Exception", .type "BaseException", .type "object"]⟩,
  ⟨("InvalidNumber" : Str), 5, (some ("given" : Str)), "IndexError", "IndexError.__new__", "IndexError.__init__", [.type "IndexError", .type "LookupError", .type "Exception", .type "BaseException", .type "object"]⟩,
  ⟨("TooMany" : Str), 6, (some ("limit" : Str)), "OverflowError", "OverflowError.__new__", "OverflowError.__init__", [.type "OverflowError", .type "ArithmeticError", .type "Exception", .type "BaseException", .type "object"]⟩,
  ⟨("Refused" : Str), 7, (some ("reason" : Str)), "ArithmeticError", "ArithmeticError.__new__", "ArithmeticError.__init__", [.type "ArithmeticError", .type "Exception", .type "BaseException", .type "object"]⟩]
def CL : List (Str × PyData) := [(("MOST_LETTERS" : Str), (.int 6)), (("MOST_ENTRY" : Str), (.int 9)), (("MOST_CORNERS" : Str), (.int 12)), (("PROPER" : Str), (.str ⟨#[112, 114, 111, 112, 101, 114]⟩)), (("PRIME" : Str), (.str ⟨#[112, 114, 105, 109, 101]⟩)), (("NONE" : Str), (.str ⟨#[110, 111, 110, 101]⟩)), (("COVER" : Str), (.str ⟨#[99, 111, 118, 101, 114]⟩)), (("CORNER" : Str), (.str ⟨#[99, 111, 114, 110, 101, 114]⟩)), (("PRIMARY" : Str), (.str ⟨#[112, 114, 105, 109, 97, 114, 121]⟩)), (("LETTER" : Str), (.str ⟨#[108, 101, 116, 116, 101, 114]⟩))]
abbrev Rw : PySem.W.OpenRow := PySem.W.OpenLaw.row PySem.Challenge.rw_stairpowers_k15_errors_of_primes
def LW : Lw := ⟨Rw.prog, prg, DL, EL, CL⟩
theorem st : LW.stGo 40 20 0 LW.D = true := by kernel_rfl
theorem hb : ∀ e ∈ LW.E, ExcBaseFacts e.B e.newId e.initId e.bmB ∧ (e.kept.isSome = true → PySem.W.KxsFacts e.B e.initId ∧ StoreFacts e.B e.bmB "object.__setattr__" "object") := by
  intro e he
  have he : e ∈ EL := he
  unfold EL at he
  simp only [List.mem_cons, List.not_mem_nil, or_false] at he
  rcases he with rfl | rfl | rfl | rfl | rfl | rfl | rfl
  · exact ⟨excBase_ValueError, fun h => by cases h⟩
  · exact ⟨excBase_ValueError, fun h => by cases h⟩
  · exact ⟨excBase_ValueError, fun h => by cases h⟩
  · exact ⟨excBase_ValueError, fun h => by cases h⟩
  · exact ⟨excBase_IndexError, fun h => ⟨PySem.W.kxs_IndexError, store_IndexError⟩⟩
  · exact ⟨excBase_OverflowError, fun h => ⟨PySem.W.kxs_OverflowError, store_OverflowError⟩⟩
  · exact ⟨excBase_ArithmeticError, fun h => ⟨PySem.W.kxs_ArithmeticError, store_ArithmeticError⟩⟩
end Lq
set_option Elab.async false
set_option linter.all false
set_option maxRecDepth 100000
set_option maxHeartbeats 0
namespace Lq
open PySem PySem.Spec PySem.F PyProof.Rows L2 Ev
def lo0 : List Str := ("__name__" : Str) :: ("StairsError" : Str) :: ("InvalidStair" : Str) :: ("InvalidPower" : Str) :: ("InvalidLot" : Str) :: ("InvalidNumber" : Str) :: ("TooMany" : Str) :: ("Refused" : Str) :: ("MOST_LETTERS" : Str) :: ("MOST_ENTRY" : Str) :: ("is_int" : Str) :: ("is_within" : Str) :: ("is_power_of" : Str) :: ("is_lot_of" : Str) :: ("divides" : Str) :: ("join_pair" : Str) :: ("less_of" : Str) :: ("joined_all" : Str) :: ("least_of" : Str) :: ("require_letters" : Str) :: ("require_power" : Str) :: ("require_lot" : Str) :: ("MOST_CORNERS" : Str) :: ("PROPER" : Str) :: ("is_stair_of" : Str) :: ("stair_by" : Str) :: ("quotient_in" : Str) :: ("is_proper_in" : Str) :: ("box_in" : Str) :: ("require_stair" : Str) :: ("require_proper" : Str) :: ("pure_corners" : Str) :: ("has_pure" : Str) :: ("is_within_pure" : Str) :: ("least_pure" : Str) :: []
def lo1 : List Str := ("split_by" : Str) :: ("parts_in" : Str) :: ("PRIME" : Str) :: ("NONE" : Str) :: ("COVER" : Str) :: ("CORNER" : Str) :: ("PRIMARY" : Str) :: ("LETTER" : Str) :: ("letters_in" : Str) :: ("primes_in" : Str) :: ("least_in" : Str) :: ("set_in" : Str) :: ("lot_corners" : Str) :: ("is_witness" : Str) :: ("witness_in" : Str) :: ("bare_corners" : Str) :: ("bare_letters" : Str) :: ("crossed_corners" : Str) :: ("require_two" : Str) :: ("is_prime_lot" : Str) :: ("prime_paper" : Str) :: ("is_prime_paper" : Str) :: ("prime_lots" : Str) :: ("least_primes" : Str) :: ("inner_primes" : Str) :: ("cover_paper" : Str) :: ("is_cover_paper" : Str) :: ("is_cover" : Str) :: ("height" : Str) :: ("is_unmixed" : Str) :: ("primary_paper" : Str) :: ("is_primary_paper" : Str) :: ("primary_parts" : Str) :: ("stair_of_lot" : Str) :: ("within_lot" : Str) :: []
def lo2 : List Str := ("meets_prime" : Str) :: ("_law_box" : Str) :: ("_law_next" : Str) :: ("_law_one_of" : Str) :: ("_law_bad_stair" : Str) :: ("_law_met" : Str) :: ("_law_plain" : Str) :: ("_law_more" : Str) :: ("_law_right" : Str) :: []
def loose : List Str := lo0 ++ lo1 ++ lo2
theorem run (w : World) : HandSHeadRun.RunEq Rw (PySem.W.view Rw.prog [84]) LW.hook LW.ob 4000 loose w := by
  intro os
  kernel_rfl
end Lq
set_option Elab.async false
set_option linter.all false
set_option maxRecDepth 100000
set_option maxHeartbeats 4000000
/-! EvPa: draws. -/
namespace Ev
open PySem
def drawA : Df := { np := 2, star := false, ns := 5, body := [(.ife (.prim .gt [(.prim .idx [(.var 0), (.lit (.d (.int 0)))]), (.lit (.d (.int 0)))]) [(.set (.nm 2) (.prim .mod [(.prim .int [(.prim .idx [(.var 0), (.lit (.d (.int 0)))])]), (.var 1)])), (.six 0 (.lit (.d (.int 0))) (.prim .fdiv [(.prim .idx [(.var 0), (.lit (.d (.int 0)))]), (.var 1)])), (.ret (.var 2))] []),
  (.six 0 (.lit (.d (.int 2))) (.prim .add [(.prim .idx [(.var 0), (.lit (.d (.int 2)))]), (.lit (.d (.int 1)))])),
  (.set (.nm 3) (.prim .mod [(.prim .int [(.prim .add [(.prim .idx [(.var 0), (.lit (.d (.int 1)))]), (.prim .mul [(.lit (.d (.int 86028121))), (.prim .idx [(.var 0), (.lit (.d (.int 2)))])])])]), (.lit (.d (.int 2305843009213693951)))])),
  (.set (.nm 4) (.prim .add [(.prim .mul [(.prim .mod [(.prim .int [(.prim .add [(.prim .mul [(.var 3), (.var 3)]), (.prim .mul [(.lit (.d (.int 107))), (.prim .idx [(.var 0), (.lit (.d (.int 2)))])])])]), (.lit (.d (.int 2305843009213693921)))]), (.lit (.d (.int 3999971)))]), (.var 3)])),
  (.ret (.prim .mod [(.prim .int [(.prim .fdiv [(.var 4), (.lit (.d (.int 65539)))])]), (.var 1)]))] }
theorem mulOk_small {i j : Int} (hi : i.natAbs < 2 ^ 200) (hj : j.natAbs < 2 ^ 200) : mulOk i j = true := by
  unfold mulOk
  have z : ∀ n : Nat, n < 2 ^ 200 → n.log2 < 1001 := fun n h => by
    rcases Nat.eq_zero_or_pos n with h0 | h0
    · rw [h0]; decide
    · have := (Nat.log2_lt (n := n) (k := 200) (by omega)).mpr h
      omega
  have a := z _ hi
  have b := z _ hj
  simp only [decide_eq_true_eq]
  omega
theorem log_small {j : Int} (hj : j.natAbs < 2 ^ 200) : j.natAbs.log2 < 9000 := by
  rcases Nat.eq_zero_or_pos j.natAbs with h0 | h0
  · rw [h0]; decide
  · have := (Nat.log2_lt (n := j.natAbs) (k := 200) (by omega)).mpr hj
    omega
theorem stmt_cons {call : Nat → Env → Option CO} {clo : Nat → List (Option PyData) → Option CO} {sub : Nat → Nat → Bool} {x : S} {xs : List S} {e e1 : Env} {n : Nat} (h : exs call clo sub (n + 1) [x] e = some (.ok .nx e1)) : exs call clo sub (n + 1) (x :: xs) e = exs call clo sub (n + 1) xs e1 := by
  have z : exs call clo sub (n + 1) [x] e = contS (stepS sub (exs call clo sub n) (ev call clo n) x e) (fun e => some (.ok .nx e)) := rfl
  rw [z] at h
  show contS (stepS sub (exs call clo sub n) (ev call clo n) x e) (exGo _ xs) = _
  generalize stepS sub (exs call clo sub n) (ev call clo n) x e = m at h
  cases m with
  | none => cases h
  | some u =>
    cases u with
    | er c v e' => cases h
    | ok f e' =>
      cases f with
      | nx =>
        have y : some (Ou.ok Fl.nx e') = some (Ou.ok Fl.nx e1) := h
        cases y
        rfl
      | rt r => cases h
theorem qGt_int (i j : Int) : qGt [.d (.int i), .d (.int j)] = vB (decide (j < i)) := rfl
theorem qLt_int (i j : Int) : qLt [.d (.int i), .d (.int j)] = vB (decide (i < j)) := rfl
theorem qEq_int (i j : Int) : qEq [.d (.int i), .d (.int j)] = vB (PyData.eqv (.int i) (.int j)) := rfl
section
variable {call : Nat → Env → Option CO} {clo : Nat → List (Option PyData) → Option CO} {sub : Nat → Nat → Bool}
theorem drawA_1 (g a c n : Int) (h : 0 < g) (hn : 0 < n) (hn2 : n.natAbs < 2 ^ 200) : exs call clo sub fuel drawA.body [.le (.list [.int g, .int a, .int c]), .va (.d (.int n)), .un, .un, .un] = some (.ok (.rt (.v (.d (.int (g % n))))) [.le (.list [.int (g / n), .int a, .int c]), .va (.d (.int n)), .va (.d (.int (g % n))), .un, .un]) := by
  have l := log_small hn2
  simp [drawA, h, hn, l, fuel, exs, exGo, stepS, sIfe, sIfe2, ev, stepE, ePrim, evOps, evOp, peek, Sl.peek, R.bind, eRun, opsW, Op.w, Rs.w, P.run, qGt_int, qLt_int, qIdx, L2.atI, L2.ixN, tested, vI, vB, contS, truth, sSet, sSet2, storeT, put, qMod, qAdd, qSub, qMul, qInt, qFdiv, sSix, sSix2, storeAt, setAt, evGive, Wd.data, sRet, moved, take, rtR]
theorem drawA_2 (g a c n : Int) (h : ¬ 0 < g) (hn : 0 < n) (hc : 0 ≤ c) (hc2 : c < 2 ^ 60) : ∃ i t3 t4 : Int, 0 ≤ i ∧ i < n ∧ exs call clo sub fuel drawA.body [.le (.list [.int g, .int a, .int c]), .va (.d (.int n)), .un, .un, .un] = some (.ok (.rt (.v (.d (.int i)))) [.le (.list [.int g, .int a, .int (c + 1)]), .va (.d (.int n)), .un, .va (.d (.int t3)), .va (.d (.int t4))]) := by
  have m1 : mulOk 86028121 (c + 1) = true := mulOk_small (by decide) (by have : (2 : Nat) ^ 60 < 2 ^ 200 := Nat.pow_lt_pow_right (by decide) (by decide); omega)
  have m2 : mulOk 107 (c + 1) = true := mulOk_small (by decide) (by have : (2 : Nat) ^ 60 < 2 ^ 200 := Nat.pow_lt_pow_right (by decide) (by decide); omega)
  generalize ho : (a + 86028121 * (c + 1)) % 2305843009213693951 = one
  have o0 : 0 ≤ one := by rw [← ho]; exact Int.emod_nonneg _ (by decide)
  have o1 : one < 2305843009213693951 := by rw [← ho]; exact Int.emod_lt_of_pos _ (by decide)
  have m3 : mulOk one one = true := mulOk_small (by have : (2 : Nat) ^ 63 < 2 ^ 200 := Nat.pow_lt_pow_right (by decide) (by decide); omega) (by have : (2 : Nat) ^ 63 < 2 ^ 200 := Nat.pow_lt_pow_right (by decide) (by decide); omega)
  generalize ht : (one * one + 107 * (c + 1)) % 2305843009213693921 = two
  have t0 : 0 ≤ two := by rw [← ht]; exact Int.emod_nonneg _ (by decide)
  have t1 : two < 2305843009213693921 := by rw [← ht]; exact Int.emod_lt_of_pos _ (by decide)
  have m4 : mulOk two 3999971 = true := mulOk_small (by have : (2 : Nat) ^ 63 < 2 ^ 200 := Nat.pow_lt_pow_right (by decide) (by decide); omega) (by decide)
  refine ⟨(two * 3999971 + one) / 65539 % n, one, two * 3999971 + one, Int.emod_nonneg _ (by omega), Int.emod_lt_of_pos _ hn, ?_⟩
  have l : Nat.log2 65539 < 9000 := by decide +kernel
  simp [drawA, h, hn, l, m1, m2, m3, m4, ho, ht, fuel, exs, exGo, stepS, sIfe, sIfe2, ev, stepE, ePrim, evOps, evOp, peek, Sl.peek, R.bind, eRun, opsW, Op.w, Rs.w, P.run, qGt_int, qLt_int, qIdx, L2.atI, L2.ixN, tested, vI, vB, contS, truth, sSet, sSet2, storeT, put, qMod, qAdd, qSub, qMul, qInt, qFdiv, sSix, sSix2, storeAt, setAt, evGive, Wd.data, sRet, moved, take, rtR]
end
/-- a bag: three whole numbers -/
abbrev bagA (g a c : Int) : PyData := .list [.int g, .int a, .int c]
theorem drawA_ok {p : Prg} {d k : Nat} (hk : p.defs[k]? = some drawA) (g a c n : Int) (hn : 0 < n) (hn2 : n.natAbs < 2 ^ 200) (hc : 0 ≤ c) (hc2 : c < 2 ^ 60) : ∃ i g' c' : Int, 0 ≤ i ∧ i < n ∧ 0 ≤ c' ∧ c' ≤ c + 1 ∧ callD p (d + 1) k [.le (bagA g a c), .va (.d (.int n))] = some (.ok (.v (.d (.int i))) [.le (bagA g' a c'), .un]) := by
  by_cases h : 0 < g
  · refine ⟨g % n, g / n, c, Int.emod_nonneg _ (by omega), Int.emod_lt_of_pos _ hn, hc, by omega, ?_⟩
    rw [callD, hk]
    have z := drawA_1 (call := callD p d) (clo := cloD p d) (sub := p.sub) g a c n h hn hn2
    simp only [starArgs, show drawA.star = false from rfl, show drawA.np = 2 from rfl, show drawA.ns = 5 from rfl, List.length_cons, List.length_nil, if_true]
    show fin _ (exs _ _ _ fuel drawA.body [.le (bagA g a c), .va (.d (.int n)), .un, .un, .un]) = _
    rw [z]
    rfl
  · obtain ⟨i, t3, t4, h0, h1, z⟩ := drawA_2 (call := callD p d) (clo := cloD p d) (sub := p.sub) g a c n h hn hc hc2
    refine ⟨i, g, c + 1, h0, h1, by omega, by omega, ?_⟩
    rw [callD, hk]
    simp only [starArgs, show drawA.star = false from rfl, show drawA.np = 2 from rfl, show drawA.ns = 5 from rfl, List.length_cons, List.length_nil, if_true]
    show fin _ (exs _ _ _ fuel drawA.body [.le (bagA g a c), .va (.d (.int n)), .un, .un, .un]) = _
    rw [z]
    rfl
def oneOf (k : Nat) : Df := { np := 2, star := false, ns := 2, body := [(.ret (.prim .idx [(.var 1), (.call k [(.var 0), (.prim .len [(.var 1)])])]))] }
def bagDA : Df := { np := 2, star := false, ns := 4, body := [(.set (.nm 2) (.ife (.prim .lt [(.var 1), (.prim .len [(.var 0)])]) (.prim .int [(.prim .idx [(.var 0), (.var 1)])]) (.prim .add [(.prim .mul [(.lit (.d (.int 149))), (.var 1)]), (.lit (.d (.int 83)))]))),
  (.set (.nm 3) (.prim .mod [(.prim .max2 [(.lit (.d (.int 0))), (.prim .sub [(.prim .abs [(.var 2)]), (.prim .pow [(.lit (.d (.int 10))), (.lit (.d (.int 16)))])])]), (.prim .mul [(.prim .pow [(.lit (.d (.int 10))), (.lit (.d (.int 58)))]), (.prim .pow [(.lit (.d (.int 10))), (.lit (.d (.int 59)))])])])),
  (.ret (.lst [(.var 3), (.prim .add [(.prim .add [(.prim .add [(.prim .mul [(.prim .mod [(.prim .abs [(.var 2)]), (.lit (.d (.int 1152921504606846999)))]), (.lit (.d (.int 101)))]), (.prim .mul [(.lit (.d (.int 1049))), (.var 1)])]), (.prim .mul [(.lit (.d (.int 59))), (.prim .int [(.prim .lt [(.var 2), (.lit (.d (.int 0)))])])])]), (.lit (.d (.int 29)))]), (.lit (.d (.int 0)))]))] }
section
variable {call : Nat → Env → Option CO} {clo : Nat → List (Option PyData) → Option CO} {sub : Nat → Nat → Bool}
theorem bagA_1 (ns : List Int) (i : Nat) (hi : i < 2 ^ 60) : ∃ cell : Int, exs call clo sub fuel [(.set (.nm 2) (.ife (.prim .lt [(.var 1), (.prim .len [(.var 0)])]) (.prim .int [(.prim .idx [(.var 0), (.var 1)])]) (.prim .add [(.prim .mul [(.lit (.d (.int 149))), (.var 1)]), (.lit (.d (.int 83)))])))] [.va (.sc ns), .va (.d (.int i)), .un, .un] = some (.ok .nx [.va (.sc ns), .va (.d (.int i)), .va (.d (.int cell)), .un]) := by
  by_cases h : i < ns.length
  · have hx : ns[i]? = some ns[i] := List.getElem?_eq_getElem h
    refine ⟨ns[i], ?_⟩
    simp [h, hx, eIfe, qLen, fuel, exs, exGo, stepS, sIfe, sIfe2, ev, stepE, ePrim, evOps, evOp, peek, Sl.peek, R.bind, eRun, opsW, Op.w, Rs.w, P.run, qGt_int, qLt_int, qIdx, L2.atI, L2.ixN, tested, vI, vB, contS, truth, sSet, sSet2, storeT, put, qMod, qAdd, qSub, qMul, qInt, qFdiv, sSix, sSix2, storeAt, setAt, evGive, Wd.data, sRet, moved, take, rtR]
  · refine ⟨149 * i + 83, ?_⟩
    have m : mulOk 149 (i : Int) = true := mulOk_small (by decide) (by have : (2 : Nat) ^ 60 < 2 ^ 200 := Nat.pow_lt_pow_right (by decide) (by decide); omega)
    simp [h, m, eIfe, qLen, fuel, exs, exGo, stepS, sIfe, sIfe2, ev, stepE, ePrim, evOps, evOp, peek, Sl.peek, R.bind, eRun, opsW, Op.w, Rs.w, P.run, qGt_int, qLt_int, qIdx, L2.atI, L2.ixN, tested, vI, vB, contS, truth, sSet, sSet2, storeT, put, qMod, qAdd, qSub, qMul, qInt, qFdiv, sSix, sSix2, storeAt, setAt, evGive, Wd.data, sRet, moved, take, rtR]
theorem bagA_2 (sc : Wd) (i cell : Int) : ∃ g : Int, exs call clo sub fuel [(.set (.nm 3) (.prim .mod [(.prim .max2 [(.lit (.d (.int 0))), (.prim .sub [(.prim .abs [(.var 2)]), (.prim .pow [(.lit (.d (.int 10))), (.lit (.d (.int 16)))])])]), (.prim .mul [(.prim .pow [(.lit (.d (.int 10))), (.lit (.d (.int 58)))]), (.prim .pow [(.lit (.d (.int 10))), (.lit (.d (.int 59)))])])]))] [.va sc, .va (.d (.int i)), .va (.d (.int cell)), .un] = some (.ok .nx [.va sc, .va (.d (.int i)), .va (.d (.int cell)), .va (.d (.int g))]) := by
  exact ⟨_, rfl⟩
theorem bagA_3 (sc : Wd) (i : Nat) (hi : i < 2 ^ 60) (cell g : Int) : ∃ a : Int, exs call clo sub fuel [(.ret (.lst [(.var 3), (.prim .add [(.prim .add [(.prim .add [(.prim .mul [(.prim .mod [(.prim .abs [(.var 2)]), (.lit (.d (.int 1152921504606846999)))]), (.lit (.d (.int 101)))]), (.prim .mul [(.lit (.d (.int 1049))), (.var 1)])]), (.prim .mul [(.lit (.d (.int 59))), (.prim .int [(.prim .lt [(.var 2), (.lit (.d (.int 0)))])])])]), (.lit (.d (.int 29)))]), (.lit (.d (.int 0)))]))] [.va sc, .va (.d (.int i)), .va (.d (.int cell)), .va (.d (.int g))] = some (.ok (.rt (.o (bagA g a 0))) [.va sc, .va (.d (.int i)), .va (.d (.int cell)), .va (.d (.int g))]) := by
  generalize ho : (if cell < 0 then -cell else cell) % 1152921504606846999 = one
  have o0 : 0 ≤ one := by rw [← ho]; exact Int.emod_nonneg _ (by decide)
  have o1 : one < 1152921504606846999 := by rw [← ho]; exact Int.emod_lt_of_pos _ (by decide)
  have m1 : mulOk one 101 = true := mulOk_small (by have : (2 : Nat) ^ 63 < 2 ^ 200 := Nat.pow_lt_pow_right (by decide) (by decide); omega) (by decide)
  have m2 : mulOk 1049 (i : Int) = true := mulOk_small (by decide) (by have : (2 : Nat) ^ 60 < 2 ^ 200 := Nat.pow_lt_pow_right (by decide) (by decide); omega)
  have m3 : mulOk 59 (if decide (cell < 0) = true then 1 else 0) = true := by split <;> rfl
  refine ⟨one * 101 + 1049 * i + 59 * (if decide (cell < 0) = true then 1 else 0) + 29, ?_⟩
  by_cases h : cell < 0
  · simp only [h, if_true, if_false, decide_true, decide_false] at m3 ho ⊢
    have m3 : mulOk 59 1 = true := rfl
    simp [h, m1, m2, m3, ho, qAbs, eLst, eVar, backE, evGives, lim, fuel, exs, exGo, stepS, sIfe, sIfe2, ev, stepE, ePrim, evOps, evOp, peek, Sl.peek, R.bind, eRun, opsW, Op.w, Rs.w, P.run, qGt_int, qLt_int, qIdx, L2.atI, L2.ixN, tested, vI, vB, contS, truth, sSet, sSet2, storeT, put, qMod, qAdd, qSub, qMul, qInt, qFdiv, sSix, sSix2, storeAt, setAt, evGive, Wd.data, sRet, moved, take, rtR]
  · simp only [h, if_true, if_false, decide_true, decide_false] at m3 ho ⊢
    have m3 : mulOk 59 0 = true := rfl
    simp [h, m1, m2, m3, ho, qAbs, eLst, eVar, backE, evGives, lim, fuel, exs, exGo, stepS, sIfe, sIfe2, ev, stepE, ePrim, evOps, evOp, peek, Sl.peek, R.bind, eRun, opsW, Op.w, Rs.w, P.run, qGt_int, qLt_int, qIdx, L2.atI, L2.ixN, tested, vI, vB, contS, truth, sSet, sSet2, storeT, put, qMod, qAdd, qSub, qMul, qInt, qFdiv, sSix, sSix2, storeAt, setAt, evGive, Wd.data, sRet, moved, take, rtR]
end
theorem bagA_ok {p : Prg} {d k : Nat} (hk : p.defs[k]? = some bagDA) (ns : List Int) (i : Nat) (hi : i < 2 ^ 60) : ∃ g a : Int, callD p (d + 1) k [.va (.sc ns), .va (.d (.int i))] = some (.ok (.o (bagA g a 0)) [.un, .un]) := by
  obtain ⟨cell, h1⟩ := bagA_1 (call := callD p d) (clo := cloD p d) (sub := p.sub) ns i hi
  obtain ⟨g, h2⟩ := bagA_2 (call := callD p d) (clo := cloD p d) (sub := p.sub) (.sc ns) i cell
  obtain ⟨a, h3⟩ := bagA_3 (call := callD p d) (clo := cloD p d) (sub := p.sub) (.sc ns) i hi cell g
  refine ⟨g, a, ?_⟩
  rw [callD, hk]
  simp only [starArgs, show bagDA.star = false from rfl, show bagDA.np = 2 from rfl, show bagDA.ns = 4 from rfl, List.length_cons, List.length_nil, if_true]
  show fin _ (exs _ _ _ fuel bagDA.body [.va (.sc ns), .va (.d (.int i)), .un, .un]) = _
  have z : exs (callD p d) (cloD p d) p.sub fuel bagDA.body [.va (.sc ns), .va (.d (.int i)), .un, .un] = _ := (stmt_cons (n := 999999) h1).trans ((stmt_cons (n := 999999) h2).trans h3)
  rw [z]
  rfl
theorem idx_in {items : List PyData} {i : Int} (h0 : 0 ≤ i) (h1 : i < items.length) : ∃ x ∈ items, L2.atI items i = some x := by
  obtain ⟨j, rfl⟩ : ∃ j : Nat, i = j := ⟨i.toNat, by omega⟩
  have hj : j < items.length := by omega
  exact ⟨items[j], List.getElem_mem hj, L2.atI_nat (List.getElem?_eq_getElem hj)⟩
theorem oneOf_run {call : Nat → Env → Option CO} {clo : Nat → List (Option PyData) → Option CO} {sub : Nat → Nat → Bool} {k : Nat} {b b' : PyData} {items : List PyData} {i : Int} {x : PyData} (h : call k [.le b, .va (.d (.int items.length))] = some (.ok (.v (.d (.int i))) [.le b', .un])) (hx : L2.atI items i = some x) :
    exs call clo sub fuel (oneOf k).body [.le b, .va (.d (.list items))] = some (.ok (.rt (.v (.d x))) [.le b', .va (.d (.list items))]) ∧ exs call clo sub fuel (oneOf k).body [.le b, .va (.d (.tuple items))] = some (.ok (.rt (.v (.d x))) [.le b', .va (.d (.tuple items))]) := by
  constructor
  · simp [oneOf, fuel, exs, exGo, stepS, sRet, ev, stepE, ePrim, evOps, evOp, peek, Sl.peek, R.bind, eCall, eCall2, eBack, argsOf, backTo, backS, Sl.own, eRun, opsW, Op.w, Rs.w, P.run, qLen, qIdx, vI, tested, contS, rtR, h, hx]
  · simp [oneOf, fuel, exs, exGo, stepS, sRet, ev, stepE, ePrim, evOps, evOp, peek, Sl.peek, R.bind, eCall, eCall2, eBack, argsOf, backTo, backS, Sl.own, eRun, opsW, Op.w, Rs.w, P.run, qLen, qIdx, vI, tested, contS, rtR, h, hx]
theorem oneA_ok {p : Prg} {d k k1 : Nat} (hk : p.defs[k]? = some drawA) (hk1 : p.defs[k1]? = some (oneOf k)) (g a c : Int) (items : List PyData) (hi : 0 < items.length) (hi2 : items.length < 2 ^ 60) (hc : 0 ≤ c) (hc2 : c < 2 ^ 60) :
    ∃ x ∈ items, ∃ g' c' : Int, 0 ≤ c' ∧ c' ≤ c + 1 ∧ callD p (d + 2) k1 [.le (bagA g a c), .va (.d (.list items))] = some (.ok (.v (.d x)) [.le (bagA g' a c'), .un]) := by
  obtain ⟨i, g', c', h0, h1, h2, h3, h4⟩ := drawA_ok (d := d) hk g a c items.length (by omega) (by have : (2 : Nat) ^ 60 < 2 ^ 200 := Nat.pow_lt_pow_right (by decide) (by decide); omega) hc hc2
  obtain ⟨x, hx, hx2⟩ := idx_in h0 h1
  refine ⟨x, hx, g', c', h2, h3, ?_⟩
  rw [callD, hk1]
  simp only [starArgs, show (oneOf k).star = false from rfl, show (oneOf k).np = 2 from rfl, show (oneOf k).ns = 2 from rfl, List.length_cons, List.length_nil, if_true]
  show fin _ (exs _ _ _ fuel (oneOf k).body [.le (bagA g a c), .va (.d (.list items))]) = _
  rw [(oneOf_run h4 hx2).1]
  rfl
end Ev
set_option Elab.async false
set_option linter.all false
set_option maxRecDepth 100000
set_option maxHeartbeats 4000000
/-! EvPb: statements put together. -/
namespace Ev.Pl
open PySem Ev
section
variable {call : Nat → Env → Option CO} {clo : Nat → List (Option PyData) → Option CO} {sub : Nat → Nat → Bool} {n : Nat} {e e1 e2 e3 : Env}
theorem exs_nil : exs call clo sub (n + 1) [] e = some (Ou.ok Fl.nx e) := rfl
theorem exs_one (x : S) : exs call clo sub (n + 1) [x] e = stepS sub (exs call clo sub n) (ev call clo n) x e := by
  show contS _ _ = _
  generalize stepS sub (exs call clo sub n) (ev call clo n) x e = m
  cases m with
  | none => rfl
  | some u =>
    cases u with
    | er c v e' => rfl
    | ok f e' => cases f <;> rfl
/-- a call, its parts -/
theorem call_of {k : Nat} {es : List E} {os : List Op} {as bs : Env} {r : Rs} (h1 : evOps (ev call clo n) es e = some (.ok os e1)) (h2 : argsOf e1 os = some as) (h3 : call k as = some (.ok r bs)) (h4 : backTo e1 os bs = some e2) : ev call clo (n + 1) false (.call k es) e = some (.ok r e2) := by
  show eCall call (ev call clo n) k es e = _
  unfold eCall
  rw [h1]
  show eCall2 call k os e1 = _
  unfold eCall2
  rw [h2]
  show eBack os e1 (call k as) = _
  rw [h3]
  show (match backTo e1 os bs with | some e2 => some (Ou.ok r e2) | none => none) = _
  rw [h4]
theorem give_of' {x : E} {y : PyData} {r : Rs} (h : ev call clo n false x e = some (.ok r e1)) (hr : r.w = .d y) : evGive (ev call clo n) x e = some (.ok y e1) := by
  unfold evGive
  rw [h]
  show (match r.w with | .d x => some (Ou.ok x e1) | _ => none) = _
  rw [hr]
theorem gives_nil : evGives (ev call clo n) [] e = some (.ok [] e) := rfl
theorem gives_cons {x : E} {xs : List E} {y : PyData} {ys : List PyData} (hx : notStarE x = true) (h : evGive (ev call clo n) x e = some (.ok y e1)) (h2 : evGives (ev call clo n) xs e1 = some (.ok ys e2)) : evGives (ev call clo n) (x :: xs) e = some (.ok (y :: ys) e2) := by
  cases x <;> first | (cases hx; done) | (show R.bind (evGive (ev call clo n) _ e) (fun y e1 => R.bind (evGives (ev call clo n) xs e1) fun zs e2 => some (Ou.ok (y :: zs) e2)) = _; rw [h]; show R.bind (evGives (ev call clo n) xs e1) _ = _; rw [h2]; rfl)
theorem set_of {t : T} {x : E} {r : Rs} (h : ev call clo n false x e = some (.ok r e1)) (h2 : storeT t r e1 = some e2) : exs call clo sub (n + 1) [.set t x] e = some (.ok .nx e2) := by
  rw [exs_one]
  show sSet (ev call clo n) t x e = _
  unfold sSet
  rw [h]
  show sSet2 t r e1 = _
  unfold sSet2
  rw [h2]
theorem tup_of {es : List E} {ds : List PyData} (h : evGives (ev call clo n) es e = some (.ok ds e1)) (hl : ds.length ≤ lim) : ev call clo (n + 1) false (.tup es) e = some (.ok (.v (.d (.tuple ds))) e1) := by
  show eTup _ _ _ = _
  unfold eTup
  rw [h]
  exact if_pos hl
theorem lst_of {es : List E} {ds : List PyData} (h : evGives (ev call clo n) es e = some (.ok ds e1)) (hl : ds.length ≤ lim) : ev call clo (n + 1) false (.lst es) e = some (.ok (.o (.list ds)) e1) := by
  show eLst _ _ _ = _
  unfold eLst
  rw [h]
  exact if_pos hl
/-- if A or B or ..: none of them holds -/
theorem bo_cons {a : Bool} {x y : E} {xs : List E} {r : R Rs} {t : Bool} (h : ev call clo n true x e = some (.ok (.v (.d (.bool t))) e1)) (ht : (t == a) = true) (h2 : evBo (ev call clo n) true a (y :: xs) e1 = r) : evBo (ev call clo n) true a (x :: y :: xs) e = r := by
  show R.bind (ev call clo n true x e) _ = _
  rw [h]
  show (if (t == a) = true then evBo (ev call clo n) true a (y :: xs) e1 else _) = _
  rw [if_pos ht]
  exact h2
theorem bo_one {tst a : Bool} {x : E} {r : R Rs} (h : ev call clo n tst x e = r) : evBo (ev call clo n) tst a [x] e = r := h
theorem boF_cons {a : Bool} {x y : E} {xs : List E} {r : R Rs} {t : Bool} (h : ev call clo n false x e = some (.ok (.v (.d (.bool t))) e1)) (ht : (t == a) = true) (h2 : evBo (ev call clo n) false a (y :: xs) e1 = r) : evBo (ev call clo n) false a (x :: y :: xs) e = r := by
  show R.bind (ev call clo n false x e) _ = _
  rw [h]
  show (if (t == a) = true then evBo (ev call clo n) false a (y :: xs) e1 else _) = _
  rw [if_pos ht]
  exact h2
theorem ife_no {x : E} {es : List E} {b : List S} (h : evBo (ev call clo n) true false es e = some (.ok (.v (.d (.bool false))) e1)) : exs call clo sub (n + 2) [.ife (.bo false es) b []] e = some (.ok .nx e1) := by
  rw [exs_one]
  show sIfe (exs call clo sub (n + 1)) (ev call clo (n + 1)) (.bo false es) b [] e = _
  unfold sIfe
  have z : ev call clo (n + 1) true (.bo false es) e = evBo (ev call clo n) true false es e := rfl
  rw [z, h]
  rfl
theorem ife_no1 {x : E} {b : List S} (h : ev call clo (n + 1) true x e = some (.ok (.v (.d (.bool false))) e1)) : exs call clo sub (n + 2) [.ife x b []] e = some (.ok .nx e1) := by
  rw [exs_one]
  show sIfe (exs call clo sub (n + 1)) (ev call clo (n + 1)) x b [] e = _
  unfold sIfe
  rw [h]
  rfl
theorem ret_bo {a : Bool} {es : List E} {r : Rs} (h : evBo (ev call clo n) false a es e = some (.ok r e1)) : exs call clo sub (n + 2) [.ret (.bo a es)] e = some (.ok (.rt r) e1) := by
  rw [exs_one]
  show sRet (ev call clo (n + 1)) (.bo a es) e = _
  have z : ev call clo (n + 1) false (.bo a es) e = evBo (ev call clo n) false a es e := rfl
  show R.bind (ev call clo (n + 1) false (.bo a es) e) rtR = _
  rw [z, h]
  rfl
/-- answers, as one bit -/
def isTru : R Rs → Bool
  | some (.ok (.v (.d (.bool true))) _) => true | _ => false
def isFal : R Rs → Bool
  | some (.ok (.v (.d (.bool false))) _) => true | _ => false
def isRtT : R Fl → Bool
  | some (.ok (.rt (.v (.d (.bool true)))) _) => true | _ => false
theorem isRtT_ok {m : R Fl} (h : isRtT m = true) : ∃ e', m = some (.ok (.rt (.v (.d (.bool true)))) e') := by
  unfold isRtT at h
  split at h
  · exact ⟨_, rfl⟩
  · cases h
theorem call_body {p : Prg} {d k : Nat} {f : Df} {as : Env} {r : Rs} {e' : Env} (hk : p.defs[k]? = some f) (hs : f.star = false) (hl : as.length = f.np) (h : exs (callD p d) (cloD p d) p.sub fuel f.body (as ++ List.replicate (f.ns - f.np) .un) = some (.ok (.rt r) e')) : callD p (d + 1) k as = some (.ok r (retE as e')) := by
  rw [callD, hk]
  simp only [starArgs, hs, hl, if_true]
  rw [h]
  rfl
end
/-! ### a law's turns -/
section
variable {call : Nat → Env → Option CO} {clo : Nat → List (Option PyData) → Option CO} {sub : Nat → Nat → Bool}
/-- [1 for turn in range(m) if not right(bag)], at the places 0 script, 1 at, 2 bag; kr answers True, by ever greater bounds -/
structure TurnR (call : Nat → Env → Option CO) (kr : Nat) (B : Nat → PyData → Prop) : Prop where
  run : ∀ j b, j < 1000000 → B j b → ∃ b', B (j + 1) b' ∧ call kr [.le b] = some (.ok (.v (.d (.bool true))) [.le b'])
theorem put_un {e : Env} {i : Nat} {x : PyData} {s : Sl} (h : e[i]? = some s) (hs : match s with | .un => True | .va _ => True | _ => False) : put e i (.v (.d x)) = some (e.set i (.va (.d x))) := by
  unfold put
  rw [h]
  cases s <;> first | rfl | exact hs.elim
theorem turn_one {B : Nat → PyData → Prop} {kr n j ib it : Nat} {b x : PyData} {e : Env} (T : TurnR call kr B) (hne : ib ≠ it) (hb : e[ib]? = some (.ow b)) (ht : e[it]? = some .un) (hj : j < 1000000) (hB : B j b) : ∃ b', B (j + 1) b' ∧ cmpOne (ev call clo (n + 2)) (.lit (.d (.int 1))) (.nm it) [.no (.call kr [.var ib])] [it] x e = some (.ok [] (e.set ib (.ow b'))) := by
  obtain ⟨b', h1, h2⟩ := T.run j b hj hB
  refine ⟨b', h1, ?_⟩
  have hl : it < e.length := (List.getElem?_eq_some_iff.mp ht).1
  have hlb : ib < e.length := (List.getElem?_eq_some_iff.mp hb).1
  unfold cmpOne
  rw [bindT, put_un ht trivial]
  have hb2 : (e.set it (.va (.d x)))[ib]? = some (.ow b) := by rw [List.getElem?_set_ne (Ne.symm hne)]; exact hb
  have hc : ev call clo (n + 1) false (.call kr [.var ib]) (e.set it (.va (.d x))) = some (.ok (.v (.d (.bool true))) ((e.set it (.va (.d x))).set ib (.ow b'))) := by
    refine call_of (os := [.sl ib]) (e1 := e.set it (.va (.d x))) (as := [.le b]) ?_ ?_ h2 ?_
    · have hp : peek (e.set it (.va (.d x))) ib = some (.d b) := by
        unfold peek
        rw [hb2]
        rfl
      show R.bind (match peek (e.set it (.va (.d x))) ib with | some _ => some (Ou.ok (Op.sl ib) (e.set it (.va (.d x)))) | none => none) _ = _
      rw [hp]
      rfl
    · unfold argsOf
      rw [hb2]
      rfl
    · unfold backTo
      rw [show backTo (e.set it (.va (.d x))) [] [] = some (e.set it (.va (.d x))) from rfl, hb2]
      rfl
  have hc2 : ev call clo (n + 1) true (.call kr [.var ib]) (e.set it (.va (.d x))) = some (.ok (.v (.d (.bool true))) ((e.set it (.va (.d x))).set ib (.ow b'))) := by
    have z : ev call clo (n + 1) true (.call kr [.var ib]) (e.set it (.va (.d x))) = tested true (ev call clo (n + 1) false (.call kr [.var ib]) (e.set it (.va (.d x)))) := rfl
    rw [z, hc]
    rfl
  have hi : evIfs (ev call clo (n + 2)) [.no (.call kr [.var ib])] (e.set it (.va (.d x))) = some (.ok false ((e.set it (.va (.d x))).set ib (.ow b'))) := by
    show R.bind (R.bind (ev call clo (n + 1) true (.call kr [.var ib]) (e.set it (.va (.d x)))) _) _ = _
    rw [hc2]
    rfl
  show R.bind (evIfs _ _ (e.set it (.va (.d x)))) _ = _
  rw [hi]
  show some (Ou.ok [] (wipeE _ [it])) = _
  have hw : wipeE ((e.set it (.va (.d x))).set ib (.ow b')) [it] = e.set ib (.ow b') := by
    show ((e.set it (.va (.d x))).set ib (.ow b')).set it .un = _
    rw [List.set_comm _ _ (Ne.symm hne), List.set_set, List.set_comm _ _ hne]
    congr 1
    refine List.ext_getElem? fun m => ?_
    by_cases hm : m = it
    · rw [hm, List.getElem?_set_self hl, ht]
    · rw [List.getElem?_set_ne (Ne.symm hm)]
  rw [hw]
theorem turns {B : Nat → PyData → Prop} {kr n ib it : Nat} {one : PyData → Env → R (List PyData)} (T : TurnR call kr B) (hne : ib ≠ it) (ho : one = cmpOne (ev call clo (n + 2)) (.lit (.d (.int 1))) (.nm it) [.no (.call kr [.var ib])] [it]) : ∀ (xs : List PyData) (j : Nat) (b : PyData) (e : Env), j + xs.length ≤ 1000000 → e[ib]? = some (.ow b) → e[it]? = some .un → B j b → ∃ b', B (j + xs.length) b' ∧ cmpGo one xs e = some (.ok [] (e.set ib (.ow b')))
  | [], j, b, e, hj, hb, ht, hB => ⟨b, hB, by rw [set_here hb]; rfl⟩
  | x :: xs, j, b, e, hj, hb, ht, hB => by
    rw [List.length_cons] at hj
    have hlb : ib < e.length := (List.getElem?_eq_some_iff.mp hb).1
    obtain ⟨b1, h1, h2⟩ := turn_one (clo := clo) (n := n) (x := x) T hne hb ht (by omega) hB
    obtain ⟨b2, h3, h4⟩ := turns T hne ho xs (j + 1) b1 (e.set ib (.ow b1)) (by omega) (by rw [List.getElem?_set_self hlb]) (by rw [List.getElem?_set_ne hne]; exact ht) h1
    refine ⟨b2, by rw [List.length_cons, show j + (xs.length + 1) = j + 1 + xs.length by omega]; exact h3, ?_⟩
    rw [ho] at h4 ⊢
    show R.bind (cmpOne _ _ _ _ _ x e) _ = _
    rw [h2]
    show R.bind (cmpGo _ xs (e.set ib (.ow b1))) _ = _
    rw [h4]
    show some (Ou.ok ([] ++ []) _) = _
    rw [List.set_set]
    rfl
end
end Ev.Pl
set_option Elab.async false
set_option linter.all false
set_option maxRecDepth 100000
set_option maxHeartbeats 4000000
/-! EvPc: a law's loop. -/
namespace Ev.Pl
open PySem Ev
section
variable {call : Nat → Env → Option CO} {clo : Nat → List (Option PyData) → Option CO} {sub : Nat → Nat → Bool}
theorem rng_len (m : Nat) : (rangeI 0 m).length = m := by
  unfold rangeI
  rw [List.length_map, List.length_range]
theorem rng_mem {m : Nat} {x : PyData} (h : x ∈ rangeI 0 m) : ∃ i : Nat, i < m ∧ x = .int i := by
  unfold rangeI at h
  obtain ⟨i, h1, rfl⟩ := List.mem_map.mp h
  exact ⟨i, List.mem_range.mp h1, by simp⟩
theorem iRng_ok {m : Nat} (h : m < 1000000) : iRng [.d (.int m)] = some (rangeI 0 m) := by
  have h1 : (m : Int) < 1000000 := by omega
  have h2 : (-1000000 : Int) < (m : Int) := by omega
  simp only [iRng, h1, h2, and_self, if_true, Int.toNat_natCast]
theorem ops_cons {n : Nat} {x : E} {xs : List E} {o : Op} {os : List Op} {e e1 e2 : Env} (h : evOp (ev call clo n) x e = some (.ok o e1)) (h2 : evOps (ev call clo n) xs e1 = some (.ok os e2)) : evOps (ev call clo n) (x :: xs) e = some (.ok (o :: os) e2) := by
  show R.bind (evOp (ev call clo n) x e) (fun o e1 => R.bind (evOps (ev call clo n) xs e1) fun os e2 => some (Ou.ok (o :: os) e2)) = _
  rw [h]
  show R.bind (evOps (ev call clo n) xs e1) _ = _
  rw [h2]
  rfl
theorem ops_nil {n : Nat} {e : Env} : evOps (ev call clo n) [] e = some (.ok [] e) := rfl
theorem op_lit {n : Nat} {w : Wd} {e : Env} : evOp (ev call clo (n + 1)) (.lit w) e = some (.ok (.rs (.v w)) e) := rfl
theorem op_var {n i : Nat} {w : Wd} {e : Env} (h : peek e i = some w) : evOp (ev call clo n) (.var i) e = some (.ok (.sl i) e) := by
  show (match peek e i with | some _ => some (Ou.ok (Op.sl i) e) | none => none) = _
  rw [h]
theorem op_of {n : Nat} {x : E} {r : Rs} {e e1 : Env} (hx : ∀ i, x ≠ .var i) (h : ev call clo n false x e = some (.ok r e1)) : evOp (ev call clo n) x e = some (.ok (.rs r) e1) := by
  cases x <;> first | exact absurd rfl (hx _) | (show R.bind (ev call clo n false _ e) (fun r e' => some (Ou.ok (Op.rs r) e')) = _; rw [h]; rfl)
theorem prim_of {n : Nat} {p : P} {es : List E} {os : List Op} {ws : List Wd} {r : Rs} {e e1 : Env} (h1 : evOps (ev call clo n) es e = some (.ok os e1)) (h2 : opsW e1 os = some ws) (h3 : p.run ws = some r) : ev call clo (n + 1) false (.prim p es) e = some (.ok r e1) := by
  show R.bind (evOps (ev call clo n) es e) (eRun p) = _
  rw [h1]
  show eRun p os e1 = _
  unfold eRun
  rw [h2]
  show (match p.run ws with | some r => some (Ou.ok r e1) | none => none) = _
  rw [h3]
theorem cmp_eq {n : Nat} {elt : E} {t : T} {it : It} {src ifs : List E} {own : List Nat} {e : Env} : ev call clo (n + 1) false (.cmp elt t it src ifs own) e = R.bind (evIt (ev call clo n) it src e) (eCmpL (cmpOne (ev call clo n) elt t ifs own) own) := rfl
theorem primT {n : Nat} {p : P} {es : List E} {r : Rs} {b : Bool} {e e1 : Env} (h : ev call clo (n + 1) false (.prim p es) e = some (.ok r e1)) (hb : truth r.w = some b) : ev call clo (n + 1) true (.prim p es) e = some (.ok (.v (.d (.bool b))) e1) := by
  have z : ev call clo (n + 1) true (.prim p es) e = tested true (ev call clo (n + 1) false (.prim p es) e) := rfl
  rw [z, h]
  show (match truth r.w with | some b => some (Ou.ok (Rs.v (.d (.bool b))) e1) | none => none) = _
  rw [hb]
theorem cmpL_eq {one : PyData → Env → R (List PyData)} {own : List Nat} {xs : List PyData × List (Nat × Bool)} {e1 : Env} : eCmpL one own xs e1 = R.bind (noEr (cmpGo one xs.1 (wipeE e1 own))) (eEnd own e1 xs.2) := rfl
theorem rbind_ok {α β : Type} {a : α} {e : Env} {f : α → Env → R β} : R.bind (some (.ok a e)) f = f a e := rfl
theorem noEr_ok {α : Type} {a : α} {e : Env} : noEr (some (.ok a e) : R α) = some (.ok a e) := rfl
theorem itm_rng {T : Nat} (hT : T < 1000000) : itemsOf .rng [.d (.int T)] = some (rangeI 0 T) := by
  rw [show itemsOf .rng = iRng from rfl]
  exact iRng_ok hT
theorem it_of {rec : Ev} {it : It} {src : List E} {os : List Op} {ws : List Wd} {xs : List PyData} {e : Env} (h1 : evOps rec src e = some (.ok os e)) (h2 : opsW e os = some ws) (h3 : itemsOf it ws = some xs) (h4 : lockOps e os = (e, [])) : evIt rec it src e = some (.ok (xs, []) e) := by
  unfold evIt
  rw [h1]
  show evIt2 it os e = _
  unfold evIt2
  rw [h2]
  simp only [h3, h4]
/-- if [1 for turn in range(T) if not right(bag)] != []: return False -/
theorem turns_ife {B : Nat → PyData → Prop} {kr n ib it T : Nat} {b : PyData} {e : Env} (Tr : TurnR call kr B) (hT : T < 1000000) (hne : ib ≠ it) (hb : e[ib]? = some (.ow b)) (ht : e[it]? = some .un) (hB : B 0 b) : ∃ b', B T b' ∧
    exs call clo sub (n + 5) [.ife (.prim .ne [.cmp (.lit (.d (.int 1))) (.nm it) .rng [.lit (.d (.int T))] [.no (.call kr [.var ib])] [it], .lst []]) [.ret (.lit (.d (.bool false)))] []] e = some (.ok .nx (e.set ib (.ow b'))) := by
  have hl : it < e.length := (List.getElem?_eq_some_iff.mp ht).1
  have hw : ∀ f : Env, f[it]? = some .un → f.set it .un = f := fun f h => set_here h
  obtain ⟨b', h1, h2⟩ := turns (clo := clo) (n := n) (one := cmpOne (ev call clo (n + 2)) (.lit (.d (.int 1))) (.nm it) [.no (.call kr [.var ib])] [it]) Tr hne rfl (rangeI 0 T) 0 b e (by rw [rng_len]; omega) hb ht hB
  rw [rng_len, Nat.zero_add] at h1
  refine ⟨b', h1, ?_⟩
  have ht2 : (e.set ib (.ow b'))[it]? = some .un := by rw [List.getElem?_set_ne hne]; exact ht
  have hc : ev call clo (n + 3) false (.cmp (.lit (.d (.int 1))) (.nm it) .rng [.lit (.d (.int T))] [.no (.call kr [.var ib])] [it]) e = some (.ok (.o (.list [])) (e.set ib (.ow b'))) := by
    have hi : evIt (ev call clo (n + 2)) .rng [.lit (.d (.int T))] e = some (.ok (rangeI 0 T, []) e) := by
      have q1 : evOps (ev call clo (n + 2)) [.lit (.d (.int T))] e = some (.ok [.rs (.v (.d (.int T)))] e) := rfl
      have q2 : opsW e [.rs (.v (.d (.int T)))] = some [.d (.int T)] := rfl
      have q3 : itemsOf .rng [.d (.int T)] = some (rangeI 0 T) := itm_rng hT
      have q4 : lockOps e [.rs (.v (.d (.int T)))] = (e, []) := rfl
      exact it_of q1 q2 q3 q4
    have w1 : wipeE e [it] = e := hw e ht
    rw [cmp_eq, hi, rbind_ok, cmpL_eq]
    simp only [w1]
    rw [h2, noEr_ok, rbind_ok]
    unfold eEnd
    rw [if_pos (by decide)]
    have bk : backE e (e.set ib (.ow b')) [it] = e.set ib (.ow b') := by
      unfold backE
      rw [ht]
      exact hw _ ht2
    rw [bk]
    rfl
  refine ife_no1 (n := n + 3) (x := .prim .ne [.cmp (.lit (.d (.int 1))) (.nm it) .rng [.lit (.d (.int T))] [.no (.call kr [.var ib])] [it], .lst []]) ?_
  refine primT (prim_of (ops_cons (op_of (fun i z => by cases z) hc) (ops_cons (op_of (r := .o (.list [])) (fun i z => by cases z) ?_) ops_nil)) (ws := [.d (.list []), .d (.list [])]) rfl (r := .v (.d (.bool false))) ?_) ?_
  · rfl
  · rfl
  · rfl
/-- the bag is made -/
structure MakeR (call : Nat → Env → Option CO) (kb : Nat) (B : Nat → PyData → Prop) : Prop where
  run : ∀ ns (i : Nat), i < 2 ^ 60 → ∃ b, B 0 b ∧ call kb [.va (.sc ns), .va (.d (.int i))] = some (.ok (.o b) [.un, .un])
def putOk : Sl → Prop
  | .un => True | .va _ => True | .ow _ => True | _ => False
theorem put_at {e : Env} {i : Nat} {r : Rs} {s : Sl} (h : e[i]? = some s) (hs : putOk s) : put e i r = some (e.set i (match r with | .v w => .va w | .o x => .ow x)) := by
  unfold put
  rw [h]
  cases s <;> first | rfl | exact hs.elim
def loopBody (kb kr it : Nat) (T : Int) : List S := [.set (.nm 2) (.call kb [.var 0, .var 1]), .ife (.prim .ne [.cmp (.lit (.d (.int 1))) (.nm it) .rng [.lit (.d (.int T))] [.no (.call kr [.var 2])] [it], .lst []]) [.ret (.lit (.d (.bool false)))] []]
theorem loop_body {B : Nat → PyData → Prop} {kb kr n it T : Nat} {ns : List Int} {e : Env} {s2 : Sl} (M : MakeR call kb B) (Tr : TurnR call kr B) (hT : T < 1000000) {i : Nat} (hi : i < 2 ^ 60) (h0 : e[0]? = some (.va (.sc ns))) (h1 : e[1]? = some (.va (.d (.int i)))) (h2 : e[2]? = some s2) (p2 : putOk s2) (h2t : 2 < it) (ht : e[it]? = some .un) :
    ∃ b, B T b ∧ exs call clo sub (n + 5) (loopBody kb kr it T) e = some (.ok .nx (e.set 2 (.ow b))) := by
  obtain ⟨b, hb, hc⟩ := M.run ns i hi
  have l2 : 2 < e.length := (List.getElem?_eq_some_iff.mp h2).1
  have hcall : ev call clo (n + 4) false (.call kb [.var 0, .var 1]) e = some (.ok (.o b) e) := by
    refine call_of (os := [.sl 0, .sl 1]) (e1 := e) ?_ ?_ hc ?_
    · have q0 : peek e 0 = some (.sc ns) := by unfold peek; rw [h0]; rfl
      have q1 : peek e 1 = some (.d (.int i)) := by unfold peek; rw [h1]; rfl
      show R.bind (match peek e 0 with | some _ => some (Ou.ok (Op.sl 0) e) | none => none) _ = _
      rw [q0]
      show R.bind (R.bind (match peek e 1 with | some _ => some (Ou.ok (Op.sl 1) e) | none => none) _) _ = _
      rw [q1]
      rfl
    · show (match e[0]? with | some (.va w) => (match argsOf e [.sl 1] with | some as => some (Sl.va w :: as) | none => none) | some (.ls x) => _ | some (.ow x) => _ | some (.le x) => _ | some (.lk x) => _ | _ => none) = _
      rw [h0]
      have a1 : argsOf e [.sl 1] = some [.va (.d (.int i))] := by
        show (match e[1]? with | some (.va w) => (match argsOf e [] with | some as => some (Sl.va w :: as) | none => none) | some (.ls x) => _ | some (.ow x) => _ | some (.le x) => _ | some (.lk x) => _ | _ => none) = _
        rw [h1]
        rfl
      rw [a1]
    · have b1 : backTo e [.sl 1] [.un] = some e := by
        unfold backTo
        rw [show backTo e [] [] = some e from rfl, h1]
        rfl
      unfold backTo
      rw [b1, h0]
      rfl
  have hs : exs call clo sub (n + 5) [.set (.nm 2) (.call kb [.var 0, .var 1])] e = some (.ok .nx (e.set 2 (.ow b))) := set_of hcall (put_at (r := .o b) h2 p2)
  obtain ⟨b', hb', hi2⟩ := turns_ife (clo := clo) (sub := sub) (n := n) (ib := 2) (it := it) (T := T) (e := e.set 2 (.ow b)) (b := b) Tr hT (by omega) (by rw [List.getElem?_set_self l2]) (by rw [List.getElem?_set_ne (by omega)]; exact ht) hb
  refine ⟨b', hb', ?_⟩
  unfold loopBody
  rw [stmt_cons hs, hi2, List.set_set]
theorem fo_of {n : Nat} {t : T} {it : It} {src : List E} {body : List S} {e e1 e2 : Env} {xs : List PyData} (h : evIt (ev call clo n) it src e = some (.ok (xs, []) e1)) (h2 : foGo (foOne (exs call clo sub n) t body) xs e1 = some (.ok .nx e2)) : exs call clo sub (n + 1) [.fo t it src body] e = some (.ok .nx e2) := by
  rw [exs_one]
  show R.bind (evIt (ev call clo n) it src e) (sFo2 (exs call clo sub n) t body) = _
  rw [h]
  show unlkR [] (foGo (foOne (exs call clo sub n) t body) xs e1) = _
  rw [h2]
  rfl
theorem loop_go {B : Nat → PyData → Prop} {kb kr n it T : Nat} {ns : List Int} {e0 : Env} (M : MakeR call kb B) (Tr : TurnR call kr B) (hT : T < 1000000) (h0 : e0[0]? = some (.va (.sc ns))) (l2 : 2 < e0.length) (h2t : 2 < it) (ht : e0[it]? = some .un) :
    ∀ (xs : List PyData) (s1 s2 : Sl), (∀ x ∈ xs, ∃ i : Nat, i < 2 ^ 60 ∧ x = .int i) → putOk s1 → putOk s2 → (xs = [] → ∃ (i : Nat) (b : PyData), s1 = .va (.d (.int i)) ∧ s2 = .ow b ∧ B T b) →
      ∃ (i : Nat) (b : PyData), B T b ∧ foGo (foOne (exs call clo sub (n + 5)) (.nm 1) (loopBody kb kr it T)) xs ((e0.set 1 s1).set 2 s2) = some (.ok .nx ((e0.set 1 (.va (.d (.int i)))).set 2 (.ow b)))
  | [], s1, s2, _, _, _, hz => by
    obtain ⟨i, b, rfl, rfl, hb⟩ := hz rfl
    exact ⟨i, b, hb, rfl⟩
  | x :: xs, s1, s2, hx, p1, p2, _ => by
    obtain ⟨i, hi, rfl⟩ := hx x List.mem_cons_self
    have l1 : 1 < e0.length := by omega
    have g1 : ((e0.set 1 s1).set 2 s2)[1]? = some s1 := by rw [List.getElem?_set_ne (by decide), List.getElem?_set_self l1]
    have hbnd : bindT (.nm 1) (.int i) ((e0.set 1 s1).set 2 s2) = some ((e0.set 1 (.va (.d (.int i)))).set 2 s2) := by
      rw [bindT, put_at g1 p1]
      rw [List.set_comm _ _ (by decide), List.set_set]
    obtain ⟨b, hb, hr⟩ := loop_body (clo := clo) (sub := sub) (n := n) (it := it) (T := T) (ns := ns) (e := (e0.set 1 (.va (.d (.int i)))).set 2 s2) (s2 := s2) M Tr hT hi (by rw [List.getElem?_set_ne (by decide), List.getElem?_set_ne (by decide)]; exact h0) (by rw [List.getElem?_set_ne (by decide), List.getElem?_set_self l1]) (by rw [List.getElem?_set_self (by rw [List.length_set]; exact l2)]) p2 h2t (by rw [List.getElem?_set_ne (by omega), List.getElem?_set_ne (by omega)]; exact ht)
    rw [List.set_set] at hr
    obtain ⟨i2, b2, hb2, hr2⟩ := loop_go M Tr hT h0 l2 h2t ht xs (.va (.d (.int i))) (.ow b) (fun y hy => hx y (List.mem_cons_of_mem _ hy)) trivial trivial (fun _ => ⟨i, b, rfl, rfl, hb⟩)
    refine ⟨i2, b2, hb2, ?_⟩
    show R.bind (foOne (exs call clo sub (n + 5)) (.nm 1) (loopBody kb kr it T) (.int i) ((e0.set 1 s1).set 2 s2)) _ = _
    unfold foOne
    rw [hbnd]
    show R.bind (exs call clo sub (n + 5) (loopBody kb kr it T) ((e0.set 1 (.va (.d (.int i)))).set 2 s2)) _ = _
    rw [hr]
    exact hr2
/-- for at in range(max(1, min(Z, len(script)))): .. -/
theorem loop_ok {B : Nat → PyData → Prop} {kb kr n it T Z : Nat} {ns : List Int} {e : Env} (M : MakeR call kb B) (Tr : TurnR call kr B) (hT : T < 1000000) (hZ0 : 0 < Z) (hZ : Z < 1000) (h0 : e[0]? = some (.va (.sc ns))) (h1 : e[1]? = some .un) (h2 : e[2]? = some .un) (h2t : 2 < it) (ht : e[it]? = some .un) :
    ∃ (i : Nat) (b : PyData), B T b ∧ exs call clo sub (n + 6) [.fo (.nm 1) .rng [.prim .max2 [.lit (.d (.int 1)), .prim .min2 [.lit (.d (.int Z)), .prim .len [.var 0]]]] (loopBody kb kr it T)] e = some (.ok .nx ((e.set 1 (.va (.d (.int i)))).set 2 (.ow b))) := by
  have l2 : 2 < e.length := (List.getElem?_eq_some_iff.mp h2).1
  obtain ⟨m, hm0, hm, he⟩ : ∃ m : Nat, 0 < m ∧ m < 1000 ∧ evIt (ev call clo (n + 5)) .rng [.prim .max2 [.lit (.d (.int 1)), .prim .min2 [.lit (.d (.int Z)), .prim .len [.var 0]]]] e = some (.ok (rangeI 0 m, []) e) := by
    have q0 : e[0]? = some (.va (.sc ns)) := h0
    obtain ⟨m, hm⟩ : ∃ m : Nat, (m : Int) = (if (if (ns.length : Int) < (Z : Int) then (ns.length : Int) else (Z : Int)) > 1 then (if (ns.length : Int) < (Z : Int) then (ns.length : Int) else (Z : Int)) else 1) := by
      by_cases h : (ns.length : Int) < (Z : Int)
      · rw [if_pos h]
        by_cases h3 : (ns.length : Int) > 1
        · rw [if_pos h3]; exact ⟨ns.length, rfl⟩
        · rw [if_neg h3]; exact ⟨1, rfl⟩
      · rw [if_neg h]
        by_cases h3 : (Z : Int) > 1
        · rw [if_pos h3]; exact ⟨Z, rfl⟩
        · rw [if_neg h3]; exact ⟨1, rfl⟩
    have hm1 : 0 < m ∧ m < 1000 := by
      by_cases h : (ns.length : Int) < (Z : Int)
      · rw [if_pos h] at hm
        by_cases h3 : (ns.length : Int) > 1
        · rw [if_pos h3] at hm; omega
        · rw [if_neg h3] at hm; omega
      · rw [if_neg h] at hm
        by_cases h3 : (Z : Int) > 1
        · rw [if_pos h3] at hm; omega
        · rw [if_neg h3] at hm; omega
    refine ⟨m, hm1.1, hm1.2, ?_⟩
    have p0 : peek e 0 = some (.sc ns) := by unfold peek; rw [h0]; rfl
    have g1 : (m : Int) < 1000000 := by omega
    have g2 : -1000000 < (m : Int) := by omega
    have z2 : opsW e [.sl 0] = some [.sc ns] := by
      show (match peek e 0, opsW e [] with | some w, some ws => some (w :: ws) | _, _ => none) = _
      rw [p0]
      rfl
    have hl : ev call clo (n + 3) false (.prim .len [.var 0]) e = some (.ok (.v (.d (.int ns.length))) e) := prim_of (ops_cons (op_var p0) ops_nil) z2 rfl
    have hmin : ev call clo (n + 4) false (.prim .min2 [.lit (.d (.int Z)), .prim .len [.var 0]]) e = some (.ok (.v (.d (.int (if (ns.length : Int) < (Z : Int) then (ns.length : Int) else (Z : Int))))) e) :=
      prim_of (ops_cons op_lit (ops_cons (op_of (fun i z => by cases z) hl) ops_nil)) (ws := [.d (.int Z), .d (.int ns.length)]) rfl rfl
    have hmax : ev call clo (n + 5) false (.prim .max2 [.lit (.d (.int 1)), .prim .min2 [.lit (.d (.int Z)), .prim .len [.var 0]]]) e = some (.ok (.v (.d (.int m))) e) :=
      prim_of (ops_cons op_lit (ops_cons (op_of (fun i z => by cases z) hmin) ops_nil)) (ws := [.d (.int 1), .d (.int (if (ns.length : Int) < (Z : Int) then (ns.length : Int) else (Z : Int)))]) rfl (by rw [hm]; rfl)
    have ho : evOps (ev call clo (n + 5)) [.prim .max2 [.lit (.d (.int 1)), .prim .min2 [.lit (.d (.int Z)), .prim .len [.var 0]]]] e = some (.ok [.rs (.v (.d (.int m)))] e) := ops_cons (op_of (fun i z => by cases z) hmax) ops_nil
    have q2 : opsW e [.rs (.v (.d (.int m)))] = some [.d (.int m)] := rfl
    have q3 : itemsOf .rng [.d (.int m)] = some (rangeI 0 m) := itm_rng (by omega)
    have q4 : lockOps e [.rs (.v (.d (.int m)))] = (e, []) := rfl
    exact it_of ho q2 q3 q4
  have he0 : (e.set 1 .un).set 2 .un = e := by
    rw [set_here h1, set_here h2]
  obtain ⟨i, b, hb, hr⟩ := loop_go (clo := clo) (sub := sub) (n := n) (it := it) (T := T) M Tr hT h0 l2 h2t ht (rangeI 0 m) .un .un (fun x hx => by
    obtain ⟨i, h, rfl⟩ := rng_mem hx
    exact ⟨i, by omega, rfl⟩) trivial trivial (fun z => by
    have y := congrArg List.length z
    rw [rng_len] at y
    simp at y
    omega)
  rw [he0] at hr
  exact ⟨i, b, hb, fo_of he hr⟩
end
end Ev.Pl
set_option Elab.async false
set_option linter.all false
set_option maxRecDepth 100000
set_option maxHeartbeats 4000000
/-! EvPd: more statements; the first family's bags. -/
namespace Ev.Pl
open PySem Ev
section
variable {call : Nat → Env → Option CO} {clo : Nat → List (Option PyData) → Option CO} {sub : Nat → Nat → Bool} {n : Nat} {e e1 e2 e3 : Env}
theorem par_of {is : List Nat} {es : List E} {ds : List PyData} (h : evGives (ev call clo n) es e = some (.ok ds e1)) (h2 : parV is ds e1 = some e2) : exs call clo sub (n + 1) [.par is es] e = some (.ok .nx e2) := by
  rw [exs_one]
  show R.bind (evGives (ev call clo n) es e) (sPar2 is) = _
  rw [h]
  show (match parV is ds e1 with | some e2 => some (Ou.ok Fl.nx e2) | none => none) = _
  rw [h2]
theorem no_of {x : E} {b : Bool} (h : ev call clo n true x e = some (.ok (.v (.d (.bool b))) e1)) : ev call clo (n + 1) true (.no x) e = some (.ok (.v (.d (.bool (!b)))) e1) := by
  show R.bind (ev call clo n true x e) _ = _
  rw [h]
  rfl
theorem ret_of {x : E} {r : Rs} (hx : ∀ i, x ≠ .var i) (h : ev call clo n false x e = some (.ok r e1)) : exs call clo sub (n + 1) [.ret x] e = some (.ok (.rt r) e1) := by
  rw [exs_one]
  cases x <;> first | exact absurd rfl (hx _) | (show R.bind (ev call clo n false _ e) rtR = _; rw [h]; rfl)
theorem mut_of {m : Mt} {i : Nat} {es : List E} {ds : List PyData} {r : Rs} (hl : lstAt e i = true) (h : evGives (ev call clo n) es e = some (.ok ds e1)) (h2 : eMut2 m i ds e1 = some (.ok r e2)) : ev call clo (n + 1) false (.mut m i es) e = some (.ok r e2) := by
  show (match lstAt e i with | true => R.bind (evGives (ev call clo n) es e) (eMut2 m i) | false => none) = _
  rw [hl]
  show R.bind (evGives (ev call clo n) es e) (eMut2 m i) = _
  rw [h]
  exact h2
theorem expr_of {x : E} {r : Rs} (h : ev call clo n false x e = some (.ok r e1)) : exs call clo sub (n + 1) [.expr x] e = some (.ok .nx e1) := by
  rw [exs_one]
  show R.bind (ev call clo n false x e) nxR = _
  rw [h]
  rfl
/-- for turn in range(T): if not right(bag): return False -/
def loopBodyC (kb kr it : Nat) (T : Int) : List S := [.set (.nm 2) (.call kb [.var 0, .var 1]), .fo (.nm it) .rng [.lit (.d (.int T))] [.ife (.no (.call kr [.var 2])) [.ret (.lit (.d (.bool false)))] []]]
theorem turnC {B : Nat → PyData → Prop} {kr n j : Nat} {b : PyData} (Tr : TurnR call kr B) (hb : e[2]? = some (.ow b)) (hj : j < 1000000) (hB : B j b) : ∃ b', B (j + 1) b' ∧ exs call clo sub (n + 3) [.ife (.no (.call kr [.var 2])) [.ret (.lit (.d (.bool false)))] []] e = some (.ok .nx (e.set 2 (.ow b'))) := by
  obtain ⟨b', h1, h2⟩ := Tr.run j b hj hB
  refine ⟨b', h1, ife_no1 (n := n + 1) (no_of (n := n + 1) (b := true) ?_)⟩
  have hp : peek e 2 = some (.d b) := by
    unfold peek
    rw [hb]
    rfl
  have z : ev call clo (n + 1) false (.call kr [.var 2]) e = some (.ok (.v (.d (.bool true))) (e.set 2 (.ow b'))) := by
    refine call_of (os := [.sl 2]) (e1 := e) (as := [.le b]) (ops_cons (op_var hp) ops_nil) ?_ h2 ?_
    · unfold argsOf
      rw [hb]
      rfl
    · unfold backTo
      rw [show backTo e [] [] = some e from rfl, hb]
      rfl
  have y : ev call clo (n + 1) true (.call kr [.var 2]) e = tested true (ev call clo (n + 1) false (.call kr [.var 2]) e) := rfl
  rw [y, z]
  rfl
theorem turnsC {B : Nat → PyData → Prop} {kr n it : Nat} (Tr : TurnR call kr B) (h2t : 2 < it) : ∀ (xs : List PyData) (j : Nat) (b : PyData) (s : Sl) (e : Env), j + xs.length ≤ 1000000 → e[2]? = some (.ow b) → e[it]? = some s → putOk s → B j b → (∀ x ∈ xs, ∃ i : Nat, x = .int i) → ((∃ i : Nat, s = .va (.d (.int i))) ∨ xs ≠ []) →
    ∃ (b' : PyData) (i : Nat), B (j + xs.length) b' ∧ foGo (foOne (exs call clo sub (n + 3)) (.nm it) [.ife (.no (.call kr [.var 2])) [.ret (.lit (.d (.bool false)))] []]) xs e = some (.ok .nx ((e.set it (.va (.d (.int i)))).set 2 (.ow b')))
  | [], j, b, s, e, hj, hb, hs, ps, hB, _, hz => by
    rcases hz with ⟨i, rfl⟩ | hz
    · refine ⟨b, i, hB, ?_⟩
      rw [set_here hs, set_here hb]
      rfl
    · exact absurd rfl hz
  | x :: xs, j, b, s, e, hj, hb, hs, ps, hB, hx, _ => by
    rw [List.length_cons] at hj
    have li : it < e.length := (List.getElem?_eq_some_iff.mp hs).1
    obtain ⟨i, rfl⟩ := hx x List.mem_cons_self
    have hbnd : bindT (.nm it) (.int i) e = some (e.set it (.va (.d (.int i)))) := by rw [bindT, put_at hs ps]
    have hb2 : (e.set it (.va (.d (.int i))))[2]? = some (.ow b) := by rw [List.getElem?_set_ne (by omega)]; exact hb
    obtain ⟨b1, h1, h2⟩ := turnC (clo := clo) (sub := sub) (n := n) Tr hb2 (by omega) hB
    have l2 : 2 < e.length := (List.getElem?_eq_some_iff.mp hb).1
    obtain ⟨b2, i2, h3, h4⟩ := turnsC Tr h2t xs (j + 1) b1 (.va (.d (.int i))) ((e.set it (.va (.d (.int i)))).set 2 (.ow b1)) (by omega) (by rw [List.getElem?_set_self (by rw [List.length_set]; exact l2)]) (by rw [List.getElem?_set_ne (by omega), List.getElem?_set_self li]) trivial h1 (fun y hy => hx y (List.mem_cons_of_mem _ hy)) (.inl ⟨i, rfl⟩)
    refine ⟨b2, i2, by rw [List.length_cons, show j + (xs.length + 1) = j + 1 + xs.length by omega]; exact h3, ?_⟩
    show R.bind (foOne (exs call clo sub (n + 3)) (.nm it) [.ife (.no (.call kr [.var 2])) [.ret (.lit (.d (.bool false)))] []] (.int i) e) _ = _
    unfold foOne
    rw [hbnd]
    show R.bind (exs call clo sub (n + 3) [.ife (.no (.call kr [.var 2])) [.ret (.lit (.d (.bool false)))] []] (e.set it (.va (.d (.int i))))) _ = _
    rw [h2]
    have w : ((e.set it (.va (.d (.int i)))).set 2 (.ow b1)).set it (.va (.d (.int i2))) = (e.set it (.va (.d (.int i2)))).set 2 (.ow b1) := by
      rw [List.set_comm _ _ (by omega), List.set_set]
    rw [w, List.set_set] at h4
    exact h4
theorem loopC_body {B : Nat → PyData → Prop} {kb kr n it T : Nat} {ns : List Int} {s2 st : Sl} (M : MakeR call kb B) (Tr : TurnR call kr B) (hT : T < 1000000) (hT0 : 0 < T) {i : Nat} (hi : i < 2 ^ 60) (h0 : e[0]? = some (.va (.sc ns))) (h1 : e[1]? = some (.va (.d (.int i)))) (h2 : e[2]? = some s2) (p2 : putOk s2) (h2t : 2 < it) (ht : e[it]? = some st) (pt : putOk st) :
    ∃ (b : PyData) (i2 : Nat), B T b ∧ exs call clo sub (n + 5) (loopBodyC kb kr it T) e = some (.ok .nx ((e.set it (.va (.d (.int i2)))).set 2 (.ow b))) := by
  obtain ⟨b, hb, hc⟩ := M.run ns i hi
  have l2 : 2 < e.length := (List.getElem?_eq_some_iff.mp h2).1
  have q0 : peek e 0 = some (.sc ns) := by unfold peek; rw [h0]; rfl
  have q1 : peek e 1 = some (.d (.int i)) := by unfold peek; rw [h1]; rfl
  have hcall : ev call clo (n + 4) false (.call kb [.var 0, .var 1]) e = some (.ok (.o b) e) := by
    refine call_of (os := [.sl 0, .sl 1]) (e1 := e) (ops_cons (op_var q0) (ops_cons (op_var q1) ops_nil)) ?_ hc ?_
    · have a1 : argsOf e [.sl 1] = some [.va (.d (.int i))] := by
        unfold argsOf
        rw [h1]
        rfl
      unfold argsOf
      rw [h0, a1]
    · have b1 : backTo e [.sl 1] [.un] = some e := by
        unfold backTo
        rw [show backTo e [] [] = some e from rfl, h1]
        rfl
      unfold backTo
      rw [b1, h0]
      rfl
  have hs : exs call clo sub (n + 5) [.set (.nm 2) (.call kb [.var 0, .var 1])] e = some (.ok .nx (e.set 2 (.ow b))) := set_of hcall (put_at (r := .o b) h2 p2)
  have ht2 : (e.set 2 (.ow b))[it]? = some st := by rw [List.getElem?_set_ne (by omega)]; exact ht
  obtain ⟨b', i2, hb', hr⟩ := turnsC (clo := clo) (sub := sub) (n := n + 1) (it := it) Tr h2t (rangeI 0 T) 0 b st (e.set 2 (.ow b)) (by rw [rng_len]; omega) (by rw [List.getElem?_set_self l2]) ht2 pt hb (fun x hx => by
    obtain ⟨i, _, rfl⟩ := rng_mem hx
    exact ⟨i, rfl⟩) (.inr fun z => by
    have y := congrArg List.length z
    rw [rng_len] at y
    simp at y
    omega)
  rw [rng_len, Nat.zero_add] at hb'
  have hit : evIt (ev call clo (n + 4)) .rng [.lit (.d (.int T))] (e.set 2 (.ow b)) = some (.ok (rangeI 0 T, []) (e.set 2 (.ow b))) := by
    have q1 : evOps (ev call clo (n + 4)) [.lit (.d (.int T))] (e.set 2 (.ow b)) = some (.ok [.rs (.v (.d (.int T)))] (e.set 2 (.ow b))) := ops_cons op_lit ops_nil
    exact it_of q1 rfl (itm_rng hT) rfl
  refine ⟨b', i2, hb', ?_⟩
  unfold loopBodyC
  rw [stmt_cons hs, fo_of hit hr]
  have w : ((e.set 2 (.ow b)).set it (.va (.d (.int i2)))).set 2 (.ow b') = (e.set it (.va (.d (.int i2)))).set 2 (.ow b') := by
    rw [List.set_comm _ _ (by omega : (2 : Nat) ≠ it), List.set_set]
  rw [w]
theorem loopC_go {B : Nat → PyData → Prop} {kb kr n it T : Nat} {ns : List Int} {e0 : Env} (M : MakeR call kb B) (Tr : TurnR call kr B) (hT : T < 1000000) (hT0 : 0 < T) (h0 : e0[0]? = some (.va (.sc ns))) (l2 : 2 < e0.length) (h2t : 2 < it) (lt : it < e0.length) :
    ∀ (xs : List PyData) (s1 s2 st : Sl), (∀ x ∈ xs, ∃ i : Nat, i < 2 ^ 60 ∧ x = .int i) → putOk s1 → putOk s2 → putOk st → (xs = [] → ∃ (i i2 : Nat) (b : PyData), s1 = .va (.d (.int i)) ∧ s2 = .ow b ∧ st = .va (.d (.int i2)) ∧ B T b) →
      ∃ (i i2 : Nat) (b : PyData), B T b ∧ foGo (foOne (exs call clo sub (n + 5)) (.nm 1) (loopBodyC kb kr it T)) xs (((e0.set it st).set 1 s1).set 2 s2) = some (.ok .nx (((e0.set it (.va (.d (.int i2)))).set 1 (.va (.d (.int i)))).set 2 (.ow b)))
  | [], s1, s2, st, _, _, _, _, hz => by
    obtain ⟨i, i2, b, rfl, rfl, rfl, hb⟩ := hz rfl
    exact ⟨i, i2, b, hb, rfl⟩
  | x :: xs, s1, s2, st, hx, p1, p2, pt, _ => by
    obtain ⟨i, hi, rfl⟩ := hx x List.mem_cons_self
    have l1 : 1 < e0.length := by omega
    have g1 : (((e0.set it st).set 1 s1).set 2 s2)[1]? = some s1 := by rw [List.getElem?_set_ne (by decide), List.getElem?_set_self (by rw [List.length_set]; exact l1)]
    have hbnd : bindT (.nm 1) (.int i) (((e0.set it st).set 1 s1).set 2 s2) = some (((e0.set it st).set 1 (.va (.d (.int i)))).set 2 s2) := by
      rw [bindT, put_at g1 p1]
      rw [List.set_comm _ _ (by decide : (2 : Nat) ≠ 1), List.set_set]
    obtain ⟨b, i2, hb, hr⟩ := loopC_body (clo := clo) (sub := sub) (n := n) (it := it) (T := T) (ns := ns) (e := ((e0.set it st).set 1 (.va (.d (.int i)))).set 2 s2) (s2 := s2) (st := st) M Tr hT hT0 hi (by rw [List.getElem?_set_ne (by decide), List.getElem?_set_ne (by decide), List.getElem?_set_ne (by omega)]; exact h0) (by rw [List.getElem?_set_ne (by decide), List.getElem?_set_self (by rw [List.length_set]; exact l1)]) (by rw [List.getElem?_set_self (by rw [List.length_set, List.length_set]; exact l2)]) p2 h2t (by rw [List.getElem?_set_ne (by omega), List.getElem?_set_ne (by omega), List.getElem?_set_self lt]) pt
    have w : ((((e0.set it st).set 1 (.va (.d (.int i)))).set 2 s2).set it (.va (.d (.int i2)))).set 2 (.ow b) = ((e0.set it (.va (.d (.int i2)))).set 1 (.va (.d (.int i)))).set 2 (.ow b) := by
      rw [List.set_comm _ _ (by omega : (2 : Nat) ≠ it), List.set_set, List.set_comm _ _ (by omega : (1 : Nat) ≠ it), List.set_set]
    rw [w] at hr
    obtain ⟨j, j2, b2, hb2, hr2⟩ := loopC_go M Tr hT hT0 h0 l2 h2t lt xs (.va (.d (.int i))) (.ow b) (.va (.d (.int i2))) (fun y hy => hx y (List.mem_cons_of_mem _ hy)) trivial trivial trivial (fun _ => ⟨i, i2, b, rfl, rfl, rfl, hb⟩)
    refine ⟨j, j2, b2, hb2, ?_⟩
    show R.bind (foOne (exs call clo sub (n + 5)) (.nm 1) (loopBodyC kb kr it T) (.int i) (((e0.set it st).set 1 s1).set 2 s2)) _ = _
    unfold foOne
    rw [hbnd]
    show R.bind (exs call clo sub (n + 5) (loopBodyC kb kr it T) (((e0.set it st).set 1 (.va (.d (.int i)))).set 2 s2)) _ = _
    rw [hr]
    exact hr2
end
end Ev.Pl
namespace Ev.FamA
open PySem Ev
abbrev bag (g a c : Int) : PyData := bagA g a c
theorem one_ok {p : Prg} {d k k1 : Nat} (hk : p.defs[k]? = some drawA) (hk1 : p.defs[k1]? = some (oneOf k)) (g a c : Int) (items : List PyData) (hi : 0 < items.length) (hi2 : items.length < 2 ^ 60) (hc : 0 ≤ c) (hc2 : c < 2 ^ 60) :
    ∃ x ∈ items, ∃ g' c' : Int, 0 ≤ c' ∧ c' ≤ c + 1 ∧ callD p (d + 2) k1 [.le (bag g a c), .va (.d (.list items))] = some (.ok (.v (.d x)) [.le (bag g' a c'), .un]) := oneA_ok hk hk1 g a c items hi hi2 hc hc2
theorem bag_ok {p : Prg} {d k : Nat} (hk : p.defs[k]? = some bagDA) (ns : List Int) (i : Nat) (hi : i < 2 ^ 60) : ∃ g a c : Int, 0 ≤ c ∧ c ≤ 0 ∧ callD p (d + 1) k [.va (.sc ns), .va (.d (.int i))] = some (.ok (.o (bag g a c)) [.un, .un]) := by
  obtain ⟨g, a, h⟩ := bagA_ok (d := d) hk ns i hi
  exact ⟨g, a, 0, by omega, by omega, h⟩
end Ev.FamA
set_option Elab.async false
set_option linter.all false
set_option maxRecDepth 100000
set_option maxHeartbeats 4000000
/-! EvPe: the loop with a loop in it; more families of bags. -/
namespace Ev.FamC
open PySem Ev
def drawA : Df := { np := 2, star := false, ns := 5, body := [(.ife (.prim .gt [(.prim .idx [(.var 0), (.lit (.d (.int 0)))]), (.lit (.d (.int 0)))]) [(.set (.nm 2) (.prim .mod [(.prim .int [(.prim .idx [(.var 0), (.lit (.d (.int 0)))])]), (.var 1)])), (.six 0 (.lit (.d (.int 0))) (.prim .fdiv [(.prim .idx [(.var 0), (.lit (.d (.int 0)))]), (.var 1)])), (.ret (.var 2))] []),
  (.six 0 (.lit (.d (.int 2))) (.prim .add [(.prim .idx [(.var 0), (.lit (.d (.int 2)))]), (.lit (.d (.int 1)))])),
  (.set (.nm 3) (.prim .mod [(.prim .int [(.prim .add [(.prim .idx [(.var 0), (.lit (.d (.int 1)))]), (.prim .mul [(.lit (.d (.int 67867967))), (.prim .idx [(.var 0), (.lit (.d (.int 2)))])])])]), (.lit (.d (.int 2305843009213693951)))])),
  (.set (.nm 4) (.prim .add [(.prim .mul [(.prim .mod [(.prim .int [(.prim .add [(.prim .mul [(.var 3), (.var 3)]), (.prim .mul [(.lit (.d (.int 109))), (.prim .idx [(.var 0), (.lit (.d (.int 2)))])])])]), (.lit (.d (.int 2305843009213693921)))]), (.lit (.d (.int 5999993)))]), (.var 3)])),
  (.ret (.prim .mod [(.prim .int [(.prim .fdiv [(.var 4), (.lit (.d (.int 65537)))])]), (.var 1)]))] }
section
variable {call : Nat → Env → Option CO} {clo : Nat → List (Option PyData) → Option CO} {sub : Nat → Nat → Bool}
theorem drawA_1 (g a c n : Int) (h : 0 < g) (hn : 0 < n) (hn2 : n.natAbs < 2 ^ 200) : exs call clo sub fuel drawA.body [.le (.list [.int g, .int a, .int c]), .va (.d (.int n)), .un, .un, .un] = some (.ok (.rt (.v (.d (.int (g % n))))) [.le (.list [.int (g / n), .int a, .int c]), .va (.d (.int n)), .va (.d (.int (g % n))), .un, .un]) := by
  have l := log_small hn2
  simp [drawA, h, hn, l, fuel, exs, exGo, stepS, sIfe, sIfe2, ev, stepE, ePrim, evOps, evOp, peek, Sl.peek, R.bind, eRun, opsW, Op.w, Rs.w, P.run, qGt_int, qLt_int, qIdx, L2.atI, L2.ixN, tested, vI, vB, contS, truth, sSet, sSet2, storeT, put, qMod, qAdd, qSub, qMul, qInt, qFdiv, sSix, sSix2, storeAt, setAt, evGive, Wd.data, sRet, moved, take, rtR]
theorem drawA_2 (g a c n : Int) (h : ¬ 0 < g) (hn : 0 < n) (hc : 0 ≤ c) (hc2 : c < 2 ^ 60) : ∃ i t3 t4 : Int, 0 ≤ i ∧ i < n ∧ exs call clo sub fuel drawA.body [.le (.list [.int g, .int a, .int c]), .va (.d (.int n)), .un, .un, .un] = some (.ok (.rt (.v (.d (.int i)))) [.le (.list [.int g, .int a, .int (c + 1)]), .va (.d (.int n)), .un, .va (.d (.int t3)), .va (.d (.int t4))]) := by
  have m1 : mulOk 67867967 (c + 1) = true := mulOk_small (by decide) (by have : (2 : Nat) ^ 60 < 2 ^ 200 := Nat.pow_lt_pow_right (by decide) (by decide); omega)
  have m2 : mulOk 109 (c + 1) = true := mulOk_small (by decide) (by have : (2 : Nat) ^ 60 < 2 ^ 200 := Nat.pow_lt_pow_right (by decide) (by decide); omega)
  generalize ho : (a + 67867967 * (c + 1)) % 2305843009213693951 = one
  have o0 : 0 ≤ one := by rw [← ho]; exact Int.emod_nonneg _ (by decide)
  have o1 : one < 2305843009213693951 := by rw [← ho]; exact Int.emod_lt_of_pos _ (by decide)
  have m3 : mulOk one one = true := mulOk_small (by have : (2 : Nat) ^ 63 < 2 ^ 200 := Nat.pow_lt_pow_right (by decide) (by decide); omega) (by have : (2 : Nat) ^ 63 < 2 ^ 200 := Nat.pow_lt_pow_right (by decide) (by decide); omega)
  generalize ht : (one * one + 109 * (c + 1)) % 2305843009213693921 = two
  have t0 : 0 ≤ two := by rw [← ht]; exact Int.emod_nonneg _ (by decide)
  have t1 : two < 2305843009213693921 := by rw [← ht]; exact Int.emod_lt_of_pos _ (by decide)
  have m4 : mulOk two 5999993 = true := mulOk_small (by have : (2 : Nat) ^ 63 < 2 ^ 200 := Nat.pow_lt_pow_right (by decide) (by decide); omega) (by decide)
  refine ⟨(two * 5999993 + one) / 65537 % n, one, two * 5999993 + one, Int.emod_nonneg _ (by omega), Int.emod_lt_of_pos _ hn, ?_⟩
  have l : Nat.log2 65537 < 9000 := by decide +kernel
  simp [drawA, h, hn, l, m1, m2, m3, m4, ho, ht, fuel, exs, exGo, stepS, sIfe, sIfe2, ev, stepE, ePrim, evOps, evOp, peek, Sl.peek, R.bind, eRun, opsW, Op.w, Rs.w, P.run, qGt_int, qLt_int, qIdx, L2.atI, L2.ixN, tested, vI, vB, contS, truth, sSet, sSet2, storeT, put, qMod, qAdd, qSub, qMul, qInt, qFdiv, sSix, sSix2, storeAt, setAt, evGive, Wd.data, sRet, moved, take, rtR]
end
theorem drawA_ok {p : Prg} {d k : Nat} (hk : p.defs[k]? = some drawA) (g a c n : Int) (hn : 0 < n) (hn2 : n.natAbs < 2 ^ 200) (hc : 0 ≤ c) (hc2 : c < 2 ^ 60) : ∃ i g' c' : Int, 0 ≤ i ∧ i < n ∧ 0 ≤ c' ∧ c' ≤ c + 1 ∧ callD p (d + 1) k [.le (bagA g a c), .va (.d (.int n))] = some (.ok (.v (.d (.int i))) [.le (bagA g' a c'), .un]) := by
  by_cases h : 0 < g
  · refine ⟨g % n, g / n, c, Int.emod_nonneg _ (by omega), Int.emod_lt_of_pos _ hn, hc, by omega, ?_⟩
    rw [callD, hk]
    have z := drawA_1 (call := callD p d) (clo := cloD p d) (sub := p.sub) g a c n h hn hn2
    simp only [starArgs, show drawA.star = false from rfl, show drawA.np = 2 from rfl, show drawA.ns = 5 from rfl, List.length_cons, List.length_nil, if_true]
    show fin _ (exs _ _ _ fuel drawA.body [.le (bagA g a c), .va (.d (.int n)), .un, .un, .un]) = _
    rw [z]
    rfl
  · obtain ⟨i, t3, t4, h0, h1, z⟩ := drawA_2 (call := callD p d) (clo := cloD p d) (sub := p.sub) g a c n h hn hc hc2
    refine ⟨i, g, c + 1, h0, h1, by omega, by omega, ?_⟩
    rw [callD, hk]
    simp only [starArgs, show drawA.star = false from rfl, show drawA.np = 2 from rfl, show drawA.ns = 5 from rfl, List.length_cons, List.length_nil, if_true]
    show fin _ (exs _ _ _ fuel drawA.body [.le (bagA g a c), .va (.d (.int n)), .un, .un, .un]) = _
    rw [z]
    rfl
def bagDA : Df := { np := 2, star := false, ns := 4, body := [(.set (.nm 2) (.ife (.prim .lt [(.var 1), (.prim .len [(.var 0)])]) (.prim .int [(.prim .idx [(.var 0), (.var 1)])]) (.prim .add [(.prim .mul [(.lit (.d (.int 113))), (.var 1)]), (.lit (.d (.int 59)))]))),
  (.set (.nm 3) (.prim .mod [(.prim .max2 [(.lit (.d (.int 0))), (.prim .sub [(.prim .abs [(.var 2)]), (.prim .pow [(.lit (.d (.int 10))), (.lit (.d (.int 17)))])])]), (.prim .mul [(.prim .pow [(.lit (.d (.int 10))), (.lit (.d (.int 58)))]), (.prim .pow [(.lit (.d (.int 10))), (.lit (.d (.int 59)))])])])),
  (.ret (.lst [(.var 3), (.prim .add [(.prim .add [(.prim .add [(.prim .mul [(.prim .mod [(.prim .abs [(.var 2)]), (.lit (.d (.int 1152921504606847009)))]), (.lit (.d (.int 103)))]), (.prim .mul [(.lit (.d (.int 1013))), (.var 1)])]), (.prim .mul [(.lit (.d (.int 71))), (.prim .int [(.prim .lt [(.var 2), (.lit (.d (.int 0)))])])])]), (.lit (.d (.int 13)))]), (.lit (.d (.int 0)))]))] }
section
variable {call : Nat → Env → Option CO} {clo : Nat → List (Option PyData) → Option CO} {sub : Nat → Nat → Bool}
theorem bagA_1 (ns : List Int) (i : Nat) (hi : i < 2 ^ 60) : ∃ cell : Int, exs call clo sub fuel [(.set (.nm 2) (.ife (.prim .lt [(.var 1), (.prim .len [(.var 0)])]) (.prim .int [(.prim .idx [(.var 0), (.var 1)])]) (.prim .add [(.prim .mul [(.lit (.d (.int 113))), (.var 1)]), (.lit (.d (.int 59)))])))] [.va (.sc ns), .va (.d (.int i)), .un, .un] = some (.ok .nx [.va (.sc ns), .va (.d (.int i)), .va (.d (.int cell)), .un]) := by
  by_cases h : i < ns.length
  · have hx : ns[i]? = some ns[i] := List.getElem?_eq_getElem h
    refine ⟨ns[i], ?_⟩
    simp [h, hx, eIfe, qLen, fuel, exs, exGo, stepS, sIfe, sIfe2, ev, stepE, ePrim, evOps, evOp, peek, Sl.peek, R.bind, eRun, opsW, Op.w, Rs.w, P.run, qGt_int, qLt_int, qIdx, L2.atI, L2.ixN, tested, vI, vB, contS, truth, sSet, sSet2, storeT, put, qMod, qAdd, qSub, qMul, qInt, qFdiv, sSix, sSix2, storeAt, setAt, evGive, Wd.data, sRet, moved, take, rtR]
  · refine ⟨113 * i + 59, ?_⟩
    have m : mulOk 113 (i : Int) = true := mulOk_small (by decide) (by have : (2 : Nat) ^ 60 < 2 ^ 200 := Nat.pow_lt_pow_right (by decide) (by decide); omega)
    simp [h, m, eIfe, qLen, fuel, exs, exGo, stepS, sIfe, sIfe2, ev, stepE, ePrim, evOps, evOp, peek, Sl.peek, R.bind, eRun, opsW, Op.w, Rs.w, P.run, qGt_int, qLt_int, qIdx, L2.atI, L2.ixN, tested, vI, vB, contS, truth, sSet, sSet2, storeT, put, qMod, qAdd, qSub, qMul, qInt, qFdiv, sSix, sSix2, storeAt, setAt, evGive, Wd.data, sRet, moved, take, rtR]
theorem bagA_2 (sc : Wd) (i cell : Int) : ∃ g : Int, exs call clo sub fuel [(.set (.nm 3) (.prim .mod [(.prim .max2 [(.lit (.d (.int 0))), (.prim .sub [(.prim .abs [(.var 2)]), (.prim .pow [(.lit (.d (.int 10))), (.lit (.d (.int 17)))])])]), (.prim .mul [(.prim .pow [(.lit (.d (.int 10))), (.lit (.d (.int 58)))]), (.prim .pow [(.lit (.d (.int 10))), (.lit (.d (.int 59)))])])]))] [.va sc, .va (.d (.int i)), .va (.d (.int cell)), .un] = some (.ok .nx [.va sc, .va (.d (.int i)), .va (.d (.int cell)), .va (.d (.int g))]) := by
  exact ⟨_, rfl⟩
theorem bagA_3 (sc : Wd) (i : Nat) (hi : i < 2 ^ 60) (cell g : Int) : ∃ a : Int, exs call clo sub fuel [(.ret (.lst [(.var 3), (.prim .add [(.prim .add [(.prim .add [(.prim .mul [(.prim .mod [(.prim .abs [(.var 2)]), (.lit (.d (.int 1152921504606847009)))]), (.lit (.d (.int 103)))]), (.prim .mul [(.lit (.d (.int 1013))), (.var 1)])]), (.prim .mul [(.lit (.d (.int 71))), (.prim .int [(.prim .lt [(.var 2), (.lit (.d (.int 0)))])])])]), (.lit (.d (.int 13)))]), (.lit (.d (.int 0)))]))] [.va sc, .va (.d (.int i)), .va (.d (.int cell)), .va (.d (.int g))] = some (.ok (.rt (.o (bagA g a 0))) [.va sc, .va (.d (.int i)), .va (.d (.int cell)), .va (.d (.int g))]) := by
  generalize ho : (if cell < 0 then -cell else cell) % 1152921504606847009 = one
  have o0 : 0 ≤ one := by rw [← ho]; exact Int.emod_nonneg _ (by decide)
  have o1 : one < 1152921504606847009 := by rw [← ho]; exact Int.emod_lt_of_pos _ (by decide)
  have m1 : mulOk one 103 = true := mulOk_small (by have : (2 : Nat) ^ 63 < 2 ^ 200 := Nat.pow_lt_pow_right (by decide) (by decide); omega) (by decide)
  have m2 : mulOk 1013 (i : Int) = true := mulOk_small (by decide) (by have : (2 : Nat) ^ 60 < 2 ^ 200 := Nat.pow_lt_pow_right (by decide) (by decide); omega)
  have m3 : mulOk 71 (if decide (cell < 0) = true then 1 else 0) = true := by split <;> rfl
  refine ⟨one * 103 + 1013 * i + 71 * (if decide (cell < 0) = true then 1 else 0) + 13, ?_⟩
  by_cases h : cell < 0
  · simp only [h, if_true, if_false, decide_true, decide_false] at m3 ho ⊢
    have m3 : mulOk 71 1 = true := rfl
    simp [h, m1, m2, m3, ho, qAbs, eLst, eVar, backE, evGives, lim, fuel, exs, exGo, stepS, sIfe, sIfe2, ev, stepE, ePrim, evOps, evOp, peek, Sl.peek, R.bind, eRun, opsW, Op.w, Rs.w, P.run, qGt_int, qLt_int, qIdx, L2.atI, L2.ixN, tested, vI, vB, contS, truth, sSet, sSet2, storeT, put, qMod, qAdd, qSub, qMul, qInt, qFdiv, sSix, sSix2, storeAt, setAt, evGive, Wd.data, sRet, moved, take, rtR]
  · simp only [h, if_true, if_false, decide_true, decide_false] at m3 ho ⊢
    have m3 : mulOk 71 0 = true := rfl
    simp [h, m1, m2, m3, ho, qAbs, eLst, eVar, backE, evGives, lim, fuel, exs, exGo, stepS, sIfe, sIfe2, ev, stepE, ePrim, evOps, evOp, peek, Sl.peek, R.bind, eRun, opsW, Op.w, Rs.w, P.run, qGt_int, qLt_int, qIdx, L2.atI, L2.ixN, tested, vI, vB, contS, truth, sSet, sSet2, storeT, put, qMod, qAdd, qSub, qMul, qInt, qFdiv, sSix, sSix2, storeAt, setAt, evGive, Wd.data, sRet, moved, take, rtR]
end
theorem bagA_ok {p : Prg} {d k : Nat} (hk : p.defs[k]? = some bagDA) (ns : List Int) (i : Nat) (hi : i < 2 ^ 60) : ∃ g a : Int, callD p (d + 1) k [.va (.sc ns), .va (.d (.int i))] = some (.ok (.o (bagA g a 0)) [.un, .un]) := by
  obtain ⟨cell, h1⟩ := bagA_1 (call := callD p d) (clo := cloD p d) (sub := p.sub) ns i hi
  obtain ⟨g, h2⟩ := bagA_2 (call := callD p d) (clo := cloD p d) (sub := p.sub) (.sc ns) i cell
  obtain ⟨a, h3⟩ := bagA_3 (call := callD p d) (clo := cloD p d) (sub := p.sub) (.sc ns) i hi cell g
  refine ⟨g, a, ?_⟩
  rw [callD, hk]
  simp only [starArgs, show bagDA.star = false from rfl, show bagDA.np = 2 from rfl, show bagDA.ns = 4 from rfl, List.length_cons, List.length_nil, if_true]
  show fin _ (exs _ _ _ fuel bagDA.body [.va (.sc ns), .va (.d (.int i)), .un, .un]) = _
  have z : exs (callD p d) (cloD p d) p.sub fuel bagDA.body [.va (.sc ns), .va (.d (.int i)), .un, .un] = _ := (stmt_cons (n := 999999) h1).trans ((stmt_cons (n := 999999) h2).trans h3)
  rw [z]
  rfl
theorem oneA_ok {p : Prg} {d k k1 : Nat} (hk : p.defs[k]? = some drawA) (hk1 : p.defs[k1]? = some (oneOf k)) (g a c : Int) (items : List PyData) (hi : 0 < items.length) (hi2 : items.length < 2 ^ 60) (hc : 0 ≤ c) (hc2 : c < 2 ^ 60) :
    ∃ x ∈ items, ∃ g' c' : Int, 0 ≤ c' ∧ c' ≤ c + 1 ∧ callD p (d + 2) k1 [.le (bagA g a c), .va (.d (.list items))] = some (.ok (.v (.d x)) [.le (bagA g' a c'), .un]) := by
  obtain ⟨i, g', c', h0, h1, h2, h3, h4⟩ := drawA_ok (d := d) hk g a c items.length (by omega) (by have : (2 : Nat) ^ 60 < 2 ^ 200 := Nat.pow_lt_pow_right (by decide) (by decide); omega) hc hc2
  obtain ⟨x, hx, hx2⟩ := idx_in h0 h1
  refine ⟨x, hx, g', c', h2, h3, ?_⟩
  rw [callD, hk1]
  simp only [starArgs, show (oneOf k).star = false from rfl, show (oneOf k).np = 2 from rfl, show (oneOf k).ns = 2 from rfl, List.length_cons, List.length_nil, if_true]
  show fin _ (exs _ _ _ fuel (oneOf k).body [.le (bagA g a c), .va (.d (.list items))]) = _
  rw [(oneOf_run h4 hx2).1]
  rfl
abbrev bag (g a c : Int) : PyData := bagA g a c
theorem one_ok {p : Prg} {d k k1 : Nat} (hk : p.defs[k]? = some FamC.drawA) (hk1 : p.defs[k1]? = some (oneOf k)) (g a c : Int) (items : List PyData) (hi : 0 < items.length) (hi2 : items.length < 2 ^ 60) (hc : 0 ≤ c) (hc2 : c < 2 ^ 60) :
    ∃ x ∈ items, ∃ g' c' : Int, 0 ≤ c' ∧ c' ≤ c + 1 ∧ callD p (d + 2) k1 [.le (bag g a c), .va (.d (.list items))] = some (.ok (.v (.d x)) [.le (bag g' a c'), .un]) := FamC.oneA_ok hk hk1 g a c items hi hi2 hc hc2
theorem bag_ok {p : Prg} {d k : Nat} (hk : p.defs[k]? = some FamC.bagDA) (ns : List Int) (i : Nat) (hi : i < 2 ^ 60) : ∃ g a c : Int, 0 ≤ c ∧ c ≤ 0 ∧ callD p (d + 1) k [.va (.sc ns), .va (.d (.int i))] = some (.ok (.o (bag g a c)) [.un, .un]) := by
  obtain ⟨g, a, h⟩ := FamC.bagA_ok (d := d) hk ns i hi
  exact ⟨g, a, 0, by omega, by omega, h⟩
end Ev.FamC
set_option Elab.async false
set_option linter.all false
set_option maxRecDepth 100000
set_option maxHeartbeats 4000000
/-! EvPf: the law's loop with a loop in it. -/
namespace Ev.Pl
open PySem Ev
section
variable {call : Nat → Env → Option CO} {clo : Nat → List (Option PyData) → Option CO} {sub : Nat → Nat → Bool}
theorem loopC_ok {B : Nat → PyData → Prop} {kb kr n it T Z : Nat} {ns : List Int} {e : Env} (M : MakeR call kb B) (Tr : TurnR call kr B) (hT : T < 1000000) (hT0 : 0 < T) (hZ0 : 0 < Z) (hZ : Z < 1000) (h0 : e[0]? = some (.va (.sc ns))) (h1 : e[1]? = some .un) (h2 : e[2]? = some .un) (h2t : 2 < it) (ht : e[it]? = some .un) :
    ∃ (i i2 : Nat) (b : PyData), B T b ∧ exs call clo sub (n + 6) [.fo (.nm 1) .rng [.prim .max2 [.lit (.d (.int 1)), .prim .min2 [.lit (.d (.int Z)), .prim .len [.var 0]]]] (loopBodyC kb kr it T)] e = some (.ok .nx (((e.set it (.va (.d (.int i2)))).set 1 (.va (.d (.int i)))).set 2 (.ow b))) := by
  have l2 : 2 < e.length := (List.getElem?_eq_some_iff.mp h2).1
  obtain ⟨m, hm0, hm, he⟩ : ∃ m : Nat, 0 < m ∧ m < 1000 ∧ evIt (ev call clo (n + 5)) .rng [.prim .max2 [.lit (.d (.int 1)), .prim .min2 [.lit (.d (.int Z)), .prim .len [.var 0]]]] e = some (.ok (rangeI 0 m, []) e) := by
    have q0 : e[0]? = some (.va (.sc ns)) := h0
    obtain ⟨m, hm⟩ : ∃ m : Nat, (m : Int) = (if (if (ns.length : Int) < (Z : Int) then (ns.length : Int) else (Z : Int)) > 1 then (if (ns.length : Int) < (Z : Int) then (ns.length : Int) else (Z : Int)) else 1) := by
      by_cases h : (ns.length : Int) < (Z : Int)
      · rw [if_pos h]
        by_cases h3 : (ns.length : Int) > 1
        · rw [if_pos h3]; exact ⟨ns.length, rfl⟩
        · rw [if_neg h3]; exact ⟨1, rfl⟩
      · rw [if_neg h]
        by_cases h3 : (Z : Int) > 1
        · rw [if_pos h3]; exact ⟨Z, rfl⟩
        · rw [if_neg h3]; exact ⟨1, rfl⟩
    have hm1 : 0 < m ∧ m < 1000 := by
      by_cases h : (ns.length : Int) < (Z : Int)
      · rw [if_pos h] at hm
        by_cases h3 : (ns.length : Int) > 1
        · rw [if_pos h3] at hm; omega
        · rw [if_neg h3] at hm; omega
      · rw [if_neg h] at hm
        by_cases h3 : (Z : Int) > 1
        · rw [if_pos h3] at hm; omega
        · rw [if_neg h3] at hm; omega
    refine ⟨m, hm1.1, hm1.2, ?_⟩
    have p0 : peek e 0 = some (.sc ns) := by unfold peek; rw [h0]; rfl
    have g1 : (m : Int) < 1000000 := by omega
    have g2 : -1000000 < (m : Int) := by omega
    have z2 : opsW e [.sl 0] = some [.sc ns] := by
      show (match peek e 0, opsW e [] with | some w, some ws => some (w :: ws) | _, _ => none) = _
      rw [p0]
      rfl
    have hl : ev call clo (n + 3) false (.prim .len [.var 0]) e = some (.ok (.v (.d (.int ns.length))) e) := prim_of (ops_cons (op_var p0) ops_nil) z2 rfl
    have hmin : ev call clo (n + 4) false (.prim .min2 [.lit (.d (.int Z)), .prim .len [.var 0]]) e = some (.ok (.v (.d (.int (if (ns.length : Int) < (Z : Int) then (ns.length : Int) else (Z : Int))))) e) :=
      prim_of (ops_cons op_lit (ops_cons (op_of (fun i z => by cases z) hl) ops_nil)) (ws := [.d (.int Z), .d (.int ns.length)]) rfl rfl
    have hmax : ev call clo (n + 5) false (.prim .max2 [.lit (.d (.int 1)), .prim .min2 [.lit (.d (.int Z)), .prim .len [.var 0]]]) e = some (.ok (.v (.d (.int m))) e) :=
      prim_of (ops_cons op_lit (ops_cons (op_of (fun i z => by cases z) hmin) ops_nil)) (ws := [.d (.int 1), .d (.int (if (ns.length : Int) < (Z : Int) then (ns.length : Int) else (Z : Int)))]) rfl (by rw [hm]; rfl)
    have ho : evOps (ev call clo (n + 5)) [.prim .max2 [.lit (.d (.int 1)), .prim .min2 [.lit (.d (.int Z)), .prim .len [.var 0]]]] e = some (.ok [.rs (.v (.d (.int m)))] e) := ops_cons (op_of (fun i z => by cases z) hmax) ops_nil
    have q2 : opsW e [.rs (.v (.d (.int m)))] = some [.d (.int m)] := rfl
    have q3 : itemsOf .rng [.d (.int m)] = some (rangeI 0 m) := itm_rng (by omega)
    have q4 : lockOps e [.rs (.v (.d (.int m)))] = (e, []) := rfl
    exact it_of ho q2 q3 q4
  have lt : it < e.length := (List.getElem?_eq_some_iff.mp ht).1
  have he0 : ((e.set it .un).set 1 .un).set 2 .un = e := by
    rw [set_here ht, set_here h1, set_here h2]
  obtain ⟨i, i2, b, hb, hr⟩ := loopC_go (clo := clo) (sub := sub) (n := n) (it := it) (T := T) M Tr hT hT0 h0 l2 h2t lt (rangeI 0 m) .un .un .un (fun x hx => by
    obtain ⟨i, h, rfl⟩ := rng_mem hx
    exact ⟨i, by omega, rfl⟩) trivial trivial trivial (fun z => by
    have y := congrArg List.length z
    rw [rng_len] at y
    simp at y
    omega)
  rw [he0] at hr
  exact ⟨i, i2, b, hb, fo_of he hr⟩
end
end Ev.Pl
set_option Elab.async false
set_option linter.all false
set_option maxRecDepth 100000
set_option maxHeartbeats 4000000
/-! EvPg: one of a list that is lent. -/
namespace Ev
open PySem
theorem oneOf_lent {call : Nat → Env → Option CO} {clo : Nat → List (Option PyData) → Option CO} {sub : Nat → Nat → Bool} {k : Nat} {b b' : PyData} {items : List PyData} {i : Int} {x : PyData} (h : call k [.le b, .va (.d (.int items.length))] = some (.ok (.v (.d (.int i))) [.le b', .un])) (hx : L2.atI items i = some x) :
    exs call clo sub fuel (oneOf k).body [.le b, .le (.list items)] = some (.ok (.rt (.v (.d x))) [.le b', .le (.list items)]) := by
  simp [oneOf, fuel, exs, exGo, stepS, sRet, ev, stepE, ePrim, evOps, evOp, peek, Sl.peek, R.bind, eCall, eCall2, eBack, argsOf, backTo, backS, Sl.own, eRun, opsW, Op.w, Rs.w, P.run, qLen, qIdx, vI, tested, contS, rtR, h, hx]
end Ev
namespace Ev.FamA
open PySem Ev
theorem oneL_ok {p : Prg} {d k k1 : Nat} (hk : p.defs[k]? = some drawA) (hk1 : p.defs[k1]? = some (oneOf k)) (g a c : Int) (items : List PyData) (hi : 0 < items.length) (hi2 : items.length < 2 ^ 60) (hc : 0 ≤ c) (hc2 : c < 2 ^ 60) :
    ∃ x ∈ items, ∃ g' c' : Int, 0 ≤ c' ∧ c' ≤ c + 1 ∧ callD p (d + 2) k1 [.le (bagA g a c), .le (.list items)] = some (.ok (.v (.d x)) [.le (bagA g' a c'), .le (.list items)]) := by
  obtain ⟨i, g', c', h0, h1, h2, h3, h4⟩ := drawA_ok (d := d) hk g a c items.length (by omega) (by have : (2 : Nat) ^ 60 < 2 ^ 200 := Nat.pow_lt_pow_right (by decide) (by decide); omega) hc hc2
  obtain ⟨x, hx, hx2⟩ := idx_in h0 h1
  refine ⟨x, hx, g', c', h2, h3, ?_⟩
  rw [callD, hk1]
  simp only [starArgs, show (oneOf k).star = false from rfl, show (oneOf k).np = 2 from rfl, show (oneOf k).ns = 2 from rfl, List.length_cons, List.length_nil, if_true]
  show fin _ (exs _ _ _ fuel (oneOf k).body [.le (bagA g a c), .le (.list items)]) = _
  rw [oneOf_lent h4 hx2]
  rfl

theorem one_okL {p : Prg} {d k k1 : Nat} (hk : p.defs[k]? = some drawA) (hk1 : p.defs[k1]? = some (oneOf k)) (g a c : Int) (items : List PyData) (hi : 0 < items.length) (hi2 : items.length < 2 ^ 60) (hc : 0 ≤ c) (hc2 : c < 2 ^ 60) :
    ∃ x ∈ items, ∃ g' c' : Int, 0 ≤ c' ∧ c' ≤ c + 1 ∧ callD p (d + 2) k1 [.le (bag g a c), .le (.list items)] = some (.ok (.v (.d x)) [.le (bag g' a c'), .le (.list items)]) := oneL_ok hk hk1 g a c items hi hi2 hc hc2
end Ev.FamA
namespace Ev.FamC
open PySem Ev
theorem oneL_ok {p : Prg} {d k k1 : Nat} (hk : p.defs[k]? = some drawA) (hk1 : p.defs[k1]? = some (oneOf k)) (g a c : Int) (items : List PyData) (hi : 0 < items.length) (hi2 : items.length < 2 ^ 60) (hc : 0 ≤ c) (hc2 : c < 2 ^ 60) :
    ∃ x ∈ items, ∃ g' c' : Int, 0 ≤ c' ∧ c' ≤ c + 1 ∧ callD p (d + 2) k1 [.le (bagA g a c), .le (.list items)] = some (.ok (.v (.d x)) [.le (bagA g' a c'), .le (.list items)]) := by
  obtain ⟨i, g', c', h0, h1, h2, h3, h4⟩ := drawA_ok (d := d) hk g a c items.length (by omega) (by have : (2 : Nat) ^ 60 < 2 ^ 200 := Nat.pow_lt_pow_right (by decide) (by decide); omega) hc hc2
  obtain ⟨x, hx, hx2⟩ := idx_in h0 h1
  refine ⟨x, hx, g', c', h2, h3, ?_⟩
  rw [callD, hk1]
  simp only [starArgs, show (oneOf k).star = false from rfl, show (oneOf k).np = 2 from rfl, show (oneOf k).ns = 2 from rfl, List.length_cons, List.length_nil, if_true]
  show fin _ (exs _ _ _ fuel (oneOf k).body [.le (bagA g a c), .le (.list items)]) = _
  rw [oneOf_lent h4 hx2]
  rfl

theorem one_okL {p : Prg} {d k k1 : Nat} (hk : p.defs[k]? = some drawA) (hk1 : p.defs[k1]? = some (oneOf k)) (g a c : Int) (items : List PyData) (hi : 0 < items.length) (hi2 : items.length < 2 ^ 60) (hc : 0 ≤ c) (hc2 : c < 2 ^ 60) :
    ∃ x ∈ items, ∃ g' c' : Int, 0 ≤ c' ∧ c' ≤ c + 1 ∧ callD p (d + 2) k1 [.le (bag g a c), .le (.list items)] = some (.ok (.v (.d x)) [.le (bag g' a c'), .le (.list items)]) := oneL_ok hk hk1 g a c items hi hi2 hc hc2
end Ev.FamC
set_option Elab.async false
set_option linter.all false
set_option maxRecDepth 100000
set_option maxHeartbeats 4000000
/-! EvPh: the bags and draws of family D. -/
namespace Ev.FamD
open PySem Ev
def drawA : Df := { np := 2, star := false, ns := 5, body := [(.ife (.prim .gt [(.prim .idx [(.var 0), (.lit (.d (.int 0)))]), (.lit (.d (.int 0)))]) [(.set (.nm 2) (.prim .mod [(.prim .int [(.prim .idx [(.var 0), (.lit (.d (.int 0)))])]), (.var 1)])), (.six 0 (.lit (.d (.int 0))) (.prim .fdiv [(.prim .idx [(.var 0), (.lit (.d (.int 0)))]), (.var 1)])), (.ret (.var 2))] []),
  (.six 0 (.lit (.d (.int 2))) (.prim .add [(.prim .idx [(.var 0), (.lit (.d (.int 2)))]), (.lit (.d (.int 1)))])),
  (.set (.nm 3) (.prim .mod [(.prim .int [(.prim .add [(.prim .idx [(.var 0), (.lit (.d (.int 1)))]), (.prim .mul [(.lit (.d (.int 15485867))), (.prim .idx [(.var 0), (.lit (.d (.int 2)))])])])]), (.lit (.d (.int 2305843009213693951)))])),
  (.set (.nm 4) (.prim .add [(.prim .mul [(.prim .mod [(.prim .int [(.prim .mul [(.var 3), (.var 3)])]), (.lit (.d (.int 2305843009213693921)))]), (.var 3)]), (.prim .mul [(.lit (.d (.int 32452867))), (.prim .idx [(.var 0), (.lit (.d (.int 2)))])])])),
  (.ret (.prim .mod [(.prim .int [(.prim .fdiv [(.prim .mod [(.prim .int [(.var 4)]), (.lit (.d (.int 2305843009213693907)))]), (.lit (.d (.int 8192)))])]), (.var 1)]))] }
section
variable {call : Nat → Env → Option CO} {clo : Nat → List (Option PyData) → Option CO} {sub : Nat → Nat → Bool}
theorem drawA_1 (g a c n : Int) (h : 0 < g) (hn : 0 < n) (hn2 : n.natAbs < 2 ^ 200) : exs call clo sub fuel drawA.body [.le (.list [.int g, .int a, .int c]), .va (.d (.int n)), .un, .un, .un] = some (.ok (.rt (.v (.d (.int (g % n))))) [.le (.list [.int (g / n), .int a, .int c]), .va (.d (.int n)), .va (.d (.int (g % n))), .un, .un]) := by
  have l := log_small hn2
  simp [drawA, h, hn, l, fuel, exs, exGo, stepS, sIfe, sIfe2, ev, stepE, ePrim, evOps, evOp, peek, Sl.peek, R.bind, eRun, opsW, Op.w, Rs.w, P.run, qGt_int, qLt_int, qIdx, L2.atI, L2.ixN, tested, vI, vB, contS, truth, sSet, sSet2, storeT, put, qMod, qAdd, qSub, qMul, qInt, qFdiv, sSix, sSix2, storeAt, setAt, evGive, Wd.data, sRet, moved, take, rtR]

theorem drawA_2 (g a c n : Int) (h : ¬ 0 < g) (hn : 0 < n) (hc : 0 ≤ c) (hc2 : c < 2 ^ 60) : ∃ i t3 t4 : Int, 0 ≤ i ∧ i < n ∧ exs call clo sub fuel drawA.body [.le (.list [.int g, .int a, .int c]), .va (.d (.int n)), .un, .un, .un] = some (.ok (.rt (.v (.d (.int i)))) [.le (.list [.int g, .int a, .int (c + 1)]), .va (.d (.int n)), .un, .va (.d (.int t3)), .va (.d (.int t4))]) := by
  have m1 : mulOk 15485867 (c + 1) = true := mulOk_small (by decide) (by have : (2 : Nat) ^ 60 < 2 ^ 200 := Nat.pow_lt_pow_right (by decide) (by decide); omega)
  have m2 : mulOk 32452867 (c + 1) = true := mulOk_small (by decide) (by have : (2 : Nat) ^ 60 < 2 ^ 200 := Nat.pow_lt_pow_right (by decide) (by decide); omega)
  generalize ho : (a + 15485867 * (c + 1)) % 2305843009213693951 = one
  have o0 : 0 ≤ one := by rw [← ho]; exact Int.emod_nonneg _ (by decide)
  have o1 : one < 2305843009213693951 := by rw [← ho]; exact Int.emod_lt_of_pos _ (by decide)
  have m3 : mulOk one one = true := mulOk_small (by have : (2 : Nat) ^ 63 < 2 ^ 200 := Nat.pow_lt_pow_right (by decide) (by decide); omega) (by have : (2 : Nat) ^ 63 < 2 ^ 200 := Nat.pow_lt_pow_right (by decide) (by decide); omega)
  generalize ht : one * one % 2305843009213693921 = sq
  have t0 : 0 ≤ sq := by rw [← ht]; exact Int.emod_nonneg _ (by decide)
  have t1 : sq < 2305843009213693921 := by rw [← ht]; exact Int.emod_lt_of_pos _ (by decide)
  have m4 : mulOk sq one = true := mulOk_small (by have : (2 : Nat) ^ 63 < 2 ^ 200 := Nat.pow_lt_pow_right (by decide) (by decide); omega) (by have : (2 : Nat) ^ 63 < 2 ^ 200 := Nat.pow_lt_pow_right (by decide) (by decide); omega)
  refine ⟨(sq * one + 32452867 * (c + 1)) % 2305843009213693907 / 8192 % n, one, sq * one + 32452867 * (c + 1), Int.emod_nonneg _ (by omega), Int.emod_lt_of_pos _ hn, ?_⟩
  have l : Nat.log2 8192 < 9000 := by decide +kernel
  simp [drawA, h, hn, l, m1, m2, m3, m4, ho, ht, fuel, exs, exGo, stepS, sIfe, sIfe2, ev, stepE, ePrim, evOps, evOp, peek, Sl.peek, R.bind, eRun, opsW, Op.w, Rs.w, P.run, qGt_int, qLt_int, qIdx, L2.atI, L2.ixN, tested, vI, vB, contS, truth, sSet, sSet2, storeT, put, qMod, qAdd, qSub, qMul, qInt, qFdiv, sSix, sSix2, storeAt, setAt, evGive, Wd.data, sRet, moved, take, rtR]
end
theorem drawA_ok {p : Prg} {d k : Nat} (hk : p.defs[k]? = some drawA) (g a c n : Int) (hn : 0 < n) (hn2 : n.natAbs < 2 ^ 200) (hc : 0 ≤ c) (hc2 : c < 2 ^ 60) : ∃ i g' c' : Int, 0 ≤ i ∧ i < n ∧ 0 ≤ c' ∧ c' ≤ c + 1 ∧ callD p (d + 1) k [.le (bagA g a c), .va (.d (.int n))] = some (.ok (.v (.d (.int i))) [.le (bagA g' a c'), .un]) := by
  by_cases h : 0 < g
  · refine ⟨g % n, g / n, c, Int.emod_nonneg _ (by omega), Int.emod_lt_of_pos _ hn, hc, by omega, ?_⟩
    rw [callD, hk]
    have z := drawA_1 (call := callD p d) (clo := cloD p d) (sub := p.sub) g a c n h hn hn2
    simp only [starArgs, show drawA.star = false from rfl, show drawA.np = 2 from rfl, show drawA.ns = 5 from rfl, List.length_cons, List.length_nil, if_true]
    show fin _ (exs _ _ _ fuel drawA.body [.le (bagA g a c), .va (.d (.int n)), .un, .un, .un]) = _
    rw [z]
    rfl
  · obtain ⟨i, t3, t4, h0, h1, z⟩ := drawA_2 (call := callD p d) (clo := cloD p d) (sub := p.sub) g a c n h hn hc hc2
    refine ⟨i, g, c + 1, h0, h1, by omega, by omega, ?_⟩
    rw [callD, hk]
    simp only [starArgs, show drawA.star = false from rfl, show drawA.np = 2 from rfl, show drawA.ns = 5 from rfl, List.length_cons, List.length_nil, if_true]
    show fin _ (exs _ _ _ fuel drawA.body [.le (bagA g a c), .va (.d (.int n)), .un, .un, .un]) = _
    rw [z]
    rfl
def bagDA : Df := { np := 2, star := false, ns := 4, body := [(.set (.nm 2) (.ife (.prim .lt [(.var 1), (.prim .len [(.var 0)])]) (.prim .idx [(.var 0), (.var 1)]) (.prim .add [(.prim .mul [(.lit (.d (.int 53))), (.var 1)]), (.lit (.d (.int 29)))]))),
  (.set (.nm 3) (.prim .mod [(.prim .int [(.prim .abs [(.var 2)])]), (.prim .pow [(.prim .pow [(.lit (.d (.int 10))), (.lit (.d (.int 47)))]), (.lit (.d (.int 12)))])])),
  (.ret (.lst [(.prim .max2 [(.lit (.d (.int 0))), (.prim .sub [(.var 3), (.prim .pow [(.lit (.d (.int 10))), (.lit (.d (.int 18)))])])]), (.prim .add [(.prim .add [(.prim .mul [(.prim .mod [(.prim .int [(.var 3)]), (.lit (.d (.int 2305843009213693669)))]), (.lit (.d (.int 7933)))]), (.prim .mul [(.lit (.d (.int 104759))), (.var 1)])]), (.prim .int [(.prim .lt [(.var 2), (.lit (.d (.int 0)))])])]), (.lit (.d (.int 0)))]))] }
section
variable {call : Nat → Env → Option CO} {clo : Nat → List (Option PyData) → Option CO} {sub : Nat → Nat → Bool}
theorem bagA_1 (ns : List Int) (i : Nat) (hi : i < 2 ^ 60) : ∃ cell : Int, exs call clo sub fuel [(.set (.nm 2) (.ife (.prim .lt [(.var 1), (.prim .len [(.var 0)])]) (.prim .idx [(.var 0), (.var 1)]) (.prim .add [(.prim .mul [(.lit (.d (.int 53))), (.var 1)]), (.lit (.d (.int 29)))])))] [.va (.sc ns), .va (.d (.int i)), .un, .un] = some (.ok .nx [.va (.sc ns), .va (.d (.int i)), .va (.d (.int cell)), .un]) := by
  by_cases h : i < ns.length
  · have hx : ns[i]? = some ns[i] := List.getElem?_eq_getElem h
    refine ⟨ns[i], ?_⟩
    simp [h, hx, eIfe, qLen, fuel, exs, exGo, stepS, sIfe, sIfe2, ev, stepE, ePrim, evOps, evOp, peek, Sl.peek, R.bind, eRun, opsW, Op.w, Rs.w, P.run, qGt_int, qLt_int, qIdx, L2.atI, L2.ixN, tested, vI, vB, contS, truth, sSet, sSet2, storeT, put, qMod, qAdd, qSub, qMul, qInt, qFdiv, sSix, sSix2, storeAt, setAt, evGive, Wd.data, sRet, moved, take, rtR]
  · refine ⟨53 * i + 29, ?_⟩
    have m : mulOk 53 (i : Int) = true := mulOk_small (by decide) (by have : (2 : Nat) ^ 60 < 2 ^ 200 := Nat.pow_lt_pow_right (by decide) (by decide); omega)
    simp [h, m, eIfe, qLen, fuel, exs, exGo, stepS, sIfe, sIfe2, ev, stepE, ePrim, evOps, evOp, peek, Sl.peek, R.bind, eRun, opsW, Op.w, Rs.w, P.run, qGt_int, qLt_int, qIdx, L2.atI, L2.ixN, tested, vI, vB, contS, truth, sSet, sSet2, storeT, put, qMod, qAdd, qSub, qMul, qInt, qFdiv, sSix, sSix2, storeAt, setAt, evGive, Wd.data, sRet, moved, take, rtR]

theorem bagA_2 (sc : Wd) (i cell : Int) : ∃ g : Int, exs call clo sub fuel [(.set (.nm 3) (.prim .mod [(.prim .int [(.prim .abs [(.var 2)])]), (.prim .pow [(.prim .pow [(.lit (.d (.int 10))), (.lit (.d (.int 47)))]), (.lit (.d (.int 12)))])]))] [.va sc, .va (.d (.int i)), .va (.d (.int cell)), .un] = some (.ok .nx [.va sc, .va (.d (.int i)), .va (.d (.int cell)), .va (.d (.int g))]) := by
  exact ⟨_, rfl⟩
theorem bagA_3 (sc : Wd) (i : Nat) (hi : i < 2 ^ 60) (cell g : Int) : ∃ u a : Int, exs call clo sub fuel [(.ret (.lst [(.prim .max2 [(.lit (.d (.int 0))), (.prim .sub [(.var 3), (.prim .pow [(.lit (.d (.int 10))), (.lit (.d (.int 18)))])])]), (.prim .add [(.prim .add [(.prim .mul [(.prim .mod [(.prim .int [(.var 3)]), (.lit (.d (.int 2305843009213693669)))]), (.lit (.d (.int 7933)))]), (.prim .mul [(.lit (.d (.int 104759))), (.var 1)])]), (.prim .int [(.prim .lt [(.var 2), (.lit (.d (.int 0)))])])]), (.lit (.d (.int 0)))]))] [.va sc, .va (.d (.int i)), .va (.d (.int cell)), .va (.d (.int g))] = some (.ok (.rt (.o (bagA u a 0))) [.va sc, .va (.d (.int i)), .va (.d (.int cell)), .va (.d (.int g))]) := by
  generalize ho : g % 2305843009213693669 = one
  have o0 : 0 ≤ one := by rw [← ho]; exact Int.emod_nonneg _ (by decide)
  have o1 : one < 2305843009213693669 := by rw [← ho]; exact Int.emod_lt_of_pos _ (by decide)
  have m1 : mulOk one 7933 = true := mulOk_small (by have : (2 : Nat) ^ 63 < 2 ^ 200 := Nat.pow_lt_pow_right (by decide) (by decide); omega) (by decide)
  have m2 : mulOk 104759 (i : Int) = true := mulOk_small (by decide) (by have : (2 : Nat) ^ 60 < 2 ^ 200 := Nat.pow_lt_pow_right (by decide) (by decide); omega)
  have pw : (10 : Nat) < 2 ^ 1000 := Nat.lt_of_lt_of_le (by decide : 10 < 2 ^ 4) (Nat.pow_le_pow_right (by decide) (by decide))
  refine ⟨if g - 10 ^ 18 > 0 then g - 10 ^ 18 else 0, one * 7933 + 104759 * i + (if decide (cell < 0) = true then 1 else 0), ?_⟩
  by_cases h : cell < 0
  · simp only [h, if_true, if_false, decide_true, decide_false] at ho ⊢
    simp [h, m1, m2, ho, pw, qMax2, qPow, qAbs, eLst, eVar, backE, evGives, lim, fuel, exs, exGo, stepS, sIfe, sIfe2, ev, stepE, ePrim, evOps, evOp, peek, Sl.peek, R.bind, eRun, opsW, Op.w, Rs.w, P.run, qGt_int, qLt_int, qIdx, L2.atI, L2.ixN, tested, vI, vB, contS, truth, sSet, sSet2, storeT, put, qMod, qAdd, qSub, qMul, qInt, qFdiv, sSix, sSix2, storeAt, setAt, evGive, Wd.data, sRet, moved, take, rtR]
  · simp only [h, if_true, if_false, decide_true, decide_false] at ho ⊢
    simp [h, m1, m2, ho, pw, qMax2, qPow, qAbs, eLst, eVar, backE, evGives, lim, fuel, exs, exGo, stepS, sIfe, sIfe2, ev, stepE, ePrim, evOps, evOp, peek, Sl.peek, R.bind, eRun, opsW, Op.w, Rs.w, P.run, qGt_int, qLt_int, qIdx, L2.atI, L2.ixN, tested, vI, vB, contS, truth, sSet, sSet2, storeT, put, qMod, qAdd, qSub, qMul, qInt, qFdiv, sSix, sSix2, storeAt, setAt, evGive, Wd.data, sRet, moved, take, rtR]
end
theorem bagA_ok {p : Prg} {d k : Nat} (hk : p.defs[k]? = some bagDA) (ns : List Int) (i : Nat) (hi : i < 2 ^ 60) : ∃ g a : Int, callD p (d + 1) k [.va (.sc ns), .va (.d (.int i))] = some (.ok (.o (bagA g a 0)) [.un, .un]) := by
  obtain ⟨cell, h1⟩ := bagA_1 (call := callD p d) (clo := cloD p d) (sub := p.sub) ns i hi
  obtain ⟨g, h2⟩ := bagA_2 (call := callD p d) (clo := cloD p d) (sub := p.sub) (.sc ns) i cell
  obtain ⟨u, a, h3⟩ := bagA_3 (call := callD p d) (clo := cloD p d) (sub := p.sub) (.sc ns) i hi cell g
  refine ⟨u, a, ?_⟩
  rw [callD, hk]
  simp only [starArgs, show bagDA.star = false from rfl, show bagDA.np = 2 from rfl, show bagDA.ns = 4 from rfl, List.length_cons, List.length_nil, if_true]
  show fin _ (exs _ _ _ fuel bagDA.body [.va (.sc ns), .va (.d (.int i)), .un, .un]) = _
  have z : exs (callD p d) (cloD p d) p.sub fuel bagDA.body [.va (.sc ns), .va (.d (.int i)), .un, .un] = _ := (stmt_cons (n := 999999) h1).trans ((stmt_cons (n := 999999) h2).trans h3)
  rw [z]
  rfl
theorem oneA_ok {p : Prg} {d k k1 : Nat} (hk : p.defs[k]? = some drawA) (hk1 : p.defs[k1]? = some (oneOf k)) (g a c : Int) (items : List PyData) (hi : 0 < items.length) (hi2 : items.length < 2 ^ 60) (hc : 0 ≤ c) (hc2 : c < 2 ^ 60) :
    ∃ x ∈ items, ∃ g' c' : Int, 0 ≤ c' ∧ c' ≤ c + 1 ∧ callD p (d + 2) k1 [.le (bagA g a c), .va (.d (.list items))] = some (.ok (.v (.d x)) [.le (bagA g' a c'), .un]) := by
  obtain ⟨i, g', c', h0, h1, h2, h3, h4⟩ := drawA_ok (d := d) hk g a c items.length (by omega) (by have : (2 : Nat) ^ 60 < 2 ^ 200 := Nat.pow_lt_pow_right (by decide) (by decide); omega) hc hc2
  obtain ⟨x, hx, hx2⟩ := idx_in h0 h1
  refine ⟨x, hx, g', c', h2, h3, ?_⟩
  rw [callD, hk1]
  simp only [starArgs, show (oneOf k).star = false from rfl, show (oneOf k).np = 2 from rfl, show (oneOf k).ns = 2 from rfl, List.length_cons, List.length_nil, if_true]
  show fin _ (exs _ _ _ fuel (oneOf k).body [.le (bagA g a c), .va (.d (.list items))]) = _
  rw [(oneOf_run h4 hx2).1]
  rfl
theorem oneL_ok {p : Prg} {d k k1 : Nat} (hk : p.defs[k]? = some drawA) (hk1 : p.defs[k1]? = some (oneOf k)) (g a c : Int) (items : List PyData) (hi : 0 < items.length) (hi2 : items.length < 2 ^ 60) (hc : 0 ≤ c) (hc2 : c < 2 ^ 60) :
    ∃ x ∈ items, ∃ g' c' : Int, 0 ≤ c' ∧ c' ≤ c + 1 ∧ callD p (d + 2) k1 [.le (bagA g a c), .le (.list items)] = some (.ok (.v (.d x)) [.le (bagA g' a c'), .le (.list items)]) := by
  obtain ⟨i, g', c', h0, h1, h2, h3, h4⟩ := drawA_ok (d := d) hk g a c items.length (by omega) (by have : (2 : Nat) ^ 60 < 2 ^ 200 := Nat.pow_lt_pow_right (by decide) (by decide); omega) hc hc2
  obtain ⟨x, hx, hx2⟩ := idx_in h0 h1
  refine ⟨x, hx, g', c', h2, h3, ?_⟩
  rw [callD, hk1]
  simp only [starArgs, show (oneOf k).star = false from rfl, show (oneOf k).np = 2 from rfl, show (oneOf k).ns = 2 from rfl, List.length_cons, List.length_nil, if_true]
  show fin _ (exs _ _ _ fuel (oneOf k).body [.le (bagA g a c), .le (.list items)]) = _
  rw [oneOf_lent h4 hx2]
  rfl
abbrev bag (g a c : Int) : PyData := bagA g a c
theorem one_ok {p : Prg} {d k k1 : Nat} (hk : p.defs[k]? = some FamD.drawA) (hk1 : p.defs[k1]? = some (oneOf k)) (g a c : Int) (items : List PyData) (hi : 0 < items.length) (hi2 : items.length < 2 ^ 60) (hc : 0 ≤ c) (hc2 : c < 2 ^ 60) :
    ∃ x ∈ items, ∃ g' c' : Int, 0 ≤ c' ∧ c' ≤ c + 1 ∧ callD p (d + 2) k1 [.le (bag g a c), .va (.d (.list items))] = some (.ok (.v (.d x)) [.le (bag g' a c'), .un]) := FamD.oneA_ok hk hk1 g a c items hi hi2 hc hc2
theorem one_okL {p : Prg} {d k k1 : Nat} (hk : p.defs[k]? = some FamD.drawA) (hk1 : p.defs[k1]? = some (oneOf k)) (g a c : Int) (items : List PyData) (hi : 0 < items.length) (hi2 : items.length < 2 ^ 60) (hc : 0 ≤ c) (hc2 : c < 2 ^ 60) :
    ∃ x ∈ items, ∃ g' c' : Int, 0 ≤ c' ∧ c' ≤ c + 1 ∧ callD p (d + 2) k1 [.le (bag g a c), .le (.list items)] = some (.ok (.v (.d x)) [.le (bag g' a c'), .le (.list items)]) := FamD.oneL_ok hk hk1 g a c items hi hi2 hc hc2
theorem bag_ok {p : Prg} {d k : Nat} (hk : p.defs[k]? = some FamD.bagDA) (ns : List Int) (i : Nat) (hi : i < 2 ^ 60) : ∃ g a c : Int, 0 ≤ c ∧ c ≤ 0 ∧ callD p (d + 1) k [.va (.sc ns), .va (.d (.int i))] = some (.ok (.o (bag g a c)) [.un, .un]) := by
  obtain ⟨g, a, h⟩ := FamD.bagA_ok (d := d) hk ns i hi
  exact ⟨g, a, 0, by omega, by omega, h⟩
end Ev.FamD
set_option Elab.async false
set_option linter.all false
set_option maxRecDepth 100000
set_option maxHeartbeats 0
namespace Lq
open PySem Ev Ev.Pl
theorem h56_a1 (b : PyData) : exs (callD prg 19) (cloD prg 19) prg.sub fuel [(.set (.nm 1) (.lst [(.lit (.d .none)), (.tup []), (.lit (.d (.int 0))), (.tup [(.lit (.d (.int 2)))]), (.lst [(.lit (.d (.int 2))), (.tup [(.tup [(.lit (.d (.int 0))), (.lit (.d (.int 1)))])])]), (.tup [(.lit (.d (.int 2))), (.lst [(.tup [(.lit (.d (.int 0))), (.lit (.d (.int 1)))])])]), (.tup [(.lit (.d (.int 0))), (.tup [])]), (.tup [(.lit (.d (.int 7))), (.tup [])]), (.tup [(.lit (.d (.bool true))), (.tup [])]), (.tup [(.lit (.d (.str ⟨#[50]⟩))), (.tup [])]), (.tup [(.lit (.d (.int 2))), (.tup [(.tup [(.lit (.d (.int 0))), (.lit (.d (.int 1))), (.lit (.d (.int 0)))])])]), (.tup [(.lit (.d (.int 2))), (.tup [(.tup [(.lit (.d (.int 0))), (.lit (.d (.int 10)))])])]), (.tup [(.lit (.d (.int 2))), (.tup [(.tup [(.lit (.d (.int 0))), (.prim .sub [(.lit (.d (.int 0))), (.lit (.d (.int 1)))])])])]), (.tup [(.lit (.d (.int 2))), (.tup [(.tup [(.lit (.d (.int 0))), (.lit (.d (.bool true)))])])])]))] [.le b, .un, .un] = some (Ou.ok .nx [.le b, .ow (.list [.none, (.tuple []), (.int 0), (.tuple [(.int 2)]), (.list [(.int 2), (.tuple [(.tuple [(.int 0), (.int 1)])])]), (.tuple [(.int 2), (.list [(.tuple [(.int 0), (.int 1)])])]), (.tuple [(.int 0), (.tuple [])]), (.tuple [(.int 7), (.tuple [])]), (.tuple [(.bool true), (.tuple [])]), (.tuple [(.str ⟨#[50]⟩), (.tuple [])]), (.tuple [(.int 2), (.tuple [(.tuple [(.int 0), (.int 1), (.int 0)])])]), (.tuple [(.int 2), (.tuple [(.tuple [(.int 0), (.int 10)])])]), (.tuple [(.int 2), (.tuple [(.tuple [(.int 0), (.int (-1))])])]), (.tuple [(.int 2), (.tuple [(.tuple [(.int 0), (.bool true)])])])]), .un]) := by
  kernel_rfl
theorem h56_a2 (b : PyData) : exs (callD prg 19) (cloD prg 19) prg.sub fuel [(.set (.nm 1) (.prim .add [(.var 1), (.lst [(.tup [(.lit (.d (.int 2))), (.tup [(.tup [(.lit (.d (.int 0))), (.lit (.d (.int 1)))]), (.tup [(.lit (.d (.int 0))), (.lit (.d (.int 1)))])])]), (.tup [(.lit (.d (.int 2))), (.tup [(.tup [(.lit (.d (.int 1))), (.lit (.d (.int 0)))]), (.tup [(.lit (.d (.int 0))), (.lit (.d (.int 1)))])])]), (.tup [(.lit (.d (.int 2))), (.tup [(.tup [(.lit (.d (.int 0))), (.lit (.d (.int 1)))]), (.tup [(.lit (.d (.int 1))), (.lit (.d (.int 1)))])])]), (.tup [(.lit (.d (.int 2))), (.tup [(.tup [(.lit (.d (.int 0))), (.lit (.d (.int 1)))])]), (.lit (.d (.int 0)))]), (.dic [] []), (.lit (.d (.str ⟨#[115, 116, 97, 105, 114]⟩))), (.tup [(.prim .pow [(.lit (.d (.int 10))), (.lit (.d (.int 60)))]), (.tup [])]), (.tup [(.lit (.d (.int 2))), (.tup [(.lit (.d (.int 0))), (.lit (.d (.int 1)))])]), (.tup [(.lit (.d (.int 2))), (.tup [(.lst [(.lit (.d (.int 0))), (.lit (.d (.int 1)))])])]), (.tup [(.lit (.d (.int 2))), (.lit (.d .none))])])]))] [.le b, .ow (.list [.none, (.tuple []), (.int 0), (.tuple [(.int 2)]), (.list [(.int 2), (.tuple [(.tuple [(.int 0), (.int 1)])])]), (.tuple [(.int 2), (.list [(.tuple [(.int 0), (.int 1)])])]), (.tuple [(.int 0), (.tuple [])]), (.tuple [(.int 7), (.tuple [])]), (.tuple [(.bool true), (.tuple [])]), (.tuple [(.str ⟨#[50]⟩), (.tuple [])]), (.tuple [(.int 2), (.tuple [(.tuple [(.int 0), (.int 1), (.int 0)])])]), (.tuple [(.int 2), (.tuple [(.tuple [(.int 0), (.int 10)])])]), (.tuple [(.int 2), (.tuple [(.tuple [(.int 0), (.int (-1))])])]), (.tuple [(.int 2), (.tuple [(.tuple [(.int 0), (.bool true)])])])]), .un] = some (Ou.ok .nx [.le b, .ow (.list [.none, (.tuple []), (.int 0), (.tuple [(.int 2)]), (.list [(.int 2), (.tuple [(.tuple [(.int 0), (.int 1)])])]), (.tuple [(.int 2), (.list [(.tuple [(.int 0), (.int 1)])])]), (.tuple [(.int 0), (.tuple [])]), (.tuple [(.int 7), (.tuple [])]), (.tuple [(.bool true), (.tuple [])]), (.tuple [(.str ⟨#[50]⟩), (.tuple [])]), (.tuple [(.int 2), (.tuple [(.tuple [(.int 0), (.int 1), (.int 0)])])]), (.tuple [(.int 2), (.tuple [(.tuple [(.int 0), (.int 10)])])]), (.tuple [(.int 2), (.tuple [(.tuple [(.int 0), (.int (-1))])])]), (.tuple [(.int 2), (.tuple [(.tuple [(.int 0), (.bool true)])])]), (.tuple [(.int 2), (.tuple [(.tuple [(.int 0), (.int 1)]), (.tuple [(.int 0), (.int 1)])])]), (.tuple [(.int 2), (.tuple [(.tuple [(.int 1), (.int 0)]), (.tuple [(.int 0), (.int 1)])])]), (.tuple [(.int 2), (.tuple [(.tuple [(.int 0), (.int 1)]), (.tuple [(.int 1), (.int 1)])])]), (.tuple [(.int 2), (.tuple [(.tuple [(.int 0), (.int 1)])]), (.int 0)]), (.dict []), (.str ⟨#[115, 116, 97, 105, 114]⟩), (.tuple [(.int 1000000000000000000000000000000000000000000000000000000000000), (.tuple [])]), (.tuple [(.int 2), (.tuple [(.int 0), (.int 1)])]), (.tuple [(.int 2), (.tuple [(.list [(.int 0), (.int 1)])])]), (.tuple [(.int 2), .none])]), .un]) := by
  kernel_rfl
theorem h56_a3 (b : PyData) : evOps (ev (callD prg 19) (cloD prg 19) 999998) [(.var 0), (.prim .add [(.var 1), (.lst [(.tup [(.lit (.d (.int 2))), (.tup [(.tup [(.lit (.d (.int 0))), (.lit (.d .none))])])]), (.tup [(.lit (.d (.int 2))), (.prim .tuple [(.cmp (.tup [(.var 2), (.prim .sub [(.lit (.d (.int 13))), (.var 2)])]) (.nm 2) .rng [(.lit (.d (.int 14)))] [] [2])])]), (.tup [(.lit (.d (.int 1))), (.tup [(.tup [(.lit (.d (.int 1)))]), (.tup [(.lit (.d (.int 2)))])])]), (.tup [(.lit (.d (.int 2))), (.tup [(.tup [(.lit (.d (.int 0))), (.lit (.d (.str ⟨#[49]⟩)))])])])])])] [.le b, .ow (.list [.none, (.tuple []), (.int 0), (.tuple [(.int 2)]), (.list [(.int 2), (.tuple [(.tuple [(.int 0), (.int 1)])])]), (.tuple [(.int 2), (.list [(.tuple [(.int 0), (.int 1)])])]), (.tuple [(.int 0), (.tuple [])]), (.tuple [(.int 7), (.tuple [])]), (.tuple [(.bool true), (.tuple [])]), (.tuple [(.str ⟨#[50]⟩), (.tuple [])]), (.tuple [(.int 2), (.tuple [(.tuple [(.int 0), (.int 1), (.int 0)])])]), (.tuple [(.int 2), (.tuple [(.tuple [(.int 0), (.int 10)])])]), (.tuple [(.int 2), (.tuple [(.tuple [(.int 0), (.int (-1))])])]), (.tuple [(.int 2), (.tuple [(.tuple [(.int 0), (.bool true)])])]), (.tuple [(.int 2), (.tuple [(.tuple [(.int 0), (.int 1)]), (.tuple [(.int 0), (.int 1)])])]), (.tuple [(.int 2), (.tuple [(.tuple [(.int 1), (.int 0)]), (.tuple [(.int 0), (.int 1)])])]), (.tuple [(.int 2), (.tuple [(.tuple [(.int 0), (.int 1)]), (.tuple [(.int 1), (.int 1)])])]), (.tuple [(.int 2), (.tuple [(.tuple [(.int 0), (.int 1)])]), (.int 0)]), (.dict []), (.str ⟨#[115, 116, 97, 105, 114]⟩), (.tuple [(.int 1000000000000000000000000000000000000000000000000000000000000), (.tuple [])]), (.tuple [(.int 2), (.tuple [(.int 0), (.int 1)])]), (.tuple [(.int 2), (.tuple [(.list [(.int 0), (.int 1)])])]), (.tuple [(.int 2), .none])]), .un] = some (Ou.ok [.sl 0, .rs (.o (.list [.none, (.tuple []), (.int 0), (.tuple [(.int 2)]), (.list [(.int 2), (.tuple [(.tuple [(.int 0), (.int 1)])])]), (.tuple [(.int 2), (.list [(.tuple [(.int 0), (.int 1)])])]), (.tuple [(.int 0), (.tuple [])]), (.tuple [(.int 7), (.tuple [])]), (.tuple [(.bool true), (.tuple [])]), (.tuple [(.str ⟨#[50]⟩), (.tuple [])]), (.tuple [(.int 2), (.tuple [(.tuple [(.int 0), (.int 1), (.int 0)])])]), (.tuple [(.int 2), (.tuple [(.tuple [(.int 0), (.int 10)])])]), (.tuple [(.int 2), (.tuple [(.tuple [(.int 0), (.int (-1))])])]), (.tuple [(.int 2), (.tuple [(.tuple [(.int 0), (.bool true)])])]), (.tuple [(.int 2), (.tuple [(.tuple [(.int 0), (.int 1)]), (.tuple [(.int 0), (.int 1)])])]), (.tuple [(.int 2), (.tuple [(.tuple [(.int 1), (.int 0)]), (.tuple [(.int 0), (.int 1)])])]), (.tuple [(.int 2), (.tuple [(.tuple [(.int 0), (.int 1)]), (.tuple [(.int 1), (.int 1)])])]), (.tuple [(.int 2), (.tuple [(.tuple [(.int 0), (.int 1)])]), (.int 0)]), (.dict []), (.str ⟨#[115, 116, 97, 105, 114]⟩), (.tuple [(.int 1000000000000000000000000000000000000000000000000000000000000), (.tuple [])]), (.tuple [(.int 2), (.tuple [(.int 0), (.int 1)])]), (.tuple [(.int 2), (.tuple [(.list [(.int 0), (.int 1)])])]), (.tuple [(.int 2), .none]), (.tuple [(.int 2), (.tuple [(.tuple [(.int 0), .none])])]), (.tuple [(.int 2), (.tuple [(.tuple [(.int 0), (.int 13)]), (.tuple [(.int 1), (.int 12)]), (.tuple [(.int 2), (.int 11)]), (.tuple [(.int 3), (.int 10)]), (.tuple [(.int 4), (.int 9)]), (.tuple [(.int 5), (.int 8)]), (.tuple [(.int 6), (.int 7)]), (.tuple [(.int 7), (.int 6)]), (.tuple [(.int 8), (.int 5)]), (.tuple [(.int 9), (.int 4)]), (.tuple [(.int 10), (.int 3)]), (.tuple [(.int 11), (.int 2)]), (.tuple [(.int 12), (.int 1)]), (.tuple [(.int 13), (.int 0)])])]), (.tuple [(.int 1), (.tuple [(.tuple [(.int 1)]), (.tuple [(.int 2)])])]), (.tuple [(.int 2), (.tuple [(.tuple [(.int 0), (.str ⟨#[49]⟩)])])])]))] [.le b, .ow (.list [.none, (.tuple []), (.int 0), (.tuple [(.int 2)]), (.list [(.int 2), (.tuple [(.tuple [(.int 0), (.int 1)])])]), (.tuple [(.int 2), (.list [(.tuple [(.int 0), (.int 1)])])]), (.tuple [(.int 0), (.tuple [])]), (.tuple [(.int 7), (.tuple [])]), (.tuple [(.bool true), (.tuple [])]), (.tuple [(.str ⟨#[50]⟩), (.tuple [])]), (.tuple [(.int 2), (.tuple [(.tuple [(.int 0), (.int 1), (.int 0)])])]), (.tuple [(.int 2), (.tuple [(.tuple [(.int 0), (.int 10)])])]), (.tuple [(.int 2), (.tuple [(.tuple [(.int 0), (.int (-1))])])]), (.tuple [(.int 2), (.tuple [(.tuple [(.int 0), (.bool true)])])]), (.tuple [(.int 2), (.tuple [(.tuple [(.int 0), (.int 1)]), (.tuple [(.int 0), (.int 1)])])]), (.tuple [(.int 2), (.tuple [(.tuple [(.int 1), (.int 0)]), (.tuple [(.int 0), (.int 1)])])]), (.tuple [(.int 2), (.tuple [(.tuple [(.int 0), (.int 1)]), (.tuple [(.int 1), (.int 1)])])]), (.tuple [(.int 2), (.tuple [(.tuple [(.int 0), (.int 1)])]), (.int 0)]), (.dict []), (.str ⟨#[115, 116, 97, 105, 114]⟩), (.tuple [(.int 1000000000000000000000000000000000000000000000000000000000000), (.tuple [])]), (.tuple [(.int 2), (.tuple [(.int 0), (.int 1)])]), (.tuple [(.int 2), (.tuple [(.list [(.int 0), (.int 1)])])]), (.tuple [(.int 2), .none])]), .un]) := by
  kernel_rfl
def M_h56_ : List PyData := [.none, (.tuple []), (.int 0), (.tuple [(.int 2)]), (.list [(.int 2), (.tuple [(.tuple [(.int 0), (.int 1)])])]), (.tuple [(.int 2), (.list [(.tuple [(.int 0), (.int 1)])])]), (.tuple [(.int 0), (.tuple [])]), (.tuple [(.int 7), (.tuple [])]), (.tuple [(.bool true), (.tuple [])]), (.tuple [(.str ⟨#[50]⟩), (.tuple [])]), (.tuple [(.int 2), (.tuple [(.tuple [(.int 0), (.int 1), (.int 0)])])]), (.tuple [(.int 2), (.tuple [(.tuple [(.int 0), (.int 10)])])]), (.tuple [(.int 2), (.tuple [(.tuple [(.int 0), (.int (-1))])])]), (.tuple [(.int 2), (.tuple [(.tuple [(.int 0), (.bool true)])])]), (.tuple [(.int 2), (.tuple [(.tuple [(.int 0), (.int 1)]), (.tuple [(.int 0), (.int 1)])])]), (.tuple [(.int 2), (.tuple [(.tuple [(.int 1), (.int 0)]), (.tuple [(.int 0), (.int 1)])])]), (.tuple [(.int 2), (.tuple [(.tuple [(.int 0), (.int 1)]), (.tuple [(.int 1), (.int 1)])])]), (.tuple [(.int 2), (.tuple [(.tuple [(.int 0), (.int 1)])]), (.int 0)]), (.dict []), (.str ⟨#[115, 116, 97, 105, 114]⟩), (.tuple [(.int 1000000000000000000000000000000000000000000000000000000000000), (.tuple [])]), (.tuple [(.int 2), (.tuple [(.int 0), (.int 1)])]), (.tuple [(.int 2), (.tuple [(.list [(.int 0), (.int 1)])])]), (.tuple [(.int 2), .none]), (.tuple [(.int 2), (.tuple [(.tuple [(.int 0), .none])])]), (.tuple [(.int 2), (.tuple [(.tuple [(.int 0), (.int 13)]), (.tuple [(.int 1), (.int 12)]), (.tuple [(.int 2), (.int 11)]), (.tuple [(.int 3), (.int 10)]), (.tuple [(.int 4), (.int 9)]), (.tuple [(.int 5), (.int 8)]), (.tuple [(.int 6), (.int 7)]), (.tuple [(.int 7), (.int 6)]), (.tuple [(.int 8), (.int 5)]), (.tuple [(.int 9), (.int 4)]), (.tuple [(.int 10), (.int 3)]), (.tuple [(.int 11), (.int 2)]), (.tuple [(.int 12), (.int 1)]), (.tuple [(.int 13), (.int 0)])])]), (.tuple [(.int 1), (.tuple [(.tuple [(.int 1)]), (.tuple [(.int 2)])])]), (.tuple [(.int 2), (.tuple [(.tuple [(.int 0), (.str ⟨#[49]⟩)])])])]
theorem h56_ok (g a c : Int) (c0 : 0 ≤ c) (c1 : c < 2 ^ 59) : ∃ x1 ∈ M_h56_, ∃ g' c' : Int, 0 ≤ c' ∧ c' ≤ c + 1 ∧ callD prg 20 56 [.le (Ev.FamD.bag g a c)] = some (.ok (.v (.d x1)) [.le (Ev.FamD.bag g' a c')]) := by
  obtain ⟨x1, h_x1, g1, c1, p1, q1, k1⟩ := Ev.FamD.one_ok (p := prg) (d := 17) (k := 54) (k1 := 55) (by kernel_rfl) (by kernel_rfl) g a c M_h56_ (by decide) (by decide) c0 (by omega)
  refine ⟨x1, h_x1, g1, c1, p1, by omega, ?_⟩
  have all : exs (callD prg 19) (cloD prg 19) prg.sub fuel f__law_bad_stair.body [.le (Ev.FamD.bag g a c), .un, .un] = some (.ok (.rt (.v (.d x1))) [.le (Ev.FamD.bag g1 a c1), .ow (.list [.none, (.tuple []), (.int 0), (.tuple [(.int 2)]), (.list [(.int 2), (.tuple [(.tuple [(.int 0), (.int 1)])])]), (.tuple [(.int 2), (.list [(.tuple [(.int 0), (.int 1)])])]), (.tuple [(.int 0), (.tuple [])]), (.tuple [(.int 7), (.tuple [])]), (.tuple [(.bool true), (.tuple [])]), (.tuple [(.str ⟨#[50]⟩), (.tuple [])]), (.tuple [(.int 2), (.tuple [(.tuple [(.int 0), (.int 1), (.int 0)])])]), (.tuple [(.int 2), (.tuple [(.tuple [(.int 0), (.int 10)])])]), (.tuple [(.int 2), (.tuple [(.tuple [(.int 0), (.int (-1))])])]), (.tuple [(.int 2), (.tuple [(.tuple [(.int 0), (.bool true)])])]), (.tuple [(.int 2), (.tuple [(.tuple [(.int 0), (.int 1)]), (.tuple [(.int 0), (.int 1)])])]), (.tuple [(.int 2), (.tuple [(.tuple [(.int 1), (.int 0)]), (.tuple [(.int 0), (.int 1)])])]), (.tuple [(.int 2), (.tuple [(.tuple [(.int 0), (.int 1)]), (.tuple [(.int 1), (.int 1)])])]), (.tuple [(.int 2), (.tuple [(.tuple [(.int 0), (.int 1)])]), (.int 0)]), (.dict []), (.str ⟨#[115, 116, 97, 105, 114]⟩), (.tuple [(.int 1000000000000000000000000000000000000000000000000000000000000), (.tuple [])]), (.tuple [(.int 2), (.tuple [(.int 0), (.int 1)])]), (.tuple [(.int 2), (.tuple [(.list [(.int 0), (.int 1)])])]), (.tuple [(.int 2), .none])]), .un]) := ((stmt_cons (n := 999999) (h56_a1 (Ev.FamD.bag g a c))).trans ((stmt_cons (n := 999999) (h56_a2 (Ev.FamD.bag g a c))).trans (ret_of (n := 999999) (fun i z => by cases z) (call_of (n := 999998) (h56_a3 (Ev.FamD.bag g a c)) rfl k1 rfl))))
  exact call_body (p := prg) (d := 19) (k := 56) (f := f__law_bad_stair) (as := [.le (Ev.FamD.bag g a c)]) (by kernel_rfl) rfl rfl all
abbrev M_x1 : List PyData := M_h56_
theorem ra1 (b : PyData) : ev (callD prg 20) (cloD prg 20) 999999 false (.tup [(.lit (.d (.int 2))), (.tup [(.tup [(.lit (.d (.int 0))), (.lit (.d (.int 2)))]), (.tup [(.lit (.d (.int 1))), (.lit (.d (.int 1)))])])]) [.le b, .un, .un, .un, .un, .un, .un, .un] = some (Ou.ok (.v (.d (.tuple [(.int 2), (.tuple [(.tuple [(.int 0), (.int 2)]), (.tuple [(.int 1), (.int 1)])])]))) [.le b, .un, .un, .un, .un, .un, .un, .un]) := by
  kernel_rfl
theorem ra2 (b : PyData) (x1 : PyData) : evOps (ev (callD prg 20) (cloD prg 20) 999998) [(.var 0), (.lst [(.lit (.d .none)), (.lst [(.lit (.d (.int 0)))]), (.tup [(.lit (.d (.int 1))), (.lit (.d (.int 0)))]), (.tup [(.lit (.d (.int 0))), (.lit (.d (.int 0)))]), (.tup [(.lit (.d (.int 2)))]), (.tup [(.prim .sub [(.lit (.d (.int 0))), (.lit (.d (.int 1)))])]), (.tup [(.lit (.d (.bool true)))]), (.tup [(.lit (.d (.str ⟨#[48]⟩)))]), (.lit (.d (.int 0))), (.tup [(.lit (.d (.int 0))), (.lit (.d .none))])])] [.le b, .va (.d x1), .va (.d (.tuple [(.int 2), (.tuple [(.tuple [(.int 0), (.int 2)]), (.tuple [(.int 1), (.int 1)])])])), .un, .un, .un, .un, .un] = some (Ou.ok [.sl 0, .rs (.o (.list [.none, (.list [(.int 0)]), (.tuple [(.int 1), (.int 0)]), (.tuple [(.int 0), (.int 0)]), (.tuple [(.int 2)]), (.tuple [(.int (-1))]), (.tuple [(.bool true)]), (.tuple [(.str ⟨#[48]⟩)]), (.int 0), (.tuple [(.int 0), .none])]))] [.le b, .va (.d x1), .va (.d (.tuple [(.int 2), (.tuple [(.tuple [(.int 0), (.int 2)]), (.tuple [(.int 1), (.int 1)])])])), .un, .un, .un, .un, .un]) := by
  kernel_rfl
def M_x2 : List PyData := [.none, (.list [(.int 0)]), (.tuple [(.int 1), (.int 0)]), (.tuple [(.int 0), (.int 0)]), (.tuple [(.int 2)]), (.tuple [(.int (-1))]), (.tuple [(.bool true)]), (.tuple [(.str ⟨#[48]⟩)]), (.int 0), (.tuple [(.int 0), .none])]
theorem ra3 (b : PyData) (x1 : PyData) (x2 : PyData) : evOps (ev (callD prg 20) (cloD prg 20) 999998) [(.var 0), (.lst [(.lit (.d .none)), (.tup []), (.tup [(.lit (.d (.int 0)))]), (.lst [(.lit (.d (.int 0))), (.lit (.d (.int 0)))]), (.tup [(.lit (.d (.int 0))), (.lit (.d (.int 10)))]), (.tup [(.lit (.d (.int 0))), (.prim .sub [(.lit (.d (.int 0))), (.lit (.d (.int 1)))])]), (.tup [(.lit (.d (.int 0))), (.lit (.d (.bool true)))]), (.tup [(.lit (.d (.int 0))), (.lit (.d (.str ⟨#[49]⟩)))]), (.tup [(.lit (.d (.int 0))), (.lit (.d (.int 0))), (.lit (.d (.int 0)))]), (.lit (.d (.int 0)))])] [.le b, .va (.d x1), .va (.d (.tuple [(.int 2), (.tuple [(.tuple [(.int 0), (.int 2)]), (.tuple [(.int 1), (.int 1)])])])), .va (.d x2), .un, .un, .un, .un] = some (Ou.ok [.sl 0, .rs (.o (.list [.none, (.tuple []), (.tuple [(.int 0)]), (.list [(.int 0), (.int 0)]), (.tuple [(.int 0), (.int 10)]), (.tuple [(.int 0), (.int (-1))]), (.tuple [(.int 0), (.bool true)]), (.tuple [(.int 0), (.str ⟨#[49]⟩)]), (.tuple [(.int 0), (.int 0), (.int 0)]), (.int 0)]))] [.le b, .va (.d x1), .va (.d (.tuple [(.int 2), (.tuple [(.tuple [(.int 0), (.int 2)]), (.tuple [(.int 1), (.int 1)])])])), .va (.d x2), .un, .un, .un, .un]) := by
  kernel_rfl
def M_x3 : List PyData := [.none, (.tuple []), (.tuple [(.int 0)]), (.list [(.int 0), (.int 0)]), (.tuple [(.int 0), (.int 10)]), (.tuple [(.int 0), (.int (-1))]), (.tuple [(.int 0), (.bool true)]), (.tuple [(.int 0), (.str ⟨#[49]⟩)]), (.tuple [(.int 0), (.int 0), (.int 0)]), (.int 0)]
theorem ra4 (b : PyData) (x1 : PyData) (x2 : PyData) (x3 : PyData) (h_x1 : x1 ∈ M_x1) : ev (callD prg 20) (cloD prg 20) 999996 false (.call 58 [(.var 1)]) [.le b, .va (.d x1), .va (.d (.tuple [(.int 2), (.tuple [(.tuple [(.int 0), (.int 2)]), (.tuple [(.int 1), (.int 1)])])])), .va (.d x2), .va (.d x3), .un, .un, .un] = some (Ou.ok (.o (.list [(.str ⟨#[115, 116, 97, 105, 114]⟩), (.str ⟨#[115, 116, 97, 105, 114]⟩), (.str ⟨#[115, 116, 97, 105, 114]⟩), (.str ⟨#[115, 116, 97, 105, 114]⟩), (.str ⟨#[115, 116, 97, 105, 114]⟩), (.str ⟨#[115, 116, 97, 105, 114]⟩), (.str ⟨#[115, 116, 97, 105, 114]⟩), (.str ⟨#[115, 116, 97, 105, 114]⟩)])) [.le b, .va (.d x1), .va (.d (.tuple [(.int 2), (.tuple [(.tuple [(.int 0), (.int 2)]), (.tuple [(.int 1), (.int 1)])])])), .va (.d x2), .va (.d x3), .un, .un, .un]) := by
  simp only [M_x1, M_h56_, List.mem_cons, List.not_mem_nil, or_false] at h_x1
  rcases h_x1 with rfl | rfl | rfl | rfl | rfl | rfl | rfl | rfl | rfl | rfl | rfl | rfl | rfl | rfl | rfl | rfl | rfl | rfl | rfl | rfl | rfl | rfl | rfl | rfl | rfl | rfl | rfl | rfl
  · kernel_rfl
  · kernel_rfl
  · kernel_rfl
  · kernel_rfl
  · kernel_rfl
  · kernel_rfl
  · kernel_rfl
  · kernel_rfl
  · kernel_rfl
  · kernel_rfl
  · kernel_rfl
  · kernel_rfl
  · kernel_rfl
  · kernel_rfl
  · kernel_rfl
  · kernel_rfl
  · kernel_rfl
  · kernel_rfl
  · kernel_rfl
  · kernel_rfl
  · kernel_rfl
  · kernel_rfl
  · kernel_rfl
  · kernel_rfl
  · kernel_rfl
  · kernel_rfl
  · kernel_rfl
  · kernel_rfl
theorem ra5 (b : PyData) (x1 : PyData) (x2 : PyData) (x3 : PyData) (h_x1 : x1 ∈ M_x1) : ev (callD prg 20) (cloD prg 20) 999996 false (.call 59 [(.var 1), (.var 3), (.var 4)]) [.le b, .va (.d x1), .va (.d (.tuple [(.int 2), (.tuple [(.tuple [(.int 0), (.int 2)]), (.tuple [(.int 1), (.int 1)])])])), .va (.d x2), .va (.d x3), .un, .un, .un] = some (Ou.ok (.o (.list [(.str ⟨#[115, 116, 97, 105, 114]⟩), (.str ⟨#[115, 116, 97, 105, 114]⟩), (.str ⟨#[115, 116, 97, 105, 114]⟩), (.str ⟨#[115, 116, 97, 105, 114]⟩), (.str ⟨#[115, 116, 97, 105, 114]⟩), (.str ⟨#[115, 116, 97, 105, 114]⟩), (.str ⟨#[115, 116, 97, 105, 114]⟩), (.str ⟨#[115, 116, 97, 105, 114]⟩)])) [.le b, .va (.d x1), .va (.d (.tuple [(.int 2), (.tuple [(.tuple [(.int 0), (.int 2)]), (.tuple [(.int 1), (.int 1)])])])), .va (.d x2), .va (.d x3), .un, .un, .un]) := by
  simp only [M_x1, M_h56_, List.mem_cons, List.not_mem_nil, or_false] at h_x1
  rcases h_x1 with rfl | rfl | rfl | rfl | rfl | rfl | rfl | rfl | rfl | rfl | rfl | rfl | rfl | rfl | rfl | rfl | rfl | rfl | rfl | rfl | rfl | rfl | rfl | rfl | rfl | rfl | rfl | rfl
  · kernel_rfl
  · kernel_rfl
  · kernel_rfl
  · kernel_rfl
  · kernel_rfl
  · kernel_rfl
  · kernel_rfl
  · kernel_rfl
  · kernel_rfl
  · kernel_rfl
  · kernel_rfl
  · kernel_rfl
  · kernel_rfl
  · kernel_rfl
  · kernel_rfl
  · kernel_rfl
  · kernel_rfl
  · kernel_rfl
  · kernel_rfl
  · kernel_rfl
  · kernel_rfl
  · kernel_rfl
  · kernel_rfl
  · kernel_rfl
  · kernel_rfl
  · kernel_rfl
  · kernel_rfl
  · kernel_rfl
theorem ra6 (b : PyData) : P.run .add [(.d (.list [(.str ⟨#[115, 116, 97, 105, 114]⟩), (.str ⟨#[115, 116, 97, 105, 114]⟩), (.str ⟨#[115, 116, 97, 105, 114]⟩), (.str ⟨#[115, 116, 97, 105, 114]⟩), (.str ⟨#[115, 116, 97, 105, 114]⟩), (.str ⟨#[115, 116, 97, 105, 114]⟩), (.str ⟨#[115, 116, 97, 105, 114]⟩), (.str ⟨#[115, 116, 97, 105, 114]⟩)])), (.d (.list [(.str ⟨#[115, 116, 97, 105, 114]⟩), (.str ⟨#[115, 116, 97, 105, 114]⟩), (.str ⟨#[115, 116, 97, 105, 114]⟩), (.str ⟨#[115, 116, 97, 105, 114]⟩), (.str ⟨#[115, 116, 97, 105, 114]⟩), (.str ⟨#[115, 116, 97, 105, 114]⟩), (.str ⟨#[115, 116, 97, 105, 114]⟩), (.str ⟨#[115, 116, 97, 105, 114]⟩)]))] = some (.o (.list [(.str ⟨#[115, 116, 97, 105, 114]⟩), (.str ⟨#[115, 116, 97, 105, 114]⟩), (.str ⟨#[115, 116, 97, 105, 114]⟩), (.str ⟨#[115, 116, 97, 105, 114]⟩), (.str ⟨#[115, 116, 97, 105, 114]⟩), (.str ⟨#[115, 116, 97, 105, 114]⟩), (.str ⟨#[115, 116, 97, 105, 114]⟩), (.str ⟨#[115, 116, 97, 105, 114]⟩), (.str ⟨#[115, 116, 97, 105, 114]⟩), (.str ⟨#[115, 116, 97, 105, 114]⟩), (.str ⟨#[115, 116, 97, 105, 114]⟩), (.str ⟨#[115, 116, 97, 105, 114]⟩), (.str ⟨#[115, 116, 97, 105, 114]⟩), (.str ⟨#[115, 116, 97, 105, 114]⟩), (.str ⟨#[115, 116, 97, 105, 114]⟩), (.str ⟨#[115, 116, 97, 105, 114]⟩)])) := by
  kernel_rfl
theorem ra7 (b : PyData) (x1 : PyData) (x2 : PyData) (x3 : PyData) : ev (callD prg 20) (cloD prg 20) 999997 false (.prim .mul [(.lst [(.lit (.d (.str ⟨#[115, 116, 97, 105, 114]⟩)))]), (.lit (.d (.int 16)))]) [.le b, .va (.d x1), .va (.d (.tuple [(.int 2), (.tuple [(.tuple [(.int 0), (.int 2)]), (.tuple [(.int 1), (.int 1)])])])), .va (.d x2), .va (.d x3), .un, .un, .un] = some (Ou.ok (.o (.list [(.str ⟨#[115, 116, 97, 105, 114]⟩), (.str ⟨#[115, 116, 97, 105, 114]⟩), (.str ⟨#[115, 116, 97, 105, 114]⟩), (.str ⟨#[115, 116, 97, 105, 114]⟩), (.str ⟨#[115, 116, 97, 105, 114]⟩), (.str ⟨#[115, 116, 97, 105, 114]⟩), (.str ⟨#[115, 116, 97, 105, 114]⟩), (.str ⟨#[115, 116, 97, 105, 114]⟩), (.str ⟨#[115, 116, 97, 105, 114]⟩), (.str ⟨#[115, 116, 97, 105, 114]⟩), (.str ⟨#[115, 116, 97, 105, 114]⟩), (.str ⟨#[115, 116, 97, 105, 114]⟩), (.str ⟨#[115, 116, 97, 105, 114]⟩), (.str ⟨#[115, 116, 97, 105, 114]⟩), (.str ⟨#[115, 116, 97, 105, 114]⟩), (.str ⟨#[115, 116, 97, 105, 114]⟩)])) [.le b, .va (.d x1), .va (.d (.tuple [(.int 2), (.tuple [(.tuple [(.int 0), (.int 2)]), (.tuple [(.int 1), (.int 1)])])])), .va (.d x2), .va (.d x3), .un, .un, .un]) := by
  kernel_rfl
theorem ra8 (b : PyData) : P.run .ne [(.d (.list [(.str ⟨#[115, 116, 97, 105, 114]⟩), (.str ⟨#[115, 116, 97, 105, 114]⟩), (.str ⟨#[115, 116, 97, 105, 114]⟩), (.str ⟨#[115, 116, 97, 105, 114]⟩), (.str ⟨#[115, 116, 97, 105, 114]⟩), (.str ⟨#[115, 116, 97, 105, 114]⟩), (.str ⟨#[115, 116, 97, 105, 114]⟩), (.str ⟨#[115, 116, 97, 105, 114]⟩), (.str ⟨#[115, 116, 97, 105, 114]⟩), (.str ⟨#[115, 116, 97, 105, 114]⟩), (.str ⟨#[115, 116, 97, 105, 114]⟩), (.str ⟨#[115, 116, 97, 105, 114]⟩), (.str ⟨#[115, 116, 97, 105, 114]⟩), (.str ⟨#[115, 116, 97, 105, 114]⟩), (.str ⟨#[115, 116, 97, 105, 114]⟩), (.str ⟨#[115, 116, 97, 105, 114]⟩)])), (.d (.list [(.str ⟨#[115, 116, 97, 105, 114]⟩), (.str ⟨#[115, 116, 97, 105, 114]⟩), (.str ⟨#[115, 116, 97, 105, 114]⟩), (.str ⟨#[115, 116, 97, 105, 114]⟩), (.str ⟨#[115, 116, 97, 105, 114]⟩), (.str ⟨#[115, 116, 97, 105, 114]⟩), (.str ⟨#[115, 116, 97, 105, 114]⟩), (.str ⟨#[115, 116, 97, 105, 114]⟩), (.str ⟨#[115, 116, 97, 105, 114]⟩), (.str ⟨#[115, 116, 97, 105, 114]⟩), (.str ⟨#[115, 116, 97, 105, 114]⟩), (.str ⟨#[115, 116, 97, 105, 114]⟩), (.str ⟨#[115, 116, 97, 105, 114]⟩), (.str ⟨#[115, 116, 97, 105, 114]⟩), (.str ⟨#[115, 116, 97, 105, 114]⟩), (.str ⟨#[115, 116, 97, 105, 114]⟩)]))] = some (.v (.d (.bool false))) := by
  kernel_rfl
theorem ra9 (b : PyData) (x1 : PyData) (x2 : PyData) (x3 : PyData) (h_x2 : x2 ∈ M_x2) (h_x3 : x3 ∈ M_x3) : ev (callD prg 20) (cloD prg 20) 999997 false (.call 59 [(.var 2), (.var 3), (.var 4)]) [.le b, .va (.d x1), .va (.d (.tuple [(.int 2), (.tuple [(.tuple [(.int 0), (.int 2)]), (.tuple [(.int 1), (.int 1)])])])), .va (.d x2), .va (.d x3), .un, .un, .un] = some (Ou.ok (.o (.list [(.str ⟨#[108, 111, 116]⟩), (.str ⟨#[108, 111, 116]⟩), (.str ⟨#[108, 111, 116]⟩), (.str ⟨#[108, 111, 116]⟩), (.str ⟨#[108, 111, 116]⟩), (.str ⟨#[108, 111, 116]⟩), (.str ⟨#[108, 111, 116]⟩), (.str ⟨#[112, 111, 119, 101, 114]⟩)])) [.le b, .va (.d x1), .va (.d (.tuple [(.int 2), (.tuple [(.tuple [(.int 0), (.int 2)]), (.tuple [(.int 1), (.int 1)])])])), .va (.d x2), .va (.d x3), .un, .un, .un]) := by
  simp only [M_x2, List.mem_cons, List.not_mem_nil, or_false] at h_x2
  rcases h_x2 with rfl | rfl | rfl | rfl | rfl | rfl | rfl | rfl | rfl | rfl
  · simp only [M_x3, List.mem_cons, List.not_mem_nil, or_false] at h_x3
    rcases h_x3 with rfl | rfl | rfl | rfl | rfl | rfl | rfl | rfl | rfl | rfl
    · kernel_rfl
    · kernel_rfl
    · kernel_rfl
    · kernel_rfl
    · kernel_rfl
    · kernel_rfl
    · kernel_rfl
    · kernel_rfl
    · kernel_rfl
    · kernel_rfl
  · simp only [M_x3, List.mem_cons, List.not_mem_nil, or_false] at h_x3
    rcases h_x3 with rfl | rfl | rfl | rfl | rfl | rfl | rfl | rfl | rfl | rfl
    · kernel_rfl
    · kernel_rfl
    · kernel_rfl
    · kernel_rfl
    · kernel_rfl
    · kernel_rfl
    · kernel_rfl
    · kernel_rfl
    · kernel_rfl
    · kernel_rfl
  · simp only [M_x3, List.mem_cons, List.not_mem_nil, or_false] at h_x3
    rcases h_x3 with rfl | rfl | rfl | rfl | rfl | rfl | rfl | rfl | rfl | rfl
    · kernel_rfl
    · kernel_rfl
    · kernel_rfl
    · kernel_rfl
    · kernel_rfl
    · kernel_rfl
    · kernel_rfl
    · kernel_rfl
    · kernel_rfl
    · kernel_rfl
  · simp only [M_x3, List.mem_cons, List.not_mem_nil, or_false] at h_x3
    rcases h_x3 with rfl | rfl | rfl | rfl | rfl | rfl | rfl | rfl | rfl | rfl
    · kernel_rfl
    · kernel_rfl
    · kernel_rfl
    · kernel_rfl
    · kernel_rfl
    · kernel_rfl
    · kernel_rfl
    · kernel_rfl
    · kernel_rfl
    · kernel_rfl
  · simp only [M_x3, List.mem_cons, List.not_mem_nil, or_false] at h_x3
    rcases h_x3 with rfl | rfl | rfl | rfl | rfl | rfl | rfl | rfl | rfl | rfl
    · kernel_rfl
    · kernel_rfl
    · kernel_rfl
    · kernel_rfl
    · kernel_rfl
    · kernel_rfl
    · kernel_rfl
    · kernel_rfl
    · kernel_rfl
    · kernel_rfl
  · simp only [M_x3, List.mem_cons, List.not_mem_nil, or_false] at h_x3
    rcases h_x3 with rfl | rfl | rfl | rfl | rfl | rfl | rfl | rfl | rfl | rfl
    · kernel_rfl
    · kernel_rfl
    · kernel_rfl
    · kernel_rfl
    · kernel_rfl
    · kernel_rfl
    · kernel_rfl
    · kernel_rfl
    · kernel_rfl
    · kernel_rfl
  · simp only [M_x3, List.mem_cons, List.not_mem_nil, or_false] at h_x3
    rcases h_x3 with rfl | rfl | rfl | rfl | rfl | rfl | rfl | rfl | rfl | rfl
    · kernel_rfl
    · kernel_rfl
    · kernel_rfl
    · kernel_rfl
    · kernel_rfl
    · kernel_rfl
    · kernel_rfl
    · kernel_rfl
    · kernel_rfl
    · kernel_rfl
  · simp only [M_x3, List.mem_cons, List.not_mem_nil, or_false] at h_x3
    rcases h_x3 with rfl | rfl | rfl | rfl | rfl | rfl | rfl | rfl | rfl | rfl
    · kernel_rfl
    · kernel_rfl
    · kernel_rfl
    · kernel_rfl
    · kernel_rfl
    · kernel_rfl
    · kernel_rfl
    · kernel_rfl
    · kernel_rfl
    · kernel_rfl
  · simp only [M_x3, List.mem_cons, List.not_mem_nil, or_false] at h_x3
    rcases h_x3 with rfl | rfl | rfl | rfl | rfl | rfl | rfl | rfl | rfl | rfl
    · kernel_rfl
    · kernel_rfl
    · kernel_rfl
    · kernel_rfl
    · kernel_rfl
    · kernel_rfl
    · kernel_rfl
    · kernel_rfl
    · kernel_rfl
    · kernel_rfl
  · simp only [M_x3, List.mem_cons, List.not_mem_nil, or_false] at h_x3
    rcases h_x3 with rfl | rfl | rfl | rfl | rfl | rfl | rfl | rfl | rfl | rfl
    · kernel_rfl
    · kernel_rfl
    · kernel_rfl
    · kernel_rfl
    · kernel_rfl
    · kernel_rfl
    · kernel_rfl
    · kernel_rfl
    · kernel_rfl
    · kernel_rfl
theorem ra10 (b : PyData) (x1 : PyData) (x2 : PyData) (x3 : PyData) : ev (callD prg 20) (cloD prg 20) 999997 false (.prim .add [(.prim .mul [(.lst [(.lit (.d (.str ⟨#[108, 111, 116]⟩)))]), (.lit (.d (.int 7)))]), (.lst [(.lit (.d (.str ⟨#[112, 111, 119, 101, 114]⟩)))])]) [.le b, .va (.d x1), .va (.d (.tuple [(.int 2), (.tuple [(.tuple [(.int 0), (.int 2)]), (.tuple [(.int 1), (.int 1)])])])), .va (.d x2), .va (.d x3), .un, .un, .un] = some (Ou.ok (.o (.list [(.str ⟨#[108, 111, 116]⟩), (.str ⟨#[108, 111, 116]⟩), (.str ⟨#[108, 111, 116]⟩), (.str ⟨#[108, 111, 116]⟩), (.str ⟨#[108, 111, 116]⟩), (.str ⟨#[108, 111, 116]⟩), (.str ⟨#[108, 111, 116]⟩), (.str ⟨#[112, 111, 119, 101, 114]⟩)])) [.le b, .va (.d x1), .va (.d (.tuple [(.int 2), (.tuple [(.tuple [(.int 0), (.int 2)]), (.tuple [(.int 1), (.int 1)])])])), .va (.d x2), .va (.d x3), .un, .un, .un]) := by
  kernel_rfl
theorem ra11 (b : PyData) : P.run .ne [(.d (.list [(.str ⟨#[108, 111, 116]⟩), (.str ⟨#[108, 111, 116]⟩), (.str ⟨#[108, 111, 116]⟩), (.str ⟨#[108, 111, 116]⟩), (.str ⟨#[108, 111, 116]⟩), (.str ⟨#[108, 111, 116]⟩), (.str ⟨#[108, 111, 116]⟩), (.str ⟨#[112, 111, 119, 101, 114]⟩)])), (.d (.list [(.str ⟨#[108, 111, 116]⟩), (.str ⟨#[108, 111, 116]⟩), (.str ⟨#[108, 111, 116]⟩), (.str ⟨#[108, 111, 116]⟩), (.str ⟨#[108, 111, 116]⟩), (.str ⟨#[108, 111, 116]⟩), (.str ⟨#[108, 111, 116]⟩), (.str ⟨#[112, 111, 119, 101, 114]⟩)]))] = some (.v (.d (.bool false))) := by
  kernel_rfl
theorem ra12 (b : PyData) (x1 : PyData) (x2 : PyData) (x3 : PyData) : ev (callD prg 20) (cloD prg 20) 999996 false (.call 58 [(.var 2)]) [.le b, .va (.d x1), .va (.d (.tuple [(.int 2), (.tuple [(.tuple [(.int 0), (.int 2)]), (.tuple [(.int 1), (.int 1)])])])), .va (.d x2), .va (.d x3), .un, .un, .un] = some (Ou.ok (.o (.list [(.str ⟨#[116, 111, 108, 100]⟩), (.str ⟨#[116, 111, 108, 100]⟩), (.str ⟨#[116, 111, 108, 100]⟩), (.str ⟨#[116, 111, 108, 100]⟩), (.str ⟨#[116, 111, 108, 100]⟩), (.str ⟨#[116, 111, 108, 100]⟩), (.str ⟨#[116, 111, 108, 100]⟩), (.str ⟨#[116, 111, 108, 100]⟩)])) [.le b, .va (.d x1), .va (.d (.tuple [(.int 2), (.tuple [(.tuple [(.int 0), (.int 2)]), (.tuple [(.int 1), (.int 1)])])])), .va (.d x2), .va (.d x3), .un, .un, .un]) := by
  kernel_rfl
theorem ra13 (b : PyData) (x1 : PyData) (x2 : PyData) (x3 : PyData) : ev (callD prg 20) (cloD prg 20) 999996 false (.call 59 [(.var 2), (.tup [(.lit (.d (.int 0))), (.lit (.d (.int 1)))]), (.tup [(.lit (.d (.int 9))), (.lit (.d (.int 0)))])]) [.le b, .va (.d x1), .va (.d (.tuple [(.int 2), (.tuple [(.tuple [(.int 0), (.int 2)]), (.tuple [(.int 1), (.int 1)])])])), .va (.d x2), .va (.d x3), .un, .un, .un] = some (Ou.ok (.o (.list [(.str ⟨#[116, 111, 108, 100]⟩), (.str ⟨#[116, 111, 108, 100]⟩), (.str ⟨#[116, 111, 108, 100]⟩), (.str ⟨#[116, 111, 108, 100]⟩), (.str ⟨#[116, 111, 108, 100]⟩), (.str ⟨#[116, 111, 108, 100]⟩), (.str ⟨#[116, 111, 108, 100]⟩), (.str ⟨#[116, 111, 108, 100]⟩)])) [.le b, .va (.d x1), .va (.d (.tuple [(.int 2), (.tuple [(.tuple [(.int 0), (.int 2)]), (.tuple [(.int 1), (.int 1)])])])), .va (.d x2), .va (.d x3), .un, .un, .un]) := by
  kernel_rfl
theorem ra14 (b : PyData) : P.run .add [(.d (.list [(.str ⟨#[116, 111, 108, 100]⟩), (.str ⟨#[116, 111, 108, 100]⟩), (.str ⟨#[116, 111, 108, 100]⟩), (.str ⟨#[116, 111, 108, 100]⟩), (.str ⟨#[116, 111, 108, 100]⟩), (.str ⟨#[116, 111, 108, 100]⟩), (.str ⟨#[116, 111, 108, 100]⟩), (.str ⟨#[116, 111, 108, 100]⟩)])), (.d (.list [(.str ⟨#[116, 111, 108, 100]⟩), (.str ⟨#[116, 111, 108, 100]⟩), (.str ⟨#[116, 111, 108, 100]⟩), (.str ⟨#[116, 111, 108, 100]⟩), (.str ⟨#[116, 111, 108, 100]⟩), (.str ⟨#[116, 111, 108, 100]⟩), (.str ⟨#[116, 111, 108, 100]⟩), (.str ⟨#[116, 111, 108, 100]⟩)]))] = some (.o (.list [(.str ⟨#[116, 111, 108, 100]⟩), (.str ⟨#[116, 111, 108, 100]⟩), (.str ⟨#[116, 111, 108, 100]⟩), (.str ⟨#[116, 111, 108, 100]⟩), (.str ⟨#[116, 111, 108, 100]⟩), (.str ⟨#[116, 111, 108, 100]⟩), (.str ⟨#[116, 111, 108, 100]⟩), (.str ⟨#[116, 111, 108, 100]⟩), (.str ⟨#[116, 111, 108, 100]⟩), (.str ⟨#[116, 111, 108, 100]⟩), (.str ⟨#[116, 111, 108, 100]⟩), (.str ⟨#[116, 111, 108, 100]⟩), (.str ⟨#[116, 111, 108, 100]⟩), (.str ⟨#[116, 111, 108, 100]⟩), (.str ⟨#[116, 111, 108, 100]⟩), (.str ⟨#[116, 111, 108, 100]⟩)])) := by
  kernel_rfl
theorem ra15 (b : PyData) (x1 : PyData) (x2 : PyData) (x3 : PyData) : ev (callD prg 20) (cloD prg 20) 999997 false (.prim .mul [(.lst [(.lit (.d (.str ⟨#[116, 111, 108, 100]⟩)))]), (.lit (.d (.int 16)))]) [.le b, .va (.d x1), .va (.d (.tuple [(.int 2), (.tuple [(.tuple [(.int 0), (.int 2)]), (.tuple [(.int 1), (.int 1)])])])), .va (.d x2), .va (.d x3), .un, .un, .un] = some (Ou.ok (.o (.list [(.str ⟨#[116, 111, 108, 100]⟩), (.str ⟨#[116, 111, 108, 100]⟩), (.str ⟨#[116, 111, 108, 100]⟩), (.str ⟨#[116, 111, 108, 100]⟩), (.str ⟨#[116, 111, 108, 100]⟩), (.str ⟨#[116, 111, 108, 100]⟩), (.str ⟨#[116, 111, 108, 100]⟩), (.str ⟨#[116, 111, 108, 100]⟩), (.str ⟨#[116, 111, 108, 100]⟩), (.str ⟨#[116, 111, 108, 100]⟩), (.str ⟨#[116, 111, 108, 100]⟩), (.str ⟨#[116, 111, 108, 100]⟩), (.str ⟨#[116, 111, 108, 100]⟩), (.str ⟨#[116, 111, 108, 100]⟩), (.str ⟨#[116, 111, 108, 100]⟩), (.str ⟨#[116, 111, 108, 100]⟩)])) [.le b, .va (.d x1), .va (.d (.tuple [(.int 2), (.tuple [(.tuple [(.int 0), (.int 2)]), (.tuple [(.int 1), (.int 1)])])])), .va (.d x2), .va (.d x3), .un, .un, .un]) := by
  kernel_rfl
theorem ra16 (b : PyData) : P.run .ne [(.d (.list [(.str ⟨#[116, 111, 108, 100]⟩), (.str ⟨#[116, 111, 108, 100]⟩), (.str ⟨#[116, 111, 108, 100]⟩), (.str ⟨#[116, 111, 108, 100]⟩), (.str ⟨#[116, 111, 108, 100]⟩), (.str ⟨#[116, 111, 108, 100]⟩), (.str ⟨#[116, 111, 108, 100]⟩), (.str ⟨#[116, 111, 108, 100]⟩), (.str ⟨#[116, 111, 108, 100]⟩), (.str ⟨#[116, 111, 108, 100]⟩), (.str ⟨#[116, 111, 108, 100]⟩), (.str ⟨#[116, 111, 108, 100]⟩), (.str ⟨#[116, 111, 108, 100]⟩), (.str ⟨#[116, 111, 108, 100]⟩), (.str ⟨#[116, 111, 108, 100]⟩), (.str ⟨#[116, 111, 108, 100]⟩)])), (.d (.list [(.str ⟨#[116, 111, 108, 100]⟩), (.str ⟨#[116, 111, 108, 100]⟩), (.str ⟨#[116, 111, 108, 100]⟩), (.str ⟨#[116, 111, 108, 100]⟩), (.str ⟨#[116, 111, 108, 100]⟩), (.str ⟨#[116, 111, 108, 100]⟩), (.str ⟨#[116, 111, 108, 100]⟩), (.str ⟨#[116, 111, 108, 100]⟩), (.str ⟨#[116, 111, 108, 100]⟩), (.str ⟨#[116, 111, 108, 100]⟩), (.str ⟨#[116, 111, 108, 100]⟩), (.str ⟨#[116, 111, 108, 100]⟩), (.str ⟨#[116, 111, 108, 100]⟩), (.str ⟨#[116, 111, 108, 100]⟩), (.str ⟨#[116, 111, 108, 100]⟩), (.str ⟨#[116, 111, 108, 100]⟩)]))] = some (.v (.d (.bool false))) := by
  kernel_rfl
theorem ra17 (b : PyData) (x1 : PyData) (x2 : PyData) (x3 : PyData) : ev (callD prg 20) (cloD prg 20) 999998 true (.prim .ne [(.call 59 [(.var 2), (.tup []), (.tup [(.lit (.d (.int 0))), (.lit (.d (.int 0)))])]), (.prim .mul [(.lst [(.lit (.d (.str ⟨#[116, 111, 108, 100]⟩)))]), (.lit (.d (.int 8)))])]) [.le b, .va (.d x1), .va (.d (.tuple [(.int 2), (.tuple [(.tuple [(.int 0), (.int 2)]), (.tuple [(.int 1), (.int 1)])])])), .va (.d x2), .va (.d x3), .un, .un, .un] = some (Ou.ok (.v (.d (.bool false))) [.le b, .va (.d x1), .va (.d (.tuple [(.int 2), (.tuple [(.tuple [(.int 0), (.int 2)]), (.tuple [(.int 1), (.int 1)])])])), .va (.d x2), .va (.d x3), .un, .un, .un]) := by
  kernel_rfl
theorem ra18 (b : PyData) (x1 : PyData) (x2 : PyData) (x3 : PyData) : evOps (ev (callD prg 20) (cloD prg 20) 999998) [(.var 0), (.lst [(.tup [(.lit (.d (.int 2))), (.tup [])]), (.tup [(.lit (.d (.int 1))), (.tup [])]), (.tup [(.lit (.d (.int 2))), (.tup [(.tup [(.lit (.d (.int 0))), (.lit (.d (.int 0)))])])]), (.tup [(.lit (.d (.int 3))), (.tup [(.tup [(.lit (.d (.int 0))), (.lit (.d (.int 0))), (.lit (.d (.int 0)))])])])])] [.le b, .va (.d x1), .va (.d (.tuple [(.int 2), (.tuple [(.tuple [(.int 0), (.int 2)]), (.tuple [(.int 1), (.int 1)])])])), .va (.d x2), .va (.d x3), .un, .un, .un] = some (Ou.ok [.sl 0, .rs (.o (.list [(.tuple [(.int 2), (.tuple [])]), (.tuple [(.int 1), (.tuple [])]), (.tuple [(.int 2), (.tuple [(.tuple [(.int 0), (.int 0)])])]), (.tuple [(.int 3), (.tuple [(.tuple [(.int 0), (.int 0), (.int 0)])])])]))] [.le b, .va (.d x1), .va (.d (.tuple [(.int 2), (.tuple [(.tuple [(.int 0), (.int 2)]), (.tuple [(.int 1), (.int 1)])])])), .va (.d x2), .va (.d x3), .un, .un, .un]) := by
  kernel_rfl
def M_x4 : List PyData := [(.tuple [(.int 2), (.tuple [])]), (.tuple [(.int 1), (.tuple [])]), (.tuple [(.int 2), (.tuple [(.tuple [(.int 0), (.int 0)])])]), (.tuple [(.int 3), (.tuple [(.tuple [(.int 0), (.int 0), (.int 0)])])])]
theorem ra19 (b : PyData) (x1 : PyData) (x2 : PyData) (x3 : PyData) (x4 : PyData) (h_x4 : x4 ∈ M_x4) : ev (callD prg 20) (cloD prg 20) 999998 false (.call 58 [(.var 5)]) [.le b, .va (.d x1), .va (.d (.tuple [(.int 2), (.tuple [(.tuple [(.int 0), (.int 2)]), (.tuple [(.int 1), (.int 1)])])])), .va (.d x2), .va (.d x3), .va (.d x4), .un, .un] = some (Ou.ok (.o (.list [(.str ⟨#[116, 111, 108, 100]⟩), (.str ⟨#[116, 111, 108, 100]⟩), (.str ⟨#[116, 111, 108, 100]⟩), (.str ⟨#[116, 111, 108, 100]⟩), (.tuple [(.str ⟨#[112, 114, 111, 112, 101, 114]⟩)]), (.tuple [(.str ⟨#[112, 114, 111, 112, 101, 114]⟩)]), (.tuple [(.str ⟨#[112, 114, 111, 112, 101, 114]⟩)]), (.tuple [(.str ⟨#[112, 114, 111, 112, 101, 114]⟩)])])) [.le b, .va (.d x1), .va (.d (.tuple [(.int 2), (.tuple [(.tuple [(.int 0), (.int 2)]), (.tuple [(.int 1), (.int 1)])])])), .va (.d x2), .va (.d x3), .va (.d x4), .un, .un]) := by
  simp only [M_x4, List.mem_cons, List.not_mem_nil, or_false] at h_x4
  rcases h_x4 with rfl | rfl | rfl | rfl
  · kernel_rfl
  · kernel_rfl
  · kernel_rfl
  · kernel_rfl
theorem ra20 (b : PyData) (x1 : PyData) (x2 : PyData) (x3 : PyData) (x4 : PyData) : ev (callD prg 20) (cloD prg 20) 999998 false (.prim .add [(.prim .mul [(.lst [(.lit (.d (.str ⟨#[116, 111, 108, 100]⟩)))]), (.lit (.d (.int 4)))]), (.prim .mul [(.lst [(.tup [(.lit (.d (.str ⟨#[112, 114, 111, 112, 101, 114]⟩)))])]), (.lit (.d (.int 4)))])]) [.le b, .va (.d x1), .va (.d (.tuple [(.int 2), (.tuple [(.tuple [(.int 0), (.int 2)]), (.tuple [(.int 1), (.int 1)])])])), .va (.d x2), .va (.d x3), .va (.d x4), .un, .un] = some (Ou.ok (.o (.list [(.str ⟨#[116, 111, 108, 100]⟩), (.str ⟨#[116, 111, 108, 100]⟩), (.str ⟨#[116, 111, 108, 100]⟩), (.str ⟨#[116, 111, 108, 100]⟩), (.tuple [(.str ⟨#[112, 114, 111, 112, 101, 114]⟩)]), (.tuple [(.str ⟨#[112, 114, 111, 112, 101, 114]⟩)]), (.tuple [(.str ⟨#[112, 114, 111, 112, 101, 114]⟩)]), (.tuple [(.str ⟨#[112, 114, 111, 112, 101, 114]⟩)])])) [.le b, .va (.d x1), .va (.d (.tuple [(.int 2), (.tuple [(.tuple [(.int 0), (.int 2)]), (.tuple [(.int 1), (.int 1)])])])), .va (.d x2), .va (.d x3), .va (.d x4), .un, .un]) := by
  kernel_rfl
theorem ra21 (b : PyData) : P.run .ne [(.d (.list [(.str ⟨#[116, 111, 108, 100]⟩), (.str ⟨#[116, 111, 108, 100]⟩), (.str ⟨#[116, 111, 108, 100]⟩), (.str ⟨#[116, 111, 108, 100]⟩), (.tuple [(.str ⟨#[112, 114, 111, 112, 101, 114]⟩)]), (.tuple [(.str ⟨#[112, 114, 111, 112, 101, 114]⟩)]), (.tuple [(.str ⟨#[112, 114, 111, 112, 101, 114]⟩)]), (.tuple [(.str ⟨#[112, 114, 111, 112, 101, 114]⟩)])])), (.d (.list [(.str ⟨#[116, 111, 108, 100]⟩), (.str ⟨#[116, 111, 108, 100]⟩), (.str ⟨#[116, 111, 108, 100]⟩), (.str ⟨#[116, 111, 108, 100]⟩), (.tuple [(.str ⟨#[112, 114, 111, 112, 101, 114]⟩)]), (.tuple [(.str ⟨#[112, 114, 111, 112, 101, 114]⟩)]), (.tuple [(.str ⟨#[112, 114, 111, 112, 101, 114]⟩)]), (.tuple [(.str ⟨#[112, 114, 111, 112, 101, 114]⟩)])]))] = some (.v (.d (.bool false))) := by
  kernel_rfl
theorem ra22 (b : PyData) (x1 : PyData) (x2 : PyData) (x3 : PyData) (x4 : PyData) : evOps (ev (callD prg 20) (cloD prg 20) 999998) [(.var 0), (.lst [(.lit (.d (.int 0))), (.lit (.d (.int 7))), (.prim .sub [(.lit (.d (.int 0))), (.lit (.d (.int 1)))]), (.lit (.d .none)), (.lit (.d (.bool true))), (.lit (.d (.str ⟨#[50]⟩))), (.tup [(.lit (.d (.int 2)))]), (.prim .pow [(.lit (.d (.int 10))), (.lit (.d (.int 60)))])])] [.le b, .va (.d x1), .va (.d (.tuple [(.int 2), (.tuple [(.tuple [(.int 0), (.int 2)]), (.tuple [(.int 1), (.int 1)])])])), .va (.d x2), .va (.d x3), .va (.d x4), .un, .un] = some (Ou.ok [.sl 0, .rs (.o (.list [(.int 0), (.int 7), (.int (-1)), .none, (.bool true), (.str ⟨#[50]⟩), (.tuple [(.int 2)]), (.int 1000000000000000000000000000000000000000000000000000000000000)]))] [.le b, .va (.d x1), .va (.d (.tuple [(.int 2), (.tuple [(.tuple [(.int 0), (.int 2)]), (.tuple [(.int 1), (.int 1)])])])), .va (.d x2), .va (.d x3), .va (.d x4), .un, .un]) := by
  kernel_rfl
def M_x5 : List PyData := [(.int 0), (.int 7), (.int (-1)), .none, (.bool true), (.str ⟨#[50]⟩), (.tuple [(.int 2)]), (.int 1000000000000000000000000000000000000000000000000000000000000)]
theorem ra23 (b : PyData) (x1 : PyData) (x2 : PyData) (x3 : PyData) (x4 : PyData) (x5 : PyData) (h_x5 : x5 ∈ M_x5) : ev (callD prg 20) (cloD prg 20) 999998 false (.lcall 57 16 [3, 6]) [.le b, .va (.d x1), .va (.d (.tuple [(.int 2), (.tuple [(.tuple [(.int 0), (.int 2)]), (.tuple [(.int 1), (.int 1)])])])), .va (.d x2), .va (.d x3), .va (.d x4), .va (.d x5), .un] = some (Ou.ok (.v (.d (.str (⟨#[110, 117, 109, 98, 101, 114, 32]⟩ ++ (PyData.shown x5))))) [.le b, .va (.d x1), .va (.d (.tuple [(.int 2), (.tuple [(.tuple [(.int 0), (.int 2)]), (.tuple [(.int 1), (.int 1)])])])), .va (.d x2), .va (.d x3), .va (.d x4), .va (.d x5), .un]) := by
  simp only [M_x5, List.mem_cons, List.not_mem_nil, or_false] at h_x5
  rcases h_x5 with rfl | rfl | rfl | rfl | rfl | rfl | rfl | rfl
  · kernel_rfl
  · kernel_rfl
  · kernel_rfl
  · kernel_rfl
  · kernel_rfl
  · kernel_rfl
  · kernel_rfl
  · kernel_rfl
theorem ra24 (b : PyData) (x1 : PyData) (x2 : PyData) (x3 : PyData) (x4 : PyData) (x5 : PyData) (h_x2 : x2 ∈ M_x2) : ev (callD prg 20) (cloD prg 20) 999998 false (.lcall 57 17 [3]) [.le b, .va (.d x1), .va (.d (.tuple [(.int 2), (.tuple [(.tuple [(.int 0), (.int 2)]), (.tuple [(.int 1), (.int 1)])])])), .va (.d x2), .va (.d x3), .va (.d x4), .va (.d x5), .un] = some (Ou.ok (.v (.d (.str ⟨#[108, 111, 116]⟩))) [.le b, .va (.d x1), .va (.d (.tuple [(.int 2), (.tuple [(.tuple [(.int 0), (.int 2)]), (.tuple [(.int 1), (.int 1)])])])), .va (.d x2), .va (.d x3), .va (.d x4), .va (.d x5), .un]) := by
  simp only [M_x2, List.mem_cons, List.not_mem_nil, or_false] at h_x2
  rcases h_x2 with rfl | rfl | rfl | rfl | rfl | rfl | rfl | rfl | rfl | rfl
  · kernel_rfl
  · kernel_rfl
  · kernel_rfl
  · kernel_rfl
  · kernel_rfl
  · kernel_rfl
  · kernel_rfl
  · kernel_rfl
  · kernel_rfl
  · kernel_rfl
theorem ra25 (b : PyData) (x1 : PyData) (x2 : PyData) (x3 : PyData) (x4 : PyData) (x5 : PyData) : ev (callD prg 20) (cloD prg 20) 999998 false (.lcall 57 18 []) [.le b, .va (.d x1), .va (.d (.tuple [(.int 2), (.tuple [(.tuple [(.int 0), (.int 2)]), (.tuple [(.int 1), (.int 1)])])])), .va (.d x2), .va (.d x3), .va (.d x4), .va (.d x5), .un] = some (Ou.ok (.v (.d (.str ⟨#[116, 111, 108, 100]⟩))) [.le b, .va (.d x1), .va (.d (.tuple [(.int 2), (.tuple [(.tuple [(.int 0), (.int 2)]), (.tuple [(.int 1), (.int 1)])])])), .va (.d x2), .va (.d x3), .va (.d x4), .va (.d x5), .un]) := by
  kernel_rfl
theorem ra26 (b : PyData) (x1 : PyData) (x2 : PyData) (x3 : PyData) (x4 : PyData) (x5 : PyData) (h_x5 : x5 ∈ M_x5) : exs (callD prg 20) (cloD prg 20) prg.sub fuel [(.ret (.prim .eq [(.var 7), (.lst [(.prim .add [(.lit (.d (.str ⟨#[110, 117, 109, 98, 101, 114, 32]⟩))), (.prim .repr [(.var 6)])]), (.lit (.d (.str ⟨#[108, 111, 116]⟩))), (.lit (.d (.str ⟨#[116, 111, 108, 100]⟩)))])]))] [.le b, .va (.d x1), .va (.d (.tuple [(.int 2), (.tuple [(.tuple [(.int 0), (.int 2)]), (.tuple [(.int 1), (.int 1)])])])), .va (.d x2), .va (.d x3), .va (.d x4), .va (.d x5), .ow (.list [(.str (⟨#[110, 117, 109, 98, 101, 114, 32]⟩ ++ (PyData.shown x5))), (.str ⟨#[108, 111, 116]⟩), (.str ⟨#[116, 111, 108, 100]⟩)])] = some (Ou.ok (.rt (.v (.d (.bool true)))) [.le b, .va (.d x1), .va (.d (.tuple [(.int 2), (.tuple [(.tuple [(.int 0), (.int 2)]), (.tuple [(.int 1), (.int 1)])])])), .va (.d x2), .va (.d x3), .va (.d x4), .va (.d x5), .ow (.list [(.str (⟨#[110, 117, 109, 98, 101, 114, 32]⟩ ++ (PyData.shown x5))), (.str ⟨#[108, 111, 116]⟩), (.str ⟨#[116, 111, 108, 100]⟩)])]) := by
  simp only [M_x5, List.mem_cons, List.not_mem_nil, or_false] at h_x5
  rcases h_x5 with rfl | rfl | rfl | rfl | rfl | rfl | rfl | rfl
  · kernel_rfl
  · kernel_rfl
  · kernel_rfl
  · kernel_rfl
  · kernel_rfl
  · kernel_rfl
  · kernel_rfl
  · kernel_rfl
def Bg (j : Nat) (b : PyData) : Prop := ∃ g a c : Int, b = Ev.FamD.bag g a c ∧ 0 ≤ c ∧ c ≤ 5 * (j : Int)
theorem right_ok {j : Nat} (hj : j < 1000000) (b : PyData) (hB : Bg j b) : ∃ b', Bg (j + 1) b' ∧ callD prg 21 60 [.le b] = some (.ok (.v (.d (.bool true))) [.le b']) := by
  obtain ⟨g, a, c, rfl, c0, c1⟩ := hB
  obtain ⟨x1, h_x1, g1, c1, p1, q1, k1⟩ := h56_ok g a c c0 (by omega)
  obtain ⟨x2, h_x2, g2, c2, p2, q2, k2⟩ := Ev.FamD.one_ok (p := prg) (d := 18) (k := 54) (k1 := 55) (by kernel_rfl) (by kernel_rfl) g1 a c1 M_x2 (by decide) (by decide) p1 (by omega)
  obtain ⟨x3, h_x3, g3, c3, p3, q3, k3⟩ := Ev.FamD.one_ok (p := prg) (d := 18) (k := 54) (k1 := 55) (by kernel_rfl) (by kernel_rfl) g2 a c2 M_x3 (by decide) (by decide) p2 (by omega)
  obtain ⟨x4, h_x4, g4, c4, p4, q4, k4⟩ := Ev.FamD.one_ok (p := prg) (d := 18) (k := 54) (k1 := 55) (by kernel_rfl) (by kernel_rfl) g3 a c3 M_x4 (by decide) (by decide) p3 (by omega)
  obtain ⟨x5, h_x5, g5, c5, p5, q5, k5⟩ := Ev.FamD.one_ok (p := prg) (d := 18) (k := 54) (k1 := 55) (by kernel_rfl) (by kernel_rfl) g4 a c4 M_x5 (by decide) (by decide) p4 (by omega)
  refine ⟨(Ev.FamD.bag g5 a c5), ⟨g5, a, c5, rfl, p5, by omega⟩, ?_⟩
  have t0_ : exs (callD prg 20) (cloD prg 20) prg.sub fuel [(.par [1, 2] [(.call 56 [(.var 0)]), (.tup [(.lit (.d (.int 2))), (.tup [(.tup [(.lit (.d (.int 0))), (.lit (.d (.int 2)))]), (.tup [(.lit (.d (.int 1))), (.lit (.d (.int 1)))])])])])] [.le (Ev.FamD.bag g a c), .un, .un, .un, .un, .un, .un, .un] = some (.ok .nx [.le (Ev.FamD.bag g1 a c1), .va (.d x1), .va (.d (.tuple [(.int 2), (.tuple [(.tuple [(.int 0), (.int 2)]), (.tuple [(.int 1), (.int 1)])])])), .un, .un, .un, .un, .un]) := (par_of (n := 999999) (gives_cons rfl (give_of' (call_of (n := 999998) (show evOps _ [.var 0] _ = some (Ou.ok [.sl 0] _) from ops_cons (op_var rfl) ops_nil) rfl k1 rfl) rfl) (gives_cons rfl (give_of' (ra1 (Ev.FamD.bag g1 a c1)) rfl) gives_nil)) rfl)
  have t1_ : exs (callD prg 20) (cloD prg 20) prg.sub fuel [(.set (.nm 3) (.call 55 [(.var 0), (.lst [(.lit (.d .none)), (.lst [(.lit (.d (.int 0)))]), (.tup [(.lit (.d (.int 1))), (.lit (.d (.int 0)))]), (.tup [(.lit (.d (.int 0))), (.lit (.d (.int 0)))]), (.tup [(.lit (.d (.int 2)))]), (.tup [(.prim .sub [(.lit (.d (.int 0))), (.lit (.d (.int 1)))])]), (.tup [(.lit (.d (.bool true)))]), (.tup [(.lit (.d (.str ⟨#[48]⟩)))]), (.lit (.d (.int 0))), (.tup [(.lit (.d (.int 0))), (.lit (.d .none))])])]))] [.le (Ev.FamD.bag g1 a c1), .va (.d x1), .va (.d (.tuple [(.int 2), (.tuple [(.tuple [(.int 0), (.int 2)]), (.tuple [(.int 1), (.int 1)])])])), .un, .un, .un, .un, .un] = some (.ok .nx [.le (Ev.FamD.bag g2 a c2), .va (.d x1), .va (.d (.tuple [(.int 2), (.tuple [(.tuple [(.int 0), (.int 2)]), (.tuple [(.int 1), (.int 1)])])])), .va (.d x2), .un, .un, .un, .un]) := (set_of (n := 999999) (call_of (n := 999998) (ra2 (Ev.FamD.bag g1 a c1) x1) rfl k2 rfl) rfl)
  have t2_ : exs (callD prg 20) (cloD prg 20) prg.sub fuel [(.set (.nm 4) (.call 55 [(.var 0), (.lst [(.lit (.d .none)), (.tup []), (.tup [(.lit (.d (.int 0)))]), (.lst [(.lit (.d (.int 0))), (.lit (.d (.int 0)))]), (.tup [(.lit (.d (.int 0))), (.lit (.d (.int 10)))]), (.tup [(.lit (.d (.int 0))), (.prim .sub [(.lit (.d (.int 0))), (.lit (.d (.int 1)))])]), (.tup [(.lit (.d (.int 0))), (.lit (.d (.bool true)))]), (.tup [(.lit (.d (.int 0))), (.lit (.d (.str ⟨#[49]⟩)))]), (.tup [(.lit (.d (.int 0))), (.lit (.d (.int 0))), (.lit (.d (.int 0)))]), (.lit (.d (.int 0)))])]))] [.le (Ev.FamD.bag g2 a c2), .va (.d x1), .va (.d (.tuple [(.int 2), (.tuple [(.tuple [(.int 0), (.int 2)]), (.tuple [(.int 1), (.int 1)])])])), .va (.d x2), .un, .un, .un, .un] = some (.ok .nx [.le (Ev.FamD.bag g3 a c3), .va (.d x1), .va (.d (.tuple [(.int 2), (.tuple [(.tuple [(.int 0), (.int 2)]), (.tuple [(.int 1), (.int 1)])])])), .va (.d x2), .va (.d x3), .un, .un, .un]) := (set_of (n := 999999) (call_of (n := 999998) (ra3 (Ev.FamD.bag g2 a c2) x1 x2) rfl k3 rfl) rfl)
  have t3_ : exs (callD prg 20) (cloD prg 20) prg.sub fuel [(.ife (.bo false [(.prim .ne [(.prim .add [(.call 58 [(.var 1)]), (.call 59 [(.var 1), (.var 3), (.var 4)])]), (.prim .mul [(.lst [(.lit (.d (.str ⟨#[115, 116, 97, 105, 114]⟩)))]), (.lit (.d (.int 16)))])]), (.prim .ne [(.call 59 [(.var 2), (.var 3), (.var 4)]), (.prim .add [(.prim .mul [(.lst [(.lit (.d (.str ⟨#[108, 111, 116]⟩)))]), (.lit (.d (.int 7)))]), (.lst [(.lit (.d (.str ⟨#[112, 111, 119, 101, 114]⟩)))])])])]) [(.ret (.lit (.d (.bool false))))] [])] [.le (Ev.FamD.bag g3 a c3), .va (.d x1), .va (.d (.tuple [(.int 2), (.tuple [(.tuple [(.int 0), (.int 2)]), (.tuple [(.int 1), (.int 1)])])])), .va (.d x2), .va (.d x3), .un, .un, .un] = some (.ok .nx [.le (Ev.FamD.bag g3 a c3), .va (.d x1), .va (.d (.tuple [(.int 2), (.tuple [(.tuple [(.int 0), (.int 2)]), (.tuple [(.int 1), (.int 1)])])])), .va (.d x2), .va (.d x3), .un, .un, .un]) := (ife_no (n := 999998) (x := .lit (.d .none)) (bo_cons (primT (n := 999997) (prim_of (n := 999997) (ops_cons (op_of (fun i z => by cases z) (prim_of (n := 999996) (ops_cons (op_of (fun i z => by cases z) (ra4 (Ev.FamD.bag g3 a c3) x1 x2 x3 h_x1)) (ops_cons (op_of (fun i z => by cases z) (ra5 (Ev.FamD.bag g3 a c3) x1 x2 x3 h_x1)) ops_nil)) (ws := [(.d (.list [(.str ⟨#[115, 116, 97, 105, 114]⟩), (.str ⟨#[115, 116, 97, 105, 114]⟩), (.str ⟨#[115, 116, 97, 105, 114]⟩), (.str ⟨#[115, 116, 97, 105, 114]⟩), (.str ⟨#[115, 116, 97, 105, 114]⟩), (.str ⟨#[115, 116, 97, 105, 114]⟩), (.str ⟨#[115, 116, 97, 105, 114]⟩), (.str ⟨#[115, 116, 97, 105, 114]⟩)])), (.d (.list [(.str ⟨#[115, 116, 97, 105, 114]⟩), (.str ⟨#[115, 116, 97, 105, 114]⟩), (.str ⟨#[115, 116, 97, 105, 114]⟩), (.str ⟨#[115, 116, 97, 105, 114]⟩), (.str ⟨#[115, 116, 97, 105, 114]⟩), (.str ⟨#[115, 116, 97, 105, 114]⟩), (.str ⟨#[115, 116, 97, 105, 114]⟩), (.str ⟨#[115, 116, 97, 105, 114]⟩)]))]) rfl (ra6 (Ev.FamD.bag g3 a c3)))) (ops_cons (op_of (fun i z => by cases z) (ra7 (Ev.FamD.bag g3 a c3) x1 x2 x3)) ops_nil)) (ws := [(.d (.list [(.str ⟨#[115, 116, 97, 105, 114]⟩), (.str ⟨#[115, 116, 97, 105, 114]⟩), (.str ⟨#[115, 116, 97, 105, 114]⟩), (.str ⟨#[115, 116, 97, 105, 114]⟩), (.str ⟨#[115, 116, 97, 105, 114]⟩), (.str ⟨#[115, 116, 97, 105, 114]⟩), (.str ⟨#[115, 116, 97, 105, 114]⟩), (.str ⟨#[115, 116, 97, 105, 114]⟩), (.str ⟨#[115, 116, 97, 105, 114]⟩), (.str ⟨#[115, 116, 97, 105, 114]⟩), (.str ⟨#[115, 116, 97, 105, 114]⟩), (.str ⟨#[115, 116, 97, 105, 114]⟩), (.str ⟨#[115, 116, 97, 105, 114]⟩), (.str ⟨#[115, 116, 97, 105, 114]⟩), (.str ⟨#[115, 116, 97, 105, 114]⟩), (.str ⟨#[115, 116, 97, 105, 114]⟩)])), (.d (.list [(.str ⟨#[115, 116, 97, 105, 114]⟩), (.str ⟨#[115, 116, 97, 105, 114]⟩), (.str ⟨#[115, 116, 97, 105, 114]⟩), (.str ⟨#[115, 116, 97, 105, 114]⟩), (.str ⟨#[115, 116, 97, 105, 114]⟩), (.str ⟨#[115, 116, 97, 105, 114]⟩), (.str ⟨#[115, 116, 97, 105, 114]⟩), (.str ⟨#[115, 116, 97, 105, 114]⟩), (.str ⟨#[115, 116, 97, 105, 114]⟩), (.str ⟨#[115, 116, 97, 105, 114]⟩), (.str ⟨#[115, 116, 97, 105, 114]⟩), (.str ⟨#[115, 116, 97, 105, 114]⟩), (.str ⟨#[115, 116, 97, 105, 114]⟩), (.str ⟨#[115, 116, 97, 105, 114]⟩), (.str ⟨#[115, 116, 97, 105, 114]⟩), (.str ⟨#[115, 116, 97, 105, 114]⟩)]))]) rfl (ra8 (Ev.FamD.bag g3 a c3))) rfl) rfl (bo_one (primT (n := 999997) (prim_of (n := 999997) (ops_cons (op_of (fun i z => by cases z) (ra9 (Ev.FamD.bag g3 a c3) x1 x2 x3 h_x2 h_x3)) (ops_cons (op_of (fun i z => by cases z) (ra10 (Ev.FamD.bag g3 a c3) x1 x2 x3)) ops_nil)) (ws := [(.d (.list [(.str ⟨#[108, 111, 116]⟩), (.str ⟨#[108, 111, 116]⟩), (.str ⟨#[108, 111, 116]⟩), (.str ⟨#[108, 111, 116]⟩), (.str ⟨#[108, 111, 116]⟩), (.str ⟨#[108, 111, 116]⟩), (.str ⟨#[108, 111, 116]⟩), (.str ⟨#[112, 111, 119, 101, 114]⟩)])), (.d (.list [(.str ⟨#[108, 111, 116]⟩), (.str ⟨#[108, 111, 116]⟩), (.str ⟨#[108, 111, 116]⟩), (.str ⟨#[108, 111, 116]⟩), (.str ⟨#[108, 111, 116]⟩), (.str ⟨#[108, 111, 116]⟩), (.str ⟨#[108, 111, 116]⟩), (.str ⟨#[112, 111, 119, 101, 114]⟩)]))]) rfl (ra11 (Ev.FamD.bag g3 a c3))) rfl))))
  have t4_ : exs (callD prg 20) (cloD prg 20) prg.sub fuel [(.ife (.bo false [(.prim .ne [(.prim .add [(.call 58 [(.var 2)]), (.call 59 [(.var 2), (.tup [(.lit (.d (.int 0))), (.lit (.d (.int 1)))]), (.tup [(.lit (.d (.int 9))), (.lit (.d (.int 0)))])])]), (.prim .mul [(.lst [(.lit (.d (.str ⟨#[116, 111, 108, 100]⟩)))]), (.lit (.d (.int 16)))])]), (.prim .ne [(.call 59 [(.var 2), (.tup []), (.tup [(.lit (.d (.int 0))), (.lit (.d (.int 0)))])]), (.prim .mul [(.lst [(.lit (.d (.str ⟨#[116, 111, 108, 100]⟩)))]), (.lit (.d (.int 8)))])])]) [(.ret (.lit (.d (.bool false))))] [])] [.le (Ev.FamD.bag g3 a c3), .va (.d x1), .va (.d (.tuple [(.int 2), (.tuple [(.tuple [(.int 0), (.int 2)]), (.tuple [(.int 1), (.int 1)])])])), .va (.d x2), .va (.d x3), .un, .un, .un] = some (.ok .nx [.le (Ev.FamD.bag g3 a c3), .va (.d x1), .va (.d (.tuple [(.int 2), (.tuple [(.tuple [(.int 0), (.int 2)]), (.tuple [(.int 1), (.int 1)])])])), .va (.d x2), .va (.d x3), .un, .un, .un]) := (ife_no (n := 999998) (x := .lit (.d .none)) (bo_cons (primT (n := 999997) (prim_of (n := 999997) (ops_cons (op_of (fun i z => by cases z) (prim_of (n := 999996) (ops_cons (op_of (fun i z => by cases z) (ra12 (Ev.FamD.bag g3 a c3) x1 x2 x3)) (ops_cons (op_of (fun i z => by cases z) (ra13 (Ev.FamD.bag g3 a c3) x1 x2 x3)) ops_nil)) (ws := [(.d (.list [(.str ⟨#[116, 111, 108, 100]⟩), (.str ⟨#[116, 111, 108, 100]⟩), (.str ⟨#[116, 111, 108, 100]⟩), (.str ⟨#[116, 111, 108, 100]⟩), (.str ⟨#[116, 111, 108, 100]⟩), (.str ⟨#[116, 111, 108, 100]⟩), (.str ⟨#[116, 111, 108, 100]⟩), (.str ⟨#[116, 111, 108, 100]⟩)])), (.d (.list [(.str ⟨#[116, 111, 108, 100]⟩), (.str ⟨#[116, 111, 108, 100]⟩), (.str ⟨#[116, 111, 108, 100]⟩), (.str ⟨#[116, 111, 108, 100]⟩), (.str ⟨#[116, 111, 108, 100]⟩), (.str ⟨#[116, 111, 108, 100]⟩), (.str ⟨#[116, 111, 108, 100]⟩), (.str ⟨#[116, 111, 108, 100]⟩)]))]) rfl (ra14 (Ev.FamD.bag g3 a c3)))) (ops_cons (op_of (fun i z => by cases z) (ra15 (Ev.FamD.bag g3 a c3) x1 x2 x3)) ops_nil)) (ws := [(.d (.list [(.str ⟨#[116, 111, 108, 100]⟩), (.str ⟨#[116, 111, 108, 100]⟩), (.str ⟨#[116, 111, 108, 100]⟩), (.str ⟨#[116, 111, 108, 100]⟩), (.str ⟨#[116, 111, 108, 100]⟩), (.str ⟨#[116, 111, 108, 100]⟩), (.str ⟨#[116, 111, 108, 100]⟩), (.str ⟨#[116, 111, 108, 100]⟩), (.str ⟨#[116, 111, 108, 100]⟩), (.str ⟨#[116, 111, 108, 100]⟩), (.str ⟨#[116, 111, 108, 100]⟩), (.str ⟨#[116, 111, 108, 100]⟩), (.str ⟨#[116, 111, 108, 100]⟩), (.str ⟨#[116, 111, 108, 100]⟩), (.str ⟨#[116, 111, 108, 100]⟩), (.str ⟨#[116, 111, 108, 100]⟩)])), (.d (.list [(.str ⟨#[116, 111, 108, 100]⟩), (.str ⟨#[116, 111, 108, 100]⟩), (.str ⟨#[116, 111, 108, 100]⟩), (.str ⟨#[116, 111, 108, 100]⟩), (.str ⟨#[116, 111, 108, 100]⟩), (.str ⟨#[116, 111, 108, 100]⟩), (.str ⟨#[116, 111, 108, 100]⟩), (.str ⟨#[116, 111, 108, 100]⟩), (.str ⟨#[116, 111, 108, 100]⟩), (.str ⟨#[116, 111, 108, 100]⟩), (.str ⟨#[116, 111, 108, 100]⟩), (.str ⟨#[116, 111, 108, 100]⟩), (.str ⟨#[116, 111, 108, 100]⟩), (.str ⟨#[116, 111, 108, 100]⟩), (.str ⟨#[116, 111, 108, 100]⟩), (.str ⟨#[116, 111, 108, 100]⟩)]))]) rfl (ra16 (Ev.FamD.bag g3 a c3))) rfl) rfl (bo_one (ra17 (Ev.FamD.bag g3 a c3) x1 x2 x3))))
  have t5_ : exs (callD prg 20) (cloD prg 20) prg.sub fuel [(.set (.nm 5) (.call 55 [(.var 0), (.lst [(.tup [(.lit (.d (.int 2))), (.tup [])]), (.tup [(.lit (.d (.int 1))), (.tup [])]), (.tup [(.lit (.d (.int 2))), (.tup [(.tup [(.lit (.d (.int 0))), (.lit (.d (.int 0)))])])]), (.tup [(.lit (.d (.int 3))), (.tup [(.tup [(.lit (.d (.int 0))), (.lit (.d (.int 0))), (.lit (.d (.int 0)))])])])])]))] [.le (Ev.FamD.bag g3 a c3), .va (.d x1), .va (.d (.tuple [(.int 2), (.tuple [(.tuple [(.int 0), (.int 2)]), (.tuple [(.int 1), (.int 1)])])])), .va (.d x2), .va (.d x3), .un, .un, .un] = some (.ok .nx [.le (Ev.FamD.bag g4 a c4), .va (.d x1), .va (.d (.tuple [(.int 2), (.tuple [(.tuple [(.int 0), (.int 2)]), (.tuple [(.int 1), (.int 1)])])])), .va (.d x2), .va (.d x3), .va (.d x4), .un, .un]) := (set_of (n := 999999) (call_of (n := 999998) (ra18 (Ev.FamD.bag g3 a c3) x1 x2 x3) rfl k4 rfl) rfl)
  have t6_ : exs (callD prg 20) (cloD prg 20) prg.sub fuel [(.ife (.prim .ne [(.call 58 [(.var 5)]), (.prim .add [(.prim .mul [(.lst [(.lit (.d (.str ⟨#[116, 111, 108, 100]⟩)))]), (.lit (.d (.int 4)))]), (.prim .mul [(.lst [(.tup [(.lit (.d (.str ⟨#[112, 114, 111, 112, 101, 114]⟩)))])]), (.lit (.d (.int 4)))])])]) [(.ret (.lit (.d (.bool false))))] [])] [.le (Ev.FamD.bag g4 a c4), .va (.d x1), .va (.d (.tuple [(.int 2), (.tuple [(.tuple [(.int 0), (.int 2)]), (.tuple [(.int 1), (.int 1)])])])), .va (.d x2), .va (.d x3), .va (.d x4), .un, .un] = some (.ok .nx [.le (Ev.FamD.bag g4 a c4), .va (.d x1), .va (.d (.tuple [(.int 2), (.tuple [(.tuple [(.int 0), (.int 2)]), (.tuple [(.int 1), (.int 1)])])])), .va (.d x2), .va (.d x3), .va (.d x4), .un, .un]) := (ife_no1 (n := 999998) (primT (n := 999998) (prim_of (n := 999998) (ops_cons (op_of (fun i z => by cases z) (ra19 (Ev.FamD.bag g4 a c4) x1 x2 x3 x4 h_x4)) (ops_cons (op_of (fun i z => by cases z) (ra20 (Ev.FamD.bag g4 a c4) x1 x2 x3 x4)) ops_nil)) (ws := [(.d (.list [(.str ⟨#[116, 111, 108, 100]⟩), (.str ⟨#[116, 111, 108, 100]⟩), (.str ⟨#[116, 111, 108, 100]⟩), (.str ⟨#[116, 111, 108, 100]⟩), (.tuple [(.str ⟨#[112, 114, 111, 112, 101, 114]⟩)]), (.tuple [(.str ⟨#[112, 114, 111, 112, 101, 114]⟩)]), (.tuple [(.str ⟨#[112, 114, 111, 112, 101, 114]⟩)]), (.tuple [(.str ⟨#[112, 114, 111, 112, 101, 114]⟩)])])), (.d (.list [(.str ⟨#[116, 111, 108, 100]⟩), (.str ⟨#[116, 111, 108, 100]⟩), (.str ⟨#[116, 111, 108, 100]⟩), (.str ⟨#[116, 111, 108, 100]⟩), (.tuple [(.str ⟨#[112, 114, 111, 112, 101, 114]⟩)]), (.tuple [(.str ⟨#[112, 114, 111, 112, 101, 114]⟩)]), (.tuple [(.str ⟨#[112, 114, 111, 112, 101, 114]⟩)]), (.tuple [(.str ⟨#[112, 114, 111, 112, 101, 114]⟩)])]))]) rfl (ra21 (Ev.FamD.bag g4 a c4))) rfl))
  have t7_ : exs (callD prg 20) (cloD prg 20) prg.sub fuel [(.set (.nm 6) (.call 55 [(.var 0), (.lst [(.lit (.d (.int 0))), (.lit (.d (.int 7))), (.prim .sub [(.lit (.d (.int 0))), (.lit (.d (.int 1)))]), (.lit (.d .none)), (.lit (.d (.bool true))), (.lit (.d (.str ⟨#[50]⟩))), (.tup [(.lit (.d (.int 2)))]), (.prim .pow [(.lit (.d (.int 10))), (.lit (.d (.int 60)))])])]))] [.le (Ev.FamD.bag g4 a c4), .va (.d x1), .va (.d (.tuple [(.int 2), (.tuple [(.tuple [(.int 0), (.int 2)]), (.tuple [(.int 1), (.int 1)])])])), .va (.d x2), .va (.d x3), .va (.d x4), .un, .un] = some (.ok .nx [.le (Ev.FamD.bag g5 a c5), .va (.d x1), .va (.d (.tuple [(.int 2), (.tuple [(.tuple [(.int 0), (.int 2)]), (.tuple [(.int 1), (.int 1)])])])), .va (.d x2), .va (.d x3), .va (.d x4), .va (.d x5), .un]) := (set_of (n := 999999) (call_of (n := 999998) (ra22 (Ev.FamD.bag g4 a c4) x1 x2 x3 x4) rfl k5 rfl) rfl)
  have t8_ : exs (callD prg 20) (cloD prg 20) prg.sub fuel [(.set (.nm 7) (.lst [(.lcall 57 16 [3, 6]), (.lcall 57 17 [3]), (.lcall 57 18 [])]))] [.le (Ev.FamD.bag g5 a c5), .va (.d x1), .va (.d (.tuple [(.int 2), (.tuple [(.tuple [(.int 0), (.int 2)]), (.tuple [(.int 1), (.int 1)])])])), .va (.d x2), .va (.d x3), .va (.d x4), .va (.d x5), .un] = some (.ok .nx [.le (Ev.FamD.bag g5 a c5), .va (.d x1), .va (.d (.tuple [(.int 2), (.tuple [(.tuple [(.int 0), (.int 2)]), (.tuple [(.int 1), (.int 1)])])])), .va (.d x2), .va (.d x3), .va (.d x4), .va (.d x5), .ow (.list [(.str (⟨#[110, 117, 109, 98, 101, 114, 32]⟩ ++ (PyData.shown x5))), (.str ⟨#[108, 111, 116]⟩), (.str ⟨#[116, 111, 108, 100]⟩)])]) := (set_of (n := 999999) (lst_of (n := 999998) (gives_cons rfl (give_of' (ra23 (Ev.FamD.bag g5 a c5) x1 x2 x3 x4 x5 h_x5) rfl) (gives_cons rfl (give_of' (ra24 (Ev.FamD.bag g5 a c5) x1 x2 x3 x4 x5 h_x2) rfl) (gives_cons rfl (give_of' (ra25 (Ev.FamD.bag g5 a c5) x1 x2 x3 x4 x5) rfl) gives_nil))) (by show 3 ≤ 16777216; decide)) rfl)
  have t9_ : exs (callD prg 20) (cloD prg 20) prg.sub fuel [(.ret (.prim .eq [(.var 7), (.lst [(.prim .add [(.lit (.d (.str ⟨#[110, 117, 109, 98, 101, 114, 32]⟩))), (.prim .repr [(.var 6)])]), (.lit (.d (.str ⟨#[108, 111, 116]⟩))), (.lit (.d (.str ⟨#[116, 111, 108, 100]⟩)))])]))] [.le (Ev.FamD.bag g5 a c5), .va (.d x1), .va (.d (.tuple [(.int 2), (.tuple [(.tuple [(.int 0), (.int 2)]), (.tuple [(.int 1), (.int 1)])])])), .va (.d x2), .va (.d x3), .va (.d x4), .va (.d x5), .ow (.list [(.str (⟨#[110, 117, 109, 98, 101, 114, 32]⟩ ++ (PyData.shown x5))), (.str ⟨#[108, 111, 116]⟩), (.str ⟨#[116, 111, 108, 100]⟩)])] = some (.ok (.rt (.v (.d (.bool true)))) [.le (Ev.FamD.bag g5 a c5), .va (.d x1), .va (.d (.tuple [(.int 2), (.tuple [(.tuple [(.int 0), (.int 2)]), (.tuple [(.int 1), (.int 1)])])])), .va (.d x2), .va (.d x3), .va (.d x4), .va (.d x5), .ow (.list [(.str (⟨#[110, 117, 109, 98, 101, 114, 32]⟩ ++ (PyData.shown x5))), (.str ⟨#[108, 111, 116]⟩), (.str ⟨#[116, 111, 108, 100]⟩)])]) := (ra26 (Ev.FamD.bag g5 a c5) x1 x2 x3 x4 x5 h_x5)
  have all : exs (callD prg 20) (cloD prg 20) prg.sub fuel f__law_right.body [.le (Ev.FamD.bag g a c), .un, .un, .un, .un, .un, .un, .un] = some (.ok (.rt (.v (.d (.bool true)))) [.le (Ev.FamD.bag g5 a c5), .va (.d x1), .va (.d (.tuple [(.int 2), (.tuple [(.tuple [(.int 0), (.int 2)]), (.tuple [(.int 1), (.int 1)])])])), .va (.d x2), .va (.d x3), .va (.d x4), .va (.d x5), .ow (.list [(.str (⟨#[110, 117, 109, 98, 101, 114, 32]⟩ ++ (PyData.shown x5))), (.str ⟨#[108, 111, 116]⟩), (.str ⟨#[116, 111, 108, 100]⟩)])]) := ((stmt_cons (n := 999999) t0_).trans ((stmt_cons (n := 999999) t1_).trans ((stmt_cons (n := 999999) t2_).trans ((stmt_cons (n := 999999) t3_).trans ((stmt_cons (n := 999999) t4_).trans ((stmt_cons (n := 999999) t5_).trans ((stmt_cons (n := 999999) t6_).trans ((stmt_cons (n := 999999) t7_).trans ((stmt_cons (n := 999999) t8_).trans t9_)))))))))
  exact call_body (p := prg) (d := 20) (k := 60) (f := f__law_right) (as := [.le (Ev.FamD.bag g a c)]) (by kernel_rfl) rfl rfl all
theorem wa1 (b : PyData) (ns : List Int) (y : PyData) : exs (callD prg 21) (cloD prg 21) prg.sub fuel [(.set (.nm 3) (.tup [(.lit (.d (.int 2))), (.tup [(.tup [(.lit (.d (.int 0))), (.lit (.d (.int 2)))]), (.tup [(.lit (.d (.int 1))), (.lit (.d (.int 1)))])])]))] [.va (.sc ns), .va (.d y), .ow b, .un, .un, .un, .un, .un] = some (Ou.ok .nx [.va (.sc ns), .va (.d y), .ow b, .va (.d (.tuple [(.int 2), (.tuple [(.tuple [(.int 0), (.int 2)]), (.tuple [(.int 1), (.int 1)])])])), .un, .un, .un, .un]) := by
  kernel_rfl
theorem wa2 (b : PyData) (ns : List Int) (y : PyData) : exs (callD prg 21) (cloD prg 21) prg.sub fuel [(.set (.nm 4) (.lst [(.lit (.d .none)), (.lit (.d (.int 0))), (.tup []), (.lst []), (.dic [] []), (.lit (.d (.str ⟨#[110, 111, 110, 101]⟩))), (.lst [(.lit (.d (.str ⟨#[110, 111, 110, 101]⟩)))]), (.tup [(.lit (.d (.str ⟨#[110, 111, 110, 101]⟩)))]), (.tup [(.lit (.d (.str ⟨#[112, 114, 105, 109, 101]⟩))), (.tup [(.lit (.d (.int 0))), (.lit (.d (.int 0)))])]), (.tup [(.lit (.d (.str ⟨#[112, 114, 105, 109, 101]⟩))), (.lit (.d .none))]), (.tup [(.lit (.d (.str ⟨#[99, 111, 114, 110, 101, 114]⟩))), (.tup [(.lit (.d (.int 0))), (.lit (.d (.int 2)))])]), (.tup [(.lit (.d (.str ⟨#[99, 111, 118, 101, 114]⟩))), (.lit (.d (.int 0)))]), (.tup [(.lit (.d .none))]), (.tup [(.lit (.d (.str ⟨#[112, 114, 105, 109, 97, 114, 121]⟩))), (.tup [(.lit (.d (.int 0))), (.lit (.d (.int 1)))])])]))] [.va (.sc ns), .va (.d y), .ow b, .va (.d (.tuple [(.int 2), (.tuple [(.tuple [(.int 0), (.int 2)]), (.tuple [(.int 1), (.int 1)])])])), .un, .un, .un, .un] = some (Ou.ok .nx [.va (.sc ns), .va (.d y), .ow b, .va (.d (.tuple [(.int 2), (.tuple [(.tuple [(.int 0), (.int 2)]), (.tuple [(.int 1), (.int 1)])])])), .ow (.list [.none, (.int 0), (.tuple []), (.list []), (.dict []), (.str ⟨#[110, 111, 110, 101]⟩), (.list [(.str ⟨#[110, 111, 110, 101]⟩)]), (.tuple [(.str ⟨#[110, 111, 110, 101]⟩)]), (.tuple [(.str ⟨#[112, 114, 105, 109, 101]⟩), (.tuple [(.int 0), (.int 0)])]), (.tuple [(.str ⟨#[112, 114, 105, 109, 101]⟩), .none]), (.tuple [(.str ⟨#[99, 111, 114, 110, 101, 114]⟩), (.tuple [(.int 0), (.int 2)])]), (.tuple [(.str ⟨#[99, 111, 118, 101, 114]⟩), (.int 0)]), (.tuple [.none]), (.tuple [(.str ⟨#[112, 114, 105, 109, 97, 114, 121]⟩), (.tuple [(.int 0), (.int 1)])])]), .un, .un, .un]) := by
  kernel_rfl
theorem wa3 (b : PyData) (ns : List Int) (y : PyData) : exs (callD prg 21) (cloD prg 21) prg.sub fuel [(.set (.nm 4) (.prim .add [(.var 4), (.lst [(.tup [(.lit (.d (.str ⟨#[108, 101, 116, 116, 101, 114]⟩))), (.tup [(.lit (.d (.int 0))), (.lit (.d (.int 2)))]), (.lit (.d (.int 1)))]), (.tup [(.lit (.d (.str ⟨#[108, 101, 116, 116, 101, 114]⟩))), (.tup [(.lit (.d (.int 1))), (.lit (.d (.int 1)))]), (.lit (.d (.int 1)))])])]))] [.va (.sc ns), .va (.d y), .ow b, .va (.d (.tuple [(.int 2), (.tuple [(.tuple [(.int 0), (.int 2)]), (.tuple [(.int 1), (.int 1)])])])), .ow (.list [.none, (.int 0), (.tuple []), (.list []), (.dict []), (.str ⟨#[110, 111, 110, 101]⟩), (.list [(.str ⟨#[110, 111, 110, 101]⟩)]), (.tuple [(.str ⟨#[110, 111, 110, 101]⟩)]), (.tuple [(.str ⟨#[112, 114, 105, 109, 101]⟩), (.tuple [(.int 0), (.int 0)])]), (.tuple [(.str ⟨#[112, 114, 105, 109, 101]⟩), .none]), (.tuple [(.str ⟨#[99, 111, 114, 110, 101, 114]⟩), (.tuple [(.int 0), (.int 2)])]), (.tuple [(.str ⟨#[99, 111, 118, 101, 114]⟩), (.int 0)]), (.tuple [.none]), (.tuple [(.str ⟨#[112, 114, 105, 109, 97, 114, 121]⟩), (.tuple [(.int 0), (.int 1)])])]), .un, .un, .un] = some (Ou.ok .nx [.va (.sc ns), .va (.d y), .ow b, .va (.d (.tuple [(.int 2), (.tuple [(.tuple [(.int 0), (.int 2)]), (.tuple [(.int 1), (.int 1)])])])), .ow (.list [.none, (.int 0), (.tuple []), (.list []), (.dict []), (.str ⟨#[110, 111, 110, 101]⟩), (.list [(.str ⟨#[110, 111, 110, 101]⟩)]), (.tuple [(.str ⟨#[110, 111, 110, 101]⟩)]), (.tuple [(.str ⟨#[112, 114, 105, 109, 101]⟩), (.tuple [(.int 0), (.int 0)])]), (.tuple [(.str ⟨#[112, 114, 105, 109, 101]⟩), .none]), (.tuple [(.str ⟨#[99, 111, 114, 110, 101, 114]⟩), (.tuple [(.int 0), (.int 2)])]), (.tuple [(.str ⟨#[99, 111, 118, 101, 114]⟩), (.int 0)]), (.tuple [.none]), (.tuple [(.str ⟨#[112, 114, 105, 109, 97, 114, 121]⟩), (.tuple [(.int 0), (.int 1)])]), (.tuple [(.str ⟨#[108, 101, 116, 116, 101, 114]⟩), (.tuple [(.int 0), (.int 2)]), (.int 1)]), (.tuple [(.str ⟨#[108, 101, 116, 116, 101, 114]⟩), (.tuple [(.int 1), (.int 1)]), (.int 1)])]), .un, .un, .un]) := by
  kernel_rfl
theorem wa4 (b : PyData) (ns : List Int) (y : PyData) : ev (callD prg 21) (cloD prg 21) 999999 false (.cmp (.var 6) (.nm 6) .seq [(.var 4)] [(.bo false [(.prim (.notB false) [(.call 38 [(.var 3), (.tup [(.lit (.d (.int 0))), (.lit (.d (.int 1)))]), (.var 6)])]), (.prim (.notB false) [(.call 43 [(.var 3), (.tup [(.lit (.d (.int 0))), (.lit (.d (.int 1)))]), (.var 6)])]), (.prim (.notB false) [(.call 48 [(.var 3), (.var 6)])])])] [6]) [.va (.sc ns), .va (.d y), .ow b, .va (.d (.tuple [(.int 2), (.tuple [(.tuple [(.int 0), (.int 2)]), (.tuple [(.int 1), (.int 1)])])])), .ow (.list [.none, (.int 0), (.tuple []), (.list []), (.dict []), (.str ⟨#[110, 111, 110, 101]⟩), (.list [(.str ⟨#[110, 111, 110, 101]⟩)]), (.tuple [(.str ⟨#[110, 111, 110, 101]⟩)]), (.tuple [(.str ⟨#[112, 114, 105, 109, 101]⟩), (.tuple [(.int 0), (.int 0)])]), (.tuple [(.str ⟨#[112, 114, 105, 109, 101]⟩), .none]), (.tuple [(.str ⟨#[99, 111, 114, 110, 101, 114]⟩), (.tuple [(.int 0), (.int 2)])]), (.tuple [(.str ⟨#[99, 111, 118, 101, 114]⟩), (.int 0)]), (.tuple [.none]), (.tuple [(.str ⟨#[112, 114, 105, 109, 97, 114, 121]⟩), (.tuple [(.int 0), (.int 1)])]), (.tuple [(.str ⟨#[108, 101, 116, 116, 101, 114]⟩), (.tuple [(.int 0), (.int 2)]), (.int 1)]), (.tuple [(.str ⟨#[108, 101, 116, 116, 101, 114]⟩), (.tuple [(.int 1), (.int 1)]), (.int 1)])]), .un, .un, .un] = some (Ou.ok (.o (.list [])) [.va (.sc ns), .va (.d y), .ow b, .va (.d (.tuple [(.int 2), (.tuple [(.tuple [(.int 0), (.int 2)]), (.tuple [(.int 1), (.int 1)])])])), .ow (.list [.none, (.int 0), (.tuple []), (.list []), (.dict []), (.str ⟨#[110, 111, 110, 101]⟩), (.list [(.str ⟨#[110, 111, 110, 101]⟩)]), (.tuple [(.str ⟨#[110, 111, 110, 101]⟩)]), (.tuple [(.str ⟨#[112, 114, 105, 109, 101]⟩), (.tuple [(.int 0), (.int 0)])]), (.tuple [(.str ⟨#[112, 114, 105, 109, 101]⟩), .none]), (.tuple [(.str ⟨#[99, 111, 114, 110, 101, 114]⟩), (.tuple [(.int 0), (.int 2)])]), (.tuple [(.str ⟨#[99, 111, 118, 101, 114]⟩), (.int 0)]), (.tuple [.none]), (.tuple [(.str ⟨#[112, 114, 105, 109, 97, 114, 121]⟩), (.tuple [(.int 0), (.int 1)])]), (.tuple [(.str ⟨#[108, 101, 116, 116, 101, 114]⟩), (.tuple [(.int 0), (.int 2)]), (.int 1)]), (.tuple [(.str ⟨#[108, 101, 116, 116, 101, 114]⟩), (.tuple [(.int 1), (.int 1)]), (.int 1)])]), .un, .un, .un]) := by
  kernel_rfl
theorem wa5 (b : PyData) (ns : List Int) (y : PyData) : exs (callD prg 21) (cloD prg 21) prg.sub fuel [(.ret (.bo true [(.prim .eq [(.var 5), (.lst [])]), (.prim (.isB true) [(.call 43 [(.var 3), (.tup [(.lit (.d (.int 1)))]), (.tup [(.lit (.d (.str ⟨#[99, 111, 118, 101, 114]⟩)))])])]), (.prim (.isB true) [(.call 48 [(.var 3), (.tup [(.lit (.d (.str ⟨#[108, 101, 116, 116, 101, 114]⟩))), (.tup [(.lit (.d (.int 1))), (.lit (.d (.int 1)))]), (.lit (.d (.int 0)))])])])]))] [.va (.sc ns), .va (.d y), .ow b, .va (.d (.tuple [(.int 2), (.tuple [(.tuple [(.int 0), (.int 2)]), (.tuple [(.int 1), (.int 1)])])])), .ow (.list [.none, (.int 0), (.tuple []), (.list []), (.dict []), (.str ⟨#[110, 111, 110, 101]⟩), (.list [(.str ⟨#[110, 111, 110, 101]⟩)]), (.tuple [(.str ⟨#[110, 111, 110, 101]⟩)]), (.tuple [(.str ⟨#[112, 114, 105, 109, 101]⟩), (.tuple [(.int 0), (.int 0)])]), (.tuple [(.str ⟨#[112, 114, 105, 109, 101]⟩), .none]), (.tuple [(.str ⟨#[99, 111, 114, 110, 101, 114]⟩), (.tuple [(.int 0), (.int 2)])]), (.tuple [(.str ⟨#[99, 111, 118, 101, 114]⟩), (.int 0)]), (.tuple [.none]), (.tuple [(.str ⟨#[112, 114, 105, 109, 97, 114, 121]⟩), (.tuple [(.int 0), (.int 1)])]), (.tuple [(.str ⟨#[108, 101, 116, 116, 101, 114]⟩), (.tuple [(.int 0), (.int 2)]), (.int 1)]), (.tuple [(.str ⟨#[108, 101, 116, 116, 101, 114]⟩), (.tuple [(.int 1), (.int 1)]), (.int 1)])]), .ow (.list []), .un, .un] = some (Ou.ok (.rt (.v (.d (.bool true)))) [.va (.sc ns), .va (.d y), .ow b, .va (.d (.tuple [(.int 2), (.tuple [(.tuple [(.int 0), (.int 2)]), (.tuple [(.int 1), (.int 1)])])])), .ow (.list [.none, (.int 0), (.tuple []), (.list []), (.dict []), (.str ⟨#[110, 111, 110, 101]⟩), (.list [(.str ⟨#[110, 111, 110, 101]⟩)]), (.tuple [(.str ⟨#[110, 111, 110, 101]⟩)]), (.tuple [(.str ⟨#[112, 114, 105, 109, 101]⟩), (.tuple [(.int 0), (.int 0)])]), (.tuple [(.str ⟨#[112, 114, 105, 109, 101]⟩), .none]), (.tuple [(.str ⟨#[99, 111, 114, 110, 101, 114]⟩), (.tuple [(.int 0), (.int 2)])]), (.tuple [(.str ⟨#[99, 111, 118, 101, 114]⟩), (.int 0)]), (.tuple [.none]), (.tuple [(.str ⟨#[112, 114, 105, 109, 97, 114, 121]⟩), (.tuple [(.int 0), (.int 1)])]), (.tuple [(.str ⟨#[108, 101, 116, 116, 101, 114]⟩), (.tuple [(.int 0), (.int 2)]), (.int 1)]), (.tuple [(.str ⟨#[108, 101, 116, 116, 101, 114]⟩), (.tuple [(.int 1), (.int 1)]), (.int 1)])]), .ow (.list []), .un, .un]) := by
  kernel_rfl
theorem law_ok (ns : List Int) : ∃ bs, callD prg 22 61 [.va (.sc ns)] = some (.ok (.v (.d (.bool true))) bs) := by
  have M : MakeR (callD prg 21) 53 Bg := ⟨fun ns i hi => by
    obtain ⟨g, a, c, c0, c1, h⟩ := Ev.FamD.bag_ok (p := prg) (d := 20) (k := 53) (by kernel_rfl) ns i hi
    exact ⟨_, ⟨g, a, c, rfl, c0, by omega⟩, h⟩⟩
  have Tr : TurnR (callD prg 21) 60 Bg := ⟨fun j b hj hB => right_ok hj b hB⟩
  obtain ⟨i, b, _, h⟩ := loop_ok (call := callD prg 21) (clo := cloD prg 21) (sub := prg.sub) (n := 999994) (Z := 4) (T := 6) (it := 7) (ns := ns) (e := [.va (.sc ns), .un, .un, .un, .un, .un, .un, .un]) M Tr (by decide) (by decide) (by decide) rfl rfl rfl (by decide) rfl
  have t0_ : exs (callD prg 21) (cloD prg 21) prg.sub fuel [(.set (.nm 3) (.tup [(.lit (.d (.int 2))), (.tup [(.tup [(.lit (.d (.int 0))), (.lit (.d (.int 2)))]), (.tup [(.lit (.d (.int 1))), (.lit (.d (.int 1)))])])]))] [.va (.sc ns), .va (.d (.int i)), .ow b, .un, .un, .un, .un, .un] = some (.ok .nx [.va (.sc ns), .va (.d (.int i)), .ow b, .va (.d (.tuple [(.int 2), (.tuple [(.tuple [(.int 0), (.int 2)]), (.tuple [(.int 1), (.int 1)])])])), .un, .un, .un, .un]) := (wa1 b ns (.int i))
  have t1_ : exs (callD prg 21) (cloD prg 21) prg.sub fuel [(.set (.nm 4) (.lst [(.lit (.d .none)), (.lit (.d (.int 0))), (.tup []), (.lst []), (.dic [] []), (.lit (.d (.str ⟨#[110, 111, 110, 101]⟩))), (.lst [(.lit (.d (.str ⟨#[110, 111, 110, 101]⟩)))]), (.tup [(.lit (.d (.str ⟨#[110, 111, 110, 101]⟩)))]), (.tup [(.lit (.d (.str ⟨#[112, 114, 105, 109, 101]⟩))), (.tup [(.lit (.d (.int 0))), (.lit (.d (.int 0)))])]), (.tup [(.lit (.d (.str ⟨#[112, 114, 105, 109, 101]⟩))), (.lit (.d .none))]), (.tup [(.lit (.d (.str ⟨#[99, 111, 114, 110, 101, 114]⟩))), (.tup [(.lit (.d (.int 0))), (.lit (.d (.int 2)))])]), (.tup [(.lit (.d (.str ⟨#[99, 111, 118, 101, 114]⟩))), (.lit (.d (.int 0)))]), (.tup [(.lit (.d .none))]), (.tup [(.lit (.d (.str ⟨#[112, 114, 105, 109, 97, 114, 121]⟩))), (.tup [(.lit (.d (.int 0))), (.lit (.d (.int 1)))])])]))] [.va (.sc ns), .va (.d (.int i)), .ow b, .va (.d (.tuple [(.int 2), (.tuple [(.tuple [(.int 0), (.int 2)]), (.tuple [(.int 1), (.int 1)])])])), .un, .un, .un, .un] = some (.ok .nx [.va (.sc ns), .va (.d (.int i)), .ow b, .va (.d (.tuple [(.int 2), (.tuple [(.tuple [(.int 0), (.int 2)]), (.tuple [(.int 1), (.int 1)])])])), .ow (.list [.none, (.int 0), (.tuple []), (.list []), (.dict []), (.str ⟨#[110, 111, 110, 101]⟩), (.list [(.str ⟨#[110, 111, 110, 101]⟩)]), (.tuple [(.str ⟨#[110, 111, 110, 101]⟩)]), (.tuple [(.str ⟨#[112, 114, 105, 109, 101]⟩), (.tuple [(.int 0), (.int 0)])]), (.tuple [(.str ⟨#[112, 114, 105, 109, 101]⟩), .none]), (.tuple [(.str ⟨#[99, 111, 114, 110, 101, 114]⟩), (.tuple [(.int 0), (.int 2)])]), (.tuple [(.str ⟨#[99, 111, 118, 101, 114]⟩), (.int 0)]), (.tuple [.none]), (.tuple [(.str ⟨#[112, 114, 105, 109, 97, 114, 121]⟩), (.tuple [(.int 0), (.int 1)])])]), .un, .un, .un]) := (wa2 b ns (.int i))
  have t2_ : exs (callD prg 21) (cloD prg 21) prg.sub fuel [(.set (.nm 4) (.prim .add [(.var 4), (.lst [(.tup [(.lit (.d (.str ⟨#[108, 101, 116, 116, 101, 114]⟩))), (.tup [(.lit (.d (.int 0))), (.lit (.d (.int 2)))]), (.lit (.d (.int 1)))]), (.tup [(.lit (.d (.str ⟨#[108, 101, 116, 116, 101, 114]⟩))), (.tup [(.lit (.d (.int 1))), (.lit (.d (.int 1)))]), (.lit (.d (.int 1)))])])]))] [.va (.sc ns), .va (.d (.int i)), .ow b, .va (.d (.tuple [(.int 2), (.tuple [(.tuple [(.int 0), (.int 2)]), (.tuple [(.int 1), (.int 1)])])])), .ow (.list [.none, (.int 0), (.tuple []), (.list []), (.dict []), (.str ⟨#[110, 111, 110, 101]⟩), (.list [(.str ⟨#[110, 111, 110, 101]⟩)]), (.tuple [(.str ⟨#[110, 111, 110, 101]⟩)]), (.tuple [(.str ⟨#[112, 114, 105, 109, 101]⟩), (.tuple [(.int 0), (.int 0)])]), (.tuple [(.str ⟨#[112, 114, 105, 109, 101]⟩), .none]), (.tuple [(.str ⟨#[99, 111, 114, 110, 101, 114]⟩), (.tuple [(.int 0), (.int 2)])]), (.tuple [(.str ⟨#[99, 111, 118, 101, 114]⟩), (.int 0)]), (.tuple [.none]), (.tuple [(.str ⟨#[112, 114, 105, 109, 97, 114, 121]⟩), (.tuple [(.int 0), (.int 1)])])]), .un, .un, .un] = some (.ok .nx [.va (.sc ns), .va (.d (.int i)), .ow b, .va (.d (.tuple [(.int 2), (.tuple [(.tuple [(.int 0), (.int 2)]), (.tuple [(.int 1), (.int 1)])])])), .ow (.list [.none, (.int 0), (.tuple []), (.list []), (.dict []), (.str ⟨#[110, 111, 110, 101]⟩), (.list [(.str ⟨#[110, 111, 110, 101]⟩)]), (.tuple [(.str ⟨#[110, 111, 110, 101]⟩)]), (.tuple [(.str ⟨#[112, 114, 105, 109, 101]⟩), (.tuple [(.int 0), (.int 0)])]), (.tuple [(.str ⟨#[112, 114, 105, 109, 101]⟩), .none]), (.tuple [(.str ⟨#[99, 111, 114, 110, 101, 114]⟩), (.tuple [(.int 0), (.int 2)])]), (.tuple [(.str ⟨#[99, 111, 118, 101, 114]⟩), (.int 0)]), (.tuple [.none]), (.tuple [(.str ⟨#[112, 114, 105, 109, 97, 114, 121]⟩), (.tuple [(.int 0), (.int 1)])]), (.tuple [(.str ⟨#[108, 101, 116, 116, 101, 114]⟩), (.tuple [(.int 0), (.int 2)]), (.int 1)]), (.tuple [(.str ⟨#[108, 101, 116, 116, 101, 114]⟩), (.tuple [(.int 1), (.int 1)]), (.int 1)])]), .un, .un, .un]) := (wa3 b ns (.int i))
  have t3_ : exs (callD prg 21) (cloD prg 21) prg.sub fuel [(.set (.nm 5) (.cmp (.var 6) (.nm 6) .seq [(.var 4)] [(.bo false [(.prim (.notB false) [(.call 38 [(.var 3), (.tup [(.lit (.d (.int 0))), (.lit (.d (.int 1)))]), (.var 6)])]), (.prim (.notB false) [(.call 43 [(.var 3), (.tup [(.lit (.d (.int 0))), (.lit (.d (.int 1)))]), (.var 6)])]), (.prim (.notB false) [(.call 48 [(.var 3), (.var 6)])])])] [6]))] [.va (.sc ns), .va (.d (.int i)), .ow b, .va (.d (.tuple [(.int 2), (.tuple [(.tuple [(.int 0), (.int 2)]), (.tuple [(.int 1), (.int 1)])])])), .ow (.list [.none, (.int 0), (.tuple []), (.list []), (.dict []), (.str ⟨#[110, 111, 110, 101]⟩), (.list [(.str ⟨#[110, 111, 110, 101]⟩)]), (.tuple [(.str ⟨#[110, 111, 110, 101]⟩)]), (.tuple [(.str ⟨#[112, 114, 105, 109, 101]⟩), (.tuple [(.int 0), (.int 0)])]), (.tuple [(.str ⟨#[112, 114, 105, 109, 101]⟩), .none]), (.tuple [(.str ⟨#[99, 111, 114, 110, 101, 114]⟩), (.tuple [(.int 0), (.int 2)])]), (.tuple [(.str ⟨#[99, 111, 118, 101, 114]⟩), (.int 0)]), (.tuple [.none]), (.tuple [(.str ⟨#[112, 114, 105, 109, 97, 114, 121]⟩), (.tuple [(.int 0), (.int 1)])]), (.tuple [(.str ⟨#[108, 101, 116, 116, 101, 114]⟩), (.tuple [(.int 0), (.int 2)]), (.int 1)]), (.tuple [(.str ⟨#[108, 101, 116, 116, 101, 114]⟩), (.tuple [(.int 1), (.int 1)]), (.int 1)])]), .un, .un, .un] = some (.ok .nx [.va (.sc ns), .va (.d (.int i)), .ow b, .va (.d (.tuple [(.int 2), (.tuple [(.tuple [(.int 0), (.int 2)]), (.tuple [(.int 1), (.int 1)])])])), .ow (.list [.none, (.int 0), (.tuple []), (.list []), (.dict []), (.str ⟨#[110, 111, 110, 101]⟩), (.list [(.str ⟨#[110, 111, 110, 101]⟩)]), (.tuple [(.str ⟨#[110, 111, 110, 101]⟩)]), (.tuple [(.str ⟨#[112, 114, 105, 109, 101]⟩), (.tuple [(.int 0), (.int 0)])]), (.tuple [(.str ⟨#[112, 114, 105, 109, 101]⟩), .none]), (.tuple [(.str ⟨#[99, 111, 114, 110, 101, 114]⟩), (.tuple [(.int 0), (.int 2)])]), (.tuple [(.str ⟨#[99, 111, 118, 101, 114]⟩), (.int 0)]), (.tuple [.none]), (.tuple [(.str ⟨#[112, 114, 105, 109, 97, 114, 121]⟩), (.tuple [(.int 0), (.int 1)])]), (.tuple [(.str ⟨#[108, 101, 116, 116, 101, 114]⟩), (.tuple [(.int 0), (.int 2)]), (.int 1)]), (.tuple [(.str ⟨#[108, 101, 116, 116, 101, 114]⟩), (.tuple [(.int 1), (.int 1)]), (.int 1)])]), .ow (.list []), .un, .un]) := (set_of (n := 999999) (wa4 b ns (.int i)) rfl)
  have t4_ : exs (callD prg 21) (cloD prg 21) prg.sub fuel [(.ret (.bo true [(.prim .eq [(.var 5), (.lst [])]), (.prim (.isB true) [(.call 43 [(.var 3), (.tup [(.lit (.d (.int 1)))]), (.tup [(.lit (.d (.str ⟨#[99, 111, 118, 101, 114]⟩)))])])]), (.prim (.isB true) [(.call 48 [(.var 3), (.tup [(.lit (.d (.str ⟨#[108, 101, 116, 116, 101, 114]⟩))), (.tup [(.lit (.d (.int 1))), (.lit (.d (.int 1)))]), (.lit (.d (.int 0)))])])])]))] [.va (.sc ns), .va (.d (.int i)), .ow b, .va (.d (.tuple [(.int 2), (.tuple [(.tuple [(.int 0), (.int 2)]), (.tuple [(.int 1), (.int 1)])])])), .ow (.list [.none, (.int 0), (.tuple []), (.list []), (.dict []), (.str ⟨#[110, 111, 110, 101]⟩), (.list [(.str ⟨#[110, 111, 110, 101]⟩)]), (.tuple [(.str ⟨#[110, 111, 110, 101]⟩)]), (.tuple [(.str ⟨#[112, 114, 105, 109, 101]⟩), (.tuple [(.int 0), (.int 0)])]), (.tuple [(.str ⟨#[112, 114, 105, 109, 101]⟩), .none]), (.tuple [(.str ⟨#[99, 111, 114, 110, 101, 114]⟩), (.tuple [(.int 0), (.int 2)])]), (.tuple [(.str ⟨#[99, 111, 118, 101, 114]⟩), (.int 0)]), (.tuple [.none]), (.tuple [(.str ⟨#[112, 114, 105, 109, 97, 114, 121]⟩), (.tuple [(.int 0), (.int 1)])]), (.tuple [(.str ⟨#[108, 101, 116, 116, 101, 114]⟩), (.tuple [(.int 0), (.int 2)]), (.int 1)]), (.tuple [(.str ⟨#[108, 101, 116, 116, 101, 114]⟩), (.tuple [(.int 1), (.int 1)]), (.int 1)])]), .ow (.list []), .un, .un] = some (.ok (.rt (.v (.d (.bool true)))) [.va (.sc ns), .va (.d (.int i)), .ow b, .va (.d (.tuple [(.int 2), (.tuple [(.tuple [(.int 0), (.int 2)]), (.tuple [(.int 1), (.int 1)])])])), .ow (.list [.none, (.int 0), (.tuple []), (.list []), (.dict []), (.str ⟨#[110, 111, 110, 101]⟩), (.list [(.str ⟨#[110, 111, 110, 101]⟩)]), (.tuple [(.str ⟨#[110, 111, 110, 101]⟩)]), (.tuple [(.str ⟨#[112, 114, 105, 109, 101]⟩), (.tuple [(.int 0), (.int 0)])]), (.tuple [(.str ⟨#[112, 114, 105, 109, 101]⟩), .none]), (.tuple [(.str ⟨#[99, 111, 114, 110, 101, 114]⟩), (.tuple [(.int 0), (.int 2)])]), (.tuple [(.str ⟨#[99, 111, 118, 101, 114]⟩), (.int 0)]), (.tuple [.none]), (.tuple [(.str ⟨#[112, 114, 105, 109, 97, 114, 121]⟩), (.tuple [(.int 0), (.int 1)])]), (.tuple [(.str ⟨#[108, 101, 116, 116, 101, 114]⟩), (.tuple [(.int 0), (.int 2)]), (.int 1)]), (.tuple [(.str ⟨#[108, 101, 116, 116, 101, 114]⟩), (.tuple [(.int 1), (.int 1)]), (.int 1)])]), .ow (.list []), .un, .un]) := (wa5 b ns (.int i))
  have all : exs (callD prg 21) (cloD prg 21) prg.sub fuel f_law.body [.va (.sc ns), .un, .un, .un, .un, .un, .un, .un] = some (.ok (.rt (.v (.d (.bool true)))) [.va (.sc ns), .va (.d (.int i)), .ow b, .va (.d (.tuple [(.int 2), (.tuple [(.tuple [(.int 0), (.int 2)]), (.tuple [(.int 1), (.int 1)])])])), .ow (.list [.none, (.int 0), (.tuple []), (.list []), (.dict []), (.str ⟨#[110, 111, 110, 101]⟩), (.list [(.str ⟨#[110, 111, 110, 101]⟩)]), (.tuple [(.str ⟨#[110, 111, 110, 101]⟩)]), (.tuple [(.str ⟨#[112, 114, 105, 109, 101]⟩), (.tuple [(.int 0), (.int 0)])]), (.tuple [(.str ⟨#[112, 114, 105, 109, 101]⟩), .none]), (.tuple [(.str ⟨#[99, 111, 114, 110, 101, 114]⟩), (.tuple [(.int 0), (.int 2)])]), (.tuple [(.str ⟨#[99, 111, 118, 101, 114]⟩), (.int 0)]), (.tuple [.none]), (.tuple [(.str ⟨#[112, 114, 105, 109, 97, 114, 121]⟩), (.tuple [(.int 0), (.int 1)])]), (.tuple [(.str ⟨#[108, 101, 116, 116, 101, 114]⟩), (.tuple [(.int 0), (.int 2)]), (.int 1)]), (.tuple [(.str ⟨#[108, 101, 116, 116, 101, 114]⟩), (.tuple [(.int 1), (.int 1)]), (.int 1)])]), .ow (.list []), .un, .un]) := (stmt_cons (n := 999999) h).trans ((stmt_cons (n := 999999) t0_).trans ((stmt_cons (n := 999999) t1_).trans ((stmt_cons (n := 999999) t2_).trans ((stmt_cons (n := 999999) t3_).trans t4_))))
  exact ⟨_, call_body (p := prg) (d := 21) (k := 61) (f := f_law) (as := [.va (.sc ns)]) (by kernel_rfl) rfl rfl all⟩

end Lq
set_option Elab.async false
set_option linter.all false
set_option maxRecDepth 100000
set_option maxHeartbeats 0
open PySem PySem.Spec PyProof.Rows L2 Ev
theorem PySem.Challenge.cw_stairpowers_k15_errors_of_primes_holds : PySem.Challenge.rw_stairpowers_k15_errors_of_primes.Holds := by
  w_on
  o_law
  refine HandSHeadRun.head_any (r := PySem.W.OpenLaw.row PySem.Challenge.rw_stairpowers_k15_errors_of_primes) (q := PySem.W.view Lq.Rw.prog [84]) (H := Lq.LW.hook) (ob := Lq.LW.ob) (M := 4000) (loose := Lq.loose) (d := HandSHeadRun.topDef Lq.Rw.prog 84) (kwd := []) Lq.LW.ob_eq (by kernel_rfl) (fun s => by kernel_rfl) Lq.run (by kernel_rfl) (by kernel_rfl) (by kernel_rfl) (by rfl) (by first | assumption | decide +kernel) (by decide +kernel) ⟨rfl, rfl, rfl, rfl, rfl, by decide +kernel⟩ ?hw ?hc
  case hw => w_witness2
  case hc => exact law_end (L := PySem.Challenge.rw_stairpowers_k15_errors_of_primes) (l := Lq.LW) (m := 40) (kk := 20) (kl := 61) (d := 21) (n := 63) (dl := Lq.lawD) (x := "script") rfl rfl (by decide) (by kernel_rfl) (by kernel_rfl) Lq.hb (fun c h z => subOf_lt (ps := Lq.pairs) (n := 7) (by decide) z) Lq.st (by kernel_rfl) (by kernel_rfl) (by kernel_rfl) (by kernel_rfl) (by kernel_rfl) ⟨rfl, by decide, by decide⟩ (fun ns _ _ => Lq.law_ok ns)

