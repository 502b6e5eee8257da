import PyProof.Rows.All
import HandS.ForMost
import KE.SortData
import KE.DataMinMax
import KE.DataEq
import KE.DataCmp
import PyProof.StrBlockL
import HandS.Text
import KE.KeyNested
import HandS.Lambda
import HandS.ExcInit
import HandS.ExcField
import HandS.TupAny
import HandS.TupMul
import HandS.NoneIn
import HandS.Style
import HandS.TupLe
import HandS.More
import HandS.Conv
import HandS.Small
import KE.KEqNest
import PyProof.NeKinds
import KE.KDictPairs
import PyProof.CallFns
import PyProof.ReprRoads
import KE.KDictSum
import HandS.Codes
import HandS.Defaults
import HandS.Property
import HandS.Walk
import HandS.DictComp
import HandS.Zip
import HandS.Finally
import HandS.Ends
import HandS.Head2
import HandS.HeadEnd
import HandS.HeadHook1
import HandS.HeadHook2
import KE.KStateDown
import HandS.IsInst
import HandS.TupLen
import HandS.ListItems
import HandS.Strs
import HandS.TupSets
import HandS.DictTup
import PyProof.Transfer
import KE.KDictZip
import PyProof.ListNew
import HandS.Iter
import KE.KDictWalk
import KE.KPairComp
import HandS.WordsExc
import HandS.ExcValue
import HandS.ExcIs
import HandS.GenList
import KE.SortKeyHeap
import HandS.EndTab
import PySem.Challenge.RW_rentshelf_k01_values_that_are_things
set_option Elab.async false
set_option linter.all false
section
set_option maxRecDepth 100000
set_option maxHeartbeats 4000000
/-! A small interpreter of plain values for the program's texts. -/
namespace Rs
open PySem L2

/-- a value: data, or a cell of the store -/
inductive Val where
  | non | bl (b : Bool) | int (i : Int) | str (x : Str)
  | lst (xs : List Val) | tup (xs : List Val) | dct (kvs : List (Key × Val)) | odd (kvs : List (Val × Val))
  | ref (i : Nat) | scr (ns : List Int) | bad
  deriving Inhabited

inductive Cell where
  | lst (xs : List Val) (lk : Bool) | dct (kvs : List (Key × Val)) (lk : Bool) | ins (c : Nat) (fs : List (Nat × Val))
  | err (c f : Nat) (x : Val)
  deriving Inhabited
inductive Slot where
  | no | val (v : Val) | own (c : Cell)
  deriving Inhabited
structure S where
  e : List Slot
  h : List Cell
  deriving Inhabited
def okV : Val → Bool
  | .bad => false
  | _ => true
inductive R (α : Type) where
  | ok (a : α) (s : S) | exc (c : Nat) (p : Val) (s : S) | bad
/-- what an expression gives: a value, a new list or dict, a name's own list or dict -/
inductive Rv where
  | v (x : Val) | f (c : Cell) | sl (i : Nat)
  deriving Inhabited

abbrev R.bind {α β : Type} (r : R α) (k : α → S → R β) : R β := match r with
  | .ok a s => k a s
  | .exc c p s => .exc c p s
  | .bad => .bad
abbrev R.opt {α : Type} (o : Option α) (s : S) : R α := match o with
  | some a => .ok a s
  | none => .bad

/-! ### data -/
def oddKd : PyData × PyData → Bool
  | (.int _, _) => false
  | (.str _, _) => false
  | _ => true
mutual
def toD : Val → Option PyData
  | .non => some .none
  | .bl b => some (.bool b)
  | .int i => some (.int i)
  | .str x => some (.str x)
  | .lst xs => match toDs xs with | some ds => some (.list ds) | none => none
  | .tup xs => match toDs xs with | some ds => some (.tuple ds) | none => none
  | .dct kvs => match toDk kvs with | some ds => some (.dict ds) | none => none
  | .odd kvs => match toDo kvs with | some ds => if ds.any oddKd then some (.dict ds) else none | none => none
  | .ref _ => none
  | .scr _ => none
  | .bad => none
def toDs : List Val → Option (List PyData)
  | [] => some []
  | x :: xs => match toD x with
    | none => none
    | some d => match toDs xs with | some ds => some (d :: ds) | none => none
def toDk : List (Key × Val) → Option (List (PyData × PyData))
  | [] => some []
  | (k, x) :: xs => match toD x with
    | none => none
    | some d => match toDk xs with | some ds => some ((match k with | .inl i => .int i | .inr t => .str t, d) :: ds) | none => none
def toDo : List (Val × Val) → Option (List (PyData × PyData))
  | [] => some []
  | (k, x) :: xs => match toD k, toD x with
    | some c, some d => match toDo xs with | some ds => some ((c, d) :: ds) | none => none
    | _, _ => none
end
def imm : Cell → Val
  | .lst xs _ => .lst xs
  | .dct kvs _ => .dct kvs
  | _ => .bad
/-- what stands there now -/
def deref (s : S) : Rv → Val
  | .v (.ref i) => match s.h[i]? with
    | some (.lst xs _) => .lst xs
    | some (.dct kvs _) => .dct kvs
    | _ => .ref i
  | .v x => x
  | .f c => imm c
  | .sl i => match s.e[i]? with
    | some (.own c) => imm c
    | _ => .bad

/-- the cells within laid open, n deep -/
def dp : Nat → List Cell → Val → Val
  | 0, _, x => x
  | n + 1, h, .ref i => match h[i]? with
    | some (.lst xs _) => .lst (xs.map (dp n h))
    | _ => .ref i
  | n + 1, h, .lst xs => .lst (xs.map (dp n h))
  | n + 1, h, .tup xs => .tup (xs.map (dp n h))
  | _ + 1, _, x => x
/-! ### operators -/
inductive Bop where | add | sub | mul | fdiv | mod | pow
inductive Cop where | eq | ne | lt | le | gt | ge | isin | notin | is_ | isnot
def okMul (i j : Int) : Bool := (decide (-(2 ^ 64) < i) && decide (i < 2 ^ 64)) || (decide (-(2 ^ 64) < j) && decide (j < 2 ^ 64))
def rep {α : Type} (xs : List α) (k : Int) : List α := (List.replicate k.toNat xs).flatten
def binop : Bop → Val → Val → Option Rv
  | .add, .int i, .int j => some (.v (.int (i + j)))
  | .add, .str a, .str b => if a.length + b.length ≤ sizeLine then some (.v (.str (a ++ b))) else none
  | .add, .lst xs, .lst ys => if xs.length + ys.length ≤ sizeLine then some (.f (.lst (xs ++ ys) false)) else none
  | .add, .tup xs, .tup ys => if xs.length + ys.length ≤ sizeLine then some (.v (.tup (xs ++ ys))) else none
  | .add, .bl b, .int j => some (.v (.int ((if b = true then 1 else 0) + j)))
  | .sub, .int i, .int j => some (.v (.int (i - j)))
  | .sub, .bl b, .int j => some (.v (.int ((if b = true then 1 else 0) - j)))
  | .mul, .int i, .int j => if okMul i j then some (.v (.int (i * j))) else none
  | .mul, .str a, .int k => if a.length ≤ 1000 ∧ 1 ≤ k ∧ k ≤ 1000 then some (.v (.str (Txt.mul a k))) else none
  | .mul, .lst xs, .int k => if -(2 ^ 63) ≤ k ∧ k < 2 ^ 63 ∧ xs.length * k.toNat ≤ sizeLine then some (.f (.lst (rep xs k) false)) else none
  | .mul, .tup xs, .int k => if 0 < xs.length ∧ 2 ≤ k ∧ k ≤ 1000 ∧ xs.length ≤ 1000 then some (.v (.tup (rep xs k))) else none
  | .fdiv, .int i, .int j => if 0 < j ∧ j < 1073741824 then some (.v (.int (i / j))) else none
  | .mod, .int i, .int j => if 0 < j then some (.v (.int (i % j))) else none
  | .pow, .int i, .int j => if 0 ≤ j ∧ j ≤ 1000000 ∧ i.natAbs < 2 ^ 64 then some (.v (.int (i ^ j.toNat))) else none
  | _, _, _ => none

/-- what op= gives, of ints -/
def iop (op : Bop) (x y : Val) : Option Rv := match op, x, y with
  | .pow, _, _ => none
  | _, .int _, .int _ => binop op x y
  | _, _, _ => none

def keyV : Val → Option Key
  | .int i => some (.inl i)
  | .str x => some (.inr x)
  | _ => none
/-- a key of any hashable kind -/
def txtV : List Val → Option (List NestedKey)
  | [] => some []
  | .str x :: r => (txtV r).map (.text x :: ·)
  | _ => none
def nkV : Val → Option NestedKey
  | .non => some .none
  | .bl b => some (.num (if b = true then 1 else 0))
  | .int i => some (.num i)
  | .str x => some (.text x)
  | .tup xs => (txtV xs).map .tup
  | _ => none
def oddV : List Val → Option (List (Val × Val))
  | [] => some []
  | .tup [k, v] :: r => match nkV k, oddV r with
    | some _, some r => some ((k, v) :: r)
    | _, _ => none
  | _ => none
def vKey : Key → Val
  | .inl i => .int i
  | .inr x => .str x
def dget (kvs : List (Key × Val)) (k : Key) : Option Val := (kvs.find? fun kv => decide (kv.1 = k)).map (·.2)
def dput (kvs : List (Key × Val)) (k : Key) (v : Val) : List (Key × Val) :=
  if (kvs.any fun kv => decide (kv.1 = k)) = true then kvs.map fun kv => if kv.1 = k then (kv.1, v) else kv else kvs ++ [(k, v)]
def ddrop (kvs : List (Key × Val)) (k : Key) : List (Key × Val) := kvs.filter fun kv => decide (kv.1 ≠ k)
def dmerge (kvs more : List (Key × Val)) : List (Key × Val) := more.foldl (fun acc kv => dput acc kv.1 kv.2) kvs

def okD (d : PyData) : Bool := d.plain && decide (d.depth ≤ 60)
def notNone : PyData → Bool
  | .none => false
  | _ => true
def veq (a b : Val) : Option Bool := match toD a, toD b with
  | some d, some e => if okD d && okD e then some (PyData.eqv d e) else none
  | _, _ => none
/-- two dicts' values, key by key -/
def deqK (kb : List (Key × Val)) : List (Key × Val) → Option Bool
  | [] => some true
  | (k, v) :: r => match dget kb k with
    | none => some false
    | some y => match veq v y, deqK kb r with
      | some e, some b => some (e && b)
      | _, _ => none
/-- lists and dicts, nested -/
def eqL (f : Val → Val → Option Bool) : List Val → List Val → Option Bool
  | x :: xs, y :: ys => match f x y, eqL f xs ys with
    | some a, some b => some (a && b)
    | _, _ => none
  | _, _ => some true
def deqS (kb : List (Key × Val)) : List (Key × Val) → Option Bool
  | [] => some true
  | (k, v) :: r => match dget kb k, deqS kb r with
    | none, some _ => some false
    | some y, some b => (veq v y).map (· && b)
    | _, none => none
def veqT : Nat → Val → Val → Option Bool
  | n + 1, .lst xs, .lst ys => match veq (.lst xs) (.lst ys) with
    | some b => some b
    | none => if xs.length = ys.length then eqL (veqT n) xs ys else none
  | _ + 1, .dct ka, .dct kb => (deqS kb ka).map fun b => decide (ka.length = kb.length) && b
  | _, a, b => veq a b
def veqX (a b : Val) : Option Bool := match a, b with
  | .dct ka, .dct kb => if ka.length = kb.length then deqK kb ka else some false
  | .lst xs, .lst ys => match veq (.lst xs) (.lst ys) with
    | some b => some b
    | none => if xs.length = ys.length then eqL (veqT 2) xs ys else some false
  | .tup xs, .tup ys => match veq (.tup xs) (.tup ys) with
    | some b => some b
    | none => if ys.length = 0 ∧ xs.length ≠ 0 then some false else none
  | a, b => veq a b
def vlt (a b : Val) : Option Bool := match a, b with
  | .int i, .int j => some (decide (i < j))
  | a, b => match toD a, toD b with
    | some d, some e => if PySem.W.alike d e && (okD d && notNone d) then some (PySem.W.dataLt d e) else none
    | _, _ => none

def gtOf (o : Option Bool) : Option Bool := o.map (!·)
def signs (x : Str) : List Val := x.cps.toList.map fun c => .str ⟨#[c]⟩
def vin (x y : Val) : Option Bool := match y with
  | .lst ys => match toD x, toDs ys with
    | some d, some ds => if okD d && (PyData.plainAll ds && decide (PyData.depthAll ds ≤ 60)) then some (ds.any fun z => PyData.eqv z d) else none
    | _, _ => none
  | .tup ys => match toD x, toDs ys with
    | some d, some ds => if okD d && (PyData.plainAll ds && decide (PyData.depthAll ds ≤ 60)) then some (ds.any fun z => PyData.eqv z d) else none
    | _, _ => none
  | .dct kvs => match keyV x with
    | some k => some (dget kvs k).isSome
    | none => none
  | .str y => match x with
    | .str x => some (!(Builtin.Str.occurrences y x 0 y.length 1).isEmpty)
    | _ => none
  | _ => none
def vis (x y : Val) : Option Bool := match y with
  | .non => match x with
    | .non => some true
    | .bad => none
    | _ => some false
  | .bl b => match x with
    | .bl a => some (a == b)
    | _ => none
  | _ => none
def cmpop : Cop → Val → Val → Option Bool
  | .eq, a, b => veqX a b
  | .ne, a, b => (veqX a b).map (!·)
  | .lt, a, b => vlt a b
  | .gt, a, b => vlt b a
  | .le, a, b => (vlt b a).map (!·)
  | .ge, a, b => (vlt a b).map (!·)
  | .isin, a, b => vin a b
  | .notin, a, b => (vin a b).map (!·)
  | .is_, a, b => vis a b
  | .isnot, a, b => (vis a b).map (!·)

/-! ### items, slices -/
def cut {α : Type} (xs : List α) (lo hi : Option Int) : List α := (xs.drop (HT.sIx xs.length 0 lo)).take (HT.sIx xs.length xs.length hi - HT.sIx xs.length 0 lo)
def vsub (a b : Val) : Option Val := match a, b with
  | .lst xs, .int i => atI xs i
  | .tup xs, .int i => atI xs i
  | .str x, .int i => if x.length ≤ sizeLine then (atI x.cps.toList i).map fun c => .str ⟨#[c]⟩ else none
  | .dct kvs, k => match keyV k with
    | some k => dget kvs k
    | none => none
  | .odd kvs, .str x => (kvs.find? fun kv => decide (nkV kv.1 = some (.text x))).map (·.2)
  | _, _ => none
def partV : List Val → Option (Option Int)
  | [] => some none
  | [.int i] => some (some i)
  | _ => none
def vslice (a : Val) (lo hi : Option Int) : Option Rv := match a with
  | .lst xs => some (.f (.lst (cut xs lo hi) false))
  | .tup xs => some (.v (.tup (cut xs lo hi)))
  | .str x => if x.length ≤ sizeLine then some (.v (.str (cutS x lo hi))) else none
  | .scr ns => some (.f (.lst ((cut ns lo hi).map .int) false))
  | _ => none
def vstep (a : Val) (k : Int) : Option Rv := match a with
  | .lst xs => if k = 1 then some (.f (.lst xs false)) else if k = -1 then some (.f (.lst xs.reverse false)) else none
  | .tup xs => if k = 1 then some (.v (.tup xs)) else if k = -1 then some (.v (.tup xs.reverse)) else none
  | _ => none

/-! ### built-in functions -/
inductive Bi where
  | len | abs | min | max | sum | sorted | list | tuple | dict | int | bool | str | repr | all | any | lenset | lensetL | isInt | isBool | isStr | isTup | isLst | isDct | litems | sitems | sortk | lzip | sset | min2 | lensetS
def intsOf : List Val → Option (List Int)
  | [] => some []
  | .int i :: xs => (intsOf xs).map (i :: ·)
  | _ => none
def blsOf : List Val → Option (List Bool)
  | [] => some []
  | .bl i :: xs => (blsOf xs).map (i :: ·)
  | _ => none
/-- list of what is walked -/
def itemsV : Val → Option (List Val)
  | .lst xs => some xs
  | .tup xs => some xs
  | .str x => some (signs x)
  | .dct kvs => some (kvs.map fun kv => vKey kv.1)
  | _ => none
def allAlike (ds : List PyData) : Bool := ds.all fun d => ds.all fun e => PySem.W.alike d e
def sortable (ds : List PyData) : Bool := (ds.all fun d => match d with | .tuple (_ :: _) => true | _ => false) || ds.all fun d => match d with | .none => false | .tuple _ => false | _ => true
def dD (v : Val) : PyData := (toD v).getD .none
def insB {α : Type} (le : α → α → Bool) (a : α) : List α → List α
  | [] => [a]
  | b :: r => if le a b then a :: b :: r else b :: insB le a r
/-- sorted, stable; it runs in the kernel -/
def isort {α : Type} (le : α → α → Bool) : List α → List α
  | [] => []
  | a :: r => insB le a (isort le r)
theorem insB_at {α : Type} {le : α → α → Bool} {a : α} : ∀ (l1 l2 : List α), (∀ b ∈ l1, (!le a b) = true) → (∀ b ∈ l2, le a b = true) → insB le a (l1 ++ l2) = l1 ++ a :: l2
  | [], [], _, _ => rfl
  | [], b :: r, _, h => by
    show (if le a b then a :: b :: r else b :: insB le a r) = _
    rw [if_pos (h b (by simp))]
    rfl
  | c :: l1, l2, h1, h2 => by
    have hc := h1 c (by simp)
    show (if le a c then a :: c :: (l1 ++ l2) else c :: insB le a (l1 ++ l2)) = _
    rw [if_neg (by simpa using hc), insB_at l1 l2 (fun b hb => h1 b (by simp [hb])) h2]
    rfl
theorem isort_eq {α : Type} {le : α → α → Bool} (tr : ∀ a b c : α, le a b = true → le b c = true → le a c = true) (to : ∀ a b : α, (le a b || le b a) = true) : ∀ xs : List α, isort le xs = xs.mergeSort le
  | [] => by simp [isort]
  | a :: r => by
    obtain ⟨l1, l2, h1, h2, h3⟩ := List.mergeSort_cons tr to a r
    have hp := List.pairwise_mergeSort (le := le) tr to (a :: r)
    rw [h1, List.pairwise_append, List.pairwise_cons] at hp
    show insB le a (isort le r) = _
    rw [isort_eq tr to r, h2, h1]
    exact insB_at l1 l2 h3 hp.2.1.1
theorem isort_data {β : Type} (k : β → PyData) (xs : List β) : isort (PySem.W.dataLe false k) xs = xs.mergeSort (PySem.W.dataLe false k) := by
  have h : PySem.W.TotalLe (PySem.W.dataLe false k) := PySem.W.sortLe_total (PyProof.Rows.listOrd PyProof.Rows.itemOrd) false fun b => PySem.W.keyToks (k b)
  exact isort_eq h.trans (fun a b => by rw [Bool.or_eq_true]; exact h.total a b) xs
def vsort (xs : List Val) : Option (List Val) := match toDs xs with
  | some ds => if allAlike ds && (sortable ds && (ds.all okD && decide (xs.length ≤ sizeLine))) then some (isort (PySem.W.dataLe false dD) xs) else none
  | none => none
def pairsV : List Val → Option (List (Key × Val))
  | [] => some []
  | .tup [k, v] :: r => match keyV k, pairsV r with
    | some k, some r => some ((k, v) :: r)
    | _, _ => none
  | _ => none
def best (xs : List Val) (bt : Val → Val → Bool) : Option Val := match xs with
  | [] => none
  | x :: r => some (r.foldl (fun b y => if bt y b then y else b) x)
def vmin (xs : List Val) : Option Val := match intsOf xs with
  | some (n :: ns) => some (.int (ns.foldl min n))
  | _ => match toDs xs with
    | some ds => if allAlike ds && (ds.all okD && ds.all notNone) then best xs fun y b => PySem.W.dataLt (dD y) (dD b) else none
    | none => none
def vmax (xs : List Val) : Option Val := match intsOf xs with
  | some (n :: ns) => some (.int (ns.foldl max n))
  | _ => none
def showOk (d : PyData) : Bool := d.showable && (decide (d.depth ≤ 60) && decide (d.shown.length ≤ sizeLine))
def kindV : Val → Nat
  | .non => 0 | .bl _ => 1 | .int _ => 2 | .str _ => 3 | .lst _ => 4 | .tup _ => 5 | .dct _ => 6 | .odd _ => 6 | .scr _ => 4 | .ref _ => 7 | .bad => 8
def kInt (x : Val) : Option Bool := if 7 ≤ kindV x then none else some (kindV x == 1 || kindV x == 2)
def kBool (x : Val) : Option Bool := if 7 ≤ kindV x then none else some (kindV x == 1)
def kStr (x : Val) : Option Bool := if 7 ≤ kindV x then none else some (kindV x == 3)
def kLst (x : Val) : Option Bool := if 7 ≤ kindV x then none else some (kindV x == 4)
def kTup (x : Val) : Option Bool := if 7 ≤ kindV x then none else some (kindV x == 5)
def kDct (x : Val) : Option Bool := if 7 ≤ kindV x then none else some (kindV x == 6)
/-- texts alone; tuples of ints alone; each thing once -/
def strsV : List Val → Option (List Str)
  | [] => some []
  | .str x :: r => (strsV r).map (x :: ·)
  | _ => none
def intLs : List Val → Option (List (List Int))
  | [] => some []
  | .tup xs :: r => match intsOf xs, intLs r with
    | some a, some b => some (a :: b)
    | _, _ => none
  | _ => none
def strLs : List Val → Option (List (List Str))
  | [] => some []
  | .tup xs :: r => match strsV xs, strLs r with
    | some a, some b => some (a :: b)
    | _, _ => none
  | _ => none
def dd {α : Type} [DecidableEq α] (xs : List α) : List α := xs.foldl (fun acc k => if k ∈ acc then acc else acc ++ [k]) []
/-- the ints at the first places -/
def keysI : List Val → Option (List Int)
  | [] => some []
  | .tup (.int i :: _) :: r => (keysI r).map (i :: ·)
  | _ => none
def zipV : List Val → List Val → List Val
  | x :: xs, y :: ys => .tup [x, y] :: zipV xs ys
  | _, _ => []
def boxed : Val → Bool
  | .lst _ => true
  | .tup _ => true
  | .odd _ => true
  | .dct _ => true
  | _ => false
def biop : Bi → List Val → Option Rv
  | .len, [.lst xs] => some (.v (.int xs.length))
  | .len, [.tup xs] => some (.v (.int xs.length))
  | .len, [.dct xs] => some (.v (.int xs.length))
  | .len, [.odd xs] => some (.v (.int xs.length))
  | .len, [.scr xs] => some (.v (.int xs.length))
  | .len, [.str x] => if x.length ≤ sizeLine then some (.v (.int x.length)) else none
  | .abs, [.int i] => some (.v (.int (if i < 0 then -i else i)))
  | .min, [.int i, .int j] => some (.v (.int (if j < i then j else i)))
  | .max, [.int i, .int j] => some (.v (.int (if j > i then j else i)))
  | .min, [.lst xs] => (vmin xs).map .v
  | .max, [.lst xs] => (vmax xs).map .v
  | .sum, [.lst xs] => (intsOf xs).map fun ns => .v (.int ns.sum)
  | .sorted, [.lst xs] => (vsort xs).map fun ys => .f (.lst ys false)
  | .sorted, [.tup xs] => (vsort xs).map fun ys => .f (.lst ys false)
  | .sorted, [.dct kvs] => if decide (kvs.length < 64) && kvs.all (fun kv => kv.1.isRight) then (vsort (kvs.map fun kv => vKey kv.1)).map fun ys => .f (.lst ys false) else none
  | .list, [x] => match x with
    | .str _ => none
    | x => (itemsV x).map fun ys => .f (.lst ys false)
  | .tuple, [.lst xs] => some (.v (.tup xs))
  | .tuple, [.tup xs] => some (.v (.tup xs))
  | .tuple, [.dct kvs] => some (.v (.tup (kvs.map fun kv => vKey kv.1)))
  | .dict, [.dct kvs] => some (.f (.dct kvs false))
  | .dict, [.lst xs] => (pairsV xs).map fun kvs => .f (.dct (dmerge [] kvs) false)
  | .int, [.int i] => some (.v (.int i))
  | .int, [.bl b] => some (.v (.int (if b then 1 else 0)))
  | .bool, [.int i] => some (.v (.bl (i != 0)))
  | .str, [.int i] => if i.natAbs.log2 < 1920 then some (.v (.str (toString i))) else none
  | .str, [.bl b] => some (.v (.str (if b then "True" else "False")))
  | .repr, [x] => match toD x with
    | some d => if showOk d then some (.v (.str d.shown)) else none
    | none => none
  | .all, [.lst xs] => (blsOf xs).map fun bs => .v (.bl (bs.all id))
  | .any, [.lst xs] => (blsOf xs).map fun bs => .v (.bl (bs.any id))
  | .litems, [.dct kvs] => some (.f (.lst (kvs.map fun kv => .tup [vKey kv.1, kv.2]) false))
  | .lenset, [.tup xs] => match strsV xs with
    | some ys => if ys.length < 64 then some (.v (.int (dd ys).length)) else none
    | none => none
  | .min2, [.str x, .str y] => some (.v (.str (if y.cps.toList < x.cps.toList then y else x)))
  | .sset, [.tup xs] => match strsV xs with
    | some ys => if ys.length < 64 then (vsort ((dd ys).map .str)).map fun zs => .f (.lst zs false) else none
    | none => none
  | .lensetL, [.lst xs] => match intLs xs with
    | some ys => if ys.length < 64 then some (.v (.int (dd ys).length)) else none
    | none => none
  | .lensetS, [.lst xs] => match strLs xs with
    | some ys => if ys.length < 64 then some (.v (.int (dd ys).length)) else none
    | none => none
  | .sitems, [.dct kvs] => (vsort (kvs.map fun kv => .tup [vKey kv.1, kv.2])).map fun ys => .f (.lst ys false)
  | .sortk, [.lst xs] => match keysI xs with
    | some ks => if xs.length ≤ sizeLine then some (.f (.lst ((isort (fun a b => decide (a.1 ≤ b.1)) (ks.zip xs)).map (·.2)) false)) else none
    | none => none
  | .lzip, [.lst xs, .lst ys] => some (.f (.lst (zipV xs ys) false))
  | .isInt, [x] => (kInt x).map fun b => .v (.bl b)
  | .isBool, [x] => (kBool x).map fun b => .v (.bl b)
  | .isStr, [x] => (kStr x).map fun b => .v (.bl b)
  | .isTup, [x] => (kTup x).map fun b => .v (.bl b)
  | .isLst, [x] => (kLst x).map fun b => .v (.bl b)
  | .isDct, [x] => (kDct x).map fun b => .v (.bl b)
  | _, _ => none

/-! ### methods of built-in types -/
inductive Mt where | append | pop | insert | lclear | dget | dpop | dclear | upd | join | split | upper
/-- what the receiver must be -/
def mkind : Mt → Val → Bool
  | .append, .lst _ => true
  | .pop, .lst _ => true
  | .insert, .lst _ => true
  | .lclear, .lst _ => true
  | .dget, .dct _ => true
  | .dpop, .dct _ => true
  | .dclear, .dct _ => true
  | .upd, .dct _ => true
  | .join, .str _ => true
  | .split, .str _ => true
  | .upper, .str _ => true
  | _, _ => false
def mtop : Mt → Val → List Val → Option (Rv × Option Cell)
  | .append, .lst xs, [y] => if xs.length < sizeLine then some (.v .non, some (.lst (xs ++ [y]) false)) else none
  | .pop, .lst xs, [.int i] => if -(2 ^ 63) ≤ i ∧ i < 2 ^ 63 then match ixN xs.length i with
    | some k => match xs[k]? with
      | some y => some (.v y, some (.lst (xs.eraseIdx k) false))
      | none => none
    | none => none
    else none
  | .insert, .lst xs, [.int i, y] => if decide (xs.length < sizeLine) && (decide (0 ≤ i) && decide (i < 2 ^ 63)) then some (.v .non, some (.lst (xs.take i.toNat ++ [y] ++ xs.drop i.toNat) false)) else none
  | .join, .str a, [.lst xs] => match strsV xs with
    | some ys => if (ys.map (·.length)).sum + ys.length * a.length ≤ 16777216 then some (.v (.str (Txt.join a ys)), none) else none
    | none => none
  | .split, .str a, [.str b] => if decide (b.length ≠ 0) && decide (a.length + 2 ≤ sizeLine) then some (.f (.lst ((Txt.split a b).map .str) false), none) else none
  | .upper, .str a, [] => if a.length ≤ 5592405 then some (.v (.str (Txt.upper a)), none) else none
  | .upd, .dct xs, [.dct ys] => if xs.length + ys.length ≤ sizeLine then some (.v .non, some (.dct (dmerge xs ys) false)) else none
  | .lclear, .lst xs, [] => some (.v .non, some (.lst [] false))
  | .dclear, .dct xs, [] => some (.v .non, some (.dct [] false))
  | .dpop, .dct kvs, [k, d] => match keyV k with
    | some k => match dget kvs k with
      | some v => some (.v v, some (.dct (ddrop kvs k) false))
      | none => some (.v d, some (.dct kvs false))
    | none => none
  | .dget, .dct kvs, [k, d] => match keyV k with
    | some k => some (.v ((dget kvs k).getD d), none)
    | none => none
  | _, _, _ => none

/-! ### the texts -/
inductive Pat where | nm (i : Nat) | tp (ps : List Pat)
  deriving Inhabited
inductive Sk where | it | rng | enum | zip | items | keys
inductive IE where
  | var (i : Nat) | frz (i : Nat) | mv (i : Nat) | cst (v : Val) | glb (x : Nat) (v : Val)
  | bin (op : Bop) (a b : IE) | deq (ne : Bool) (a b : IE) | neg (a : IE)
  | cmp (op : Cop) (a b : IE) | chn (o1 o2 : Cop) (a b c : IE)
  | and (a b : IE) | or (a b : IE) | not (a : IE) | ite (c a b : IE)
  | sub (a b : IE) | slc (a : IE) (lo hi : List IE) | sls (a st : IE)
  | lst (es : List IE) | tup (es : List IE) | dsp (es : List IE)
  | lc (elt : IE) (p : Pat) (k : Sk) (src conds : List IE) (vs : List Nat)
  | lck (elt : IE) (p : Pat) (its : Bool) (i : Nat) (conds : List IE) (vs : List Nat)
  | dc (key elt : IE) (p : Pat) (k : Sk) (src conds : List IE) (vs : List Nat)
  | bi (f : Bi) (es : List IE) | mt (m : Mt) (o : IE) (es : List IE)
  | fn (f : Nat) (es : List IE) (pm : List (Nat ⊕ Val)) | me (cs : List Nat) (m : Nat) (o : IE) (es : List IE) (pm : List (Nat ⊕ Val)) | new (c : Nat) (es : List IE) (pm : List (Nat ⊕ Val))
  | att (o : IE) (f : Nat) | prp (o : IE) (f : Nat) | inown (ng : Bool) (m : Nat) (x o : IE) | lenown (m : Nat) (o : IE)
  | heap (a : IE)
  | lcr (elt : IE) (p : Pat) (a : IE) (conds : List IE) (vs : List Nat) | dcr (key elt : IE) (p : Pat) (a : IE) (conds : List IE) (vs : List Nat)
  | drep (a : IE)
  | mkod (a : IE) | lci (elt : IE) (p : Pat) (its : Bool) (a : IE) (conds : List IE) (vs : List Nat)
  | mkx (c f : Nat) (a : IE) | xat (c f : Nat) (o : IE) | isx (o : IE) (tb : List (Nat × Bool))
  deriving Inhabited
inductive Tgt where | nm (i : Nat) | tp (ts : List Tgt) | sub (o k : IE) | att (o : IE) (f : Nat) | sla (o : IE)
  deriving Inhabited
/-- what an except suite tells: the error's attribute, or a text and its repr -/
inductive Su where | pay | shw (x : Str) | sets (i j : Nat) (x : Str) | chk (i : Nat) (eq : Bool) (w : Nat) (ns : List Int) (b : IE) | cst (v : Int)
  deriving Inhabited
inductive IS where
  | ex (e : IE) | asg (t : Tgt) (e : IE) | own (i : Nat) (e : IE) | par (i j : Nat) (oi oj : Bool) (a b : IE) | par3 (i j l : Nat) (oi oj ol : Bool) (a b c : IE) | aug (i : Nat) (op : Bop) (e : IE) | augS (o k : IE) (op : Bop) (e : IE) | augA (o : IE) (f : Nat) (op : Bop) (e : IE)
  | del (o k : IE) | ite (c : IE) (a b : List IS) | whl (c : IE) (b : List IS) | for_ (p : Pat) (k : Sk) (src : List IE) (b : List IS) | ret (e : IE) | retN | pas | bk | ct | nev | forr (p : Pat) (a : IE) (b : List IS) | fori (p : Pat) (its : Bool) (a : IE) (b : List IS)
  | yld (e : IE) | gst (p : IS) | gen (b : List IS)
  | rais (c : Nat) (e : IE) | tryS (b : List IS) (cl : List (Nat × Su))
  deriving Inhabited
inductive Fl where | nx | rt (v : Val) | bk | ct
/-- what the walk asks of the classes: method, __init__, property of a class; a class's fields -/
structure Tab where
  mth : Nat → Nat → Option Nat
  ini : Nat → Option Nat
  prp : Nat → Nat → Option Nat
  fld : Nat → Nat → Bool
  fuel : Nat
abbrev Call := Nat → List Val → List Cell → R Val

def freeze : Rv → Option Val
  | .v x => some x
  | .f c => some (imm c)
  | .sl _ => none
abbrev R.val (r : R Rv) : R Val := r.bind fun x s => R.opt (freeze x) s
def put1 (own : Bool) (x : Rv) : Option Slot := if own then match x with
    | .f c => some (.own c)
    | _ => none
  else (freeze x).map .val
/-- an operand: never a new list -/
def opnd : Rv → Rv
  | .f c => .v (imm c)
  | r => r
def unlocked : Cell → Bool
  | .lst _ lk => !lk
  | .dct _ lk => !lk
  | _ => false
def slotOf (s : S) (i : Nat) : Slot := s.e.getD i .no
def rdVar (s : S) (i : Nat) : R Rv := match slotOf s i with
  | .val v => .ok (.v v) s
  | .own _ => .ok (.sl i) s
  | .no => .bad
def frzVar (s : S) (i : Nat) : R Rv := match slotOf s i with
  | .val v => .ok (.v v) s
  | .own c => if unlocked c then .ok (.v (imm c)) { s with e := s.e.set i (.val (imm c)) } else .bad
  | .no => .bad
def toHeap (c : Cell) (s : S) : R Rv := .ok (.v (.ref s.h.length)) { s with h := s.h ++ [c] }
def mvVar (s : S) (i : Nat) : R Rv := match slotOf s i with
  | .own c => if unlocked c then .ok (.v (.ref s.h.length)) { e := s.e.set i (.val (.ref s.h.length)), h := s.h ++ [c] } else .bad
  | _ => .bad
def vsubL (a i : Val) : Option Val := if kindV a = 4 then vsub a i else none
/-- the content at a place is changed -/
def setLoc (s : S) (o : Rv) (c : Cell) : Option S := match o with
  | .sl i => match slotOf s i with
    | .own d => if unlocked d then some { s with e := s.e.set i (.own c) } else none
    | _ => none
  | .v (.ref n) => match s.h[n]? with
    | some d => if unlocked d then some { s with h := s.h.set n c } else none
    | none => none
  | _ => none
def putLoc (s : S) (o : Rv) : Option Cell → Option S
  | none => some s
  | some c => setLoc s o c
def lockC (b : Bool) : Cell → Cell
  | .lst xs _ => .lst xs b
  | .dct kvs _ => .dct kvs b
  | c => c
/-- what is walked is locked -/
def lockLoc (s : S) (o : Rv) : S := match o with
  | .sl i => match slotOf s i with
    | .own d => { s with e := s.e.set i (.own (lockC true d)) }
    | _ => s
  | .v (.ref n) => match s.h[n]? with
    | some d => { s with h := s.h.set n (lockC true d) }
    | none => s
  | _ => s
def unlockLoc (s0 s : S) (o : Rv) : S := match o with
  | .sl i => match s0.e[i]?, s.e[i]? with
    | some (.own c), some (.own d) => if unlocked c then { s with e := s.e.set i (.own (lockC false d)) } else s
    | _, _ => s
  | .v (.ref n) => match s0.h[n]?, s.h[n]? with
    | some c, some d => if unlocked c then { s with h := s.h.set n (lockC false d) } else s
    | _, _ => s
  | _ => s
mutual
def patSet : Pat → Val → List Slot → Option (List Slot)
  | .nm i, v, e => some (e.set i (.val v))
  | .tp ps, v, e => match v with
    | .tup vs => patSets ps vs e
    | _ => none
def patSets : List Pat → List Val → List Slot → Option (List Slot)
  | [], [], e => some e
  | p :: ps, v :: vs, e => match patSet p v e with
    | some e => patSets ps vs e
    | none => none
  | _, _, _ => none
end
def wipeE (e : List Slot) : List Nat → List Slot
  | [] => e
  | v :: vs => (wipeE e vs).set v .no
def restE (e0 e1 : List Slot) : List Nat → List Slot
  | [] => e1
  | v :: vs => (restE e0 e1 vs).set v (match e0.getD v .no with | .val x => .val x | _ => .no)
def rangeV (lo : Int) (n : Nat) : List Val := (List.range n).map fun (i : Nat) => .int (lo + (i : Int))
def enumV : Nat → List Val → List Val
  | _, [] => []
  | i, x :: xs => .tup [.int (i : Nat), x] :: enumV (i + 1) xs
def smallI (i : Int) : Bool := decide (-(2 ^ 62) ≤ i) && decide (i < 2 ^ 62)
/-- the numbers i, i + k, .. ahead of j -/
def rangeK (i j k : Int) : List Val := (List.range (if i < j then (j - i - 1) / k + 1 else 0).toNat).map fun (m : Nat) => .int (i + (m : Int) * k)
def srcItems : Sk → List Val → Option (List Val)
  | .it, [.lst xs] => some xs
  | .it, [.tup xs] => some xs
  | .it, [.str x] => some (signs x)
  | .keys, [.dct kvs] => some (kvs.map fun kv => vKey kv.1)
  | .rng, [.int j] => if smallI j then some (rangeV 0 j.toNat) else none
  | .rng, [.int i, .int j] => if smallI i && smallI j then some (rangeV i (j - i).toNat) else none
  | .rng, [.int i, .int j, .int k] => if smallI i && (smallI j && (decide (0 < k) && decide (k < 1000))) then some (rangeK i j k) else none
  | .enum, [.lst xs] => some (enumV 0 xs)
  | .zip, [.lst xs, .lst ys] => some (zipV xs ys)
  | .zip, [.lst xs, .tup ys] => some (zipV xs ys)
  | .items, [.dct kvs] => some (kvs.map fun kv => .tup [vKey kv.1, kv.2])
  | _, _ => none
def keysV (its : Bool) (kvs : List (Key × Val)) : List Val := if its then kvs.map fun kv => .tup [vKey kv.1, kv.2] else kvs.map fun kv => vKey kv.1
/-- the keys or pairs of a dict that is a value -/
def itemsI (its : Bool) : Val → Option (List Val)
  | .dct kvs => some (keysV its kvs)
  | .odd kvs => some (if its then kvs.map fun kv => .tup [kv.1, kv.2] else kvs.map fun kv => kv.1)
  | _ => none
/-- the places that a walk locks -/
def lockAll (s : S) (os : List Rv) : S := os.foldl lockLoc s
def unlockAll (s0 s : S) (os : List Rv) : S := os.foldl (unlockLoc s0) s
def noSl (os : List Rv) : Bool := os.all fun
  | .sl _ => false
  | _ => true

def forL (st : Val → List Slot → Option (List Slot)) (body : S → R Fl) : List Val → S → R Fl
  | [], s => .ok .nx s
  | x :: xs, s => match st x s.e with
    | none => .bad
    | some e => match body { s with e := e } with
      | .ok .nx s2 => forL st body xs s2
      | .ok .ct s2 => forL st body xs s2
      | .ok .bk s2 => .ok .nx s2
      | .ok (.rt v) s2 => .ok (.rt v) s2
      | .exc c p s2 => .exc c p s2
      | .bad => .bad
/-- a loop that is left by what its body raises -/
def forX (st : Val → List Slot → Option (List Slot)) (body : S → R Fl) (bodyX : S → Option (Nat × Val × S)) : List Val → S → Option (Nat × Val × S)
  | [], _ => none
  | x :: xs, s => match st x s.e with
    | none => none
    | some e => match body { s with e := e } with
      | .ok .nx s2 => forX st body bodyX xs s2
      | .ok .ct s2 => forX st body bodyX xs s2
      | .ok _ _ => none
      | _ => bodyX { s with e := e }
/-- a text and the repr of what was raised -/
def shwV (x : Str) (p : Val) : Option Val := match biop .repr [p] with
  | some (.v r) => some (.lst [.str x, r])
  | _ => none
def forG (st : Val → List Slot → Option (List Slot)) (body : List Val → S → R (List Val)) : List Val → List Val → S → R (List Val)
  | [], ys, s => .ok ys s
  | x :: xs, ys, s => match st x s.e with
    | none => .bad
    | some e => (body ys { s with e := e }).bind fun ys s => forG st body xs ys s
def compL {α : Type} (st : Val → List Slot → Option (List Slot)) (tst : S → R Bool) (elt : S → R α) (vs : List Nat) (put : List α → α → Option (List α)) : List Val → S → List α → R (List α)
  | [], s, acc => .ok acc s
  | x :: xs, s, acc => match st x s.e with
    | none => .bad
    | some e => (tst { s with e := e }).bind fun b s1 => match b with
      | false => compL st tst elt vs put xs { s1 with e := wipeE s1.e vs } acc
      | true => (elt s1).bind fun y s2 => match put acc y with
        | some acc => compL st tst elt vs put xs { s2 with e := wipeE s2.e vs } acc
        | none => .bad
def whileL (tst : S → R Bool) (body : S → R Fl) : Nat → S → R Fl
  | 0, _ => .bad
  | n + 1, s => (tst s).bind fun b s1 => match b with
    | false => .ok .nx s1
    | true => match body s1 with
      | .ok .nx s2 => whileL tst body n s2
      | .ok .ct s2 => whileL tst body n s2
      | .ok .bk s2 => .ok .nx s2
      | .ok (.rt v) s2 => .ok (.rt v) s2
      | .exc c p s2 => .exc c p s2
      | .bad => .bad
def permV (vs : List Val) : List (Nat ⊕ Val) → List Val
  | [] => vs
  | pm => pm.map fun
    | .inl k => vs.getD k .non
    | .inr d => d
/-- back from a call: this frame's names are as they were -/
abbrev R.back (r : R Val) (e : List Slot) : R Rv := match r with
  | .ok v s => .ok (.v v) { s with e := e }
  | .exc c p s => .exc c p { s with e := e }
  | .bad => .bad
def kvsOf : List Val → Option (List (Key × Val))
  | [] => some []
  | k :: v :: r => match keyV k, kvsOf r with
    | some k, some r => some ((k, v) :: r)
    | _, _ => none
  | _ => none
def asB : Val → Option Bool
  | .bl b => some b
  | _ => none
def putL (acc : List Val) (y : Val) : Option (List Val) := if acc.length < sizeLine then some (acc ++ [y]) else none
def putD (acc : List (Key × Val)) (y : Key × Val) : Option (List (Key × Val)) := if acc.length < sizeLine then some (dput acc y.1 y.2) else none
def insAt (s : S) (v : Val) : Option (Nat × Nat × List (Nat × Val)) := match v with
  | .ref n => match s.h[n]? with
    | some (.ins c fs) => some (n, c, fs)
    | _ => none
  | _ => none
/-- the error at a place: its class, its attribute -/
def errAt (s : S) (v : Val) : Option (Nat × Nat × Val) := match v with
  | .ref n => match s.h[n]? with
    | some (.err c f x) => some (c, f, x)
    | _ => none
  | _ => none
def putFs (f : Nat) (v : Val) : List (Nat × Val) → List (Nat × Val)
  | [] => [(f, v)]
  | (g, x) :: r => if g = f then (f, v) :: r else (g, x) :: putFs f v r

section
variable (T : Tab) (C : Call)
mutual
def evalE : IE → S → R Rv
  | .var i, s => rdVar s i
  | .frz i, s => frzVar s i
  | .mv i, s => mvVar s i
  | .cst v, s => .ok (.v v) s
  | .glb _ v, s => .ok (.v v) s
  | .bin op a b, s => (evalE a s).bind fun x s => (evalE b s).bind fun y s => R.opt (binop op (deref s (opnd x)) (deref s (opnd y))) s
  | .neg a, s => (evalE a s).bind fun x s => match deref s x with
    | .int i => .ok (.v (.int (-i))) s
    | _ => .bad
  | .cmp op a b, s => (evalE a s).bind fun x s => (evalE b s).bind fun y s => R.opt ((cmpop op (deref s (opnd x)) (deref s (opnd y))).map fun b => .v (.bl b)) s
  | .deq ne a b, s => (evalE a s).bind fun x s => (evalE b s).bind fun y s => R.opt ((veq (dp 3 s.h (deref s (opnd x))) (dp 3 s.h (deref s (opnd y)))).map fun k => .v (.bl (k != ne))) s
  | .chn o1 o2 a b c, s => (evalE a s).bind fun x s => (evalE b s).bind fun y s => (R.opt (cmpop o1 (deref s (opnd x)) (deref s (opnd y))) s).bind fun k s => match k with
    | true => (evalE c s).bind fun z s => R.opt ((cmpop o2 (deref s (opnd y)) (deref s (opnd z))).map fun b => .v (.bl b)) s
    | false => .ok (.v (.bl false)) s
  | .and a b, s => (evalE a s).val.bind fun x s => (R.opt (asB x) s).bind fun k s => match k with
    | true => evalE b s
    | false => .ok (.v (.bl false)) s
  | .or a b, s => (evalE a s).val.bind fun x s => (R.opt (asB x) s).bind fun k s => match k with
    | true => .ok (.v (.bl true)) s
    | false => evalE b s
  | .not a, s => (evalE a s).val.bind fun x s => (R.opt (asB x) s).bind fun k s => .ok (.v (.bl (!k))) s
  | .ite c a b, s => (evalE c s).val.bind fun x s => (R.opt (asB x) s).bind fun k s => match k with
    | true => (evalE a s).val.bind fun x s => .ok (.v x) s
    | false => (evalE b s).val.bind fun x s => .ok (.v x) s
  | .sub a b, s => (evalE a s).bind fun x s => (evalE b s).val.bind fun y s => R.opt ((vsub (deref s (opnd x)) y).map .v) s
  | .slc a lo hi, s => (evalE a s).bind fun x s => (evalVs lo s).bind fun l s => (evalVs hi s).bind fun h s => match partV l, partV h with
    | some l, some h => R.opt (vslice (deref s (opnd x)) l h) s
    | _, _ => .bad
  | .sls a st, s => (evalE a s).bind fun x s => (evalE st s).val.bind fun k s => match k with
    | .int k => R.opt (vstep (deref s (opnd x)) k) s
    | _ => .bad
  | .lst es, s => (evalVs es s).bind fun vs s => .ok (.f (.lst vs false)) s
  | .tup es, s => (evalVs es s).bind fun vs s => .ok (.v (.tup vs)) s
  | .dsp es, s => (evalVs es s).bind fun vs s => match kvsOf vs with
    | some kvs => .ok (.f (.dct (dmerge [] kvs) false)) s
    | none => .bad
  | .lc elt p k src conds vs, s => (evalOs src s).bind fun os s => match srcItems k (os.map (deref s)) with
    | none => .bad
    | some items => (compL (patSet p) (evalTs conds) (fun s => (evalE elt s).val) vs putL items { lockAll s os with e := wipeE (lockAll s os).e vs } []).bind fun acc s2 => .ok (.f (.lst acc false)) (unlockAll s { s2 with e := restE s.e s2.e vs } os)
  | .dc key elt p k src conds vs, s => (evalOs src s).bind fun os s => match srcItems k (os.map (deref s)) with
    | none => .bad
    | some items => (compL (patSet p) (evalTs conds) (fun s => (evalE key s).val.bind fun kv s => (evalE elt s).val.bind fun x s => match keyV kv with | some k => .ok (k, x) s | none => .bad) vs putD items { lockAll s os with e := wipeE (lockAll s os).e vs } []).bind fun acc s2 => .ok (.f (.dct acc false)) (unlockAll s { s2 with e := restE s.e s2.e vs } os)
  | .lck elt p its i conds vs, s => match slotOf s i with
    | .val (.dct kvs) => (compL (patSet p) (evalTs conds) (fun s => (evalE elt s).val) vs putL (keysV its kvs) { s with e := wipeE s.e vs } []).bind fun acc s2 => .ok (.f (.lst acc false)) { s2 with e := restE s.e s2.e vs }
    | .own (.dct kvs false) => (compL (patSet p) (evalTs conds) (fun s => (evalE elt s).val) vs putL (keysV its kvs) { s with e := wipeE (s.e.set i (.own (.dct kvs true))) vs } []).bind fun acc s2 => match slotOf { s2 with e := restE s.e s2.e vs } i with
      | .own (.dct kvs2 true) => .ok (.f (.lst acc false)) { s2 with e := (restE s.e s2.e vs).set i (.own (.dct kvs2 false)) }
      | _ => .bad
    | _ => .bad
  | .bi f es, s => (evalOs es s).bind fun os s => if (os.map (deref s)).all okV then R.opt (biop f (os.map (deref s))) s else .bad
  | .mt m o es, s => (evalE o s).bind fun x s => match mkind m (deref s (opnd x)) with
    | false => .bad
    | true => (evalVs es s).bind fun vs s => match mtop m (deref s (opnd x)) vs with
      | none => .bad
      | some (r, oc) => match putLoc s (opnd x) oc with
        | some s => .ok r s
        | none => .bad
  | .fn f es pm, s => (evalVs es s).bind fun vs s => (C f (permV vs pm) s.h).back s.e
  | .me cs m o es pm, s => (evalE o s).val.bind fun x s => match insAt s x with
    | none => .bad
    | some (_, c, fs) => match decide (c ∈ cs), fs.lookup (m % 1000), T.mth c m with
      | true, none, some f => (evalVs es s).bind fun vs s => (C f (x :: permV vs pm) s.h).back s.e
      | _, _, _ => .bad
  | .new c es pm, s => (evalVs es s).bind fun vs s => match T.ini c with
    | none => .bad
    | some f => match C f (.ref s.h.length :: permV vs pm) (s.h ++ [.ins c []]) with
      | .ok .non s2 => .ok (.v (.ref s.h.length)) { s2 with e := s.e }
      | .exc c p s2 => .exc c p { s2 with e := s.e }
      | _ => .bad
  | .att o f, s => (evalE o s).val.bind fun x s => match insAt s x with
    | none => .bad
    | some (_, c, fs) => if T.fld c f then R.opt ((fs.lookup f).map .v) s else .bad
  | .prp o p, s => (evalE o s).val.bind fun x s => match insAt s x with
    | none => .bad
    | some (_, c, fs) => match T.prp c p with
      | some f => (C f [x] s.h).back s.e
      | none => .bad
  | .inown ng m a o, s => (evalE a s).val.bind fun x s => (evalE o s).val.bind fun y s => match insAt s y with
    | none => .bad
    | some (_, c, fs) => match T.mth c m with
      | none => .bad
      | some f => match (C f [y, x] s.h).back s.e with
        | .ok (.v (.bl b)) s2 => .ok (.v (.bl (b != ng))) s2
        | .exc c p s2 => .exc c p s2
        | _ => .bad
  | .lenown m o, s => (evalE o s).val.bind fun y s => match insAt s y with
    | none => .bad
    | some (_, c, fs) => match T.mth c m with
      | none => .bad
      | some f => match (C f [y] s.h).back s.e with
        | .ok (.v (.int i)) s2 => if decide (0 ≤ i) && decide (i < 2 ^ 63) then .ok (.v (.int i)) s2 else .bad
        | .exc c p s2 => .exc c p s2
        | _ => .bad
  | .heap a, s => (evalE a s).bind fun x s => match x with
    | .f c => toHeap c s
    | _ => .bad
  | .lcr elt p a conds vs, s => (evalE a s).bind fun x s => match x with
    | .v (.ref n) => match s.h[n]? with
      | some (.dct kvs _) => (compL (patSet p) (evalTs conds) (fun s => (evalE elt s).val) vs putL (keysV false kvs) { s with h := s.h.set n (.dct kvs true), e := wipeE s.e vs } []).bind fun acc s2 => .ok (.f (.lst acc false)) (unlockAll s { s2 with e := restE s.e s2.e vs } [.v (.ref n)])
      | _ => .bad
    | _ => .bad
  | .dcr key elt p a conds vs, s => (evalE a s).bind fun x s => match x with
    | .v (.ref n) => match s.h[n]? with
      | some (.dct kvs _) => (compL (patSet p) (evalTs conds) (fun s => (evalE key s).val.bind fun kv s => (evalE elt s).val.bind fun x s => match keyV kv with | some k => .ok (k, x) s | none => .bad) vs putD (keysV false kvs) { s with h := s.h.set n (.dct kvs true), e := wipeE s.e vs } []).bind fun acc s2 => .ok (.f (.dct acc false)) (unlockAll s { s2 with e := restE s.e s2.e vs } [.v (.ref n)])
      | _ => .bad
    | _ => .bad
  | .drep a, s => (evalE a s).bind fun x s => R.opt (biop .repr [dp 3 s.h (deref s (opnd x))]) s
  | .mkod a, s => (evalE a s).bind fun x s => match deref s (opnd x) with
    | .lst xs => match pairsV xs, oddV xs with
      | some kvs, _ => .ok (.f (.dct (dmerge [] kvs) false)) s
      | none, some kvs => if (kvs.map fun kv => nkV kv.1).Nodup ∧ kvs.length ≤ sizeLine then .ok (.v (.odd kvs)) s else .bad
      | _, _ => .bad
    | _ => .bad
  | .lci elt p its a conds vs, s => (evalE a s).val.bind fun x s => match itemsI its x with
    | none => .bad
    | some items => (compL (patSet p) (evalTs conds) (fun s => (evalE elt s).val) vs putL items { s with e := wipeE s.e vs } []).bind fun acc s2 => .ok (.f (.lst acc false)) { s2 with e := restE s.e s2.e vs }
  | .mkx c f a, s => (evalE a s).val.bind fun v s => .ok (.v (.ref s.h.length)) { s with h := s.h ++ [.err c f v] }
  | .xat c f o, s => (evalE o s).val.bind fun x s => match errAt s x with
    | some (c2, f2, v) => if c2 = c ∧ f2 = f then .ok (.v v) s else .bad
    | none => .bad
  | .isx o tb, s => (evalE o s).val.bind fun x s => match errAt s x with
    | some (c, _, _) => R.opt ((tb.lookup c).map fun b => .v (.bl b)) s
    | none => .bad
def evalVs : List IE → S → R (List Val)
  | [], s => .ok [] s
  | e :: es, s => (evalE e s).val.bind fun v s => (evalVs es s).bind fun vs s => .ok (v :: vs) s
def evalOs : List IE → S → R (List Rv)
  | [], s => .ok [] s
  | e :: es, s => (evalE e s).bind fun v s => (evalOs es s).bind fun vs s => .ok (opnd v :: vs) s
def evalTs : List IE → S → R Bool
  | [], s => .ok true s
  | e :: es, s => (evalE e s).val.bind fun x s => (R.opt (asB x) s).bind fun k s => match k with
    | true => evalTs es s
    | false => .ok false s
end
def evalB (e : IE) (s : S) : R Bool := (evalE T C e s).val.bind fun x s => R.opt (asB x) s
mutual
/-- a value is stored -/
def tgtSet : Tgt → Val → S → R Unit
  | .nm i, v, s => .ok () { s with e := s.e.set i (.val v) }
  | .tp ts, v, s => match v with
    | .tup vs => tgtSets ts vs s
    | .lst vs => tgtSets ts vs s
    | _ => .bad
  | .sub o k, v, s => (evalE T C o s).bind fun x s => (evalE T C k s).val.bind fun i s => match deref s (opnd x) with
    | .lst xs => match i with
      | .int i => match ixN xs.length i with
        | some j => R.opt (setLoc s (opnd x) (.lst (xs.set j v) false)) s |>.bind fun s _ => .ok () s
        | none => .bad
      | _ => .bad
    | .dct kvs => match keyV i with
      | some k => if kvs.length < sizeLine then R.opt (setLoc s (opnd x) (.dct (dput kvs k v) false)) s |>.bind fun s _ => .ok () s else .bad
      | none => .bad
    | _ => .bad
  | .att o f, v, s => (evalE T C o s).val.bind fun x s => match insAt s x with
    | none => .bad
    | some (n, c, fs) => if T.fld c f && decide (fs.length < 900) then .ok () { s with h := s.h.set n (.ins c (putFs f v fs)) } else .bad
  | .sla o, v, s => (evalE T C o s).bind fun x s => match deref s (opnd x), v with
    | .lst xs, .lst ys => if xs.length + ys.length ≤ sizeLine then R.opt (setLoc s (opnd x) (.lst ys false)) s |>.bind fun s _ => .ok () s else .bad
    | _, _ => .bad
def tgtSets : List Tgt → List Val → S → R Unit
  | [], [], s => .ok () s
  | t :: ts, v :: vs, s => (tgtSet t v s).bind fun _ s => tgtSets ts vs s
  | _, _, _ => .bad
end
/-- the defs that may raise (numbers of ids.json) -/
def mayRaise (f : Nat) : Bool := decide (f ∈ [28, 31, 56, 57, 58, 128, 129, 130, 132, 133, 137])
/-- the methods that may raise (numbers of ids.json) -/
def mayRaiseM (m : Nat) : Bool := decide (m ∈ [18, 21, 23, 41, 43, 44, 49])
/-- what a call raises -/
def excE : IE → S → Option (Nat × Val × S)
  | .fn f es pm, s => if mayRaise f then match evalVs T C es s with
    | .ok vs s1 => match C f (permV vs pm) s1.h with
      | .exc c p s2 => some (c, p, { s2 with e := s1.e })
      | _ => none
    | _ => none else none
  | .me cs m o es pm, s => if mayRaiseM m then match (evalE T C o s).val with
    | .ok x s0 => match insAt s0 x with
      | some (_, c, fs) => match decide (c ∈ cs), fs.lookup (m % 1000), T.mth c m with
        | true, none, some f => match evalVs T C es s0 with
          | .ok vs s1 => match C f (x :: permV vs pm) s1.h with
            | .exc k p s2 => some (k, p, { s2 with e := s1.e })
            | _ => none
          | _ => none
        | _, _, _ => none
      | none => none
    | _ => none else none
  | _, _ => none
/-- a comparison with a tuple, or of a number -/
def cq (eq : Bool) (x t : Val) : Option Bool := match t with
  | .tup ys => if eq then veq x (.tup ys) else vin x (.tup ys)
  | .int j => if eq then veq x (.int j) else none
  | _ => none
/-- an except suite -/
def suX : Su → Val → S → R Fl
  | .pay, p, s => .ok (.rt p) s
  | .cst v, p, s => .ok (.rt (.int v)) s
  | .shw x, p, s => (R.opt (shwV x p) s).bind fun v s => .ok (.rt v) s
  | .sets i j x, p, s => (R.opt (shwV x p) s).bind fun v s => .ok .nx { s with e := (s.e.set j (.val v)).set i .no }
  | .chk i eq w ns b, p, s => match slotOf s w with
    | .val (.int k) => match decide (k ∈ ns) with
      | true => (evalE T C b { s with e := s.e.set i .no }).val.bind fun u s => (R.opt (cq eq p u) s).bind fun r s => .ok (.rt (.bl r)) s
      | false => .ok (.rt (.bl false)) { s with e := s.e.set i .no }
    | _ => .bad
mutual
def execS : IS → S → R Fl
  | .ex e, s => (evalE T C e s).bind fun _ s => .ok .nx s
  | .asg t e, s => (evalE T C e s).val.bind fun v s => (tgtSet T C t v s).bind fun _ s => .ok .nx s
  | .own i e, s => (evalE T C e s).bind fun x s => match x with
    | .f c => .ok .nx { s with e := s.e.set i (.own c) }
    | _ => .bad
  | .par i j oi oj a b, s => (evalE T C a s).bind fun x s => (evalE T C b s).bind fun y s => match put1 oi x, put1 oj y with
    | some u, some v => .ok .nx { s with e := (s.e.set i u).set j v }
    | _, _ => .bad
  | .par3 i j l oi oj ol a b c, s => (evalE T C a s).bind fun x s => (evalE T C b s).bind fun y s => (evalE T C c s).bind fun z s => match put1 oi x, put1 oj y, put1 ol z with
    | some u, some v, some w => .ok .nx { s with e := ((s.e.set i u).set j v).set l w }
    | _, _, _ => .bad
  | .aug i op e, s => match slotOf s i with
    | .val x => (evalE T C e s).bind fun y s => (R.opt (iop op x (deref s (opnd y))) s).val.bind fun z s => .ok .nx { s with e := s.e.set i (.val z) }
    | _ => .bad
  | .augS o k op e, s => (evalE T C o s).bind fun x s => (evalE T C k s).val.bind fun i s => match vsubL (deref s (opnd x)) i with
    | none => .bad
    | some old => (evalE T C e s).val.bind fun y s => (R.opt (iop op old y) s).val.bind fun z s => match deref s (opnd x), i with
      | .lst xs, .int i => match ixN xs.length i with
        | some j => R.opt (setLoc s (opnd x) (.lst (xs.set j z) false)) s |>.bind fun s _ => .ok .nx s
        | none => .bad
      | _, _ => .bad
  | .augA o f op e, s => (evalE T C o s).val.bind fun x s => match insAt s x with
    | none => .bad
    | some (_, c, fs) => match T.fld c f, fs.lookup f with
      | true, some old => (evalE T C e s).val.bind fun y s => (R.opt (iop op old y) s).val.bind fun z s => match insAt s x with
        | some (n, c2, fs) => if decide (c2 = c) && decide (fs.length < 900) then .ok .nx { s with h := s.h.set n (.ins c (putFs f z fs)) } else .bad
        | none => .bad
      | _, _ => .bad
  | .del o k, s => (evalE T C o s).bind fun x s => (evalE T C k s).val.bind fun i s => match deref s (opnd x), keyV i with
    | .dct kvs, some k => if (dget kvs k).isSome then R.opt (setLoc s (opnd x) (.dct (ddrop kvs k) false)) s |>.bind fun s _ => .ok .nx s else .bad
    | _, _ => .bad
  | .ite c a b, s => (evalB T C c s).bind fun k s => match k with
    | true => execSs a s
    | false => execSs b s
  | .whl c b, s => whileL (evalB T C c) (execSs b) T.fuel s
  | .for_ p k src b, s => (evalOs T C src s).bind fun os s => match noSl os, srcItems k (os.map (deref s)) with
    | true, some items => (forL (patSet p) (execSs b) items (lockAll s os)).bind fun fl s2 => .ok fl (unlockAll s s2 os)
    | _, _ => .bad
  | .ret e, s => (evalE T C e s).val.bind fun x s => .ok (.rt x) s
  | .retN, s => .ok (.rt .non) s
  | .pas, s => .ok .nx s
  | .bk, s => .ok .bk s
  | .ct, s => .ok .ct s
  | .nev, s => .bad
  | .forr p a b, s => (evalE T C a s).bind fun x s => match x with
    | .v (.ref n) => match s.h[n]? with
      | some (.dct kvs _) => (forL (patSet p) (execSs b) (keysV false kvs) { s with h := s.h.set n (.dct kvs true) }).bind fun fl s2 => .ok fl (unlockAll s s2 [.v (.ref n)])
      | _ => .bad
    | _ => .bad
  | .fori p its a b, s => (evalE T C a s).val.bind fun x s => match itemsI its x with
    | none => .bad
    | some items => forL (patSet p) (execSs b) items s
  | .yld e, s => .bad
  | .gst p, s => execS p s
  | .gen b, s => (execGs b [] s).bind fun ys s => .ok (.rt (.lst ys)) s
  | .rais c e, s => .bad
  | .tryS b cl, s => match execSs b s with
    | .ok fl s1 => .ok fl s1
    | _ => match excSs b s with
      | some (k, p, s1) => match cl.lookup k with
        | some u => suX T C u p s1
        | none => .bad
      | none => .bad
def execSs : List IS → S → R Fl
  | [], s => .ok .nx s
  | st :: r, s => match execS st s with
    | .ok .nx s => execSs r s
    | x => x
/-- what a statement raises, where it is one that may -/
def excS : IS → S → Option (Nat × Val × S)
  | .rais c e, s => match (evalE T C e s).val with
    | .ok v s1 => some (c, v, s1)
    | _ => none
  | .ex e, s => excE T C e s
  | .asg _ e, s => excE T C e s
  | .ret e, s => excE T C e s
  | .ite c a b, s => match evalB T C c s with
    | .ok true s1 => excSs a s1
    | .ok false s1 => excSs b s1
    | _ => none
  | .for_ p k src b, s => match evalOs T C src s with
    | .ok os s1 => match noSl os, srcItems k (os.map (deref s1)) with
      | true, some items => (forX (patSet p) (execSs b) (excSs b) items (lockAll s1 os)).map fun r => (r.1, r.2.1, unlockAll s1 r.2.2 os)
      | _, _ => none
    | _ => none
  | _, _ => none
def excSs : List IS → S → Option (Nat × Val × S)
  | [], _ => none
  | st :: r, s => match execS st s with
    | .ok .nx s1 => excSs r s1
    | .ok _ _ => none
    | _ => excS st s
/-- a generator def's statement; what is out so far -/
def execG : IS → List Val → S → R (List Val)
  | .gst p, ys, s => match execS p s with
    | .ok .nx s => .ok ys s
    | _ => .bad
  | .yld e, ys, s => if ys.length < sizeLine then (evalE T C e s).val.bind fun v s => .ok (ys ++ [v]) s else .bad
  | .ite c a b, ys, s => (evalB T C c s).bind fun k s => match k with
    | true => execGs a ys s
    | false => execGs b ys s
  | .for_ p k src b, ys, s => (evalOs T C src s).bind fun os s => match noSl os, srcItems k (os.map (deref s)) with
    | true, some items => (forG (patSet p) (execGs b) items ys (lockAll s os)).bind fun ys s2 => .ok ys (unlockAll s s2 os)
    | _, _ => .bad
  | _, _, _ => .bad
def execGs : List IS → List Val → S → R (List Val)
  | [], ys, s => .ok ys s
  | st :: r, ys, s => (execG st ys s).bind fun ys s => execGs r ys s
end
end

/-- a def: its parameters, the number of its names, its text -/
structure Fd where
  np : Nat
  nn : Nat
  body : List IS
  deriving Inhabited
def exOut : Option (Nat × Val × S) → R Val
  | some (c, p, s) => .exc c p ⟨[], s.h⟩
  | none => .bad
theorem exOut_ne {o : Option (Nat × Val × S)} {v : Val} {s : S} : exOut o ≠ .ok v s := by
  cases o with
  | none => intro e; cases e
  | some r => obtain ⟨c, p, s⟩ := r; intro e; cases e
def runFd (T : Tab) (C : Call) (d : Fd) (vs : List Val) (h : List Cell) : R Val :=
  if vs.length = d.np then
    match execSs T C d.body ⟨vs.map .val ++ List.replicate (d.nn - d.np) .no, h⟩ with
    | .ok .nx s => .ok .non ⟨[], s.h⟩
    | .ok (.rt v) s => .ok v ⟨[], s.h⟩
    | .ok _ _ => .bad
    | _ => exOut (excSs T C d.body ⟨vs.map .val ++ List.replicate (d.nn - d.np) .no, h⟩)
  else .bad
def callI (T : Tab) (fs : List Fd) : Nat → Call
  | 0 => fun _ _ _ => .bad
  | n + 1 => fun f vs h => match fs[f]? with
    | some d => runFd T (callI T fs n) d vs h
    | none => .bad
/-- a name's value -/
abbrev valI (i : Nat) : IE := .ite (.cst (.bl true)) (.var i) (.cst .non)
end Rs
end
section
set_option maxRecDepth 100000
set_option maxHeartbeats 4000000
/-! The values of the interpreter beside those of the model. -/
namespace Rs
open PySem PySem.Spec PyProof.Rows L2

/-- what is fixed through a law: the part that the top wrote, names, classes -/
structure Gl where
  K : PySem.W.Frag
  nm : Nat → Str
  okf : Nat → Prop
  inj : ∀ i j, okf i → okf j → nm i = nm j → i = j
  ca : Nat → Addr
  T : List (Addr × Str)
  w : World
/-- a reading of a heap: the cells' places, what never changes, what stays while this runs (walked; of others) -/
structure Cf where
  ρ : List Addr
  fz : Addr → Prop
  kp : Addr → Prop
  rs : Addr → Prop
  H : Hp

def KTup (K : PySem.W.Frag) (a : Addr) (xs : List V) : Prop := ∃ (o : Obj) (its : Array Value) (n : Nat), K.lookup a = some o ∧ o.cls = .type "tuple" ∧ o.data = .seq its n ∧ its.size ≤ sizeLine ∧ Vals xs its.toList
def KLst (K : PySem.W.Frag) (a : Addr) (xs : List V) : Prop := ∃ (o : Obj) (its : Array Value) (n : Nat), K.lookup a = some o ∧ o.cls = .type "list" ∧ o.dict = none ∧ o.data = .seq its n ∧ its.size ≤ sizeLine ∧ Vals xs its.toList

/-- an error object of a class, its attributes in the dict d -/
structure ErrO (cls : Value) (d : Option Addr) (u : Obj) : Prop where
  z : Zc cls d u
  f : ∃ fv, u.data = .fields fv
/-- a dict's own object, whose keys are of any hashable kind -/
def OdObj (w : World) (o : Obj) (zs : List (NestedKey × Value × Value)) : Prop := o.ExactDict ∧ ∃ es ep, o.data = .dict es ep ∧ es.toList = zs.map (fun z => (⟨z.1.hash w, z.2.1, z.2.2⟩ : DictEntry)) ∧ (zs.map (·.1)).Nodup
def OdP (ps : List (V × V)) (zs : List (NestedKey × Value × Value)) : Prop := Paired (fun (a : V × V) (z : NestedKey × Value × Value) => RelV a.1 z.2.1 ∧ RelV a.2 z.2.2) ps zs
/-- it is held as it stands (errors are never changed once they are made) -/
abbrev exv (u : Obj) : HO := .frz u (.own 0)
section
variable (G : Gl)
mutual
def VR (C : Cf) : Val → V → Prop
  | .non, v => v = .non
  | .bl b, v => v = .bl b
  | .int i, v => v = .int i
  | .str x, v => v = .str x
  | .lst xs, v => ∃ p ys, v = .ref p ∧ C.fz p ∧ C.H p = some (.lst ys) ∧ VRs C xs ys
  | .tup xs, v => ∃ p ys, v = .ref p ∧ ((C.fz p ∧ C.H p = some (.tup ys)) ∨ KTup G.K p ys) ∧ VRs C xs ys
  | .dct kvs, v => ∃ p kvs', v = .ref p ∧ C.fz p ∧ Rd C.H p (.dK kvs') ∧ VRk C kvs kvs'
  | .odd kvs, v => ∃ p o zs ps, v = .ref p ∧ C.fz p ∧ (p == sysModules) = false ∧ C.H p = some (.frz o (.own 0)) ∧ OdObj G.w o zs ∧ zs.length ≤ sizeLine ∧ OdP ps zs ∧ (kvs.map fun kv => nkV kv.1) = zs.map (fun z => some z.1) ∧ VRo C kvs ps
  | .ref i, v => ∃ p, C.ρ[i]? = some p ∧ v = .ref p
  | .scr ns, v => ∃ p, v = .ref p ∧ ((C.fz p ∧ Rd C.H p (.lst (ns.map V.int))) ∨ KLst G.K p (ns.map V.int))
  | .bad, _ => False
def VRs (C : Cf) : List Val → List V → Prop
  | [], ys => ys = []
  | x :: xs, ys => ∃ y r, ys = y :: r ∧ VR C x y ∧ VRs C xs r
def VRk (C : Cf) : List (Key × Val) → List (Key × V) → Prop
  | [], ys => ys = []
  | (k, x) :: xs, ys => ∃ y r, ys = (k, y) :: r ∧ VR C x y ∧ VRk C xs r
def VRo (C : Cf) : List (Val × Val) → List (V × V) → Prop
  | [], ys => ys = []
  | (k, x) :: xs, ys => ∃ z y r, ys = (z, y) :: r ∧ VR C k z ∧ VR C x y ∧ VRo C xs r
end
/-- as things stand now -/
def NR (C : Cf) : Val → V → Prop
  | .lst xs, v => ∃ p ys, v = .ref p ∧ C.H p = some (.lst ys) ∧ VRs G C xs ys
  | .dct kvs, v => ∃ p kvs', v = .ref p ∧ Rd C.H p (.dK kvs') ∧ VRk G C kvs kvs'
  | x, v => VR G C x v
def VRf (C : Cf) : List (Nat × Val) → List (Str × V) → Prop
  | [], ys => ys = []
  | (f, x) :: xs, ys => ∃ y r, ys = (G.nm f, y) :: r ∧ G.okf f ∧ VR G C x y ∧ VRf C xs r
/-- a cell's content -/
def CR (C : Cf) : Cell → Option HO → Prop
  | .lst xs _, o => ∃ ys, o = some (.lst ys) ∧ VRs G C xs ys
  | .dct kvs false, o => ∃ ks, o = some (.dK ks) ∧ VRk G C kvs ks
  | .dct kvs true, o => ∃ ob ks, o = some (.frz ob (.dK ks)) ∧ VRk G C kvs ks
  | .ins c fs, o => ∃ dx gs, o = some (.ins (G.ca c) dx gs) ∧ VRf G C fs gs
  | .err c f x, o => ∃ u dd y, o = some (exv u) ∧ ErrO (.ref (G.ca c)) (some dd) u ∧ C.fz dd ∧ Rd C.H dd (.xd [(G.nm f, y)]) ∧ VR G C x y
end
def isFz : HO → Bool
  | .frz _ _ => true
  | _ => false
/-- there is something, no table of a code object -/
def NT (o : Option HO) : Prop := ∃ u, o = some u ∧ ∀ ps, u ≠ .tbl ps
theorem NT.ne {o : Option HO} (h : NT o) : o ≠ none := by obtain ⟨u, rfl, _⟩ := h; simp
theorem nt_upd {H : Hp} {p : Addr} {o : HO} (h : ∀ ps, o ≠ .tbl ps) : NT (upd H p o p) := ⟨o, upd_same, h⟩
/-- what is seen at a place, seen still -/
structure Keeps (o o' : Option HO) : Prop where
  l : ∀ ys, o = some (.lst ys) → o' = some (.lst ys)
  t : ∀ ys, o = some (.tup ys) → o' = some (.tup ys)
  r : ∀ u, isFz u = false → (o = some u ∨ ∃ b, o = some (.frz b u)) → (o' = some u ∨ ∃ b, o' = some (.frz b u))
  f : ∀ b, o = some (.frz b (.own 0)) → o' = some (.frz b (.own 0))
  tr : NT o → NT o'
theorem Keeps.of {o o' : Option HO} (h : ∀ u, o = some u → o' = some u) : Keeps o o' := ⟨fun _ e => h _ e, fun _ e => h _ e, fun _ _ e => e.imp (h _) fun ⟨b, e⟩ => ⟨b, h _ e⟩, fun _ e => h _ e, fun ⟨u, e, n⟩ => ⟨u, h u e, n⟩⟩
theorem Keeps.trans {a b c : Option HO} (k : Keeps a b) (m : Keeps b c) : Keeps a c := ⟨fun y e => m.l y (k.l y e), fun y e => m.t y (k.t y e), fun u n e => m.r u n (k.r u n e), fun b e => m.f b (k.f b e), fun n => m.tr (k.tr n)⟩
/-- the tables of code objects stay, whatever is put elsewhere -/
theorem tabs_put {T : List (Addr × Str)} {H : Hp} {p : Addr} {o : HO} (t : LamX.Tabs T H) (n : ∀ u, H p = some u → (∀ ps, u ≠ .tbl ps) ∧ ∀ φ, u ≠ .ext φ) : LamX.Tabs T (upd H p o) := fun q hq => by
  obtain ⟨ps, h1, h2, h3⟩ := t q hq
  refine ⟨ps, by rw [upd_ne fun z => (n _ (by rw [← z]; exact h1)).1 ps rfl]; exact h1, h2, fun pos cv hc => ?_⟩
  obtain ⟨c, e1, e2⟩ := h3 pos cv hc
  exact ⟨c, e1, by rw [upd_ne fun z => (n _ (by rw [← z]; exact e2)).2 _ rfl]; exact e2⟩
structure Lv (C C' : Cf) : Prop where
  ρ : C.ρ <+: C'.ρ
  fz : ∀ p, C.fz p → C'.fz p
  hf : ∀ p, C.fz p → Keeps (C.H p) (C'.H p)
structure Le (C C' : Cf) : Prop extends Lv C C' where
  kp : C'.kp = C.kp
  rs : C'.rs = C.rs
  hk : ∀ p, C.kp p ∨ C.rs p → ∀ o, C.H p = some o → C'.H p = some o
  ff : ∀ p, C.fz p → ∀ b u, C.H p = some (.frz b u) → C'.H p = some (.frz b u)
theorem Le.of {C C' : Cf} (ρ : C'.ρ = C.ρ) (fz : ∀ p, C.fz p → C'.fz p) (kp : C'.kp = C.kp) (rs : C'.rs = C.rs) (hp : ∀ p, C.fz p ∨ C.kp p ∨ C.rs p → ∀ o, C.H p = some o → C'.H p = some o) : Le C C' :=
  ⟨⟨by rw [ρ]; exact List.prefix_rfl, fz, fun p h => .of (hp p (.inl h))⟩, kp, rs, fun p h => hp p (.inr h), fun p h b u e => hp p (.inl h) _ e⟩
theorem Le.refl (C : Cf) : Le C C := .of rfl (fun _ h => h) rfl rfl fun _ _ _ h => h
theorem Le.trans {A B C : Cf} (a : Le A B) (b : Le B C) : Le A C :=
  ⟨⟨a.ρ.trans b.ρ, fun p h => b.fz p (a.fz p h), fun p h => (a.hf p h).trans (b.hf p (a.fz p h))⟩, b.kp.trans a.kp, b.rs.trans a.rs, fun p h o e => b.hk p (by rw [a.kp, a.rs]; exact h) o (a.hk p h o e), fun p h x u e => b.ff p (a.fz p h) x u (a.ff p h x u e)⟩
theorem Rd.le {C C' : Cf} (l : Lv C C') {p : Addr} {u : HO} (f : C.fz p) (h : Rd C.H p u) (n : isFz u = false := by rfl) : Rd C'.H p u := (l.hf p f).r u n h
section
variable {G : Gl} {C C' : Cf}
mutual
theorem VR.mono0 (l : Lv C C') : ∀ {x : Val} {v : V}, VR G C x v → VR G C' x v
  | .non, v, h => by unfold VR at h ⊢; exact h
  | .bl _, v, h => by unfold VR at h ⊢; exact h
  | .int _, v, h => by unfold VR at h ⊢; exact h
  | .str _, v, h => by unfold VR at h ⊢; exact h
  | .lst xs, v, h => by
    unfold VR at h ⊢
    obtain ⟨p, ys, e, f, hp, r⟩ := h
    exact ⟨p, ys, e, l.fz p f, (l.hf p f).l _ hp, VRs.mono0 l r⟩
  | .tup xs, v, h => by
    unfold VR at h ⊢
    obtain ⟨p, ys, e, f, r⟩ := h
    exact ⟨p, ys, e, f.imp (fun f => ⟨l.fz p f.1, (l.hf p f.1).t _ f.2⟩) id, VRs.mono0 l r⟩
  | .dct kvs, v, h => by
    unfold VR at h ⊢
    obtain ⟨p, ys, e, f, hp, r⟩ := h
    exact ⟨p, ys, e, l.fz p f, Rd.le l f hp, VRk.mono0 l r⟩
  | .odd kvs, v, h => by
    unfold VR at h ⊢
    obtain ⟨p, o, zs, ps, e, f, s, hp, a, b, c, d, r⟩ := h
    exact ⟨p, o, zs, ps, e, l.fz p f, s, (l.hf p f).f _ hp, a, b, c, d, VRo.mono0 l r⟩
  | .ref i, v, h => by
    unfold VR at h ⊢
    obtain ⟨p, e, h⟩ := h
    obtain ⟨t, ht⟩ := l.ρ
    refine ⟨p, ?_, h⟩
    rw [← ht, List.getElem?_append_left (List.getElem?_eq_some_iff.mp e).1]
    exact e
  | .scr ns, v, h => by
    unfold VR at h ⊢
    obtain ⟨p, e, f⟩ := h
    exact ⟨p, e, f.imp (fun f => ⟨l.fz p f.1, Rd.le l f.1 f.2⟩) id⟩
  | .bad, v, h => by unfold VR at h; exact h.elim
theorem VRs.mono0 (l : Lv C C') : ∀ {xs : List Val} {ys : List V}, VRs G C xs ys → VRs G C' xs ys
  | [], ys, h => by unfold VRs at h ⊢; exact h
  | x :: xs, ys, h => by
    unfold VRs at h ⊢
    obtain ⟨y, r, e, a, b⟩ := h
    exact ⟨y, r, e, VR.mono0 l a, VRs.mono0 l b⟩
theorem VRk.mono0 (l : Lv C C') : ∀ {xs : List (Key × Val)} {ys : List (Key × V)}, VRk G C xs ys → VRk G C' xs ys
  | [], ys, h => by unfold VRk at h ⊢; exact h
  | (k, x) :: xs, ys, h => by
    unfold VRk at h ⊢
    obtain ⟨y, r, e, a, b⟩ := h
    exact ⟨y, r, e, VR.mono0 l a, VRk.mono0 l b⟩
theorem VRo.mono0 (l : Lv C C') : ∀ {xs : List (Val × Val)} {ys : List (V × V)}, VRo G C xs ys → VRo G C' xs ys
  | [], ys, h => by unfold VRo at h ⊢; exact h
  | (k, x) :: xs, ys, h => by
    unfold VRo at h ⊢
    obtain ⟨z, y, r, e, a, b, c⟩ := h
    exact ⟨z, y, r, e, VR.mono0 l a, VR.mono0 l b, VRo.mono0 l c⟩
end
theorem VR.mono (l : Le C C') {x : Val} {v : V} (h : VR G C x v) : VR G C' x v := h.mono0 l.toLv
theorem VRs.mono (l : Le C C') {xs : List Val} {ys : List V} (h : VRs G C xs ys) : VRs G C' xs ys := h.mono0 l.toLv
theorem VRk.mono (l : Le C C') {xs : List (Key × Val)} {ys : List (Key × V)} (h : VRk G C xs ys) : VRk G C' xs ys := h.mono0 l.toLv
theorem VRf.mono0 (l : Lv C C') : ∀ {xs : List (Nat × Val)} {ys : List (Str × V)}, VRf G C xs ys → VRf G C' xs ys
  | [], ys, h => h
  | (k, x) :: xs, ys, h => by
    obtain ⟨y, r, e, o, a, b⟩ := h
    exact ⟨y, r, e, o, a.mono0 l, VRf.mono0 l b⟩
theorem CR.mono0 (l : Lv C C') {c : Cell} {o : Option HO} (h : CR G C c o) : CR G C' c o := by
  cases c with
  | lst xs lk => obtain ⟨ys, e, r⟩ := h; exact ⟨ys, e, r.mono0 l⟩
  | dct kvs lk => cases lk with
    | false => obtain ⟨ks, e, r⟩ := h; exact ⟨ks, e, r.mono0 l⟩
    | true => obtain ⟨ob, ks, e, r⟩ := h; exact ⟨ob, ks, e, r.mono0 l⟩
  | ins c fs => obtain ⟨dx, gs, e, r⟩ := h; exact ⟨dx, gs, e, r.mono0 l⟩
  | err c f x => obtain ⟨u, dd, y, e, z, k, r, v⟩ := h; exact ⟨u, dd, y, e, z, l.fz dd k, Rd.le l k r, v.mono0 l⟩
theorem CR.mono (l : Le C C') {c : Cell} {o : Option HO} (h : CR G C c o) : CR G C' c o := h.mono0 l.toLv
theorem CR.tr {c : Cell} {o : Option HO} (h : CR G C c o) : o ≠ none := by
  intro z; subst z
  cases c with
  | lst xs lk => obtain ⟨ys, e, r⟩ := h; cases e
  | dct kvs lk => cases lk with
    | false => obtain ⟨ks, e, r⟩ := h; cases e
    | true => obtain ⟨ob, ks, e, r⟩ := h; cases e
  | ins c fs => obtain ⟨dx, gs, e, r⟩ := h; cases e
  | err c f x => obtain ⟨u, dd, y, e, z, k, r, v⟩ := h; cases e
/-- of its own: nothing else knows the place -/
structure Fr (C : Cf) (p : Addr) : Prop where
  fz : ¬ C.fz p
  kp : ¬ C.kp p
  ρ : p ∉ C.ρ
  rs : ¬ C.rs p
end
section
variable (G : Gl)
/-- changed by nobody else: never what is walked -/
def free : Cell → Bool
  | .ins _ _ => true
  | c => unlocked c
theorem free_of {c : Cell} (u : unlocked c = true) : free c = true := by
  cases c with
  | ins _ _ => rfl
  | _ => exact u
structure Rel (C : Cf) (s : S) (σ : L2.St) : Prop where
  len : s.e.length = σ.length
  env : ∀ (i : Nat) (x : Val), s.e[i]? = some (.val x) → ∃ v, σ[i]? = some (some v) ∧ VR G C x v
  own : ∀ (i : Nat) (c : Cell), s.e[i]? = some (.own c) → ∃ p, σ[i]? = some (some (.ref p)) ∧ CR G C c (C.H p) ∧ ¬ C.fz p ∧ p ∉ C.ρ ∧ (unlocked c = true → ¬ C.kp p) ∧ ¬ C.rs p
  apart : ∀ (i j : Nat) (c d : Cell) (p : Addr), s.e[i]? = some (.own c) → s.e[j]? = some (.own d) → σ[i]? = some (some (.ref p)) → σ[j]? = some (some (.ref p)) → i = j
  hlen : s.h.length = C.ρ.length
  nd : C.ρ.Nodup
  cell : ∀ (n : Nat) (c : Cell) (p : Addr), s.h[n]? = some c → C.ρ[n]? = some p → CR G C c (C.H p) ∧ ¬ C.fz p ∧ (free c = true → ¬ C.kp p) ∧ ¬ C.rs p
  fztr : ∀ p, C.fz p → NT (C.H p)
  kptr : ∀ p, C.kp p ∨ C.rs p → NT (C.H p)
  fzkp : ∀ p, C.fz p → ¬ (C.kp p ∨ C.rs p)
  tabs : LamX.Tabs G.T C.H
def RvR (C : Cf) (s : S) (σ : L2.St) : Rv → V → Prop
  | .v x, v => VR G C x v
  | .f c, v => ∃ p, v = .ref p ∧ CR G C c (C.H p) ∧ Rs.Fr C p ∧ unlocked c = true ∧ ∀ (i : Nat) (c : Cell), s.e[i]? = some (Slot.own c) → σ[i]? ≠ some (some (.ref p))
  | .sl i, v => σ[i]? = some (some v)
end
end Rs
end
section
set_option maxRecDepth 100000
set_option maxHeartbeats 4000000
/-! Steps of a reading. -/
namespace Rs
open PySem PySem.Spec PyProof.Rows L2
section
variable {G : Gl} {C C' : Cf} {s s' : S} {σ : L2.St}

/-! ### values and lists of values -/
theorem VRs.length {C : Cf} : ∀ {xs : List Val} {ys : List V}, VRs G C xs ys → xs.length = ys.length
  | [], ys, h => by unfold VRs at h; subst h; rfl
  | x :: xs, ys, h => by
    unfold VRs at h
    obtain ⟨y, r, e, a, b⟩ := h
    subst e
    simp [VRs.length b]
theorem VRs.cons {C : Cf} {x : Val} {xs : List Val} {y : V} {ys : List V} (h : VR G C x y) (r : VRs G C xs ys) : VRs G C (x :: xs) (y :: ys) := by
  unfold VRs
  exact ⟨y, ys, rfl, h, r⟩
theorem VRs.nil {C : Cf} : VRs G C [] [] := by unfold VRs; rfl
theorem VRs.append {C : Cf} : ∀ {xs xs' : List Val} {ys ys' : List V}, VRs G C xs ys → VRs G C xs' ys' → VRs G C (xs ++ xs') (ys ++ ys')
  | [], _, ys, _, h, k => by unfold VRs at h; subst h; exact k
  | x :: xs, _, ys, _, h, k => by
    unfold VRs at h
    obtain ⟨y, r, e, a, b⟩ := h
    subst e
    exact VRs.cons a (VRs.append b k)
theorem VRs.get {C : Cf} : ∀ {xs : List Val} {ys : List V} {i : Nat} {x : Val}, VRs G C xs ys → xs[i]? = some x → ∃ y, ys[i]? = some y ∧ VR G C x y
  | [], _, _, _, _, e => by simp at e
  | x :: xs, ys, i, z, h, e => by
    unfold VRs at h
    obtain ⟨y, r, e', a, b⟩ := h
    subst e'
    cases i with
    | zero => simp at e; subst e; exact ⟨y, rfl, a⟩
    | succ i =>
      obtain ⟨w, h1, h2⟩ := VRs.get b (i := i) (x := z) (by simpa using e)
      exact ⟨w, by simpa using h1, h2⟩
theorem VRs.map {C : Cf} {α : Type} {f : α → Val} {g : α → V} (h : ∀ a, VR G C (f a) (g a)) : ∀ xs : List α, VRs G C (xs.map f) (xs.map g)
  | [] => VRs.nil
  | x :: xs => VRs.cons (h x) (VRs.map h xs)
theorem VRs.take {C : Cf} : ∀ {xs : List Val} {ys : List V} (n : Nat), VRs G C xs ys → VRs G C (xs.take n) (ys.take n)
  | _, _, 0, _ => by simp; exact VRs.nil
  | [], ys, n + 1, h => by unfold VRs at h; subst h; simp; exact VRs.nil
  | x :: xs, ys, n + 1, h => by
    unfold VRs at h
    obtain ⟨y, r, e, a, b⟩ := h
    subst e
    simp only [List.take_succ_cons]
    exact VRs.cons a (VRs.take n b)
theorem VRs.drop {C : Cf} : ∀ {xs : List Val} {ys : List V} (n : Nat), VRs G C xs ys → VRs G C (xs.drop n) (ys.drop n)
  | _, _, 0, h => by simpa using h
  | [], ys, n + 1, h => by unfold VRs at h; subst h; simp; exact VRs.nil
  | x :: xs, ys, n + 1, h => by
    unfold VRs at h
    obtain ⟨y, r, e, a, b⟩ := h
    subst e
    simp only [List.drop_succ_cons]
    exact VRs.drop n b
theorem VRs.set {C : Cf} {x : Val} {y : V} (hx : VR G C x y) : ∀ {xs : List Val} {ys : List V} (n : Nat), VRs G C xs ys → VRs G C (xs.set n x) (ys.set n y)
  | [], ys, _, h => by unfold VRs at h; subst h; simp; exact VRs.nil
  | z :: xs, ys, n, h => by
    unfold VRs at h
    obtain ⟨w, r, e, a, b⟩ := h
    subst e
    cases n with
    | zero => exact VRs.cons hx b
    | succ n => exact VRs.cons a (VRs.set hx n b)
theorem VRs.eraseIdx {C : Cf} : ∀ {xs : List Val} {ys : List V} (n : Nat), VRs G C xs ys → VRs G C (xs.eraseIdx n) (ys.eraseIdx n)
  | [], ys, _, h => by unfold VRs at h; subst h; simp; exact VRs.nil
  | z :: xs, ys, n, h => by
    unfold VRs at h
    obtain ⟨w, r, e, a, b⟩ := h
    subst e
    cases n with
    | zero => simpa using b
    | succ n => simp only [List.eraseIdx_cons_succ]; exact VRs.cons a (VRs.eraseIdx n b)
theorem VRs.reverse {C : Cf} : ∀ {xs : List Val} {ys : List V}, VRs G C xs ys → VRs G C xs.reverse ys.reverse
  | [], ys, h => by unfold VRs at h; subst h; exact VRs.nil
  | x :: xs, ys, h => by
    unfold VRs at h
    obtain ⟨y, r, e, a, b⟩ := h
    subst e
    simp only [List.reverse_cons]
    exact (VRs.reverse b).append (VRs.cons a VRs.nil)
theorem VRs.rep {C : Cf} {xs : List Val} {ys : List V} (h : VRs G C xs ys) : ∀ k : Nat, VRs G C (List.replicate k xs).flatten (List.replicate k ys).flatten
  | 0 => VRs.nil
  | k + 1 => by simp only [List.replicate_succ, List.flatten_cons]; exact h.append (VRs.rep h k)

theorem cr_nt {C : Cf} {c : Cell} {o : Option HO} (h : CR G C c o) {u : HO} (e : o = some u) : (∀ ps, u ≠ .tbl ps) ∧ ∀ φ, u ≠ .ext φ := by
  cases c with
  | lst xs _ =>
    obtain ⟨ys, e2, _⟩ := h
    rw [e2] at e; cases e
    exact ⟨fun _ z => (nomatch z), fun _ z => (nomatch z)⟩
  | dct kvs b =>
    cases b with
    | false =>
      obtain ⟨ys, e2, _⟩ := h
      rw [e2] at e; cases e
      exact ⟨fun _ z => (nomatch z), fun _ z => (nomatch z)⟩
    | true =>
      obtain ⟨ob, ys, e2, _⟩ := h
      rw [e2] at e; cases e
      exact ⟨fun _ z => (nomatch z), fun _ z => (nomatch z)⟩
  | ins c fs =>
    obtain ⟨ob, ys, e2, _⟩ := h
    rw [e2] at e; cases e
    exact ⟨fun _ z => (nomatch z), fun _ z => (nomatch z)⟩
  | err c f x =>
    obtain ⟨ob, _, _, e2, _⟩ := h
    rw [e2] at e; cases e
    exact ⟨fun _ z => (nomatch z), fun _ z => (nomatch z)⟩
theorem CR.nt {C : Cf} {c : Cell} {o : Option HO} (h : CR G C c o) : NT o := by
  cases q : o with
  | none => exact absurd q h.tr
  | some u => exact ⟨u, rfl, (cr_nt h q).1⟩
/-! ### the reading changes -/
/-- a new thing that nobody knows yet -/
abbrev Cf.new (C : Cf) (p : Addr) (o : HO) : Cf := { C with H := upd C.H p o }
theorem Le.new {p : Addr} {o : HO} (n : C.H p = none) : Le C (C.new p o) :=
  .of rfl (fun _ h => h) rfl rfl fun q _ u e => by show upd C.H p o q = _; rw [upd_ne (ne_of_none e n)]; exact e
theorem notfz (r : Rel G C s σ) {p : Addr} (n : C.H p = none) : ¬ C.fz p := fun h => (r.fztr p h).ne n
theorem notkp (r : Rel G C s σ) {p : Addr} (n : C.H p = none) : ¬ C.kp p := fun h => (r.kptr p (.inl h)).ne n
theorem notrs (r : Rel G C s σ) {p : Addr} (n : C.H p = none) : ¬ C.rs p := fun h => (r.kptr p (.inr h)).ne n
theorem ρtr (r : Rel G C s σ) {p : Addr} (h : p ∈ C.ρ) : C.H p ≠ none := by
  obtain ⟨n, hn, e⟩ := List.getElem_of_mem h
  have h1 : n < s.h.length := by rw [r.hlen]; exact hn
  exact (r.cell n s.h[n] p (by simp [h1]) (by rw [List.getElem?_eq_getElem hn, e])).1.tr
theorem notρ (r : Rel G C s σ) {p : Addr} (n : C.H p = none) : p ∉ C.ρ := fun h => ρtr r h n
theorem Rel.fresh (r : Rel G C s σ) {p : Addr} (n : C.H p = none) : Fr C p := ⟨notfz r n, notkp r n, notρ r n, notrs r n⟩
/-- the things known are where they were -/
theorem Rel.le (r : Rel G C s σ) (l : Le C C') (hρ : C'.ρ = C.ρ) (ho : ∀ (i : Nat) c p, s.e[i]? = some (.own c) → σ[i]? = some (some (.ref p)) → C'.H p = C.H p) (hfz : ∀ p, C'.fz p → C.fz p ∨ (Fr C p ∧ NT (C'.H p) ∧ ∀ (i : Nat) c, s.e[i]? = some (.own c) → σ[i]? ≠ some (some (.ref p))))
    (hc : ∀ p, p ∈ C.ρ → C'.H p = C.H p) (ht : LamX.Tabs G.T C'.H) : Rel G C' s σ where
  len := r.len
  env := fun i x h => let ⟨v, a, b⟩ := r.env i x h; ⟨v, a, b.mono l⟩
  own := fun i c h => by
    obtain ⟨p, a, b, d, e, f⟩ := r.own i c h
    refine ⟨p, a, by rw [ho i c p h a]; exact b.mono l, fun z => ?_, by rw [hρ]; exact e, fun u => by rw [l.kp]; exact f.1 u, by rw [l.rs]; exact f.2⟩
    rcases hfz p z with z | ⟨z, _, y⟩
    · exact d z
    · exact y i c h a
  apart := r.apart
  hlen := by rw [hρ]; exact r.hlen
  nd := by rw [hρ]; exact r.nd
  cell := fun n c p h e => by
    rw [hρ] at e
    obtain ⟨a, b, d⟩ := r.cell n c p h e
    refine ⟨by rw [hc p (List.mem_of_getElem? e)]; exact a.mono l, fun z => ?_, fun u => by rw [l.kp]; exact d.1 u, by rw [l.rs]; exact d.2⟩
    rcases hfz p z with z | ⟨z, _, _⟩
    · exact b z
    · exact z.ρ (List.mem_of_getElem? e)
  fztr := fun p z => by
    rcases hfz p z with z | ⟨z, y, _⟩
    · exact (l.hf p z).tr (r.fztr p z)
    · exact y
  kptr := fun p z => by
    rw [l.kp, l.rs] at z
    obtain ⟨u, e, n⟩ := r.kptr p z
    exact ⟨u, l.hk p z u e, n⟩
  fzkp := fun p z k => by
    rw [l.kp, l.rs] at k
    rcases hfz p z with z | ⟨z, _, _⟩
    · exact r.fzkp p z k
    · exact k.elim z.kp z.rs
  tabs := ht
theorem own_tr (r : Rel G C s σ) {i : Nat} {c : Cell} {p : Addr} (h : s.e[i]? = some (.own c)) (a : σ[i]? = some (some (.ref p))) : C.H p ≠ none := by
  obtain ⟨q, a', b, _⟩ := r.own i c h
  rw [a] at a'
  cases a'
  exact b.tr
theorem Rel.new (r : Rel G C s σ) {p : Addr} {o : HO} (n : C.H p = none) : Rel G (C.new p o) s σ :=
  r.le (Le.new n) rfl (fun i c q h a => upd_ne fun z => own_tr r h a (z ▸ n)) (fun q z => .inl z) (fun q h => upd_ne fun z => ρtr r h (z ▸ n)) (tabs_put r.tabs fun u e => by rw [n] at e; cases e)
/-- a thing of its own becomes one that never changes -/
abbrev Cf.ice (C : Cf) (p : Addr) : Cf := { C with fz := fun q => C.fz q ∨ q = p }
theorem Le.ice {p : Addr} : Le C (C.ice p) := .of rfl (fun _ h => .inl h) rfl rfl fun _ _ _ h => h
theorem Rel.ice (r : Rel G C s σ) {p : Addr} (f : Fr C p) (t : NT (C.H p)) (ho : ∀ (i : Nat) c, s.e[i]? = some (.own c) → σ[i]? ≠ some (some (.ref p))) : Rel G (C.ice p) s σ :=
  r.le Le.ice rfl (fun _ _ _ _ _ => rfl) (fun q z => z.imp id fun z => by subst z; exact ⟨f, t, ho⟩) (fun _ _ => rfl) r.tabs
theorem RvR.tr {c : Cell} {v : V} (h : RvR G C s σ (.f c) v) : ∃ p, v = .ref p ∧ C.H p ≠ none := by
  obtain ⟨p, e, a, _⟩ := h
  exact ⟨p, e, a.tr⟩
/-- a new list, a new dict as a value -/
theorem imm_ok {c : Cell} {p : Addr} (h : CR G C c (C.H p)) (u : unlocked c = true) : VR G (C.ice p) (imm c) (.ref p) := by
  cases c with
  | lst xs lk =>
    obtain ⟨ys, e, r⟩ := h
    show VR G _ (.lst xs) _
    unfold VR
    exact ⟨p, ys, rfl, .inr rfl, e, r.mono Le.ice⟩
  | dct kvs lk =>
    cases lk with
    | true => cases u
    | false =>
      obtain ⟨ks, e, r⟩ := h
      show VR G _ (.dct kvs) _
      unfold VR
      exact ⟨p, ks, rfl, .inr rfl, .inl e, r.mono Le.ice⟩
  | ins c fs => cases u
  | err c f x => cases u
theorem freeze_ok (r : Rel G C s σ) {x : Rv} {v : V} {y : Val} (h : RvR G C s σ x v) (e : freeze x = some y) : ∃ C', Le C C' ∧ C'.H = C.H ∧ Rel G C' s σ ∧ VR G C' y v := by
  cases x with
  | v x => cases e; exact ⟨C, .refl C, rfl, r, h⟩
  | f c =>
    cases e
    obtain ⟨p, e, a, f, u, d⟩ := h
    subst e
    exact ⟨C.ice p, .ice, rfl, r.ice f a.nt d, imm_ok a u⟩
  | sl i => cases e
/-- an operand -/
def OR (G : Gl) (C : Cf) (s : S) (σ : L2.St) : Rv → V → Prop
  | .v x, v => VR G C x v
  | .f _, _ => False
  | .sl i, v => σ[i]? = some (some v)
theorem opnd_ok (r : Rel G C s σ) {x : Rv} {v : V} (h : RvR G C s σ x v) : ∃ C', Le C C' ∧ C'.H = C.H ∧ Rel G C' s σ ∧ OR G C' s σ (opnd x) v := by
  cases x with
  | v x => exact ⟨C, .refl C, rfl, r, h⟩
  | f c =>
    obtain ⟨p, e, a, f, u, d⟩ := h
    subst e
    exact ⟨C.ice p, .ice, rfl, r.ice f a.nt d, imm_ok a u⟩
  | sl i => exact ⟨C, .refl C, rfl, r, h⟩
theorem OR.mono (l : Le C C') {x : Rv} {v : V} (h : OR G C s σ x v) : OR G C' s' σ x v := by
  cases x with
  | v x => exact VR.mono l h
  | f c => exact h
  | sl i => exact h
theorem VR.nr {x : Val} {v : V} (h : VR G C x v) : NR G C x v := by
  cases x with
  | lst xs => unfold VR at h; obtain ⟨p, ys, e, _, a, b⟩ := h; exact ⟨p, ys, e, a, b⟩
  | dct xs => unfold VR at h; obtain ⟨p, ys, e, _, a, b⟩ := h; exact ⟨p, ys, e, a, b⟩
  | _ => exact h
theorem CR.nr {c : Cell} {p : Addr} (h : CR G C c (C.H p)) (b : imm c ≠ .bad) : NR G C (imm c) (.ref p) := by
  cases c with
  | lst xs lk => obtain ⟨ys, e, r⟩ := h; exact ⟨p, ys, rfl, e, r⟩
  | dct kvs lk =>
    cases lk with
    | true => obtain ⟨ob, ks, e, r⟩ := h; exact ⟨p, ks, rfl, .inr ⟨ob, e⟩, r⟩
    | false => obtain ⟨ks, e, r⟩ := h; exact ⟨p, ks, rfl, .inl e, r⟩
  | ins c fs => exact (b rfl).elim
  | err c f x => exact (b rfl).elim
theorem deref_ok (r : Rel G C s σ) {x : Rv} {v : V} (h : OR G C s σ x v) (b : deref s x ≠ .bad) : NR G C (deref s x) v := by
  cases x with
  | v x =>
    cases x with
    | ref i =>
      have h' := h
      simp only [OR] at h
      unfold VR at h
      obtain ⟨p, e, hv⟩ := h
      subst hv
      unfold deref at b ⊢
      cases q : s.h[i]? with
      | none => simp only [q] at b ⊢; exact h'
      | some c =>
        have hc := (r.cell i c p q e).1
        cases c with
        | lst xs lk => simp only [q]; exact CR.nr (c := .lst xs lk) hc (by simp [imm])
        | dct xs lk => simp only [q]; exact CR.nr (c := .dct xs lk) hc (by simp [imm])
        | ins _ _ => simp only [q]; exact h'
        | err _ _ _ => simp only [q]; exact h'
    | _ => exact VR.nr h
  | f c => exact h.elim
  | sl i =>
    unfold deref at b ⊢
    cases q : s.e[i]? with
    | none => simp [q] at b
    | some t =>
      cases t with
      | own c =>
        simp only [q] at b ⊢
        obtain ⟨p, a, k, _⟩ := r.own i c q
        have h : σ[i]? = some (some v) := h
        rw [a] at h
        cases h
        exact k.nr b
      | _ => simp [q] at b
end

/-! ### expressions -/
def tE (G : Gl) (f : S → R Rv) : TE := fun σ H Q => ∃ C s x s', C.H = H ∧ Rel G C s σ ∧ f s = .ok x s' ∧ ∀ C' v, Le C C' → Rel G C' s' σ → RvR G C' s' σ x v → Q v C'.H
def tV (G : Gl) (f : S → R Val) : TE := fun σ H Q => ∃ C s x s', C.H = H ∧ Rel G C s σ ∧ f s = .ok x s' ∧ ∀ C' v, Le C C' → Rel G C' s' σ → VR G C' x v → Q v C'.H
def tO (G : Gl) (f : S → R Rv) : TE := fun σ H Q => ∃ C s x s', C.H = H ∧ Rel G C s σ ∧ f s = .ok x s' ∧ ∀ C' v, Le C C' → Rel G C' s' σ → OR G C' s' σ (opnd x) v → Q v C'.H
def tBo (G : Gl) (f : S → R Bool) : TT := fun σ H Q => ∃ C s b s', C.H = H ∧ Rel G C s σ ∧ f s = .ok b s' ∧ ∀ C', Le C C' → Rel G C' s' σ → Q b C'.H
section
variable {G : Gl} {X : Cx} {e : Expr}
theorem PE.weak {t t' : TE} (h : PE X e t) (w : ∀ σ H Q, t' σ H Q → t σ H Q) : PE X e t' := ⟨fun pins s σ H Q I q => h.run pins s σ H Q I (w σ H Q q)⟩
theorem PT.weak {t t' : TT} (h : PT X e t) (w : ∀ σ H Q, t' σ H Q → t σ H Q) : PT X e t' := ⟨fun pins s σ H Q I q => h.run pins s σ H Q I (w σ H Q q)⟩
theorem tV_of {f : S → R Rv} {σ : L2.St} {H : Hp} {Q : VK} (h : tV G (fun s => (f s).val) σ H Q) : tE G f σ H Q := by
  obtain ⟨C, s, x, s', hH, r, e, k⟩ := h
  cases q : f s with
  | ok y s1 =>
    simp only [q, R.val, R.bind] at e
    cases z : freeze y with
    | none => simp [z, R.opt] at e
    | some w =>
      simp only [z, R.opt, R.ok.injEq] at e
      obtain ⟨rfl, rfl⟩ := e
      refine ⟨C, s, y, s1, hH, r, q, fun C' v l r' h' => ?_⟩
      obtain ⟨C2, l2, h2, r2, v2⟩ := freeze_ok r' h' z
      rw [← h2]
      exact k C2 v (l.trans l2) r2 v2
  | exc c p s1 => simp [q, R.val, R.bind] at e
  | bad => simp [q, R.val, R.bind] at e
theorem tO_of {f : S → R Rv} {σ : L2.St} {H : Hp} {Q : VK} (h : tO G f σ H Q) : tE G f σ H Q := by
  obtain ⟨C, s, x, s', hH, r, e, k⟩ := h
  refine ⟨C, s, x, s', hH, r, e, fun C' v l r' h' => ?_⟩
  obtain ⟨C2, l2, h2, r2, v2⟩ := opnd_ok r' h'
  rw [← h2]
  exact k C2 v (l.trans l2) r2 v2
end
end Rs
end
section
set_option maxRecDepth 100000
set_option maxHeartbeats 4000000
/-! Tuples: t[::1], t[::-1], sorted(t). -/
namespace HT
open PySem PySem.Spec PyProof.Rows
section
variable {prog : Program} {w : World} {A : Around} {E : Value → Shared → Prop} {s : Shared}
theorem rs_applied {sl : Addr} {vs : Value} {st : Option Int} {n : Nat} {b : Bool} {Q : Int × Int × Nat → Shared → Prop} (hs : s.heap.IsSliceOf sl .none .none vs) (ps : IsPart vs st) (hst : st = some (if b then -1 else 1))
    (h : Q (if b then (n : Int) - 1 else 0, if b then -1 else 1, n) s) : wpAny (model prog w) A (Builtin.Slice.sliceApplied (.ref sl) (pure (n : Int))) Q E s := by
  obtain ⟨os, hos, hcs, hds⟩ := id hs
  unfold Builtin.Slice.sliceApplied Builtin.Slice.sliceFields
  refine wpAny_bind (wpAny_bind (wpAny_field hos hds (x := .none) rfl (wpAny_bind (wpAny_field hos hds (x := .none) rfl (wpAny_bind (wpAny_field hos hds (x := vs) rfl (wpAny_pure ?_)))))))
  refine wpAny_bind (slicePart_ ps ?_)
  subst hst
  cases b with
  | false =>
    show wpAny _ _ (if ((1 : Int) == 0) = true then _ else _) _ _ s
    rw [if_neg (by decide)]
    refine wpAny_bind (slicePart_none (wpAny_bind (slicePart_none (wpAny_bind (wpAny_pure ?_)))))
    have e : Builtin.Slice.slicePlaces 0 (n : Int) 1 = n := by
      unfold Builtin.Slice.slicePlaces
      simp only [show (1 : Int) > 0 from by omega, if_true, Int.ediv_one]
      split <;> omega
    show wpAny _ _ (pure ((0 : Int), (1 : Int), Builtin.Slice.slicePlaces 0 (n : Int) 1)) _ _ s
    rw [e]
    exact wpAny_pure h
  | true =>
    show wpAny _ _ (if ((-1 : Int) == 0) = true then _ else _) _ _ s
    rw [if_neg (by decide)]
    refine wpAny_bind (slicePart_none (wpAny_bind (slicePart_none (wpAny_bind (wpAny_pure ?_)))))
    have e : Builtin.Slice.slicePlaces ((n : Int) - 1) (-1) (-1) = n := by
      unfold Builtin.Slice.slicePlaces
      simp only [show ¬ ((-1 : Int) > 0) from by omega, if_false]
      split <;> simp <;> omega
    show wpAny _ _ (pure ((n : Int) - 1, (-1 : Int), Builtin.Slice.slicePlaces ((n : Int) - 1) (-1) (-1))) _ _ s
    rw [e]
    exact wpAny_pure h
theorem rs_pick (xs : List Value) : ((List.range xs.length).filterMap fun (k : Nat) => xs.toArray[(((xs.length : Int) - 1) + (k : Int) * (-1)).toNat]?).toArray = xs.reverse.toArray := by
  congr 1
  have e : ∀ k, k ∈ List.range xs.length → xs.toArray[(((xs.length : Int) - 1) + (k : Int) * (-1)).toNat]? = xs.reverse[k]? := fun k hk => by
    have hk := List.mem_range.mp hk
    rw [show (((xs.length : Int) - 1) + (k : Int) * (-1)).toNat = xs.length - 1 - k by omega, List.getElem?_reverse hk]
    simp
  have cg : ∀ (l : List Nat) (f g : Nat → Option Value), (∀ k, k ∈ l → f k = g k) → l.filterMap f = l.filterMap g := fun l f g h => by
    induction l with
    | nil => rfl
    | cons a l ih =>
      rw [List.filterMap_cons, List.filterMap_cons, h a (by simp), ih fun k hk => h k (by simp [hk])]
  have key : ∀ (ys : List Value), (List.range ys.length).filterMap (fun k => ys[k]?) = ys := fun ys => by
    induction ys with
    | nil => rfl
    | cons y ys ih =>
      rw [List.length_cons, List.range_succ_eq_map, List.filterMap_cons]
      simp only [List.getElem?_cons_zero, List.filterMap_map]
      congr 1
  have e2 := cg _ _ _ e
  have e3 := key xs.reverse
  rw [List.length_reverse] at e3
  exact e2.trans e3
theorem getItem_tuple_step {t sl : Addr} {xs : List Value} {vs : Value} {st : Option Int} {b : Bool} {Q : Value → Shared → Prop} (ht : IsTup s.heap t xs.toArray) (hs : s.heap.IsSliceOf sl .none .none vs) (ps : IsPart vs st) (hst : st = some (if b then -1 else 1))
    (h1 : b = false → Q (.ref t) s) (h2 : b = true → Q (.ref s.heap.objs.size) { s with heap := s.heap.push { cls := .type "tuple", data := .seq xs.reverse.toArray } }) (hz : xs.length ≤ sizeLine) : wpAny (model prog w) A (getItem (.ref t) (.ref sl)) Q E s := by
  obtain ⟨os, hos, hcs, hds⟩ := id hs
  have hTs : s.TypeIs (.ref sl) "slice" := ⟨os, hos, hcs⟩
  unfold getItem
  try with_reducible refine wpAny_holding ?_
  first | refine wpAny_bind (wpAny_pure ?_) | skip
  refine wpAny_bind (wpAny_sequenceKey ht.typeIs (by decide) ?_)
  refine wpAny_bind (wpAny_callSpecial?_slot (name := Str.ofString "__getitem__") ht.typeIs PyProof.Rows.slot_tuple_getitem
    (wpAny_call_entry PyProof.Rows.slot_tuple_getitem ht.typeIs entry_tuple_getitem ?_ (args_tuple_getitem _ _)))
  show wpAny _ _ (Builtin.Tuple.tupleItemsOf (.ref t) >>= _) _ _ s
  refine wpAny_bind (tupleItemsOf_ ht ?_)
  refine wpAny_bind (wpAny_typeOf hTs ?_)
  rw [if_pos (by decide)]
  refine wpAny_bind (rs_applied (b := b) hs ps hst ?_)
  cases b with
  | false =>
    have hyes : ((0 : Int) == 0 && (1 : Int) == 1 && xs.toArray.size == xs.toArray.size) = true := by simp
    show wpAny _ _ (if ((0 : Int) == 0 && (1 : Int) == 1 && xs.toArray.size == xs.toArray.size) = true then _ else _) _ _ s
    rw [if_pos hyes]
    refine wpAny_bind ?_
    show wpAny _ _ (typeOf (.ref t) >>= fun T => pure (T == .type "tuple")) _ _ s
    refine wpAny_bind (wpAny_typeOf ht.typeIs (wpAny_pure ?_))
    first
      | rw [if_pos (by decide)]
      | simp only [beq_self_eq_true, if_true]
    first
      | exact wpAny_bind (wpAny_rule (wpAny_pure ⟨_, rfl, wpAny_pure (h1 rfl)⟩))
      | exact wpAny_bind (wpAny_rule (wpAny_bind (wpAny_pure (wpAny_pure ⟨_, rfl, wpAny_pure (h1 rfl)⟩))))
  | true =>
    have hno : ¬ (((xs.toArray.size : Int) - 1 == 0 && (-1 : Int) == 1 && xs.toArray.size == xs.toArray.size) = true) := by simp
    show wpAny _ _ (if ((xs.toArray.size : Int) - 1 == 0 && (-1 : Int) == 1 && xs.toArray.size == xs.toArray.size) = true then _ else _) _ _ s
    rw [if_neg hno]
    have htake : sizeOk (.seq xs.reverse.toArray) := by
      show xs.reverse.toArray.size ≤ sizeLine
      simpa using hz
    have e := rs_pick xs
    have e2 : xs.toArray.size = xs.length := by simp
    rw [e2]
    have e3 : (fun (k : Nat) => xs.toArray[(((if true = true then (xs.length : Int) - 1 else 0) : Int) + (k : Int) * ((if true = true then -1 else 1) : Int)).toNat]?) = fun (k : Nat) => xs.toArray[(((xs.length : Int) - 1) + (k : Int) * (-1)).toNat]? := rfl
    simp only [if_true]
    rw [e]
    have q := h2 rfl
    first
      | exact wpAny_bind (m := Builtin.Tuple.tupleExact _) (wpAny_newObj_type (wpAny_pure ⟨_, rfl, wpAny_pure q⟩) htake)
      | exact wpAny_bind (m := Builtin.Tuple.tupleExact _) (wpAny_newObj_type (wpAny_bind (wpAny_pure (wpAny_pure ⟨_, rfl, wpAny_pure q⟩))) htake)
      | exact wpAny_bind (wpAny_bind (m := Builtin.Tuple.tupleExact _) (wpAny_newObj_type (wpAny_pure (wpAny_pure ⟨_, rfl, wpAny_pure q⟩)) htake))
      | exact wpAny_bind (wpAny_bind (m := Builtin.Tuple.tupleExact _) (wpAny_newObj_type (wpAny_pure ⟨_, rfl, wpAny_pure q⟩) htake))
end
end HT
namespace PySem.W
open PySem PySem.Calls PyProof.Rows
section
variable {prog : Program} {w : World} {A : Around} {E : Value → Shared → Prop} {s : Shared} {κ : PyProof.Rows.KeyKind}
theorem rs_collect_tup {l : Addr} {vs : List Value} {Q : List Value → Shared → Prop} (hl : IsTup s.heap l vs.toArray)
    (h : Q vs { s with heap := (s.heap.push (seqObj "list" #[] 0)).update s.heap.objs.size (Obj.mapSeq (· ++ vs.toArray)) }) (hsz : vs.length ≤ sizeLine) :
    wpAny (model prog w) A (collect (.ref l)) Q E s := by
  obtain ⟨o, ho, hc, n, hd⟩ := id hl
  unfold collect
  refine wpAny_bind (wpAny_runValue (codeAny_builtin entry_proto_collect' ?_))
  show wpAny _ _ (do again (.builtin "list.__iadd__" ⟨[← newList [], .ref l], []⟩)) _ _ s
  refine wpAny_bind (wpAny_newList (wpAny_pure ⟨Code.quiet_builtin _ (by decide +kernel), codeAny_builtin entry_list_iadd' ?_⟩))
  show wpAny _ _ (Builtin.List.listExtendWith (.ref s.heap.objs.size) (.ref l) (.ref s.heap.objs.size)) _ _ { s with heap := s.heap.push (seqObj "list" #[] 0) }
  unfold Builtin.List.listExtendWith
  have ho' : (s.heap.push (seqObj "list" #[] 0)).get? l = some o := Heap.get?_push_of_some _ ho
  refine wpAny_bind (wpAny_typeOf (T := "tuple") ⟨o, ho', hc⟩ ?_)
  have ht : (Value.type "tuple" == Value.type "tuple") = true := by rfl
  rw [if_pos (by rw [ht]; simp)]
  refine wpAny_bind (listItems_at ho' hd ?_)
  refine wpAny_bind (listItems_at (xs := #[]) (n := 0) (Heap.get?_push_size _ rfl) rfl ?_)
  rw [if_neg (by simp)]
  refine wpAny_bind (listUpdate_at (xs := #[]) (n := 0) (Heap.get?_push_size _ rfl) rfl ?_ (Nat.zero_le _) (by show (#[] ++ vs.toArray).size ≤ sizeLine + 1; simp only [Array.size_append, List.size_toArray, List.length_nil]; omega))
  refine wpAny_pure ?_
  show wpAny (model prog w) A (do
      let o ← load s.heap.objs.size
      match o.data with
      | .seq xs _ => pure xs.toList
      | _ => unsupported "internal:collect") Q E { s with heap := (s.heap.push (seqObj "list" #[] 0)).update s.heap.objs.size (Obj.mapSeq (· ++ vs.toArray)) }
  refine wpAny_bind (wpAny_load (get?_update_seq (Heap.get?_push_size _ rfl) _) ?_)
  show wpAny _ _ (pure ((#[] : Array Value) ++ vs.toArray).toList) Q E _
  rw [show ((#[] : Array Value) ++ vs.toArray).toList = vs by simp]
  exact wpAny_pure h
theorem rs_sorted_of {l : Addr} {vs : List Value} {kw : List (Str × Value)} {Q : Value → Shared → Prop} (hl : IsTup s.heap l vs.toArray) (hL : vs.length ≤ sizeLine) (ha1 : argsOk "sorted" ⟨[.ref l], kw⟩) (ha2 : ∀ x, argsOk "list.sort" ⟨[.ref x], kw⟩)
    (body : ∀ E' : Value → Shared → Prop, wpAny (model prog w) A.in1.in1 (Builtin.«list.sort» ⟨[.ref (s.heap.objs.size + 1)], kw⟩) (fun f s' => f = .done (.ret .none) ∧ Q (.ref (s.heap.objs.size + 1)) s') E' { s with heap := copyHeap s.heap vs }) :
    wpAny (model prog w) A (call (.builtin "sorted") [.ref l] kw) Q E s := by
  refine call_function_entry_kw kind_sorted plain_sorted entry_sorted ha1 ?_
  unfold Builtin.«sorted»
  refine wpAny_bind (m := checkCount "sorted" 1 1 _) (wpAny_pure ?_)
  refine wpAny_bind (rs_collect_tup hl ?_ hL)
  refine wpAny_bind (wpAny_newList ?_ hL)
  have hsz : ((s.heap.push (seqObj "list" #[] 0)).update s.heap.objs.size (Obj.mapSeq (· ++ vs.toArray))).objs.size = s.heap.objs.size + 1 := by
    rw [Heap.size_update, size_push']
  show wpAny _ _ _ _ _ { s with heap := copyHeap s.heap vs }
  rw [hsz]
  refine wpAny_bind (wpAny_holding (wpAny_call_entry_kw slot_list_sort ⟨_, copyHeap_at s.heap vs, rfl⟩ entry_list_sort ?body (ha2 _)))
  case body =>
    show wpAny (model prog w) A.in1.in1 (Builtin.«list.sort» ⟨[.ref (s.heap.objs.size + 1)], kw⟩) _ _ _
    refine wpAny_mono (body _) (fun f s' hf => ?_) fun _ _ e => e
    obtain ⟨rfl, hq⟩ := hf
    exact ⟨_, rfl, wpAny_pure ⟨_, rfl, hq⟩⟩
end
section
variable {β : Type} {prog : Program} {w : World} {A : Around} {E : Value → Shared → Prop} {s : Shared} {enc : β → PyData} {R : Value → β → Prop} {vs : List Value} {bs : List β}
theorem rs_sorted_data {l : Addr} {Q : Value → Shared → Prop} (hl : IsTup s.heap l vs.toArray) (e : EachIs R vs bs) (er : EachIs (fun v b => ∃ as, Reads s.heap v (enc b) as) vs bs) (hal : AllAlike (bs.map enc)) (hk : Sortable (bs.map enc)) (hL : bs.length ≤ sizeLine)
    (hu : ∀ b, b ∈ bs → A.units + 2 + (enc b).depth < cLine) (h : ∀ out, out.length = bs.length → EachIs R out (bs.mergeSort (dataLe false enc)) → Q (.ref (s.heap.objs.size + 1)) { s with heap := sortedAll s.heap vs (List.toArray out) }) :
    wpAny (model prog w) A (call (.builtin "sorted") [.ref l]) Q E s := by
  have er' : EachIs (fun v b => ∃ as, Reads (sortingHeap (copyHeap s.heap vs) (s.heap.objs.size + 1) vs) v (enc b) as) vs bs := er.mono fun _ _ ⟨as, r⟩ => ⟨as, PyProof.Rows.Reads.keeps (fun _ _ => sorting_copy_old) r⟩
  have hL' : vs.length ≤ sizeLine := by rw [e.length]; exact hL
  have S := SortsAt.data (prog := prog) (w := w) (A := A.in1.in1) (s := { s with heap := sortingHeap (copyHeap s.heap vs) (s.heap.objs.size + 1) vs }) (each_map (R := fun v d => ∃ as, Reads (sortingHeap (copyHeap s.heap vs) (s.heap.objs.size + 1) vs) v d as) enc er') hal hk (bound_map hu)
  have fin := h _ (by rw [sortVals_length false rfl]; exact e.length) (sortVals_data false e er' hal)
  exact rs_sorted_of hl hL' (args_sorted1 _) (fun _ => args_list_sort _) fun _ => list_sort_vals (s := { s with heap := copyHeap s.heap vs }) (copyHeap_at s.heap vs) S hL' ⟨rfl, fin⟩
end
end PySem.W
end
section
set_option maxRecDepth 100000
set_option maxHeartbeats 4000000
/-! Operators, comparisons: the model's answer is the interpreter's. -/
namespace Rs
open PySem PySem.Spec PyProof.Rows L2

/-! ### data that is read -/
section
variable {G : Gl} {X : Cx} {pins : List (Addr × Obj)} {σ : L2.St} {H : Hp} {s : Shared} {C : Cf}
theorem KTup.seq {K : PySem.W.Frag} {p : Addr} {ys : List V} (h : KTup K p ys) : SqT K H p ys := .inr h
theorem KLst.seq {K : PySem.W.Frag} {p : Addr} {ys : List V} (h : KLst K p ys) : SqL K H p ys := .inr h
theorem tup_seq {K : PySem.W.Frag} {p : Addr} {ys : List V} (h : (C.fz p ∧ C.H p = some (.tup ys)) ∨ KTup K p ys) : SqT K C.H p ys := h.elim (fun h => .inl (.inl h.2)) KTup.seq
theorem scr_seq {K : PySem.W.Frag} {p : Addr} {ys : List V} (h : (C.fz p ∧ Rd C.H p (.lst ys)) ∨ KLst K p ys) : SqL K C.H p ys := h.elim (fun h => .inl h.2) KLst.seq
def Gl.Sys (G : Gl) : Prop := ∃ o, G.K.lookup sysModules = some o ∧ o.cls = .type "dict"
mutual
theorem VR.reads (I : Inv X pins σ C.H s) (hK : X.K = G.K) (hS : G.Sys) : ∀ (x : Val) (v : V) (u : Value) (d : PyData), VR G C x v → RelV v u → toD x = some d → ∃ as, Reads s.heap u d as ∧ (sysModules ∉ as)
  | .non, _, _, _, h, r, e => by
    unfold VR at h; subst h; cases r; unfold toD at e; cases e
    exact ⟨_, .none, by simp⟩
  | .bl b, _, _, _, h, r, e => by
    unfold VR at h; subst h; cases r; unfold toD at e; cases e
    exact ⟨_, .bool b, by simp⟩
  | .int i, _, _, _, h, r, e => by
    unfold VR at h; subst h; obtain ⟨t, rfl⟩ := r; unfold toD at e; cases e
    exact ⟨_, .int i t, by simp⟩
  | .str x, _, _, _, h, r, e => by
    unfold VR at h; subst h; obtain ⟨t, rfl⟩ := r; unfold toD at e; cases e
    exact ⟨_, .str x t, by simp⟩
  | .lst xs, _, _, d, h, r, e => by
    unfold VR at h
    obtain ⟨p, ys, e1, f, hp, hr⟩ := h
    subst e1; cases r
    unfold toD at e
    cases q : toDs xs with
    | none => simp [q] at e
    | some ds =>
      simp only [q, Option.some.injEq] at e
      subst e
      obtain ⟨its, rv, ⟨o, n, ho, hc, _, hd⟩, _⟩ := I.list (SqL.of hp)
      obtain ⟨as, hr', hs⟩ := VRs.reads I hK hS xs ys its ds hr rv q
      refine ⟨_, .list ho hc hd hr', fun z => ?_⟩
      rcases List.mem_cons.mp z with z | z
      · subst z
        obtain ⟨o', h1, h2⟩ := hS
        have h3 := I.kIn _ _ (by rw [hK]; exact h1)
        rw [ho] at h3; cases h3
        rw [hc] at h2; simp at h2
      · exact hs z
  | .tup xs, _, _, d, h, r, e => by
    unfold VR at h
    obtain ⟨p, ys, e1, f, hr⟩ := h
    subst e1; cases r
    unfold toD at e
    cases q : toDs xs with
    | none => simp [q] at e
    | some ds =>
      simp only [q, Option.some.injEq] at e
      subst e
      obtain ⟨its, rv, ⟨o, ho, hc, n, hd⟩, _⟩ := I.tuple (by rw [hK]; exact tup_seq f)
      obtain ⟨as, hr', hs⟩ := VRs.reads I hK hS xs ys its ds hr rv q
      exact ⟨_, .tuple ho hc hd hr', hs⟩
  | .dct kvs, _, _, d, h, r, e => by
    unfold VR at h
    obtain ⟨p, ks, e1, f, hp, hr⟩ := h
    subst e1; cases r
    unfold toD at e
    cases q : toDk kvs with
    | none => simp [q] at e
    | some ds =>
      simp only [q, Option.some.injEq] at e
      subst e
      obtain ⟨z, hd, vs, rel, o, es, ep, ho, hc, hdt, _, hpr, _⟩ := dk_rd I.hok hp
      obtain ⟨as, bs, h1, h2, h3, h4⟩ := VRk.reads I hK hS kvs ks vs es.toList ds hr rel hpr q
      refine ⟨_, .dict ho hc.1 hdt h1 h2, fun z => ?_⟩
      rcases List.mem_append.mp z with z | z
      · rcases List.mem_cons.mp z with z | z
        · subst z; simp at hd
        · exact h3 z
      · exact h4 z
  | .odd kvs, _, _, d, h, r, e => by
    unfold VR at h
    obtain ⟨p, o, zs, ps, e1, f, hd, hp, ⟨hx, es, ep, hdt, he, _⟩, _, hpz, _, hr⟩ := h
    subst e1; cases r
    unfold toD at e
    cases q : toDo kvs with
    | none => simp [q] at e
    | some ds =>
      simp only [q] at e
      split at e
      case isFalse => cases e
      simp only [Option.some.injEq] at e
      subst e
      obtain ⟨as, bs, h1, h2, h3, h4⟩ := VRo.reads I hK hS kvs ps zs ds hr hpz q
      refine ⟨_, .dict (I.hok p _ hp).1 hx.1 hdt (by rw [he, List.map_map]; exact h1) (by rw [he, List.map_map]; exact h2), fun z => ?_⟩
      rcases List.mem_append.mp z with z | z
      · rcases List.mem_cons.mp z with z | z
        · subst z; simp at hd
        · exact h3 z
      · exact h4 z
  | .ref _, _, _, _, _, _, e => by unfold toD at e; cases e
  | .scr _, _, _, _, _, _, e => by unfold toD at e; cases e
  | .bad, _, _, _, _, _, e => by unfold toD at e; cases e
theorem VRs.reads (I : Inv X pins σ C.H s) (hK : X.K = G.K) (hS : G.Sys) : ∀ (xs : List Val) (vs : List V) (us : List Value) (ds : List PyData), VRs G C xs vs → Vals vs us → toDs xs = some ds → ∃ as, ReadsAll s.heap us ds as ∧ sysModules ∉ as
  | [], _, _, _, h, r, e => by
    unfold VRs at h; subst h; cases r; unfold toDs at e; cases e
    exact ⟨_, .nil, by simp⟩
  | x :: xs, _, _, ds, h, r, e => by
    unfold VRs at h
    obtain ⟨y, r', e1, a, b⟩ := h
    subst e1
    cases r with
    | cons r1 r2 =>
      unfold toDs at e
      cases q : toD x with
      | none => simp [q] at e
      | some d =>
        cases q2 : toDs xs with
        | none => simp [q, q2] at e
        | some ds =>
          simp only [q, q2, Option.some.injEq] at e
          subst e
          obtain ⟨as, k1, n1⟩ := VR.reads I hK hS x _ _ d a r1 q
          obtain ⟨bs, k2, n2⟩ := VRs.reads I hK hS xs _ _ ds b r2 q2
          exact ⟨_, .cons k1 k2, fun z => (List.mem_append.mp z).elim n1 n2⟩
theorem VRk.reads (I : Inv X pins σ C.H s) (hK : X.K = G.K) (hS : G.Sys) : ∀ (xs : List (Key × Val)) (ks : List (Key × V)) (vs : List (Key × Value)) (es : List DictEntry) (ds : List (PyData × PyData)), VRk G C xs ks → KV ks vs → Pairs (mixKind X.prog X.w) es vs → toDk xs = some ds →
    ∃ as bs, ReadsAll s.heap (es.map (·.key)) (ds.map (·.1)) as ∧ ReadsAll s.heap (es.map (·.val)) (ds.map (·.2)) bs ∧ sysModules ∉ as ∧ sysModules ∉ bs
  | [], _, _, _, _, h, r, p, e => by
    unfold VRk at h; subst h; cases r; cases p; unfold toDk at e; cases e
    exact ⟨_, _, .nil, .nil, by simp, by simp⟩
  | (k, x) :: xs, _, _, _, ds, h, r, p, e => by
    unfold VRk at h
    obtain ⟨y, r', e1, a, b⟩ := h
    subst e1
    cases r with
    | cons r1 r2 =>
      cases p with
      | cons p1 p2 p3 =>
        unfold toDk at e
        cases q : toD x with
        | none => simp [q] at e
        | some d =>
          cases q2 : toDk xs with
          | none => simp [q, q2] at e
          | some ds =>
            simp only [q, q2, Option.some.injEq] at e
            subst e
            obtain ⟨rk, rv⟩ := r1
            obtain ⟨bs, k1, n1⟩ := VR.reads I hK hS x _ _ d a rv q
            obtain ⟨as2, bs2, k2, k3, n2, n3⟩ := VRk.reads I hK hS xs _ _ _ ds b r2 p3 q2
            rw [← p2] at k1
            rw [← rk, mixKind_is] at p1
            rcases keyIs_shape p1 with ⟨i, t, rfl, e⟩ | ⟨z, t, rfl, e⟩
            · exact ⟨_, _, .cons (as := []) (by show Reads _ (DictEntry.key _) (.int i) []; rw [e]; exact .int i t) k2, .cons k1 k3, by simpa using n2, fun z => (List.mem_append.mp z).elim n1 n3⟩
            · exact ⟨_, _, .cons (as := []) (by show Reads _ (DictEntry.key _) (.str _) []; rw [e]; exact .str _ t) k2, .cons k1 k3, by simpa using n2, fun z => (List.mem_append.mp z).elim n1 n3⟩
theorem VRo.reads (I : Inv X pins σ C.H s) (hK : X.K = G.K) (hS : G.Sys) : ∀ (xs : List (Val × Val)) (ps : List (V × V)) (zs : List (NestedKey × Value × Value)) (ds : List (PyData × PyData)), VRo G C xs ps → OdP ps zs → toDo xs = some ds →
    ∃ as bs, ReadsAll s.heap (zs.map (·.2.1)) (ds.map (·.1)) as ∧ ReadsAll s.heap (zs.map (·.2.2)) (ds.map (·.2)) bs ∧ sysModules ∉ as ∧ sysModules ∉ bs
  | [], _, _, _, h, p, e => by
    unfold VRo at h; subst h; cases p; unfold toDo at e; cases e
    exact ⟨_, _, .nil, .nil, by simp, by simp⟩
  | (k, x) :: xs, _, _, ds, h, p, e => by
    unfold VRo at h
    obtain ⟨z, y, r', e1, a, b, c⟩ := h
    subst e1
    cases p with
    | cons p1 p2 =>
      unfold toDo at e
      cases q1 : toD k with
      | none => simp [q1] at e
      | some ck =>
        cases q : toD x with
        | none => simp [q1, q] at e
        | some d =>
          cases q2 : toDo xs with
          | none => simp [q1, q, q2] at e
          | some ds =>
            simp only [q1, q, q2, Option.some.injEq] at e
            subst e
            obtain ⟨as, k1, n1⟩ := VR.reads I hK hS k _ _ ck a p1.1 q1
            obtain ⟨bs, k2, n2⟩ := VR.reads I hK hS x _ _ d b p1.2 q
            obtain ⟨as2, bs2, k3, k4, n3, n4⟩ := VRo.reads I hK hS xs _ _ ds c p2 q2
            exact ⟨_, _, .cons k1 k3, .cons k2 k4, fun z => (List.mem_append.mp z).elim n1 n3, fun z => (List.mem_append.mp z).elim n2 n4⟩
end
theorem NR.reads (I : Inv X pins σ C.H s) (hK : X.K = G.K) (hS : G.Sys) {x : Val} {v : V} {u : Value} {d : PyData} (h : NR G C x v) (r : RelV v u) (e : toD x = some d) : ∃ as, Reads s.heap u d as ∧ (sysModules ∉ as) := by
  cases x with
  | lst xs =>
    obtain ⟨p, ys, e1, hp, hr⟩ := h
    subst e1; cases r
    unfold toD at e
    cases q : toDs xs with
    | none => simp [q] at e
    | some ds =>
      simp only [q, Option.some.injEq] at e
      subst e
      obtain ⟨its, rv, ⟨o, n, ho, hc, _, hd⟩, _⟩ := I.list (SqL.of hp)
      obtain ⟨as, hr', hs⟩ := VRs.reads I hK hS xs ys its ds hr rv q
      refine ⟨_, .list ho hc hd hr', fun z => ?_⟩
      rcases List.mem_cons.mp z with z | z
      · subst z
        obtain ⟨o', h1, h2⟩ := hS
        have h3 := I.kIn _ _ (by rw [hK]; exact h1)
        rw [ho] at h3; cases h3
        rw [hc] at h2; simp at h2
      · exact hs z
  | dct kvs =>
    obtain ⟨p, ks, e1, hp, hr⟩ := h
    subst e1; cases r
    unfold toD at e
    cases q : toDk kvs with
    | none => simp [q] at e
    | some ds =>
      simp only [q, Option.some.injEq] at e
      subst e
      obtain ⟨z, hd, vs, rel, o, es, ep, ho, hc, hdt, _, hpr, _⟩ := dk_rd I.hok hp
      obtain ⟨as, bs, h1, h2, h3, h4⟩ := VRk.reads I hK hS kvs ks vs es.toList ds hr rel hpr q
      refine ⟨_, .dict ho hc.1 hdt h1 h2, fun z => ?_⟩
      rcases List.mem_append.mp z with z | z
      · rcases List.mem_cons.mp z with z | z
        · subst z; simp at hd
        · exact h3 z
      · exact h4 z
  | _ => exact VR.reads I hK hS _ v u d h r e
end

/-! ### operators -/
theorem OpR.any {X : Cx} {f : Value → Value → Sem Value} : OpR X f (fun x y H Q => ∃ r : R2, OpR X f r ∧ r x y H Q) := fun pins s σ H x y v u Q I rx ry ⟨r, h, q⟩ => h pins s σ H x y v u Q I rx ry q
/-- what an operator gives -/
def OpI (G : Gl) (X : Cx) (f : Value → Value → Sem Value) (g : Val → Val → Option Rv) : Prop :=
  ∀ (C : Cf) (s : S) (σ : L2.St) (x y : Val) (v w : V) (r : Rv) (Q : VK), Rel G C s σ → NR G C x v → NR G C y w → g x y = some r → (∀ C' z, Le C C' → Rel G C' s σ → RvR G C' s σ r z → Q z C'.H) → ∃ r2 : R2, OpR X f r2 ∧ r2 v w C.H Q
section
variable {G : Gl} {X : Cx} {C : Cf} {s : S} {σ : L2.St} {Q : VK}
theorem NR.int {i : Int} {v : V} (h : NR G C (.int i) v) : v = .int i := by unfold NR at h; unfold VR at h; exact h
theorem NR.str {i : Str} {v : V} (h : NR G C (.str i) v) : v = .str i := by unfold NR at h; unfold VR at h; exact h
theorem NR.bl {i : Bool} {v : V} (h : NR G C (.bl i) v) : v = .bl i := by unfold NR at h; unfold VR at h; exact h
theorem NR.non {v : V} (h : NR G C .non v) : v = .non := by unfold NR at h; unfold VR at h; exact h
theorem NR.tup {xs : List Val} {v : V} (h : NR G C (.tup xs) v) : ∃ p ys, v = .ref p ∧ SqT G.K C.H p ys ∧ VRs G C xs ys := by
  unfold NR at h; unfold VR at h
  obtain ⟨p, ys, e, f, r⟩ := h
  exact ⟨p, ys, e, tup_seq f, r⟩
theorem NR.scr {ns : List Int} {v : V} (h : NR G C (.scr ns) v) : ∃ p, v = .ref p ∧ SqL G.K C.H p (ns.map V.int) := by
  unfold NR at h; unfold VR at h
  obtain ⟨p, e, f⟩ := h
  exact ⟨p, e, scr_seq f⟩
theorem out_v (r : Rel G C s σ) {x : Val} {v : V} (hx : VR G C x v) (k : ∀ C' z, Le C C' → Rel G C' s σ → RvR G C' s σ (.v x) z → Q z C'.H) : Q v C.H := k C v (.refl C) r hx
theorem VR.int {i : Int} : VR G C (.int i) (.int i) := by unfold VR; rfl
theorem VR.str {i : Str} : VR G C (.str i) (.str i) := by unfold VR; rfl
theorem VR.bl {i : Bool} : VR G C (.bl i) (.bl i) := by unfold VR; rfl
theorem VR.non : VR G C .non .non := by unfold VR; rfl
/-- a new list -/
theorem out_l (r : Rel G C s σ) {xs : List Val} {ys : List V} (h : VRs G C xs ys) {p : Addr} (n : C.H p = none) (k : ∀ C' z, Le C C' → Rel G C' s σ → RvR G C' s σ (.f (.lst xs false)) z → Q z C'.H) : Q (.ref p) (upd C.H p (.lst ys)) :=
  k (C.new p (.lst ys)) (.ref p) (Le.new n) (r.new n) ⟨p, rfl, ⟨ys, upd_same, h.mono (Le.new n)⟩, ⟨(r.fresh n).fz, (r.fresh n).kp, (r.fresh n).ρ, (r.fresh n).rs⟩, rfl, fun i c h z => own_tr r h z n⟩
theorem out_d (r : Rel G C s σ) {xs : List (Key × Val)} {ys : List (Key × V)} (h : VRk G C xs ys) {p : Addr} (n : C.H p = none) (k : ∀ C' z, Le C C' → Rel G C' s σ → RvR G C' s σ (.f (.dct xs false)) z → Q z C'.H) : Q (.ref p) (upd C.H p (.dK ys)) :=
  k (C.new p (.dK ys)) (.ref p) (Le.new n) (r.new n) ⟨p, rfl, ⟨ys, upd_same, h.mono (Le.new n)⟩, ⟨(r.fresh n).fz, (r.fresh n).kp, (r.fresh n).ρ, (r.fresh n).rs⟩, rfl, fun i c h z => own_tr r h z n⟩
/-- a new tuple -/
theorem out_t (r : Rel G C s σ) {xs : List Val} {ys : List V} (h : VRs G C xs ys) {p : Addr} (n : C.H p = none) (k : ∀ C' z, Le C C' → Rel G C' s σ → RvR G C' s σ (.v (.tup xs)) z → Q z C'.H) : Q (.ref p) (upd C.H p (.tup ys)) := by
  have r1 := r.new (o := .tup ys) n
  have f := r.fresh n
  refine k ((C.new p (.tup ys)).ice p) (.ref p) ((Le.new n).trans .ice) (r1.ice ⟨f.fz, f.kp, f.ρ, f.rs⟩ (nt_upd fun ps z => nomatch z) fun i c h z => own_tr r h z n) ?_
  show VR G _ (.tup xs) _
  unfold VR
  exact ⟨p, ys, rfl, .inl ⟨.inr rfl, upd_same⟩, h.mono ((Le.new n).trans .ice)⟩
theorem okMul_c {i j : Int} (h : okMul i j = true) : CMul i j := by
  unfold okMul at h
  simp only [Bool.or_eq_true, Bool.and_eq_true, decide_eq_true_eq] at h
  exact h
theorem op_mul_str : OpR X (binaryOp .Mult) (fun x y H Q => ∃ (i : PySem.Str) (n : Int), x = .str i ∧ y = .int n ∧ i.length ≤ 1000 ∧ 1 ≤ n ∧ n ≤ 1000 ∧ Q (.str (Txt.mul i n)) H) := by
  intro pins s σ H x y v u Q I rx ry h
  obtain ⟨i, n, rfl, rfl, h1, h2, h3, q⟩ := h
  obtain ⟨t, rfl⟩ := rx
  obtain ⟨t', rfl⟩ := ry
  have hz : 1000000 ≤ sizeLine := by decide
  have hm : i.length * n.toNat ≤ 1000 * 1000 := Nat.mul_le_mul h1 (by omega)
  refine SB.mul (prog := X.prog) (w := X.w) ⟨?_, fun _ _ => ?_, fun _ _ => ?_⟩ fun t' k => ⟨.str (Txt.mul i n), H, I.tok _, ⟨_, rfl⟩, q⟩
  · have e1 : ¬ n < -(2 ^ 63 : Int) := by omega
    have e2 : ¬ n ≥ 2 ^ 63 := by omega
    simp [e1, e2]
    omega
  · have hd : (1000 : Int) ≤ (2 ^ 63 - 1) / n := (Int.le_ediv_iff_mul_le (by omega)).mpr (by omega)
    omega
  · show decide (i.length * n.toNat > sizeLine) = false
    rw [decide_eq_false_iff_not]
    omega
theorem op_addB : OpR X (binaryOp .Add) (fun x y H Q => ∃ (b : Bool) (j : Int), x = .bl b ∧ y = .int j ∧ Q (.int ((if b = true then 1 else 0) + j)) H) := by
  intro pins s σ H x y v u Q I rx ry h
  obtain ⟨b, j, rfl, rfl, q⟩ := h
  cases rx
  obtain ⟨t, rfl⟩ := ry
  exact PySem.IntBool.add_bool_int ⟨.int _, H, I.tok _, ⟨_, rfl⟩, q⟩
theorem op_subB : OpR X (binaryOp .Sub) (fun x y H Q => ∃ (b : Bool) (j : Int), x = .bl b ∧ y = .int j ∧ Q (.int ((if b = true then 1 else 0) - j)) H) := by
  intro pins s σ H x y v u Q I rx ry h
  obtain ⟨b, j, rfl, rfl, q⟩ := h
  cases rx
  obtain ⟨t, rfl⟩ := ry
  exact PySem.IntBool.sub_bool_int ⟨.int _, H, I.tok _, ⟨_, rfl⟩, q⟩
theorem bin_ok (hK : X.K = G.K) : ∀ op : Bop, OpI G X (binaryOp (match op with | .add => .Add | .sub => .Sub | .mul => .Mult | .fdiv => .FloorDiv | .mod => .Mod | .pow => .Pow)) (binop op)
  | .add => by
    intro C s σ x y v w r Q rl hx hy e k
    unfold binop at e
    split at e
    all_goals try (simp only [reduceCtorEq] at *; done)
    all_goals try contradiction
    · cases e
      cases hx.int; cases hy.int
      exact ⟨_, op_add, _, _, rfl, rfl, out_v rl .int k⟩
    · split at e
      · cases e
        rename_i hl
        cases hx.str; cases hy.str
        exact ⟨_, op_add_str, _, _, rfl, rfl, hl, out_v rl .str k⟩
      · cases e
    · split at e
      · cases e
        rename_i hl
        obtain ⟨p, ys, rfl, hp, hr⟩ := hx
        obtain ⟨q, zs, rfl, hq, hr2⟩ := hy
        exact ⟨_, op_cat, p, q, ys, zs, rfl, rfl, hp, hq, by rw [← hr.length, ← hr2.length]; exact hl, fun l hn => out_l rl (hr.append hr2) hn k⟩
      · cases e
    · split at e
      · cases e
        rename_i hl
        obtain ⟨p, ys, rfl, hp, hr⟩ := hx.tup
        obtain ⟨q, zs, rfl, hq, hr2⟩ := hy.tup
        refine ⟨_, op_catA, p, q, ys, zs, rfl, rfl, by rw [hK]; exact hp, by rw [hK]; exact hq, by rw [← hr.length, ← hr2.length]; exact hl, ?_⟩
        refine ⟨fun z => ?_, fun _ z => ?_, fun _ _ l hn => out_t rl (hr.append hr2) hn k⟩
        · subst z
          have e1 := List.eq_nil_of_length_eq_zero (by rw [hr.length]; rfl)
          subst e1
          exact out_v rl (show VR G C (.tup ([] ++ _)) _ by rw [List.nil_append]; exact hy) k
        · subst z
          have e1 := List.eq_nil_of_length_eq_zero (by rw [hr2.length]; rfl)
          subst e1
          exact out_v rl (show VR G C (.tup (_ ++ [])) _ by rw [List.append_nil]; exact hx) k
      · cases e
    · cases e
      cases hx.bl; cases hy.int
      exact ⟨_, op_addB, _, _, rfl, rfl, out_v rl .int k⟩
  | .sub => by
    intro C s σ x y v w r Q rl hx hy e k
    unfold binop at e
    split at e
    all_goals try contradiction
    · cases e
      cases hx.int; cases hy.int
      exact ⟨_, op_sub, _, _, rfl, rfl, out_v rl .int k⟩
    · cases e
      cases hx.bl; cases hy.int
      exact ⟨_, op_subB, _, _, rfl, rfl, out_v rl .int k⟩
  | .mul => by
    intro C s σ x y v w r Q rl hx hy e k
    unfold binop at e
    split at e
    all_goals try contradiction
    · split at e
      · cases e
        rename_i hl
        cases hx.int; cases hy.int
        exact ⟨_, op_mul, _, _, rfl, rfl, okMul_c hl, out_v rl .int k⟩
      · cases e
    · split at e
      · cases e
        rename_i hl
        cases hx.str; cases hy.int
        exact ⟨_, op_mul_str, _, _, rfl, rfl, hl.1, hl.2.1, hl.2.2, out_v rl .str k⟩
      · cases e
    · split at e
      · cases e
        rename_i hl
        obtain ⟨p, ys, rfl, hp, hr⟩ := hx
        cases hy.int
        exact ⟨_, op_rep, p, _, ys, rfl, rfl, hp, hl.1, hl.2.1, by rw [← hr.length]; exact hl.2.2, fun l hn => out_l rl (hr.rep _) hn k⟩
      · cases e
    · split at e
      · cases e
        rename_i hl
        obtain ⟨p, ys, rfl, hp, hr⟩ := hx.tup
        cases hy.int
        exact ⟨_, op_repT, p, _, ys, rfl, rfl, by rw [hK]; exact hp, fun z => (by rw [hr.length, z] at hl; exact absurd hl.1 (by simp)), hl.2.1, hl.2.2.1, by rw [← hr.length]; exact hl.2.2.2, fun l hn => out_t rl (hr.rep _) hn k⟩
      · cases e
  | .fdiv => by
    intro C s σ x y v w r Q rl hx hy e k
    unfold binop at e
    split at e
    all_goals try contradiction
    split at e
    · cases e
      rename_i hl
      cases hx.int; cases hy.int
      exact ⟨_, op_fdiv, _, _, rfl, rfl, hl, out_v rl .int k⟩
    · cases e
  | .mod => by
    intro C s σ x y v w r Q rl hx hy e k
    unfold binop at e
    split at e
    all_goals try contradiction
    split at e
    · cases e
      rename_i hl
      cases hx.int; cases hy.int
      exact ⟨_, op_mod, _, _, rfl, rfl, hl, out_v rl .int k⟩
    · cases e
  | .pow => by
    intro C s σ x y v w r Q rl hx hy e k
    unfold binop at e
    split at e
    all_goals try contradiction
    split at e
    · cases e
      rename_i hl
      cases hx.int; cases hy.int
      exact ⟨_, op_pow, _, _, rfl, rfl, hl, out_v rl .int k⟩
    · cases e
end

/-! ### comparisons -/
section
variable {G : Gl} {X : Cx} {k : Nat}
/-- two values that read as data -/
def rD2 (G : Gl) (ok : PyData → PyData → Bool) (g : PyData → PyData → Bool) : R2 := fun x y H Q => ∃ C a b d e, C.H = H ∧ NR G C a x ∧ NR G C b y ∧ toD a = some d ∧ toD b = some e ∧ ok d e = true ∧ Q (.bl (g d e)) H
theorem okD_iff {d : PyData} (h : okD d = true) : d.plain = true ∧ d.depth ≤ 60 := by
  unfold okD at h
  simpa using h
theorem opD2 (hK : X.K = G.K) (hS : G.Sys) {f : Value → Value → Sem Value} {ok g : PyData → PyData → Bool}
    (rule : ∀ (s : Shared) (u v : Value) (d e : PyData) (as bs : List Addr) (Q : Value → Shared → Prop), Reads s.heap u d as → Reads s.heap v e bs → ok d e = true → Q (.bool (g d e)) s → wpAny (model X.prog X.w) X.A (f u v) Q X.xe s) : OpR X f (rD2 G ok g) := by
  intro pins s σ H x y v u Q I rx ry h
  obtain ⟨C, a, b, d, e, rfl, ha, hb, ed, ee, hok, q⟩ := h
  obtain ⟨as, r1, _⟩ := NR.reads I hK hS ha rx ed
  obtain ⟨bs, r2, _⟩ := NR.reads I hK hS hb ry ee
  exact rule s v u d e as bs _ r1 r2 hok ⟨.bl _, C.H, I, rfl, q⟩
def okEq (d e : PyData) : Bool := okD d && okD e
def okLt (d e : PyData) : Bool := PySem.W.alike d e && (okD d && notNone d)
theorem notNone_ne {d : PyData} (h : notNone d = true) : d ≠ .none := by
  intro z; subst z; simp [notNone] at h
theorem min60 {a b : Nat} (h : a ≤ 60) : min a b ≤ 60 := Nat.le_trans (Nat.min_le_left _ _) h
theorem opEqD (hK : X.K = G.K) (hS : G.Sys) (hR : Room k X.A) : OpR X (compareOp .Eq) (rD2 G okEq PyData.eqv) := opD2 hK hS fun s u v d e as bs Q r1 r2 ok q => by
  unfold okEq at ok
  simp only [Bool.and_eq_true] at ok
  have h1 := okD_iff ok.1
  have h2 := hR.units
  have h3 := min60 (b := e.depth) h1.2
  exact PySem.SeqAt.eq_plain r1 r2 h1.1 (okD_iff ok.2).1 (by omega) q
theorem opNeD (hK : X.K = G.K) (hS : G.Sys) (hR : Room k X.A) : OpR X (compareOp .NotEq) (rD2 G okEq fun d e => !PyData.eqv d e) := opD2 hK hS fun s u v d e as bs Q r1 r2 ok q => by
  unfold okEq at ok
  simp only [Bool.and_eq_true] at ok
  have h1 := okD_iff ok.1
  have h2 := hR.units
  have h3 := min60 (b := e.depth) h1.2
  exact PySem.SeqAt.ne_plain r1 r2 h1.1 (okD_iff ok.2).1 (by omega) q
theorem okLt_iff {d e : PyData} (h : okLt d e = true) : PySem.W.alike d e = true ∧ d ≠ .none ∧ d.depth ≤ 60 := by
  unfold okLt at h
  simp only [Bool.and_eq_true] at h
  exact ⟨h.1, notNone_ne h.2.2, (okD_iff h.2.1).2⟩
theorem opLtD (hK : X.K = G.K) (hS : G.Sys) (hR : Room k X.A) : OpR X (compareOp .Lt) (rD2 G okLt PySem.W.dataLt) := opD2 hK hS fun s u v d e as bs Q r1 r2 ok q => by
  obtain ⟨a, b, c⟩ := okLt_iff ok
  have h2 := hR.units
  have h3 := min60 (b := e.depth) c
  exact PySem.W.lt_data r1 r2 a b (by omega) q
theorem okLt_swap {d e : PyData} (h : okLt e d = true) : PySem.W.alike d e = true ∧ d ≠ .none ∧ min d.depth e.depth ≤ 60 := by
  obtain ⟨a, b, c⟩ := okLt_iff h
  exact ⟨by rw [PySem.W.alike_comm]; exact a, PySem.W.ne_none_both a b, Nat.le_trans (Nat.min_le_right _ _) c⟩
theorem opGtD (hK : X.K = G.K) (hS : G.Sys) (hR : Room k X.A) : OpR X (compareOp .Gt) (rD2 G (fun d e => okLt e d) fun d e => PySem.W.dataLt e d) := opD2 hK hS fun s u v d e as bs Q r1 r2 ok q => by
  obtain ⟨a, b, c⟩ := okLt_swap ok
  have h2 := hR.units
  exact PySem.W.gt_data r1 r2 a b (by omega) q
theorem opLeD (hK : X.K = G.K) (hS : G.Sys) (hR : Room k X.A) : OpR X (compareOp .LtE) (rD2 G (fun d e => okLt e d) fun d e => !PySem.W.dataLt e d) := opD2 hK hS fun s u v d e as bs Q r1 r2 ok q => by
  obtain ⟨a, b, c⟩ := okLt_swap ok
  have h2 := hR.units
  exact PySem.W.le_data r1 r2 a b (by omega) q
theorem opGeD (hK : X.K = G.K) (hS : G.Sys) (hR : Room k X.A) : OpR X (compareOp .GtE) (rD2 G okLt fun d e => !PySem.W.dataLt d e) := opD2 hK hS fun s u v d e as bs Q r1 r2 ok q => by
  obtain ⟨a, b, c⟩ := okLt_iff ok
  have h2 := hR.units
  have h3 := min60 (b := e.depth) c
  exact PySem.W.ge_data r1 r2 a b (by omega) q
def CmpI (G : Gl) (X : Cx) (f : Value → Value → Sem Value) (g : Val → Val → Option Bool) : Prop :=
  ∀ (C : Cf) (x y : Val) (v w : V) (b : Bool) (Q : VK), NR G C x v → NR G C y w → g x y = some b → Q (.bl b) C.H → ∃ r2 : R2, OpR X f r2 ∧ r2 v w C.H Q
theorem veq_some {x y : Val} {b : Bool} (h : veq x y = some b) : ∃ d e, toD x = some d ∧ toD y = some e ∧ okEq d e = true ∧ PyData.eqv d e = b := by
  unfold veq at h
  split at h
  · split at h
    · rename_i d e h1 h2 h3
      exact ⟨d, e, h1, h2, h3, Option.some.inj h⟩
    · cases h
  · cases h
theorem eq_ok0 (hK : X.K = G.K) (hS : G.Sys) (hR : Room k X.A) : CmpI G X (compareOp .Eq) veq := fun C x y v w b Q hx hy e q => by
  obtain ⟨d, d', h1, h2, h3, rfl⟩ := veq_some e
  exact ⟨_, opEqD hK hS hR, C, x, y, d, d', rfl, hx, hy, h1, h2, h3, q⟩
theorem ne_ok0 (hK : X.K = G.K) (hS : G.Sys) (hR : Room k X.A) : CmpI G X (compareOp .NotEq) (fun a b => (veq a b).map (!·)) := fun C x y v w b Q hx hy e q => by
  obtain ⟨b', e2, rfl⟩ := Option.map_eq_some_iff.mp e
  clear e
  have e := e2
  clear e2
  obtain ⟨d, d', h1, h2, h3, rfl⟩ := veq_some e
  exact ⟨_, opNeD hK hS hR, C, x, y, d, d', rfl, hx, hy, h1, h2, h3, q⟩
theorem vlt_some {x y : Val} {b : Bool} (h : vlt x y = some b) : (∃ i j, x = .int i ∧ y = .int j ∧ b = decide (i < j)) ∨ ∃ d e, toD x = some d ∧ toD y = some e ∧ okLt d e = true ∧ PySem.W.dataLt d e = b := by
  unfold vlt at h
  split at h
  · exact .inl ⟨_, _, rfl, rfl, (Option.some.inj h).symm⟩
  · split at h
    · split at h
      · rename_i d e h1 h2 h3
        exact .inr ⟨d, e, h1, h2, h3, Option.some.inj h⟩
      · cases h
    · cases h
theorem lt_ok (hK : X.K = G.K) (hS : G.Sys) (hR : Room k X.A) : CmpI G X (compareOp .Lt) vlt := fun C x y v w b Q hx hy e q => by
  rcases vlt_some e with ⟨i, j, rfl, rfl, rfl⟩ | ⟨d, d', h1, h2, h3, rfl⟩
  · cases hx.int; cases hy.int
    exact ⟨_, op_lt, _, _, rfl, rfl, q⟩
  · exact ⟨_, opLtD hK hS hR, C, x, y, d, d', rfl, hx, hy, h1, h2, h3, q⟩
theorem gt_ok (hK : X.K = G.K) (hS : G.Sys) (hR : Room k X.A) : CmpI G X (compareOp .Gt) (fun a b => vlt b a) := fun C x y v w b Q hx hy e q => by
  rcases vlt_some e with ⟨i, j, rfl, rfl, rfl⟩ | ⟨d, d', h1, h2, h3, rfl⟩
  · cases hx.int; cases hy.int
    exact ⟨_, op_gt, _, _, rfl, rfl, q⟩
  · exact ⟨_, opGtD hK hS hR, C, x, y, d', d, rfl, hx, hy, h2, h1, h3, q⟩
theorem le_flip {i j : Int} : (!decide (j < i)) = decide (i ≤ j) := by
  by_cases h : i ≤ j
  · rw [decide_eq_true h, decide_eq_false (by omega)]; rfl
  · rw [decide_eq_false h, decide_eq_true (by omega)]; rfl
theorem le_ok (hK : X.K = G.K) (hS : G.Sys) (hR : Room k X.A) : CmpI G X (compareOp .LtE) (fun a b => (vlt b a).map (!·)) := fun C x y v w b Q hx hy e q => by
  obtain ⟨b', e2, rfl⟩ := Option.map_eq_some_iff.mp e
  clear e
  have e := e2
  clear e2
  rcases vlt_some e with ⟨i, j, rfl, rfl, rfl⟩ | ⟨d, d', h1, h2, h3, rfl⟩
  · cases hx.int; cases hy.int
    rw [le_flip] at q
    exact ⟨_, op_le, _, _, rfl, rfl, q⟩
  · exact ⟨_, opLeD hK hS hR, C, x, y, d', d, rfl, hx, hy, h2, h1, h3, q⟩
theorem ge_ok (hK : X.K = G.K) (hS : G.Sys) (hR : Room k X.A) : CmpI G X (compareOp .GtE) (fun a b => (vlt a b).map (!·)) := fun C x y v w b Q hx hy e q => by
  obtain ⟨b', e2, rfl⟩ := Option.map_eq_some_iff.mp e
  clear e
  have e := e2
  clear e2
  rcases vlt_some e with ⟨i, j, rfl, rfl, rfl⟩ | ⟨d, d', h1, h2, h3, rfl⟩
  · cases hx.int; cases hy.int
    rw [le_flip] at q
    exact ⟨_, op_ge, _, _, rfl, rfl, q⟩
  · exact ⟨_, opGeD hK hS hR, C, x, y, d, d', rfl, hx, hy, h1, h2, h3, q⟩
/-! ### in -/
def rInI (G : Gl) (neg : Bool) : R2 := fun x y H Q => ∃ C a ys d ds b, C.H = H ∧ NR G C a x ∧ (NR G C (.lst ys) y ∨ NR G C (.tup ys) y) ∧ toD a = some d ∧ toDs ys = some ds ∧ okD d = true ∧ PyData.plainAll ds = true ∧ PyData.depthAll ds ≤ 60 ∧ b = (ds.any fun z => PyData.eqv z d) ∧ Q (.bl (if neg then !b else b)) H
theorem opInI (hK : X.K = G.K) (hS : G.Sys) (hR : Room k X.A) : OpR X (compareOp .In) (rInI G false) := by
  intro pins s σ H x y v u Q I rx ry h
  obtain ⟨C, a, ys, d, ds, b, rfl, ha, hy, ed, es, h1, h2, h3, rfl, q⟩ := h
  have h4 := okD_iff h1
  have h5 := hR.units
  have h6 := min60 (b := d.depth) h3
  obtain ⟨as, r1, _⟩ := NR.reads I hK hS ha rx ed
  rcases hy with hy | hy
  · obtain ⟨bs, r2, _⟩ := NR.reads I hK hS (d := .list ds) hy ry (by unfold toD; rw [es])
    exact PySem.SeqAt.in_list_data r2 r1 h2 h4.1 (by omega) ⟨.bl _, C.H, I, rfl, q⟩
  · obtain ⟨bs, r2, _⟩ := NR.reads I hK hS (d := .tuple ds) hy ry (by unfold toD; rw [es])
    exact PySem.SeqAt.in_tuple_data r2 r1 h2 h4.1 (by omega) ⟨.bl _, C.H, I, rfl, q⟩
theorem opNotInI (hK : X.K = G.K) (hS : G.Sys) (hR : Room k X.A) : OpR X (compareOp .NotIn) (rInI G true) := by
  intro pins s σ H x y v u Q I rx ry h
  obtain ⟨C, a, ys, d, ds, b, rfl, ha, hy, ed, es, h1, h2, h3, rfl, q⟩ := h
  have h4 := okD_iff h1
  have h5 := hR.units
  have h6 := min60 (b := d.depth) h3
  obtain ⟨as, r1, _⟩ := NR.reads I hK hS ha rx ed
  rcases hy with hy | hy
  · obtain ⟨bs, r2, _⟩ := NR.reads I hK hS (d := .list ds) hy ry (by unfold toD; rw [es])
    exact PySem.SeqAt.notIn_list_data r2 r1 h2 h4.1 (by omega) ⟨.bl _, C.H, I, rfl, q⟩
  · obtain ⟨bs, r2, _⟩ := NR.reads I hK hS (d := .tuple ds) hy ry (by unfold toD; rw [es])
    exact PySem.SeqAt.notIn_tuple_data r2 r1 h2 h4.1 (by omega) ⟨.bl _, C.H, I, rfl, q⟩
theorem opInDict (hR : Room k X.A) : OpR X (compareOp .In) (fun x y H Q => ∃ a o, y = .ref a ∧ DGet H a x o ∧ Q (.bl o.isSome) H) := by
  intro pins s σ H x y v u Q I rx ry h
  obtain ⟨a, o, rfl, g, q⟩ := h
  cases ry
  have h5 := hR.units
  exact d_in (by omega) I g rx fun s' I' => ⟨.bl _, H, I', rfl, q⟩
theorem opNotInDict (hR : Room k X.A) : OpR X (compareOp .NotIn) (fun x y H Q => ∃ a o, y = .ref a ∧ DGet H a x o ∧ Q (.bl (!o.isSome)) H) := by
  intro pins s σ H x y v u Q I rx ry h
  obtain ⟨a, o, rfl, g, q⟩ := h
  cases ry
  have h5 := hR.units
  exact d_notIn (by omega) I g rx fun s' I' => ⟨.bl _, H, I', rfl, q⟩
theorem keyV_ok {C : Cf} {x : Val} {v : V} {kk : Key} (h : NR G C x v) (e : keyV x = some kk) : v = kV kk := by
  unfold keyV at e
  split at e
  · cases e; exact h.int
  · cases e; exact h.str
  · cases e
theorem VRk.get {C : Cf} {kk : Key} : ∀ {kvs : List (Key × Val)} {ks : List (Key × V)}, VRk G C kvs ks → (match dget kvs kk with | some x => ∃ v, valV ks kk = some v ∧ VR G C x v | none => valV ks kk = none)
  | [], ks, h => by unfold VRk at h; subst h; rfl
  | (j, x) :: r, ks, h => by
    unfold VRk at h
    obtain ⟨y, r', e, a, b⟩ := h
    subst e
    by_cases hj : j = kk
    · subst hj
      have h1 : dget ((j, x) :: r) j = some x := by simp [dget]
      rw [h1]
      exact ⟨y, valV_pos rfl, a⟩
    · have h1 : dget ((j, x) :: r) kk = dget r kk := by simp [dget, hj]
      rw [h1, valV_neg hj]
      exact VRk.get b
theorem VRk.isSome {C : Cf} {kk : Key} {kvs : List (Key × Val)} {ks : List (Key × V)} (h : VRk G C kvs ks) : (valV ks kk).isSome = (dget kvs kk).isSome := by
  have h1 := h.get (kk := kk)
  cases e : dget kvs kk with
  | none => rw [e] at h1; rw [h1]; rfl
  | some x => rw [e] at h1; obtain ⟨v, h2, _⟩ := h1; rw [h2]; rfl
theorem vin_ok (hK : X.K = G.K) (hS : G.Sys) (hR : Room k X.A) : CmpI G X (compareOp .In) vin := fun C x y v w b Q hx hy e q => by
  unfold vin at e
  split at e
  · rename_i ys
    split at e
    · split at e
      · rename_i d ds h1 h2 h3
        simp only [Bool.and_eq_true, decide_eq_true_eq] at h3
        cases e
        exact ⟨_, opInI hK hS hR, C, x, ys, d, ds, _, rfl, hx, .inl hy, h1, h2, h3.1, h3.2.1, h3.2.2, rfl, q⟩
      · cases e
    · cases e
  · rename_i ys
    split at e
    · split at e
      · rename_i d ds h1 h2 h3
        simp only [Bool.and_eq_true, decide_eq_true_eq] at h3
        cases e
        exact ⟨_, opInI hK hS hR, C, x, ys, d, ds, _, rfl, hx, .inr hy, h1, h2, h3.1, h3.2.1, h3.2.2, rfl, q⟩
      · cases e
    · cases e
  · rename_i kvs
    split at e
    · rename_i kk h1
      cases e
      obtain ⟨p, ks, rfl, hp, hr⟩ := hy
      cases keyV_ok hx h1
      exact ⟨_, opInDict hR, p, valV ks kk, rfl, .inl ⟨ks, kk, hp, rfl, rfl⟩, by rw [hr.isSome]; exact q⟩
    · cases e
  · split at e
    · cases e
      cases hx.str; cases hy.str
      exact ⟨_, op_in_str, _, _, rfl, rfl, q⟩
    · cases e
  · cases e
theorem vnin_ok (hK : X.K = G.K) (hS : G.Sys) (hR : Room k X.A) : CmpI G X (compareOp .NotIn) (fun a b => (vin a b).map (!·)) := fun C x y v w b Q hx hy e q => by
  obtain ⟨b', e2, rfl⟩ := Option.map_eq_some_iff.mp e
  clear e
  have e := e2
  clear e2
  unfold vin at e
  split at e
  · rename_i ys
    split at e
    · split at e
      · rename_i d ds h1 h2 h3
        simp only [Bool.and_eq_true, decide_eq_true_eq] at h3
        cases e
        exact ⟨_, opNotInI hK hS hR, C, x, ys, d, ds, _, rfl, hx, .inl hy, h1, h2, h3.1, h3.2.1, h3.2.2, rfl, q⟩
      · cases e
    · cases e
  · rename_i ys
    split at e
    · split at e
      · rename_i d ds h1 h2 h3
        simp only [Bool.and_eq_true, decide_eq_true_eq] at h3
        cases e
        exact ⟨_, opNotInI hK hS hR, C, x, ys, d, ds, _, rfl, hx, .inr hy, h1, h2, h3.1, h3.2.1, h3.2.2, rfl, q⟩
      · cases e
    · cases e
  · rename_i kvs
    split at e
    · rename_i kk h1
      cases e
      obtain ⟨p, ks, rfl, hp, hr⟩ := hy
      cases keyV_ok hx h1
      exact ⟨_, opNotInDict hR, p, valV ks kk, rfl, .inl ⟨ks, kk, hp, rfl, rfl⟩, by rw [hr.isSome]; exact q⟩
    · cases e
  · split at e
    · cases e
      cases hx.str; cases hy.str
      exact ⟨_, op_notin_str, _, _, rfl, rfl, q⟩
    · cases e
  · cases e
theorem is_ok : CmpI G X (compareOp .Is) vis := fun C x y v w b Q hx hy e q => by
  unfold vis at e
  split at e
  · have hw := hy.non
    subst hw
    refine ⟨_, op_isN, rfl, ?_⟩
    have : decide (v = .non) = b := by
      split at e
      · cases e; exact decide_eq_true hx.non
      · cases e
      · rename_i n1 n2
        cases e
        refine decide_eq_false fun z => ?_
        subst z
        cases x with
        | non => exact n1 rfl
        | bad => exact n2 rfl
        | lst xs => obtain ⟨p, ys, e, _⟩ := hx; cases e
        | dct xs => obtain ⟨p, ys, e, _⟩ := hx; cases e
        | odd xs => unfold NR at hx; unfold VR at hx; obtain ⟨p, _, _, _, e, _⟩ := hx; cases e
        | tup xs => obtain ⟨p, ys, e, _⟩ := hx.tup; cases e
        | scr xs => obtain ⟨p, e, _⟩ := hx.scr; cases e
        | int i => cases hx.int
        | bl i => cases hx.bl
        | str i => cases hx.str
        | ref i => unfold NR at hx; unfold VR at hx; obtain ⟨p, _, e⟩ := hx; cases e
    rw [this]
    exact q
  · split at e
    · cases e
      cases hx.bl; cases hy.bl
      refine ⟨_, op_isBl, _, _, rfl, rfl, ?_⟩
      rw [← dec_bl] at q
      simpa using q
    · cases e
  · cases e
theorem isnot_ok : CmpI G X (compareOp .IsNot) (fun a b => (vis a b).map (!·)) := fun C x y v w b Q hx hy e q => by
  obtain ⟨b', e2, rfl⟩ := Option.map_eq_some_iff.mp e
  clear e
  have e := e2
  clear e2
  unfold vis at e
  split at e
  · have hw := hy.non
    subst hw
    refine ⟨_, op_notN, rfl, ?_⟩
    have : decide (v = .non) = b' := by
      split at e
      · cases e; exact decide_eq_true hx.non
      · cases e
      · rename_i n1 n2
        cases e
        refine decide_eq_false fun z => ?_
        subst z
        cases x with
        | non => exact n1 rfl
        | bad => exact n2 rfl
        | lst xs => obtain ⟨p, ys, e, _⟩ := hx; cases e
        | dct xs => obtain ⟨p, ys, e, _⟩ := hx; cases e
        | odd xs => unfold NR at hx; unfold VR at hx; obtain ⟨p, _, _, _, e, _⟩ := hx; cases e
        | tup xs => obtain ⟨p, ys, e, _⟩ := hx.tup; cases e
        | scr xs => obtain ⟨p, e, _⟩ := hx.scr; cases e
        | int i => cases hx.int
        | bl i => cases hx.bl
        | str i => cases hx.str
        | ref i => unfold NR at hx; unfold VR at hx; obtain ⟨p, _, e⟩ := hx; cases e
    rw [this]
    exact q
  · split at e
    · cases e
      cases hx.bl; cases hy.bl
      refine ⟨_, op_notBl, _, _, rfl, rfl, ?_⟩
      rw [← dec_bl] at q
      simpa using q
    · cases e
  · cases e
def cop : Cop → CmpOp
  | .eq => .Eq | .ne => .NotEq | .lt => .Lt | .le => .LtE | .gt => .Gt | .ge => .GtE | .isin => .In | .notin => .NotIn | .is_ => .Is | .isnot => .IsNot
def bop : Bop → Operator
  | .add => .Add | .sub => .Sub | .mul => .Mult | .fdiv => .FloorDiv | .mod => .Mod | .pow => .Pow
section
variable {G : Gl} {X : Cx} {k : Nat}
theorem VRk.length' {G : Gl} {C : Cf} : ∀ {xs : List (Key × Val)} {ys : List (Key × V)}, VRk G C xs ys → xs.length = ys.length
  | [], ys, h => by unfold VRk at h; subst h; rfl
  | (j, x) :: xs, ys, h => by
    unfold VRk at h
    obtain ⟨y, r, rfl, a, b⟩ := h
    simp [VRk.length' b]
theorem hits_K {pins : List (Addr × Obj)} {σ : L2.St} {s : Shared} {C : Cf} {A : Around} (I : Inv X pins σ C.H s) (hK : X.K = G.K) (hS : G.Sys) (hu : A.units + 60 < cLine) {kb : List (Key × Val)} {ls : List (Key × V)} {vb : List (Key × Value)} (hb : VRk G C kb ls) (rb : KV ls vb) :
    ∀ {ka : List (Key × Val)} {ks : List (Key × V)} {va : List (Key × Value)} {b : Bool}, VRk G C ka ks → KV ks va → deqK kb ka = some b → PySem.W.KeqHits A s vb va b
  | [], ks, va, b, h, r, e => by
    unfold VRk at h
    subst h
    cases r
    cases e
    exact .nil
  | (key, x) :: ka, ks, va, b, h, r, e => by
    unfold VRk at h
    obtain ⟨y, ks', rfl, hx, h⟩ := h
    cases r with
    | @cons p q ps qs hd r =>
      obtain ⟨h1, h2⟩ := hd
      obtain ⟨key', u⟩ := q
      have h1 : key = key' := h1
      subst h1
      have rr := rb.val key
      unfold deqK at e
      cases q : dget kb key with
      | none =>
        simp only [q, Option.some.injEq] at e
        subst e
        have hn : valV ls key = none := by
          have := hb.isSome (kk := key)
          rw [q] at this
          cases z : valV ls key with
          | none => rfl
          | some y => rw [z] at this; cases this
        rw [hn] at rr
        refine .miss ?_
        cases z : valueAt vb key with
        | none => rfl
        | some z' => rw [z] at rr; cases rr
      | some y' =>
        simp only [q] at e
        have hg := hb.get (kk := key)
        rw [q] at hg
        obtain ⟨w, hw, hw2⟩ := hg
        rw [hw] at rr
        obtain ⟨w', hv, rw'⟩ := rr.some_of
        cases q1 : veq x y' with
        | none => simp [q1] at e
        | some e1 =>
          cases q2 : deqK kb ka with
          | none => simp [q1, q2] at e
          | some b1 =>
            simp only [q1, q2, Option.some.injEq] at e
            subst e
            obtain ⟨d, d', h3, h4, h5, rfl⟩ := veq_some q1
            obtain ⟨as, r1, _⟩ := NR.reads I hK hS hx.nr h2 h3
            obtain ⟨bs, r2, _⟩ := NR.reads I hK hS hw2.nr rw' h4
            unfold okEq at h5
            simp only [Bool.and_eq_true] at h5
            have k1 := okD_iff h5.1
            have k2 := okD_iff h5.2
            have h3 := min60 (b := d'.depth) k1.2
            exact .hit hv (PySem.SeqAt.eqAt_plain d d' A s u w' as bs r1 r2 k1.1 k2.1 (by omega)) (hits_K I hK hS hu hb rb h r q2)
def rDK (G : Gl) (ng : Bool) : R2 := fun x y H Q => ∃ C ka kb b, C.H = H ∧ NR G C (.dct ka) x ∧ NR G C (.dct kb) y ∧ (if ka.length = kb.length then deqK kb ka else some false) = some b ∧ Q (.bl (b != ng)) H
theorem dk_pre {pins : List (Addr × Obj)} {σ : L2.St} {s : Shared} {C : Cf} {A : Around} (I : Inv X pins σ C.H s) (hK : X.K = G.K) (hS : G.Sys) (hu : A.units + 60 < cLine) {ka kb : List (Key × Val)} {x y : V} {v u : Value} {b : Bool} (hx : NR G C (.dct ka) x) (hy : NR G C (.dct kb) y) (rx : RelV x v) (ry : RelV y u)
    (e : (if ka.length = kb.length then deqK kb ka else some false) = some b) : ∃ (p q : Addr) (va vb : List (Key × Value)) (r : Bool), v = .ref p ∧ u = .ref q ∧ (p == sysModules) = false ∧ (q == sysModules) = false ∧ s.heap.DictOf (mixKind X.prog X.w) p va ∧ s.heap.DictOf (mixKind X.prog X.w) q vb ∧ (va.length = vb.length → PySem.W.KeqHits A s vb va r) ∧ (va.length == vb.length && r) = b := by
  obtain ⟨p, ks, rfl, hp, hk⟩ := hx
  obtain ⟨q, ls, rfl, hq, hl⟩ := hy
  cases rx
  cases ry
  obtain ⟨_, y1, va, ra, da⟩ := dk_rd I.hok hp
  obtain ⟨_, y2, vb, rb, db⟩ := dk_rd I.hok hq
  have l1 : va.length = ka.length := by rw [hk.length']; exact ra.length.symm
  have l2 : vb.length = kb.length := by rw [hl.length']; exact rb.length.symm
  by_cases hc : ka.length = kb.length
  · rw [if_pos hc] at e
    exact ⟨p, q, va, vb, b, rfl, rfl, y1, y2, da, db, fun _ => hits_K I hK hS hu hl rb hk ra e, by rw [l1, l2, hc]; simp⟩
  · rw [if_neg hc] at e
    cases e
    exact ⟨p, q, va, vb, false, rfl, rfl, y1, y2, da, db, fun z => absurd (by rw [← l1, ← l2, z]) hc, by simp⟩
theorem opDKe (hK : X.K = G.K) (hS : G.Sys) (hR : Room k X.A) : OpR X (compareOp .Eq) (rDK G false) := by
  intro pins s σ H x y v u Q I rx ry ⟨C, ka, kb, b, hC, hx, hy, e, q⟩
  subst hC
  have h2 := hR.units
  obtain ⟨p, p2, va, vb, r, rfl, rfl, y1, y2, da, db, hh, hb⟩ := dk_pre (A := X.A.in1) I hK hS (by show X.A.units + 1 + 60 < cLine; omega) hx hy rx ry e
  refine PySem.W.keq_eq (knd := mixKind X.prog X.w) y1 y2 da db (by omega) hh ?_
  rw [hb]
  exact ⟨.bl b, C.H, I, rfl, by simpa using q⟩
theorem opDKn (hK : X.K = G.K) (hS : G.Sys) (hR : Room k X.A) : OpR X (compareOp .NotEq) (rDK G true) := by
  intro pins s σ H x y v u Q I rx ry ⟨C, ka, kb, b, hC, hx, hy, e, q⟩
  subst hC
  have h2 := hR.units
  obtain ⟨p, p2, va, vb, r, rfl, rfl, y1, y2, da, db, hh, hb⟩ := dk_pre (A := X.A.in1) I hK hS (by show X.A.units + 1 + 60 < cLine; omega) hx hy rx ry e
  refine PySem.W.keq_ne (knd := mixKind X.prog X.w) y1 y2 da db (by omega) hh ?_
  rw [hb]
  exact ⟨.bl (!b), C.H, I, rfl, by cases b <;> simpa using q⟩
end
end
end Rs
end
section
set_option maxRecDepth 100000
set_option maxHeartbeats 4000000
/-! Comparison of lists that hold dicts. -/
namespace PySem.SeqAt
open AutoSeq1 (wpAny_loadPart')
open MeetsSeq MeetsSeq2 MeetsSeq3 SeqRoads2
section
variable {prog : Program} {w : World}
theorem rs_ne_turns (l b : Addr) (xs ys : Array Value) (n n2 : Nat) (dd dd2 : Option Addr) (sl sl2 : Array (Option Value)) (hsz : xs.size = ys.size) (e : Nat → Bool) :
    ∀ k i : Nat, xs.size - i = k → MeetsIn prog w (Builtin.«list.__eq__.loop» ⟨[.ref l, .ref b, rawInt i, rawInt 3], []⟩)
      (fun A R s => s.heap.get? l = some { cls := .type "list", dict := dd, data := .seq xs n, slots := sl } ∧ s.heap.get? b = some { cls := .type "list", dict := dd2, data := .seq ys n2, slots := sl2 } ∧
        (∀ j (h1 : j < xs.size) (h2 : j < ys.size), EqIn prog w A.in1 s xs[j] ys[j] (e j)) ∧ R (.ok (.ret (.bool (!((List.range xs.size).drop i).all e)))) s)
  | 0, i, hk, A, R, ⟨hp, g, d, tk, os⟩, ⟨hl, hb, he, h⟩ => by
    wp_walk using wpAny_loadPart' hl, wpAny_loadPart' hb
    have hi1 : xs[((i : Nat) : Int).toNat]? = none := by simp; omega
    have hi2 : ys[((i : Nat) : Int).toNat]? = none := by simp; omega
    have hd : (List.range xs.size).drop i = [] := by simp; omega
    rw [hd] at h
    rw [hi1, hi2]
    wp_walk using wpAny_loadPart' hl, wpAny_loadPart' hb
    show R (.ok (.ret (.bool (xs.size != ys.size)))) _
    rw [hsz]
    simpa using h
  | k + 1, i, hk, A, R, ⟨hp, g, d, tk, os⟩, ⟨hl, hb, he, h⟩ => by
    wp_walk using wpAny_loadPart' hl, wpAny_loadPart' hb
    have hlt : i < xs.size := by omega
    have hlt2 : i < ys.size := by omega
    have hi1 : xs[((i : Nat) : Int).toNat]? = some xs[i] := by simp [hlt]
    have hi2 : ys[((i : Nat) : Int).toNat]? = some ys[i] := by simp [hlt2]
    have hd : (List.range xs.size).drop i = i :: (List.range xs.size).drop (i + 1) := by simp [List.drop_eq_getElem_cons, hlt]
    have hc : ((i : Int) + 1) = ((i + 1 : Nat) : Int) := by push_cast; rfl
    rw [hd, List.all_cons] at h
    rw [hi1, hi2]
    refine wpAny_bind (he i hlt hlt2 _ _ ?_)
    cases q : e i with
    | true =>
      rw [q] at h
      wp_walk
      rw [hc]
      exact ⟨plainId_quiet plain_eq_loop _, codeAny_builtin entry_eq_loop (by
        rw [Around.under_plainId plain_eq_loop _]
        exact rs_ne_turns l b xs ys n n2 dd dd2 sl sl2 hsz e k (i + 1) (by omega) A R _ ⟨hl, hb, he, by simpa using h⟩)⟩
    | false =>
      rw [q] at h
      wp_walk using wpAny_loadPart' hl, wpAny_loadPart' hb
      rw [hi1, hi2]
      wp_walk
      simpa using h
theorem rs_list_ne (l b : Addr) (xs ys : Array Value) (n n2 : Nat) (dd dd2 : Option Addr) (sl sl2 : Array (Option Value)) (hsz : xs.size = ys.size) (e : Nat → Bool) :
    MeetsIn prog w (Builtin.«list.__ne__» ⟨[.ref l, .ref b], []⟩)
      (fun A R s => s.heap.get? l = some { cls := .type "list", dict := dd, data := .seq xs n, slots := sl } ∧ s.heap.get? b = some { cls := .type "list", dict := dd2, data := .seq ys n2, slots := sl2 } ∧
        (∀ j (h1 : j < xs.size) (h2 : j < ys.size), EqIn prog w A.in1 s xs[j] ys[j] (e j)) ∧ R (.ok (.ret (.bool (!(List.range xs.size).all e)))) s) := by
  intro A R s h
  obtain ⟨hp, g, d, tk, os⟩ := s; obtain ⟨hl, hb, he, h⟩ := h
  have f3 := AutoSeq1.sub_list_list
  have hne : ¬ (xs.size != ys.size) = true := by simp [hsz]
  wp_walk using wpAny_loadPart' hl, wpAny_loadPart' hb
  exact ⟨plainId_quiet plain_eq_loop _, codeAny_builtin entry_eq_loop (by
    rw [Around.under_plainId plain_eq_loop _]
    exact rs_ne_turns l b xs ys n n2 dd dd2 sl sl2 hsz e _ 0 rfl A R _ ⟨hl, hb, he, by simpa using h⟩)⟩
theorem rs_lists_ne {A : Around} {s : Shared} {E : Value → Shared → Prop} {l b : Addr} {xs ys : Array Value} {e : Nat → Bool} {Q : Value → Shared → Prop} (hl : s.heap.IsList l xs) (hb : s.heap.IsList b ys) (hsz : xs.size = ys.size) (hu : A.units < cLine)
    (he : ∀ j (h1 : j < xs.size) (h2 : j < ys.size), EqIn prog w A.in1 s xs[j] ys[j] (e j)) (h : Q (.bool (!(List.range xs.size).all e)) s) : wpAny (model prog w) A (richCompare .NotEq (.ref l) (.ref b)) Q E s := by
  obtain ⟨⟨cls, dd, data, sl⟩, ho, hc, n, hd⟩ := id hl
  obtain ⟨⟨cls2, dd2, data2, sl2⟩, ho2, hc2, n2, hd2⟩ := id hb
  simp only at hc hd hc2 hd2
  subst hc hd hc2 hd2
  exact wpAny_richCompare_same_room (T := "list") (op := .NotEq) ⟨_, ho, rfl⟩ ⟨_, ho2, rfl⟩ F.slot_list_ne (call_meetsIn F.slot_list_ne ⟨_, ho, rfl⟩ F.entry_list_ne (F.args_list_ne_2 _ _) (rs_list_ne l b xs ys n n2 dd dd2 sl sl2 hsz e)
    ⟨ho, ho2, he, show Value.bool (!(List.range xs.size).all e) ≠ Value.notImplemented ∧ Q (.bool (!(List.range xs.size).all e)) s from ⟨(fun x => nomatch x), h⟩⟩) hu
theorem rs_list_neL (l b : Addr) (xs ys : Array Value) (n n2 : Nat) (dd dd2 : Option Addr) (sl sl2 : Array (Option Value)) (hc0 : (xs.size != ys.size) = true) :
    Meets (Builtin.«list.__ne__» ⟨[.ref l, .ref b], []⟩)
      (fun _ R s => s.heap.get? l = some { cls := .type "list", dict := dd, data := .seq xs n, slots := sl } ∧ s.heap.get? b = some { cls := .type "list", dict := dd2, data := .seq ys n2, slots := sl2 } ∧
        R (.ok (.ret (.bool true))) s) :=
  .of_wp fun prog w A R s h => by
    obtain ⟨hp, g, d, tk, os⟩ := s; obtain ⟨hl, hb, h⟩ := h
    have f3 := AutoSeq1.sub_list_list
    wp_walk using wpAny_loadPart' hl, wpAny_loadPart' hb
    exact ⟨_, rfl, h⟩
theorem rs_lists_neL {A : Around} {s : Shared} {E : Value → Shared → Prop} {l b : Addr} {xs ys : Array Value} {Q : Value → Shared → Prop} (hl : s.heap.IsList l xs) (hb : s.heap.IsList b ys) (hsz : (xs.size != ys.size) = true) (hu : A.units < cLine)
    (h : Q (.bool true) s) : wpAny (model prog w) A (richCompare .NotEq (.ref l) (.ref b)) Q E s := by
  obtain ⟨⟨cls, dd, data, sl⟩, ho, hc, n, hd⟩ := id hl
  obtain ⟨⟨cls2, dd2, data2, sl2⟩, ho2, hc2, n2, hd2⟩ := id hb
  simp only at hc hd hc2 hd2
  subst hc hd hc2 hd2
  exact richCompare_meets_room (op := .NotEq) ⟨_, ho, rfl⟩ ⟨_, ho2, rfl⟩ F.slot_list_ne F.entry_list_ne (F.args_list_ne_2 _ _) (rs_list_neL l b xs ys n n2 dd dd2 sl sl2 hsz)
    ⟨ho, ho2, show Value.bool true ≠ Value.notImplemented ∧ Q (.bool true) s from ⟨(fun x => nomatch x), h⟩⟩ hu
end
end PySem.SeqAt
namespace Rs
open PySem PySem.Spec PyProof.Rows L2
theorem eqL_ix {f : Val → Val → Option Bool} : ∀ {xs ys : List Val} {b : Bool}, xs.length = ys.length → eqL f xs ys = some b → ∃ e : Nat → Bool, b = (List.range xs.length).all e ∧ ∀ j (h1 : j < xs.length) (h2 : j < ys.length), f xs[j] ys[j] = some (e j)
  | [], [], b, _, h => ⟨fun _ => true, by cases h; rfl, fun j h1 => absurd h1 (Nat.not_lt_zero _)⟩
  | x :: xs, y :: ys, b, hl, h => by
    unfold eqL at h
    cases q1 : f x y with
    | none => simp [q1] at h
    | some a =>
      cases q2 : eqL f xs ys with
      | none => simp [q1, q2] at h
      | some c =>
        simp only [q1, q2, Option.some.injEq] at h
        obtain ⟨e, h1, h2⟩ := eqL_ix (by simpa using hl) q2
        refine ⟨fun j => match j with | 0 => a | j + 1 => e j, ?_, fun j => ?_⟩
        · rw [List.length_cons, List.range_succ_eq_map, List.all_cons, List.all_map, ← h, h1]
          rfl
        · cases j with
          | zero => intro _ _; exact q1
          | succ j => intro h3 h4; exact h2 j (by simpa using h3) (by simpa using h4)
theorem deqS_all {kb : List (Key × Val)} : ∀ {ka : List (Key × Val)} {b : Bool}, deqS kb ka = some b → (∀ k a, (k, a) ∈ ka → ∀ c, dget kb k = some c → ∃ r, veq a c = some r) ∧ b = ka.all fun p => match dget kb p.1 with | none => false | some c => (veq p.2 c).getD false
  | [], b, h => ⟨fun _ _ z => absurd z List.not_mem_nil, by cases h; rfl⟩
  | (k, v) :: ka, b, h => by
    unfold deqS at h
    cases q2 : deqS kb ka with
    | none => cases q1 : dget kb k <;> simp [q1, q2] at h
    | some c =>
      obtain ⟨h1, h2⟩ := deqS_all q2
      cases q1 : dget kb k with
      | none =>
        simp only [q1, q2, Option.some.injEq] at h
        refine ⟨fun k' a hm c' hc => ?_, by rw [List.all_cons, q1, ← h]; rfl⟩
        rcases List.mem_cons.mp hm with e | hm
        · cases e; rw [q1] at hc; cases hc
        · exact h1 k' a hm c' hc
      | some y =>
        simp only [q1, q2] at h
        obtain ⟨r, hr, rfl⟩ := Option.map_eq_some_iff.mp h
        refine ⟨fun k' a hm c' hc => ?_, by rw [List.all_cons, ← h2]; simp only [q1, hr, Option.getD_some]⟩
        rcases List.mem_cons.mp hm with e | hm
        · cases e; rw [q1] at hc; cases hc; exact ⟨r, hr⟩
        · exact h1 k' a hm c' hc
section
variable {G : Gl} {X : Cx} {pins : List (Addr × Obj)} {σ : L2.St} {s : Shared} {C : Cf}
theorem leaf_tree (I : Inv X pins σ C.H s) (hK : X.K = G.K) (hS : G.Sys) {n : Nat} {x y : Val} {v w : V} {u t : Value} {b : Bool} (hx : NR G C x v) (hy : NR G C y w) (ru : RelV v u) (rt : RelV w t) (e : veq x y = some b) : PySem.W.EqTree X.prog X.w s (60 + n) u t b := by
  obtain ⟨d, d', h3, h4, h5, rfl⟩ := veq_some e
  obtain ⟨as, r1, _⟩ := NR.reads I hK hS hx ru h3
  obtain ⟨bs, r2, _⟩ := NR.reads I hK hS hy rt h4
  unfold okEq at h5
  simp only [Bool.and_eq_true] at h5
  have k1 := okD_iff h5.1
  have k2 := okD_iff h5.2
  exact .leaf fun A hu => PySem.SeqAt.eqAt_plain d d' A s u t as bs r1 r2 k1.1 k2.1 (by have := Nat.min_le_left d.depth d'.depth; omega)
theorem leaf_true (I : Inv X pins σ C.H s) (hK : X.K = G.K) (hS : G.Sys) {x y : Val} {v : V} {u : Value} {b : Bool} (hx : NR G C x v) (hy : NR G C y v) (ru : RelV v u) (e : veq x y = some b) : b = true := by
  obtain ⟨d, d', h3, h4, h5, rfl⟩ := veq_some e
  obtain ⟨as, r1, _⟩ := NR.reads I hK hS hx ru h3
  obtain ⟨bs, r2, _⟩ := NR.reads I hK hS hy ru h4
  unfold okEq at h5
  simp only [Bool.and_eq_true] at h5
  have k1 := okD_iff h5.1
  obtain ⟨z, _⟩ := PyProof.Rows.reads_det (fun _ _ e _ => e) r1 r2
  rw [z]
  exact PySem.SeqAt.eqv_refl_plain d k1.1
theorem vrs_ix : ∀ {xs : List Val} {zs : List V} {its : List Value}, VRs G C xs zs → Vals zs its → xs.length = its.length ∧ ∀ j (h1 : j < xs.length) (h2 : j < its.length), ∃ v, zs[j]? = some v ∧ VR G C xs[j] v ∧ RelV v its[j]
  | [], zs, its, h, r => by
    unfold VRs at h
    subst h
    cases r
    exact ⟨rfl, fun j h1 => absurd h1 (Nat.not_lt_zero _)⟩
  | x :: xs, zs, its, h, r => by
    unfold VRs at h
    obtain ⟨y, zs', rfl, a, b⟩ := h
    cases r with
    | cons r1 r2 =>
      obtain ⟨l, q⟩ := vrs_ix b r2
      refine ⟨by simp [l], fun j => ?_⟩
      cases j with
      | zero => intro _ _; exact ⟨y, rfl, a, r1⟩
      | succ j => intro h1 h2; simpa using q j (by simpa using h1) (by simpa using h2)
theorem dget_nd {kvs : List (Key × Val)} (nd : (kvs.map (·.1)).Nodup) {k : Key} {v : Val} (h : (k, v) ∈ kvs) : dget kvs k = some v := by
  induction kvs with
  | nil => cases h
  | cons p r ih =>
    rw [List.map_cons, List.nodup_cons] at nd
    obtain ⟨j, u⟩ := p
    rcases List.mem_cons.mp h with e | h'
    · cases e; simp [dget]
    · have : j ≠ k := fun z => nd.1 (List.mem_map.mpr ⟨(k, v), h', z.symm⟩)
      have e : dget ((j, u) :: r) k = dget r k := by simp [dget, this]
      rw [e]
      exact ih nd.2 h'
theorem at_nd {kvs : List (Key × Value)} (nd : (kvs.map (·.1)).Nodup) {k : Key} {v : Value} (h : (k, v) ∈ kvs) : valueAt kvs k = some v := by
  induction kvs with
  | nil => cases h
  | cons p r ih =>
    rw [List.map_cons, List.nodup_cons] at nd
    obtain ⟨j, u⟩ := p
    rcases List.mem_cons.mp h with e | h'
    · cases e; simp [valueAt]
    · have : j ≠ k := fun z => nd.1 (List.mem_map.mpr ⟨(k, v), h', z.symm⟩)
      have e : valueAt ((j, u) :: r) k = valueAt r k := by simp [valueAt, this]
      rw [e]
      exact ih nd.2 h'
theorem all_mem {α : Type} {f g : α → Bool} : ∀ {l : List α}, (∀ q ∈ l, f q = g q) → l.all f = l.all g
  | [], _ => rfl
  | x :: l, h => by rw [List.all_cons, List.all_cons, h x (by simp), all_mem fun q hq => h q (by simp [hq])]
theorem vrk_keys {C : Cf} : ∀ {xs : List (Key × Val)} {ys : List (Key × V)}, VRk G C xs ys → xs.map (·.1) = ys.map (·.1)
  | [], ys, h => by unfold VRk at h; subst h; rfl
  | (j, x) :: xs, ys, h => by
    unfold VRk at h
    obtain ⟨y, r, rfl, a, b⟩ := h
    simp [vrk_keys b]
theorem rd_det {H : Hp} {a : Addr} {ks ks' : List (Key × V)} (h : Rd H a (.dK ks)) (h' : Rd H a (.dK ks')) : ks = ks' := by
  rcases h with h | ⟨o, h⟩ <;> rcases h' with h' | ⟨o', h'⟩ <;> rw [h] at h' <;> cases h' <;> rfl
/-- two dicts at one place agree -/
theorem dict_true (I : Inv X pins σ C.H s) (hK : X.K = G.K) (hS : G.Sys) {ka kb : List (Key × Val)} {ks : List (Key × V)} {va : List (Key × Value)} (nd : (ks.map (·.1)).Nodup) (hv : KV ks va) (ha : VRk G C ka ks) (hb : VRk G C kb ks) {b : Bool} (e : deqS kb ka = some b) : b = true := by
  obtain ⟨h1, h2⟩ := deqS_all e
  rw [h2, List.all_eq_true]
  intro p hp
  obtain ⟨k, a⟩ := p
  have ka1 := vrk_keys ha
  have g1 := dget_nd (by rw [ka1]; exact nd) hp
  have q1 := ha.get (kk := k)
  rw [g1] at q1
  obtain ⟨v, hv1, hv2⟩ := q1
  have q2 := hb.get (kk := k)
  cases z : dget kb k with
  | none => rw [z] at q2; simp only at q2; rw [hv1] at q2; cases q2
  | some c =>
    rw [z] at q2
    obtain ⟨w, hw1, hw2⟩ := q2
    rw [hv1] at hw1
    cases hw1
    obtain ⟨r, hr⟩ := h1 k a hp c z
    have rr := hv.val k
    rw [hv1] at rr
    obtain ⟨u, _, ru⟩ := rr.some_of
    have := leaf_true I hK hS hv2.nr hw2.nr ru hr
    subst this
    simp only [hr, Option.getD_some]
theorem same_true (I : Inv X pins σ C.H s) (hK : X.K = G.K) (hS : G.Sys) : ∀ (n : Nat) {x y : Val} {v : V} {u : Value} {b : Bool}, VR G C x v → VR G C y v → RelV v u → veqT n x y = some b → b = true
  | 0, x, y, v, u, b, hx, hy, r, e => leaf_true I hK hS hx.nr hy.nr r (by unfold veqT at e; exact e)
  | n + 1, x, y, v, u, b, hx, hy, r, e => by
    unfold veqT at e
    split at e
    · rename_i xs ys hn
      split at e
      · rename_i b' q
        cases e
        exact leaf_true I hK hS hx.nr hy.nr r q
      · split at e
        · rename_i hl
          obtain ⟨ev, h1, h2⟩ := eqL_ix hl e
          unfold VR at hx hy
          obtain ⟨p, zs, rfl, _, hp, hr⟩ := hx
          obtain ⟨p', zs', e', _, hp', hr'⟩ := hy
          cases e'
          rw [hp] at hp'
          cases hp'
          obtain ⟨its, rv, _⟩ := I.list (SqL.of hp)
          obtain ⟨l1, i1⟩ := vrs_ix hr rv
          obtain ⟨l2, i2⟩ := vrs_ix hr' rv
          rw [h1, List.all_eq_true]
          intro j hj
          have hj : j < xs.length := by simpa using hj
          obtain ⟨v1, z1, z2, z3⟩ := i1 j hj (by omega)
          obtain ⟨v2, w1, w2, w3⟩ := i2 j (by omega) (by omega)
          rw [z1] at w1
          cases w1
          cases hn
          exact same_true I hK hS n z2 w2 z3 (h2 j hj (by omega))
        · cases e
    · rename_i ka kb hn
      obtain ⟨b', e2, rfl⟩ := Option.map_eq_some_iff.mp e
      unfold VR at hx hy
      obtain ⟨p, ks, rfl, _, hp, hr⟩ := hx
      obtain ⟨p', ks', e', _, hp', hr'⟩ := hy
      cases e'
      have := rd_det hp hp'
      subst this
      obtain ⟨_, _, va, ra, da⟩ := dk_rd I.hok hp
      obtain ⟨o, es, ep, _, _, _, _, _, nd⟩ := da
      have hb := dict_true I hK hS (by rw [ra.keys]; exact nd) ra hr hr' e2
      have l1 := VRk.length' hr
      have l2 := VRk.length' hr'
      simp [hb, l1, l2]
    · exact leaf_true I hK hS hx.nr hy.nr r e
/-- the comparison's tree -/
theorem tree_ok (I : Inv X pins σ C.H s) (hK : X.K = G.K) (hS : G.Sys) : ∀ (n : Nat) {x y : Val} {v w : V} {u t : Value} {b : Bool}, VR G C x v → VR G C y w → RelV v u → RelV w t → veqT n x y = some b → PySem.W.EqTree X.prog X.w s (60 + n) u t b
  | 0, x, y, v, w, u, t, b, hx, hy, ru, rt, e => leaf_tree I hK hS hx.nr hy.nr ru rt (by unfold veqT at e; exact e)
  | n + 1, x, y, v, w, u, t, b, hx, hy, ru, rt, e => by
    have e0 := e
    unfold veqT at e
    split at e
    · rename_i xs ys hn
      cases hn
      split at e
      · rename_i b' q
        cases e
        exact leaf_tree I hK hS hx.nr hy.nr ru rt q
      · split at e
        · rename_i hl
          obtain ⟨ev, h1, h2⟩ := eqL_ix hl e
          have hx0 := hx
          have hy0 := hy
          unfold VR at hx hy
          obtain ⟨p, zs, rfl, _, hp, hr⟩ := hx
          obtain ⟨p', zs', rfl, _, hp', hr'⟩ := hy
          by_cases hpp : p = p'
          · subst hpp
            have := same_true I hK hS (n + 1) hx0 hy0 ru e0
            subst this
            cases ru
            cases rt
            exact .same
          · cases ru
            cases rt
            obtain ⟨its, rv, ⟨o, m, ho, hc, _, hd⟩, _⟩ := I.list (SqL.of hp)
            obtain ⟨its', rv', ⟨o', m', ho', hc', _, hd'⟩, _⟩ := I.list (SqL.of hp')
            obtain ⟨l1, i1⟩ := vrs_ix hr rv
            obtain ⟨l2, i2⟩ := vrs_ix hr' rv'
            have hb : b = (List.range its.toArray.size).all ev := by rw [h1, l1]; simp
            rw [hb]
            refine .lists (n := 60 + n) (vs := its.toArray) (vs' := its'.toArray) hpp ⟨o, ho, hc, m, hd⟩ ⟨o', ho', hc', m', hd'⟩ (by simp; omega) fun j g1 g2 => ?_
            have g1 : j < its.length := by simpa using g1
            have g2 : j < its'.length := by simpa using g2
            obtain ⟨v1, z1, z2, z3⟩ := i1 j (by omega) g1
            obtain ⟨v2, w1, w2, w3⟩ := i2 j (by omega) g2
            have := tree_ok I hK hS n z2 w2 z3 w3 (h2 j (by omega) (by omega))
            simpa using this
        · cases e
    · rename_i ka kb hn
      cases hn
      obtain ⟨b', e2, rfl⟩ := Option.map_eq_some_iff.mp e
      have hx0 := hx
      have hy0 := hy
      unfold VR at hx hy
      obtain ⟨p, ks, rfl, _, hp, hr⟩ := hx
      obtain ⟨p', ks', rfl, _, hp', hr'⟩ := hy
      by_cases hpp : p = p'
      · subst hpp
        have := same_true I hK hS (n + 1) hx0 hy0 ru e0
        rw [this]
        cases ru
        cases rt
        exact .same
      · cases ru
        cases rt
        obtain ⟨_, y1, va, ra, da⟩ := dk_rd I.hok hp
        obtain ⟨_, y2, vb, rb, db⟩ := dk_rd I.hok hp'
        have nda : (va.map (·.1)).Nodup := by obtain ⟨o, es, ep, _, _, _, _, _, nd⟩ := da; exact nd
        obtain ⟨h1, h2⟩ := deqS_all e2
        have kA := vrk_keys hr
        have kA2 : ka.map (·.1) = va.map (·.1) := kA.trans ra.keys
        have l1 : ka.length = va.length := by have := congrArg List.length kA2; simpa using this
        have l2 : kb.length = vb.length := by have := congrArg List.length ((vrk_keys hr').trans rb.keys); simpa using this
        have ndk : (ka.map (·.1)).Nodup := by rw [kA2]; exact nda
        let ev : Key → Bool := fun k => match dget ka k, dget kb k with
          | some a, some c => (veq a c).getD false
          | _, _ => false
        have hsm : ∀ k, (dget kb k).isSome = (valueAt vb k).isSome := fun k => by
          rw [← hr'.isSome (kk := k)]
          exact (rb.val k).isSome_eq
        have hb : (decide (ka.length = kb.length) && b') = (va.length == vb.length && va.all fun p => (valueAt vb p.1).isSome && ev p.1) := by
          have e3 : b' = (ka.map (·.1)).all fun k => (valueAt vb k).isSome && ev k := by
            rw [h2, List.all_map]
            refine all_mem fun q hq => ?_
            obtain ⟨k, a⟩ := q
            have g := dget_nd ndk hq
            simp only [Function.comp, ← hsm, ev, g]
            cases dget kb k <;> simp
          rw [e3, kA2, List.all_map, l1, l2, Bool.beq_eq_decide_eq]
          rfl
        rw [hb]
        refine .dicts (n := 60 + n) hpp y1 y2 da db fun k v1 y hm hv => ?_
        have : k ∈ ka.map (·.1) := by rw [kA2]; exact List.mem_map.mpr ⟨_, hm, rfl⟩
        obtain ⟨⟨k', a⟩, hq, hk⟩ := List.mem_map.mp this
        simp only at hk
        subst hk
        have g := dget_nd ndk hq
        have q1 := hr.get (kk := k')
        rw [g] at q1
        obtain ⟨va1, q2, q3⟩ := q1
        have rr := ra.val k'
        rw [q2] at rr
        obtain ⟨u1, hu1, ru1⟩ := rr.some_of
        have hu2 : valueAt va k' = some v1 := at_nd nda hm
        rw [hu2] at hu1
        cases hu1
        have hs1 := hsm k'
        rw [hv] at hs1
        cases z : dget kb k' with
        | none => rw [z] at hs1; cases hs1
        | some c =>
          have q4 := hr'.get (kk := k')
          rw [z] at q4
          obtain ⟨w1, q5, q6⟩ := q4
          have rr2 := rb.val k'
          rw [q5] at rr2
          obtain ⟨u2, hu3, ru2⟩ := rr2.some_of
          rw [hv] at hu3
          cases hu3
          obtain ⟨r, hr2⟩ := h1 k' a hq c z
          have he : ev k' = r := by simp only [ev, g, z, hr2, Option.getD_some]
          rw [he]
          exact leaf_tree I hK hS q3.nr q6.nr ru1 ru2 hr2
    · exact leaf_tree I hK hS hx.nr hy.nr ru rt e
end
section
variable {G : Gl} {X : Cx} {k : Nat}
/-- two lists of other lengths -/
def rLD (G : Gl) (ng : Bool) : R2 := fun x y H Q => ∃ C xs ys, C.H = H ∧ NR G C (.lst xs) x ∧ NR G C (.lst ys) y ∧ xs.length ≠ ys.length ∧ Q (.bl ng) H
theorem ld_pre {pins : List (Addr × Obj)} {σ : L2.St} {s : Shared} {C : Cf} (I : Inv X pins σ C.H s) {xs ys : List Val} {x y : V} {v u : Value} (hx : NR G C (.lst xs) x) (hy : NR G C (.lst ys) y) (rx : RelV x v) (ry : RelV y u) (hl : xs.length ≠ ys.length) :
    ∃ (p q : Addr) (va vb : Array Value), v = .ref p ∧ u = .ref q ∧ s.heap.IsList p va ∧ s.heap.IsList q vb ∧ (va.size != vb.size) = true := by
  obtain ⟨p, zs, rfl, hp, hr⟩ := hx
  obtain ⟨p', zs', rfl, hp', hr'⟩ := hy
  cases rx
  cases ry
  obtain ⟨its, rv, ⟨o, m, ho, hc, _, hd⟩, _⟩ := I.list (SqL.of hp)
  obtain ⟨its', rv', ⟨o', m', ho', hc', _, hd'⟩, _⟩ := I.list (SqL.of hp')
  obtain ⟨l1, _⟩ := vrs_ix hr rv
  obtain ⟨l2, _⟩ := vrs_ix hr' rv'
  exact ⟨p, p', its.toArray, its'.toArray, rfl, rfl, ⟨o, ho, hc, m, hd⟩, ⟨o', ho', hc', m', hd'⟩, by simp; omega⟩
theorem opLDe (hR : Room k X.A) : OpR X (compareOp .Eq) (rLD G false) := by
  intro pins s σ H x y v u Q I rx ry ⟨C, xs, ys, hC, hx, hy, hl, q⟩
  subst hC
  have h2 := hR.units
  obtain ⟨p, p2, va, vb, rfl, rfl, y1, y2, hsz⟩ := ld_pre I hx hy rx ry hl
  exact PySem.SeqAt.eq_list_lengthsAt y1 y2 hsz (by omega) ⟨.bl false, C.H, I, rfl, q⟩
theorem opLDn (hR : Room k X.A) : OpR X (compareOp .NotEq) (rLD G true) := by
  intro pins s σ H x y v u Q I rx ry ⟨C, xs, ys, hC, hx, hy, hl, q⟩
  subst hC
  have h2 := hR.units
  obtain ⟨p, p2, va, vb, rfl, rfl, y1, y2, hsz⟩ := ld_pre I hx hy rx ry hl
  exact PySem.SeqAt.rs_lists_neL y1 y2 hsz (by omega) ⟨.bl true, C.H, I, rfl, q⟩
def rLT (G : Gl) (ng : Bool) : R2 := fun x y H Q => ∃ C xs ys b, C.H = H ∧ NR G C (.lst xs) x ∧ NR G C (.lst ys) y ∧ xs.length = ys.length ∧ eqL (veqT 2) xs ys = some b ∧ Q (.bl (b != ng)) H
theorem lt_pre {pins : List (Addr × Obj)} {σ : L2.St} {s : Shared} {C : Cf} (I : Inv X pins σ C.H s) (hK : X.K = G.K) (hS : G.Sys) {xs ys : List Val} {x y : V} {v u : Value} {b : Bool} (hx : NR G C (.lst xs) x) (hy : NR G C (.lst ys) y) (rx : RelV x v) (ry : RelV y u) (hl : xs.length = ys.length) (e : eqL (veqT 2) xs ys = some b) :
    ∃ (p q : Addr) (va vb : Array Value) (ev : Nat → Bool), v = .ref p ∧ u = .ref q ∧ s.heap.IsList p va ∧ s.heap.IsList q vb ∧ va.size = vb.size ∧ b = (List.range va.size).all ev ∧ ∀ j (h1 : j < va.size) (h2 : j < vb.size), PySem.W.EqTree X.prog X.w s 62 va[j] vb[j] (ev j) := by
  obtain ⟨ev, h1, h2⟩ := eqL_ix hl e
  obtain ⟨p, zs, rfl, hp, hr⟩ := hx
  obtain ⟨p', zs', rfl, hp', hr'⟩ := hy
  cases rx
  cases ry
  obtain ⟨its, rv, ⟨o, m, ho, hc, _, hd⟩, _⟩ := I.list (SqL.of hp)
  obtain ⟨its', rv', ⟨o', m', ho', hc', _, hd'⟩, _⟩ := I.list (SqL.of hp')
  obtain ⟨l1, i1⟩ := vrs_ix hr rv
  obtain ⟨l2, i2⟩ := vrs_ix hr' rv'
  refine ⟨p, p', its.toArray, its'.toArray, ev, rfl, rfl, ⟨o, ho, hc, m, hd⟩, ⟨o', ho', hc', m', hd'⟩, by simp; omega, by rw [h1, l1]; simp, fun j g1 g2 => ?_⟩
  have g1 : j < its.length := by simpa using g1
  have g2 : j < its'.length := by simpa using g2
  obtain ⟨v1, z1, z2, z3⟩ := i1 j (by omega) g1
  obtain ⟨v2, w1, w2, w3⟩ := i2 j (by omega) g2
  have := tree_ok I hK hS 2 z2 w2 z3 w3 (h2 j (by omega) (by omega))
  simpa using this
theorem opLTe (hK : X.K = G.K) (hS : G.Sys) (hR : Room k X.A) : OpR X (compareOp .Eq) (rLT G false) := by
  intro pins s σ H x y v u Q I rx ry ⟨C, xs, ys, b, hC, hx, hy, hl, e, q⟩
  subst hC
  have h2 := hR.units
  obtain ⟨p, p2, va, vb, ev, rfl, rfl, y1, y2, hsz, hb, ht⟩ := lt_pre I hK hS hx hy rx ry hl e
  refine PySem.W.eq_listsT (n := 62) y1 y2 hsz ht (by omega) ?_
  rw [← hb]
  exact ⟨.bl b, C.H, I, rfl, by simpa using q⟩
theorem opLTn (hK : X.K = G.K) (hS : G.Sys) (hR : Room k X.A) : OpR X (compareOp .NotEq) (rLT G true) := by
  intro pins s σ H x y v u Q I rx ry ⟨C, xs, ys, b, hC, hx, hy, hl, e, q⟩
  subst hC
  have h2 := hR.units
  obtain ⟨p, p2, va, vb, ev, rfl, rfl, y1, y2, hsz, hb, ht⟩ := lt_pre I hK hS hx hy rx ry hl e
  refine PySem.SeqAt.rs_lists_ne y1 y2 hsz (by omega) (fun j h1 h2 => (ht j h1 h2).at X.A.in1 (by show X.A.units + 1 + _ < cLine; omega)) ?_
  rw [← hb]
  exact ⟨.bl (!b), C.H, I, rfl, by cases b <;> simpa using q⟩
/-- a tuple with things in it, and the empty one -/
def rTD (G : Gl) (ng : Bool) : R2 := fun x y H Q => ∃ C xs ys, C.H = H ∧ NR G C (.tup xs) x ∧ NR G C (.tup ys) y ∧ (ys.length = 0 ∧ xs.length ≠ 0) ∧ Q (.bl ng) H
theorem td_pre {pins : List (Addr × Obj)} {σ : L2.St} {s : Shared} {C : Cf} (I : Inv X pins σ C.H s) (hK : X.K = G.K) {xs ys : List Val} {x y : V} {v u : Value} (hx : NR G C (.tup xs) x) (hy : NR G C (.tup ys) y) (rx : RelV x v) (ry : RelV y u) (hl : ys.length = 0 ∧ xs.length ≠ 0) :
    ∃ (p q : Addr) (va vb : Array Value), v = .ref p ∧ u = .ref q ∧ s.heap.IsTuple p va ∧ s.heap.IsTuple q vb ∧ vb.size = 0 ∧ va.size ≠ 0 := by
  obtain ⟨p, zs, rfl, hp, hr⟩ := hx.tup
  obtain ⟨p', zs', rfl, hp', hr'⟩ := hy.tup
  cases rx
  cases ry
  obtain ⟨its, rv, ⟨o, ho, hc, m, hd⟩, _⟩ := I.tuple (by rw [hK]; exact hp)
  obtain ⟨its', rv', ⟨o', ho', hc', m', hd'⟩, _⟩ := I.tuple (by rw [hK]; exact hp')
  obtain ⟨l1, _⟩ := vrs_ix hr rv
  obtain ⟨l2, _⟩ := vrs_ix hr' rv'
  exact ⟨p, p', its.toArray, its'.toArray, rfl, rfl, ⟨o, ho, hc, m, hd⟩, ⟨o', ho', hc', m', hd'⟩, by rw [List.size_toArray]; omega, by rw [List.size_toArray]; omega⟩
theorem opTDe (hK : X.K = G.K) (hR : Room k X.A) : OpR X (compareOp .Eq) (rTD G false) := by
  intro pins s σ H x y v u Q I rx ry ⟨C, xs, ys, hC, hx, hy, hl, q⟩
  subst hC
  have h2 := hR.units
  obtain ⟨p, p2, va, vb, rfl, rfl, y1, y2, h3, h4⟩ := td_pre I hK hx hy rx ry hl
  have e : ((List.range (min va.size vb.size)).all (fun _ => true) && va.size == vb.size) = false := by
    rw [h3]
    simp
    exact fun z => h4 (by simp [z])
  refine PySem.SeqAt.rcIn_tuples (e := fun _ => true) y1 y2 (by omega) (fun j _ h => by omega) ?_
  rw [e]
  exact ⟨.bl false, C.H, I, rfl, q⟩
theorem opTDn (hK : X.K = G.K) (hR : Room k X.A) : OpR X (compareOp .NotEq) (rTD G true) := by
  intro pins s σ H x y v u Q I rx ry ⟨C, xs, ys, hC, hx, hy, hl, q⟩
  subst hC
  have h2 := hR.units
  obtain ⟨p, p2, va, vb, rfl, rfl, y1, y2, h3, h4⟩ := td_pre I hK hx hy rx ry hl
  have e : (!((List.range (min va.size vb.size)).all (fun _ => true) && va.size == vb.size)) = true := by
    rw [h3]
    simp
    exact fun z => h4 (by simp [z])
  refine PySem.SeqAt.RcNeAt.tuples (e := fun _ => true) y1 y2 (by omega) (fun j _ h => by omega) X.prog X.w X.xe _ ?_
  rw [e]
  exact ⟨.bl true, C.H, I, rfl, q⟩
theorem veqX_or (x y : Val) : (∃ ka kb, x = .dct ka ∧ y = .dct kb) ∨ (∃ xs ys, x = .lst xs ∧ y = .lst ys ∧ veq x y = none) ∨ (∃ xs ys, x = .tup xs ∧ y = .tup ys ∧ veq x y = none) ∨ veqX x y = veq x y := by
  cases x with
  | dct ka => cases y with
    | dct kb => exact .inl ⟨ka, kb, rfl, rfl⟩
    | _ => exact .inr (.inr (.inr rfl))
  | lst xs => cases y with
    | lst ys =>
      cases q : veq (.lst xs) (.lst ys) with
      | none => exact .inr (.inl ⟨xs, ys, rfl, rfl, rfl⟩)
      | some b => exact .inr (.inr (.inr (by simp only [veqX, q])))
    | _ => exact .inr (.inr (.inr rfl))
  | tup xs => cases y with
    | tup ys =>
      cases q : veq (.tup xs) (.tup ys) with
      | none => exact .inr (.inr (.inl ⟨xs, ys, rfl, rfl, rfl⟩))
      | some b => exact .inr (.inr (.inr (by simp only [veqX, q])))
    | _ => exact .inr (.inr (.inr rfl))
  | _ => exact .inr (.inr (.inr rfl))
theorem veqX_tupN {xs ys : List Val} {b : Bool} (h : veq (.tup xs) (.tup ys) = none) (e : veqX (.tup xs) (.tup ys) = some b) : (ys.length = 0 ∧ xs.length ≠ 0) ∧ b = false := by
  simp only [veqX, h] at e
  split at e
  · rename_i hl; cases e; exact ⟨hl, rfl⟩
  · cases e
theorem veqX_lst {xs ys : List Val} {b : Bool} (h : veq (.lst xs) (.lst ys) = none) (e : veqX (.lst xs) (.lst ys) = some b) : (xs.length = ys.length ∧ eqL (veqT 2) xs ys = some b) ∨ (xs.length ≠ ys.length ∧ b = false) := by
  simp only [veqX, h] at e
  split at e
  · rename_i hl; exact .inl ⟨hl, e⟩
  · rename_i hl; cases e; exact .inr ⟨hl, rfl⟩
theorem eq_ok (hK : X.K = G.K) (hS : G.Sys) (hR : Room k X.A) : CmpI G X (compareOp .Eq) veqX := fun C x y v w b Q hx hy e q => by
  rcases veqX_or x y with ⟨ka, kb, rfl, rfl⟩ | ⟨xs, ys, rfl, rfl, h⟩ | ⟨xs, ys, rfl, rfl, h⟩ | h
  · exact ⟨_, opDKe hK hS hR, C, ka, kb, b, rfl, hx, hy, e, by simpa using q⟩
  · rcases veqX_lst h e with ⟨hl, e⟩ | ⟨hl, rfl⟩
    rotate_left
    · exact ⟨_, opLDe hR, C, xs, ys, rfl, hx, hy, hl, by simpa using q⟩
    exact ⟨_, opLTe hK hS hR, C, xs, ys, b, rfl, hx, hy, hl, e, by simpa using q⟩
  · obtain ⟨hl, rfl⟩ := veqX_tupN h e
    exact ⟨_, opTDe hK hR, C, xs, ys, rfl, hx, hy, hl, by simpa using q⟩
  · rw [h] at e
    exact eq_ok0 hK hS hR C x y v w b Q hx hy e q
theorem ne_ok (hK : X.K = G.K) (hS : G.Sys) (hR : Room k X.A) : CmpI G X (compareOp .NotEq) (fun a b => (veqX a b).map (!·)) := fun C x y v w b Q hx hy e q => by
  rcases veqX_or x y with ⟨ka, kb, rfl, rfl⟩ | ⟨xs, ys, rfl, rfl, h⟩ | ⟨xs, ys, rfl, rfl, h⟩ | h
  · obtain ⟨b0, e0, rfl⟩ := Option.map_eq_some_iff.mp e
    exact ⟨_, opDKn hK hS hR, C, ka, kb, b0, rfl, hx, hy, e0, by cases b0 <;> simpa using q⟩
  · obtain ⟨b0, e0, rfl⟩ := Option.map_eq_some_iff.mp e
    rcases veqX_lst h e0 with ⟨hl, e0⟩ | ⟨hl, rfl⟩
    rotate_left
    · exact ⟨_, opLDn hR, C, xs, ys, rfl, hx, hy, hl, by simpa using q⟩
    exact ⟨_, opLTn hK hS hR, C, xs, ys, b0, rfl, hx, hy, hl, e0, by cases b0 <;> simpa using q⟩
  · obtain ⟨b0, e0, rfl⟩ := Option.map_eq_some_iff.mp e
    obtain ⟨hl, rfl⟩ := veqX_tupN h e0
    exact ⟨_, opTDn hK hR, C, xs, ys, rfl, hx, hy, hl, by simpa using q⟩
  · have e : (veqX x y).map (!·) = some b := e
    rw [h] at e
    exact ne_ok0 hK hS hR C x y v w b Q hx hy e q
theorem cmp_ok (hK : X.K = G.K) (hS : G.Sys) (hR : Room k X.A) : ∀ op : Cop, CmpI G X (compareOp (cop op)) (cmpop op)
  | .eq => eq_ok hK hS hR
  | .ne => ne_ok hK hS hR
  | .lt => lt_ok hK hS hR
  | .gt => gt_ok hK hS hR
  | .le => le_ok hK hS hR
  | .ge => ge_ok hK hS hR
  | .isin => vin_ok hK hS hR
  | .notin => vnin_ok hK hS hR
  | .is_ => is_ok
  | .isnot => isnot_ok
end
end Rs
end
section
set_option maxRecDepth 100000
set_option maxHeartbeats 4000000
/-! Expressions: each construct's rule. -/
namespace Rs
open PySem PySem.Spec PyProof.Rows L2
theorem bind_ok {α β : Type} {r : R α} {k : α → S → R β} {b : β} {s' : S} (h : r.bind k = .ok b s') : ∃ a s1, r = .ok a s1 ∧ k a s1 = .ok b s' := by
  cases r with
  | ok a s1 => exact ⟨a, s1, rfl, h⟩
  | exc c p s => cases h
  | bad => cases h
theorem opt_ok {α : Type} {o : Option α} {s s' : S} {a : α} (h : R.opt o s = .ok a s') : o = some a ∧ s' = s := by
  cases o with
  | none => cases h
  | some b => cases h; exact ⟨rfl, rfl⟩
theorem val_ok {r : R Rv} {v : Val} {s' : S} (h : r.val = .ok v s') : ∃ x, r = .ok x s' ∧ freeze x = some v := by
  obtain ⟨x, s1, e1, e2⟩ := bind_ok h
  obtain ⟨e3, rfl⟩ := opt_ok e2
  exact ⟨x, e1, e3⟩
def tVs (G : Gl) (f : S → R (List Val)) : TA := fun σ H Q => ∃ C s xs s', C.H = H ∧ Rel G C s σ ∧ f s = .ok xs s' ∧ ∀ C' vs, Le C C' → Rel G C' s' σ → VRs G C' xs vs → Q vs C'.H
def ORs (G : Gl) (C : Cf) (s : S) (σ : L2.St) : List Rv → List V → Prop
  | [], vs => vs = []
  | x :: xs, vs => ∃ v r, vs = v :: r ∧ OR G C s σ x v ∧ ORs G C s σ xs r
theorem ORs.mono {G : Gl} {C C' : Cf} {s s' : S} {σ : L2.St} (l : Le C C') : ∀ {xs : List Rv} {vs : List V}, ORs G C s σ xs vs → ORs G C' s' σ xs vs
  | [], _, h => h
  | _ :: _, _, h => by
    obtain ⟨v, r, e, a, b⟩ := h
    exact ⟨v, r, e, a.mono l, ORs.mono l b⟩
def tOs (G : Gl) (f : S → R (List Rv)) : TA := fun σ H Q => ∃ C s xs s', C.H = H ∧ Rel G C s σ ∧ f s = .ok xs s' ∧ ∀ C' vs, Le C C' → Rel G C' s' σ → ORs G C' s' σ xs vs → Q vs C'.H
/-- what is known of a body -/
structure XO0 (G : Gl) (k : Nat) (X : Cx) : Prop where
  K : X.K = G.K
  sys : G.Sys
  calm : X.calm = true
  nd : X.N.Nodup
  room : Room k X.A
  xe : X.xe = fun _ _ => False
  w : X.w = G.w
/-- the same, where no repr is under way -/
structure XO (G : Gl) (k : Nat) (X : Cx) : Prop extends XO0 G k X where
  gd : X.A.guards = some []
instance {G : Gl} {k : Nat} {X : Cx} : Coe (XO G k X) (XO0 G k X) := ⟨XO.toXO0⟩
section
variable {G : Gl} {T : Tab} {F : Call} {k : Nat} {X : Cx}
abbrev EE (G : Gl) (T : Tab) (F : Call) (a : IE) : TE := tE G (evalE T F a)
abbrev EB (G : Gl) (T : Tab) (F : Call) (a : IE) : TT := tBo G (evalB T F a)
theorem EE_of_val {a : IE} {σ : L2.St} {H : Hp} {Q : VK} {C : Cf} {s s' : S} {x : Val} (hH : C.H = H) (r : Rel G C s σ) (e : (evalE T F a s).val = .ok x s') (k : ∀ C' v, Le C C' → Rel G C' s' σ → VR G C' x v → Q v C'.H) : EE G T F a σ H Q :=
  tV_of ⟨C, s, x, s', hH, r, e, k⟩
theorem EE_of_op {a : IE} {σ : L2.St} {H : Hp} {Q : VK} {C : Cf} {s s' : S} {x : Rv} (hH : C.H = H) (r : Rel G C s σ) (e : evalE T F a s = .ok x s') (k : ∀ C' v, Le C C' → Rel G C' s' σ → OR G C' s' σ (opnd x) v → Q v C'.H) : EE G T F a σ H Q :=
  tO_of ⟨C, s, x, s', hH, r, e, k⟩
theorem slot_get {s : S} {i : Nat} {t : Slot} (h : slotOf s i = t) (n : t ≠ .no) : s.e[i]? = some t := by
  unfold slotOf at h
  rw [List.getD_eq_getElem?_getD] at h
  cases q : s.e[i]? with
  | none => rw [q] at h; exact absurd h.symm n
  | some u => rw [q] at h; exact congrArg some h

/-! ### names, constants -/
theorem se_var {x : Str} {pos : Pos} (i : Nat) (hN : X.N[i]? = some x := by rfl) (hv : Vis X.env.scope x := by first | exact Or.inl rfl | exact Or.inr (Or.inl rfl) | exact Or.inr (Or.inr rfl)) (hd : (x == ("__debug__" : Str)) = false := by decide)
    (hcd : (x == ("__classdict__" : Str)) = false := by decide) : PE X (.Name x pos) (EE G T F (.var i)) := by
  refine PE.weak (pe_var hN hv hd hcd) fun σ H Q ⟨C, s, r, s', hH, rl, e, k⟩ => ?_
  unfold evalE at e
  unfold rdVar at e
  subst hH
  cases q : slotOf s i with
  | no => simp [q] at e
  | val x =>
    simp only [q, R.ok.injEq] at e
    obtain ⟨rfl, rfl⟩ := e
    obtain ⟨v, h1, h2⟩ := rl.env i x (slot_get q (by simp))
    exact ⟨v, h1, k C v (.refl C) rl h2⟩
  | own c =>
    simp only [q, R.ok.injEq] at e
    obtain ⟨rfl, rfl⟩ := e
    obtain ⟨p, h1, _⟩ := rl.own i c (slot_get q (by simp))
    exact ⟨_, h1, k C _ (.refl C) rl h1⟩
theorem se_int {i : Int} {j : Nat} {pos : Pos} : PE X (.Constant (.int i) j pos) (EE G T F (.cst (.int i))) := PE.weak pe_int fun σ H Q ⟨C, s, r, s', hH, rl, e, k⟩ => by
  unfold evalE at e; cases e; subst hH; exact (show Q (.int i) C.H from out_v rl .int k)
theorem se_str {i : Str} {j : Nat} {pos : Pos} : PE X (.Constant (.str i) j pos) (EE G T F (.cst (.str i))) := PE.weak pe_str fun σ H Q ⟨C, s, r, s', hH, rl, e, k⟩ => by
  unfold evalE at e; cases e; subst hH; exact (show Q (.str i) C.H from out_v rl .str k)
theorem se_bl {i : Bool} {j : Nat} {pos : Pos} : PE X (.Constant (.bool i) j pos) (EE G T F (.cst (.bl i))) := PE.weak pe_bl fun σ H Q ⟨C, s, r, s', hH, rl, e, k⟩ => by
  unfold evalE at e; cases e; subst hH; exact (show Q (.bl i) C.H from out_v rl .bl k)
theorem se_non {j : Nat} {pos : Pos} : PE X (.Constant .none j pos) (EE G T F (.cst .non)) := PE.weak pe_non fun σ H Q ⟨C, s, r, s', hH, rl, e, k⟩ => by
  unfold evalE at e; cases e; subst hH; exact (show Q (.non) C.H from out_v rl .non k)
theorem se_glbI {x : Str} {pos : Pos} (n : Nat) (i : Int) (hg : L2.Gl X x) (hm : ∃ t, X.mg x = some (.int i t)) (hd : (x == ("__debug__" : Str)) = false := by decide) : PE X (.Name x pos) (EE G T F (.glb n (.int i))) := by
  obtain ⟨t, hm⟩ := hm
  refine PE.weak (pe_glob hg hm (v := .int i) ⟨t, rfl⟩ hd) fun σ H Q ⟨C, s, r, s', hH, rl, e, k⟩ => ?_
  unfold evalE at e; cases e; subst hH; exact (show Q (.int i) C.H from out_v rl .int k)
theorem se_glbS {x : Str} {pos : Pos} (n : Nat) (i : Str) (hg : L2.Gl X x) (hm : ∃ t, X.mg x = some (.str i t)) (hd : (x == ("__debug__" : Str)) = false := by decide) : PE X (.Name x pos) (EE G T F (.glb n (.str i))) := by
  obtain ⟨t, hm⟩ := hm
  refine PE.weak (pe_glob hg hm (v := .str i) ⟨t, rfl⟩ hd) fun σ H Q ⟨C, s, r, s', hH, rl, e, k⟩ => ?_
  unfold evalE at e; cases e; subst hH; exact (show Q (.str i) C.H from out_v rl .str k)

/-! ### operators -/
theorem bin_bad1 (op : Bop) (y : Val) : binop op .bad y = none := by cases op <;> simp [binop]
theorem bin_bad2 (op : Bop) (x : Val) : binop op x .bad = none := by cases op <;> cases x <;> simp [binop]
theorem veqX_bad1 (y : Val) : veqX .bad y = veq .bad y := by cases y <;> rfl
theorem cmp_bad1 (op : Cop) (y : Val) : cmpop op .bad y = none := by
  cases op <;> cases y <;> simp [cmpop, veqX_bad1, veq, vlt, vin, vis, toD, keyV]
theorem toDs_bad : toD .bad = none := by unfold toD; rfl
theorem veq_bad (x : Val) : veq x .bad = none := by
  unfold veq
  rw [toDs_bad]
  generalize toD x = o
  cases o <;> rfl
theorem vlt_bad (x : Val) : vlt x .bad = none := by
  have h : (match toD x, toD .bad with
    | some d, some e => if PySem.W.alike d e && (okD d && notNone d) then some (PySem.W.dataLt d e) else none
    | _, _ => none) = none := by
    rw [toDs_bad]
    generalize toD x = o
    cases o <;> rfl
  cases x <;> exact h
theorem bad_vlt (x : Val) : vlt .bad x = none := by
  have h : (match toD .bad, toD x with
    | some d, some e => if PySem.W.alike d e && (okD d && notNone d) then some (PySem.W.dataLt d e) else none
    | _, _ => none) = none := by
    rw [toDs_bad]
  cases x <;> exact h
theorem veqX_bad2 (x : Val) : veqX x .bad = veq x .bad := by cases x <;> rfl
theorem cmp_bad2 (op : Cop) (x : Val) : cmpop op x .bad = none := by
  cases op
  · show veqX x .bad = none; rw [veqX_bad2]; exact veq_bad x
  · show (veqX x .bad).map (!·) = none; rw [veqX_bad2, veq_bad]; rfl
  · exact vlt_bad x
  · show (vlt .bad x).map (!·) = none; rw [bad_vlt]; rfl
  · exact bad_vlt x
  · show (vlt x .bad).map (!·) = none; rw [vlt_bad]; rfl
  · rfl
  · rfl
  · rfl
  · rfl
theorem ne_bad1 {α : Type} {op : Val → Val → Option α} {x y : Val} {r : α} (h : ∀ y, op .bad y = none) (e : op x y = some r) : x ≠ .bad := fun z => by subst z; rw [h] at e; cases e
theorem ne_bad2 {α : Type} {op : Val → Val → Option α} {x y : Val} {r : α} (h : ∀ x, op x .bad = none) (e : op x y = some r) : y ≠ .bad := fun z => by subst z; rw [h] at e; cases e
theorem se_bin {ea eb : Expr} {pos : Pos} {a b : IE} (o : XO0 G k X) (op : Bop) (ha : PE X ea (EE G T F a)) (hb : PE X eb (EE G T F b)) : PE X (.BinOp ea (bop op) eb pos) (EE G T F (.bin op a b)) := by
  refine PE.weak (pe_op OpR.any ha hb) fun σ H Q ⟨C, s, r, s', hH, rl, e, kk⟩ => ?_
  unfold evalE at e
  obtain ⟨x, s1, e1, e⟩ := bind_ok e
  obtain ⟨y, s2, e2, e⟩ := bind_ok e
  obtain ⟨e, rfl⟩ := opt_ok e
  show EE G T F a σ H (fun x H1 => EE G T F b σ H1 (fun y H2 => ∃ r : R2, OpR X _ r ∧ r x y H2 Q))
  refine EE_of_op hH rl e1 fun C1 v l1 r1 o1 => EE_of_op rfl r1 e2 fun C2 w l2 r2 o2 => ?_
  have ok := bin_ok (G := G) (X := X) o.K op
  have hx := deref_ok r2 (OR.mono l2 o1) (ne_bad1 (bin_bad1 op) e)
  have hy := deref_ok r2 o2 (ne_bad2 (bin_bad2 op) e)
  have := ok C2 _ σ _ _ v w r Q r2 hx hy e fun C3 z l3 r3 h3 => kk C3 z ((l1.trans l2).trans l3) r3 h3
  cases op <;> exact this
theorem se_cmp {ea eb : Expr} {pos : Pos} {a b : IE} (o : XO0 G k X) (op : Cop) (ha : PE X ea (EE G T F a)) (hb : PE X eb (EE G T F b)) (hm : behindInMarks (cop op) eb = false := by first | exact nomark _ | rfl) : PE X (.Compare ea [cop op] [eb] pos) (EE G T F (.cmp op a b)) := by
  refine PE.weak (pe_cmpR OpR.any ha hb hm) fun σ H Q ⟨C, s, r, s', hH, rl, e, kk⟩ => ?_
  unfold evalE at e
  obtain ⟨x, s1, e1, e⟩ := bind_ok e
  obtain ⟨y, s2, e2, e⟩ := bind_ok e
  obtain ⟨e, rfl⟩ := opt_ok e
  obtain ⟨bb, e3, e4⟩ := Option.map_eq_some_iff.mp e
  clear e
  subst e4
  have e := e3
  show EE G T F a σ H (fun x H1 => EE G T F b σ H1 (fun y H2 => ∃ r : R2, OpR X _ r ∧ r x y H2 Q))
  refine EE_of_op hH rl e1 fun C1 v l1 r1 o1 => EE_of_op rfl r1 e2 fun C2 w l2 r2 o2 => ?_
  have hx := deref_ok r2 (OR.mono l2 o1) (ne_bad1 (cmp_bad1 op) e)
  have hy := deref_ok r2 o2 (ne_bad2 (cmp_bad2 op) e)
  exact cmp_ok o.K o.sys o.room op C2 _ _ v w bb Q hx hy e (kk C2 _ (l1.trans l2) r2 (show VR G C2 (.bl bb) (.bl bb) from VR.bl))
theorem st_cmp {ea eb : Expr} {pos : Pos} {a b : IE} (o : XO0 G k X) (op : Cop) (ha : PE X ea (EE G T F a)) (hb : PE X eb (EE G T F b)) (hm : behindInMarks (cop op) eb = false := by first | exact nomark _ | rfl) : PT X (.Compare ea [cop op] [eb] pos) (EB G T F (.cmp op a b)) := by
  refine PT.weak (pt_cmpR OpR.any ha hb hm) fun σ H Q ⟨C, s, r, s', hH, rl, e, kk⟩ => ?_
  unfold evalB at e
  obtain ⟨z, s3, e, e'⟩ := bind_ok e
  obtain ⟨z', e, ez⟩ := val_ok e
  obtain ⟨e', rfl⟩ := opt_ok e'
  unfold evalE at e
  obtain ⟨x, s1, e1, e⟩ := bind_ok e
  obtain ⟨y, s2, e2, e⟩ := bind_ok e
  obtain ⟨e, rfl⟩ := opt_ok e
  obtain ⟨bb, e3, e4⟩ := Option.map_eq_some_iff.mp e
  clear e
  subst e4
  have e := e3
  cases ez
  cases e'
  show EE G T F a σ H (fun x H1 => EE G T F b σ H1 (fun y H2 => ∃ r : R2, OpR X _ r ∧ r x y H2 (fun x H' => ∃ k, x = .bl k ∧ Q k H')))
  refine EE_of_op hH rl e1 fun C1 v l1 r1 o1 => EE_of_op rfl r1 e2 fun C2 w l2 r2 o2 => ?_
  have hx := deref_ok r2 (OR.mono l2 o1) (ne_bad1 (cmp_bad1 op) e3)
  have hy := deref_ok r2 o2 (ne_bad2 (cmp_bad2 op) e3)
  exact cmp_ok o.K o.sys o.room op C2 _ _ v w r _ hx hy e3 ⟨r, rfl, kk C2 (l1.trans l2) r2⟩
/-- an expression that gives a bool, as a test -/
theorem st_val {e : Expr} {a : IE} (h : PE X e (EE G T F a)) (he : ∀ whole, isTrue e X.env whole = (do let v ← whole; standAt e.pos; holding [v] (truthy v)) := by intro _; rfl) : PT X e (EB G T F a) := by
  refine PT.weak (pt_val h he) fun σ H Q ⟨C, s, r, s', hH, rl, e, kk⟩ => ?_
  unfold evalB at e
  obtain ⟨z, s3, e, e'⟩ := bind_ok e
  obtain ⟨e', rfl⟩ := opt_ok e'
  show EE G T F a σ H (fun x H1 => ∃ c, x = .bl c ∧ Q c H1)
  refine EE_of_val hH rl e fun C1 v l1 r1 h1 => ?_
  cases z with
  | bl bb => cases e'; unfold VR at h1; exact ⟨_, h1, kk C1 l1 r1⟩
  | _ => cases e'
end
end Rs
end
section
set_option maxRecDepth 100000
set_option maxHeartbeats 4000000
/-! Expressions: chains, truth, places, items, lists of arguments, displays. -/
namespace Rs
open PySem PySem.Spec PyProof.Rows L2
section
variable {G : Gl} {C : Cf} {s : S} {σ : L2.St}
theorem Rel.drop (r : Rel G C s σ) (i : Nat) : Rel G C { s with e := s.e.set i .no } σ where
  len := by simpa using r.len
  env := fun j x h => r.env j x (by
    by_cases e : i = j
    · subst e
      by_cases hi : i < s.e.length
      · simp [hi] at h
      · simp [hi] at h
    · simpa [List.getElem?_set_ne e] using h)
  own := fun j c h => r.own j c (by
    by_cases e : i = j
    · subst e
      by_cases hi : i < s.e.length
      · simp [hi] at h
      · simp [hi] at h
    · simpa [List.getElem?_set_ne e] using h)
  apart := fun j l c d p h1 h2 h3 h4 => by
    refine r.apart j l c d p ?_ ?_ h3 h4
    · by_cases e : i = j
      · subst e
        by_cases hi : i < s.e.length
        · simp [hi] at h1
        · simp [hi] at h1
      · simpa [List.getElem?_set_ne e] using h1
    · by_cases e : i = l
      · subst e
        by_cases hi : i < s.e.length
        · simp [hi] at h2
        · simp [hi] at h2
      · simpa [List.getElem?_set_ne e] using h2
  hlen := r.hlen
  nd := r.nd
  cell := r.cell
  fztr := r.fztr
  kptr := r.kptr
  fzkp := r.fzkp
  tabs := r.tabs
theorem set_val {s : S} {i j : Nat} {t u : Slot} (h : (s.e.set i t)[j]? = some u) : (i = j ∧ u = t ∧ i < s.e.length) ∨ (i ≠ j ∧ s.e[j]? = some u) := by
  by_cases e : i = j
  · subst e
    by_cases hi : i < s.e.length
    · simp [hi] at h
      exact .inl ⟨rfl, h.symm, hi⟩
    · simp [hi] at h
  · rw [List.getElem?_set_ne e] at h
    exact .inr ⟨e, h⟩
/-- a name holds a value; its slot in the model holds v -/
theorem Rel.setV (r : Rel G C s σ) {i : Nat} {x : Val} {v : V} (h : VR G C x v) : Rel G C { s with e := s.e.set i (.val x) } (σ.set i (some v)) where
  len := by simpa using r.len
  env := fun j y h' => by
    rcases set_val h' with ⟨rfl, e, hi⟩ | ⟨e, h'⟩
    · cases e
      exact ⟨v, by rw [List.getElem?_set_self (by rw [← r.len]; exact hi)], h⟩
    · rw [List.getElem?_set_ne e]
      exact r.env j y h'
  own := fun j c h' => by
    rcases set_val h' with ⟨rfl, e, hi⟩ | ⟨e, h'⟩
    · cases e
    · rw [List.getElem?_set_ne e]
      exact r.own j c h'
  apart := fun j l c d p h1 h2 h3 h4 => by
    rcases set_val h1 with ⟨rfl, e, hi⟩ | ⟨e1, h1⟩
    · cases e
    · rcases set_val h2 with ⟨rfl, e, hi⟩ | ⟨e2, h2⟩
      · cases e
      · rw [List.getElem?_set_ne e1] at h3
        rw [List.getElem?_set_ne e2] at h4
        exact r.apart j l c d p h1 h2 h3 h4
  hlen := r.hlen
  nd := r.nd
  cell := r.cell
  fztr := r.fztr
  kptr := r.kptr
  fzkp := r.fzkp
  tabs := r.tabs
theorem set_same {σ : L2.St} {i : Nat} {v : V} (h : σ[i]? = some (some v)) : σ.set i (some v) = σ := by
  apply List.ext_getElem?
  intro j
  by_cases e : i = j
  · subst e
    rw [List.getElem?_set_self (List.getElem?_eq_some_iff.mp h).1, h]
  · rw [List.getElem?_set_ne e]
/-- a name has a list or dict of its own -/
theorem Rel.setO (r : Rel G C s σ) {i : Nat} {c : Cell} {p : Addr} (h : CR G C c (C.H p)) (f : Fr C p) (d : ∀ (j : Nat) (c : Cell), s.e[j]? = some (.own c) → j ≠ i → σ[j]? ≠ some (some (.ref p))) : Rel G C { s with e := s.e.set i (.own c) } (σ.set i (some (.ref p))) where
  len := by simpa using r.len
  env := fun j y h' => by
    rcases set_val h' with ⟨rfl, e, hi⟩ | ⟨e, h'⟩
    · cases e
    · rw [List.getElem?_set_ne e]
      exact r.env j y h'
  own := fun j c' h' => by
    rcases set_val h' with ⟨rfl, e, hi⟩ | ⟨e, h'⟩
    · cases e
      exact ⟨p, by rw [List.getElem?_set_self (by rw [← r.len]; exact hi)], h, f.fz, f.ρ, fun _ => f.kp, f.rs⟩
    · rw [List.getElem?_set_ne e]
      exact r.own j c' h'
  apart := fun j l c1 d1 q h1 h2 h3 h4 => by
    rcases set_val h1 with ⟨rfl, e, hi⟩ | ⟨e1, h1⟩
    · rcases set_val h2 with ⟨rfl, e, hi⟩ | ⟨e2, h2⟩
      · rfl
      · rw [List.getElem?_set_self (by rw [← r.len]; exact hi)] at h3
        rw [List.getElem?_set_ne e2] at h4
        cases h3
        exact absurd h4 (d l _ h2 (Ne.symm e2))
    · rcases set_val h2 with ⟨rfl, e, hi⟩ | ⟨e2, h2⟩
      · rw [List.getElem?_set_self (by rw [← r.len]; exact hi)] at h4
        rw [List.getElem?_set_ne e1] at h3
        cases h4
        exact absurd h3 (d j _ h1 (Ne.symm e1))
      · rw [List.getElem?_set_ne e1] at h3
        rw [List.getElem?_set_ne e2] at h4
        exact r.apart j l c1 d1 q h1 h2 h3 h4
  hlen := r.hlen
  nd := r.nd
  cell := r.cell
  fztr := r.fztr
  kptr := r.kptr
  fzkp := r.fzkp
  tabs := r.tabs
/-- a cell more -/
abbrev Cf.cell (C : Cf) (p : Addr) : Cf := { C with ρ := C.ρ ++ [p] }
theorem Le.cell {p : Addr} : Le C (C.cell p) where
  ρ := List.prefix_append _ _
  fz := fun _ h => h
  hf := fun _ _ => .of fun _ h => h
  kp := rfl
  rs := rfl
  hk := fun _ _ _ h => h
  ff := fun _ _ _ _ h => h
theorem Rel.toHeap (r : Rel G C s σ) {c : Cell} {p : Addr} (h : CR G C c (C.H p)) (f : Fr C p) (d : ∀ (j : Nat) (c : Cell), s.e[j]? = some (.own c) → σ[j]? ≠ some (some (.ref p))) : Rel G (C.cell p) { s with h := s.h ++ [c] } σ where
  len := r.len
  env := fun j y h' => let ⟨v, a, b⟩ := r.env j y h'; ⟨v, a, b.mono .cell⟩
  own := fun j c' h' => by
    obtain ⟨q, a, b, e, g, k⟩ := r.own j c' h'
    refine ⟨q, a, b.mono .cell, e, fun z => ?_, k⟩
    rcases List.mem_append.mp z with z | z
    · exact g z
    · have z : q = p := by simpa using z
      subst z
      exact d j c' h' a
  apart := r.apart
  hlen := by simp [r.hlen]
  nd := by
    refine List.nodup_append.mpr ⟨r.nd, by simp, fun a ha b hb => ?_⟩
    have hb : b = p := by simpa using hb
    subst hb
    exact fun z => f.ρ (z ▸ ha)
  cell := fun n c' q h1 h2 => by
    have hl := r.hlen
    by_cases hn : n < s.h.length
    · rw [List.getElem?_append_left hn] at h1
      rw [List.getElem?_append_left (by omega)] at h2
      obtain ⟨a, b, e⟩ := r.cell n c' q h1 h2
      exact ⟨a.mono .cell, b, e⟩
    · have hn' : n = s.h.length := by
        have := (List.getElem?_eq_some_iff.mp h1).1
        simp at this
        omega
      subst hn'
      simp at h1
      subst h1
      rw [hl] at h2
      simp at h2
      subst h2
      exact ⟨h.mono .cell, f.fz, fun _ => f.kp, f.rs⟩
  fztr := r.fztr
  kptr := r.kptr
  fzkp := r.fzkp
  tabs := r.tabs
end

section
variable {G : Gl} {T : Tab} {F : Call} {k : Nat} {X : Cx} {ea eb ec : Expr} {pos : Pos} {a b c : IE}
theorem own_slot {C : Cf} {s : S} {σ : L2.St} (r : Rel G C s σ) {i : Nat} {c : Cell} (h : s.e[i]? = some (.own c)) (u : unlocked c = true) : ∃ p, σ[i]? = some (some (.ref p)) ∧ CR G C c (C.H p) ∧ Fr C p ∧ Rel G C { s with e := s.e.set i .no } σ ∧
    (∀ (j : Nat) (c : Cell), (s.e.set i .no)[j]? = some (.own c) → σ[j]? ≠ some (some (.ref p))) := by
  obtain ⟨p, h1, h2, h3, h4, h5⟩ := r.own i c h
  refine ⟨p, h1, h2, ⟨h3, h5.1 u, h4, h5.2⟩, r.drop i, fun j d hj z => ?_⟩
  rcases set_val hj with ⟨rfl, e, hi⟩ | ⟨e, h'⟩
  · cases e
  · exact e (r.apart i j c d p h h' h1 z)
theorem se_frz {x : Str} {pos : Pos} (i : Nat) (hN : X.N[i]? = some x := by rfl) (hv : Vis X.env.scope x := by first | exact Or.inl rfl | exact Or.inr (Or.inl rfl) | exact Or.inr (Or.inr rfl)) (hd : (x == ("__debug__" : Str)) = false := by decide)
    (hcd : (x == ("__classdict__" : Str)) = false := by decide) : PE X (.Name x pos) (EE G T F (.frz i)) := by
  refine PE.weak (pe_var hN hv hd hcd) fun σ H Q ⟨C, s, r, s', hH, rl, e, k⟩ => ?_
  unfold evalE at e
  unfold frzVar at e
  subst hH
  cases q : slotOf s i with
  | no => simp [q] at e
  | val x =>
    simp only [q, R.ok.injEq] at e
    obtain ⟨rfl, rfl⟩ := e
    obtain ⟨v, h1, h2⟩ := rl.env i x (slot_get q (by simp))
    exact ⟨v, h1, k C v (.refl C) rl h2⟩
  | own c =>
    cases u : unlocked c with
    | false => simp [q, u] at e
    | true =>
      simp only [q, u, if_true, R.ok.injEq] at e
      obtain ⟨rfl, rfl⟩ := e
      obtain ⟨p, h1, h2, f, r2, d⟩ := own_slot rl (slot_get q (by simp)) u
      have r3 := r2.ice f h2.nt d
      have v3 := imm_ok (C := C) h2 u
      have r4 := r3.setV (i := i) v3
      rw [set_same h1] at r4
      refine ⟨_, h1, k (C.ice p) _ .ice ?_ v3⟩
      have e5 : (s.e.set i .no).set i (.val (imm c)) = s.e.set i (.val (imm c)) := List.set_set ..
      rw [e5] at r4
      exact r4
theorem se_heap (ha : PE X ea (EE G T F a)) : PE X ea (EE G T F (.heap a)) := by
  refine PE.weak ha fun σ H Q ⟨C, s, r, s', hH, rl, e, k⟩ => ?_
  unfold evalE at e
  obtain ⟨x, s1, e1, e⟩ := bind_ok e
  cases x with
  | v x => cases e
  | sl x => cases e
  | f c =>
    unfold toHeap at e
    simp only [R.ok.injEq] at e
    obtain ⟨rfl, rfl⟩ := e
    refine ⟨C, s, _, s1, hH, rl, e1, fun C1 v l r1 h1 => ?_⟩
    obtain ⟨p, rfl, h2, f, u, d⟩ := h1
    refine k (C1.cell p) (.ref p) (l.trans .cell) (r1.toHeap h2 f d) ?_
    show VR G _ (.ref _) _
    unfold VR
    exact ⟨p, by show (C1.ρ ++ [p])[s1.h.length]? = some p; rw [r1.hlen]; simp, rfl⟩
theorem se_neg (o : XO0 G k X) (ha : PE X ea (EE G T F a)) : PE X (.UnaryOp .USub ea pos) (EE G T F (.neg a)) := by
  refine PE.weak (pe_un un_neg ha) fun σ H Q ⟨C, s, r, s', hH, rl, e, kk⟩ => ?_
  unfold evalE at e
  obtain ⟨x, s1, e1, e⟩ := bind_ok e
  show EE G T F a σ H (fun x H1 => rU (fun i => .int (-i)) x H1 Q)
  cases q : deref s1 x with
  | int i =>
    rw [q] at e
    cases e
    refine EE_of_op hH rl e1 fun C1 v l1 r1 o1 => ?_
    have hx : NR G C1 (.int i) v := by
      cases x with
      | f cc =>
        exfalso
        unfold deref at q
        cases cc <;> simp [imm] at q
      | v y =>
        have := deref_ok r1 o1 (by show deref s' (.v y) ≠ .bad; rw [q]; simp)
        rw [show deref s' (opnd (.v y)) = deref s' (.v y) from rfl, q] at this
        exact this
      | sl y =>
        have := deref_ok r1 o1 (by show deref s' (.sl y) ≠ .bad; rw [q]; simp)
        rw [show deref s' (opnd (.sl y)) = deref s' (.sl y) from rfl, q] at this
        exact this
    cases hx.int
    exact ⟨i, rfl, kk C1 _ l1 r1 (show VR G C1 (.int (-i)) (.int (-i)) from VR.int)⟩
  | _ => rw [q] at e; cases e
/-! ### truth -/
theorem B_val {s s' : S} {r : Bool} (e : evalB T F a s = .ok r s') : (evalE T F a s).val = .ok (.bl r) s' := by
  unfold evalB at e
  obtain ⟨z, s3, e, e'⟩ := bind_ok e
  obtain ⟨e', rfl⟩ := opt_ok e'
  cases z with
  | bl b => cases e'; exact e
  | _ => cases e'
theorem se_chn (o : XO0 G k X) (o1 o2 : Cop) (ha : PE X ea (EE G T F a)) (hb : PE X eb (EE G T F b)) (hc : PE X ec (EE G T F c)) (hm : lastMarks [cop o1, cop o2] [eb, ec] = false := by with_unfolding_all rfl) :
    PE X (.Compare ea [cop o1, cop o2] [eb, ec] pos) (EE G T F (.chn o1 o2 a b c)) := by
  refine PE.weak (pe_chain OpR.any OpR.any ha hb hc hm) fun σ H Q ⟨C, s, r, s', hH, rl, e, kk⟩ => ?_
  unfold evalE at e
  obtain ⟨x, s1, e1, e⟩ := bind_ok e
  obtain ⟨y, s2, e2, e⟩ := bind_ok e
  obtain ⟨bb, s3, e3, e⟩ := bind_ok e
  obtain ⟨e3, e4⟩ := opt_ok e3
  subst e4
  show EE G T F a σ H (fun x H1 => EE G T F b σ H1 (fun y H2 => ∃ r : R2, OpR X _ r ∧ r x y H2 (fun z H3 => ∃ k, z = .bl k ∧ (if k = true then EE G T F c σ H3 (fun w' H4 => ∃ r : R2, OpR X _ r ∧ r y w' H4 Q) else Q (.bl false) H3))))
  refine EE_of_op hH rl e1 fun C1 v l1 r1 q1 => EE_of_op rfl r1 e2 fun C2 w l2 r2 q2 => ?_
  have hx := deref_ok r2 (OR.mono l2 q1) (ne_bad1 (cmp_bad1 o1) e3)
  have hy := deref_ok r2 q2 (ne_bad2 (cmp_bad2 o1) e3)
  refine cmp_ok o.K o.sys o.room o1 C2 _ _ v w bb _ hx hy e3 ⟨bb, rfl, ?_⟩
  cases bb with
  | false =>
    cases e
    rw [if_neg (by simp)]
    exact kk C2 _ (l1.trans l2) r2 (show VR G C2 (.bl false) (.bl false) from VR.bl)
  | true =>
    rw [if_pos rfl]
    obtain ⟨z, s4, e5, e⟩ := bind_ok e
    obtain ⟨e, e6⟩ := opt_ok e
    subst e6
    obtain ⟨b2, e7, e8⟩ := Option.map_eq_some_iff.mp e
    subst e8
    refine EE_of_op rfl r2 e5 fun C3 u l3 r3 q3 => ?_
    have hy := deref_ok r3 (OR.mono l3 q2) (ne_bad1 (cmp_bad1 o2) e7)
    have hz := deref_ok r3 q3 (ne_bad2 (cmp_bad2 o2) e7)
    exact cmp_ok o.K o.sys o.room o2 C3 _ _ w u b2 _ hy hz e7 (kk C3 _ ((l1.trans l2).trans l3) r3 (show VR G C3 (.bl b2) (.bl b2) from VR.bl))
end
end Rs
end
section
set_option maxRecDepth 100000
set_option maxHeartbeats 4000000
/-! Tables whose keys are of any hashable kind: looked up, grown. -/
namespace PySem
namespace Od
open Sem (wp)
open SeqAt
abbrev Ent := NestedKey × Value × Value
def ent (w : World) (z : Ent) : DictEntry := ⟨z.1.hash w, z.2.1, z.2.2⟩
def KeysAt (h : Heap) (zs : List Ent) : Prop := ∀ z ∈ zs, NestedIs h z.1 z.2.1 ∧ z.1.depth ≤ 8
section
variable {P : Program} {w : World} {A : Around} {E : Value → Shared → Prop} {s : Shared} {d : Addr} {o : Obj} {es : Array DictEntry} {ep : Nat} {zs : List Ent} {k : NestedKey} {key : Value}
theorem ent_at (he : es.toList = zs.map (ent w)) (j : Nat) : es[j]? = (zs[j]?).map (ent w) := by rw [← Array.getElem?_toList, he, List.getElem?_map]
theorem ent_size (he : es.toList = zs.map (ent w)) : es.size = zs.length := by rw [← Array.length_toList, he, List.length_map]
/-- the key stands at no place before i -/
def Miss (zs : List Ent) (k : NestedKey) (i : Nat) : Prop := ∀ j z, zs[j]? = some z → j < i → z.1 ≠ k
theorem miss_skip (he : es.toList = zs.map (ent w)) {i x : Nat} (m : Miss zs k i) (h : ∀ j, i ≤ j → j < x → ((es[j]?.map (·.hash)) == some (k.hash w)) = false) : Miss zs k x := fun j z hj hjx e => by
  rcases Nat.lt_or_ge j i with q | q
  · exact m j z hj q e
  · have := h j q hjx
    rw [ent_at he j, hj] at this
    simp [ent, e] at this
theorem key_one (hn : (zs.map (·.1)).Nodup) {i j : Nat} {y z : Ent} (hi : zs[i]? = some y) (hj : zs[j]? = some z) (e1 : y.1 = k) (e2 : z.1 = k) : i = j := by
  have hi' : (zs.map (·.1))[i]? = some k := by rw [List.getElem?_map, hi]; simp [e1]
  have hj' : (zs.map (·.1))[j]? = some k := by rw [List.getElem?_map, hj]; simp [e2]
  exact (List.getElem?_inj (List.getElem?_eq_some_iff.mp hi').1 hn).mp (hi'.trans hj'.symm)
theorem same_key {y : NestedKey} {v : Value} {Q : Bool → Shared → Prop} (hu : A.units + 8 < cLine) (h1 : NestedIs s.heap y v ∧ y.depth ≤ 8) (h2 : NestedIs s.heap k key) (q : Q (decide (y = k)) s) : wpAny (model P w) A (eqBool v key) Q E s :=
  eqAt_key y k A s _ _ h1.1 h2 (by omega) _ _ _ _ (by rw [← NestedKey.decide_eq]; exact q)
theorem walk_plain {Q : Option Nat → Shared → Prop} (hu : A.units + 8 < cLine) (hk : NestedIs s.heap k key) (ho : s.heap.get? d = some o) (hd : o.data = .dict es ep) (he : es.toList = zs.map (ent w)) (his : KeysAt s.heap zs)
    (hnone : Miss zs k zs.length → Q none s) (hsome : ∀ j z, zs[j]? = some z → z.1 = k → Q (some j) s) :
    wpAny (model P w) A (dictWalkPlain d key (k.hash w) es (placesWithHash es.size (fun i => es[i]?.map (·.hash)) (k.hash w))) Q E s := by
  have hsz := ent_size he
  refine wpAny_bind ?_
  refine wpAny_forIn_list _ (fun rest b s' => s' = s ∧ b = (none, ()) ∧ ∃ i, rest = (List.range' i (es.size - i)).filter (fun i => (es[i]?.map (·.hash)) == some (k.hash w)) ∧ i ≤ es.size ∧ Miss zs k i) _ ?_ ?_ _ _
    ⟨rfl, rfl, 0, by rw [placesWithHash, List.range_eq_range', Nat.sub_zero], Nat.zero_le _, fun _ _ _ h => absurd h (Nat.not_lt_zero _)⟩
  · rintro x rest b s' ⟨rfl, rfl, i, hr, hi, hno⟩
    obtain ⟨hix, hxn, hpx, hskip, hrest⟩ := filter_range'_cons _ _ _ _ _ hr.symm
    have hlt : x < es.size := by omega
    obtain ⟨z, hz⟩ : ∃ z, zs[x]? = some z := ⟨zs[x]'(by rw [← hsz]; exact hlt), List.getElem?_eq_getElem _⟩
    have hzm := his z (List.mem_of_getElem? hz)
    have hex : es[x]? = some (ent w z) := by rw [ent_at he x, hz]; rfl
    have mx : Miss zs k x := miss_skip he hno hskip
    have more : z.1 ≠ k → ∃ i, rest = (List.range' i (es.size - i)).filter (fun i => (es[i]?.map (·.hash)) == some (k.hash w)) ∧ i ≤ es.size ∧ Miss zs k i := fun hne =>
      ⟨x + 1, by rw [hrest]; congr 2; omega, hlt, fun j y hj hjx => by
        rcases Nat.lt_or_ge j x with q | q
        · exact mx j y hj q
        · have : j = x := by omega
          subst this
          rw [hz] at hj
          cases hj
          exact hne⟩
    rw [hex]
    dsimp only
    by_cases hh : ((ent w z).hash == k.hash w) = true
    · rw [if_pos hh]
      refine wpAny_bind (wpAny_dictEpoch ho hd (wpAny_bind (same_key (y := z.1) hu hzm hk (wpAny_bind (wpAny_dictEpoch ho hd ?_)))))
      show wpAny _ _ (if (ep != ep) = true then _ else _) _ E _
      rw [if_neg (by simp)]
      by_cases hkk : z.1 = k
      · rw [decide_eq_true hkk]
        exact wpAny_bind (wpAny_rule (wpAny_pure (wpAny_pure (hsome x z hz hkk))))
      · rw [decide_eq_false hkk]
        exact wpAny_bind (wpAny_rule (wpAny_pure ⟨rfl, rfl, more hkk⟩))
    · rw [if_neg hh]
      refine wpAny_pure ⟨rfl, rfl, more fun e => ?_⟩
      rw [show (ent w z).hash = z.1.hash w from rfl, e] at hh
      simp at hh
  · rintro b s' ⟨rfl, rfl, i, hr, hi, hno⟩
    refine wpAny_pure (hnone (miss_skip he hno fun j h1 h2 => ?_))
    have := List.filter_eq_nil_iff.mp hr.symm j (List.mem_range'_1.mpr ⟨h1, by omega⟩)
    simpa using this
theorem quiet_stored {stored : List Value} {Q : Bool → Shared → Prop} (hk : NestedIs s.heap k key) (hkd : k.depth ≤ 8) (hst : ∀ v ∈ stored, ∃ y : NestedKey, NestedIs s.heap y v ∧ y.depth ≤ 8) (q : Q false s) : wpAny (model P w) A (tableMayTell key stored) Q E s := by
  unfold tableMayTell
  split
  · exact wpAny_pure q
  · refine wpAny_bind (quiet_key k key 8 s hk hkd A E _ ?_)
    simp only [Bool.not_true, Bool.false_eq_true, if_false]
    refine wpAny_bind ?_
    refine wpAny_forIn_list _ (fun rest r s' => s' = s ∧ r = (none, ()) ∧ ∀ v ∈ rest, ∃ y : NestedKey, NestedIs s.heap y v ∧ y.depth ≤ 8) _ ?_ ?_ _ _ ⟨rfl, rfl, hst⟩
    · rintro x rest r s' ⟨rfl, rfl, hr⟩
      obtain ⟨y, hy, hyd⟩ := hr x List.mem_cons_self
      refine wpAny_bind (quiet_key y x 8 s' hy hyd A E _ ?_)
      simp only [Bool.not_true, Bool.false_eq_true, if_false]
      exact wpAny_pure ⟨rfl, rfl, fun v hv => hr v (List.mem_cons_of_mem _ hv)⟩
    · rintro r s' ⟨rfl, rfl, _⟩
      exact wpAny_pure q
theorem find {Q : Option Nat → Shared → Prop} (hu : A.units + 8 < cLine) (hk : NestedIs s.heap k key) (hkd : k.depth ≤ 8) (ho : s.heap.get? d = some o) (hd : o.data = .dict es ep) (he : es.toList = zs.map (ent w)) (his : KeysAt s.heap zs) (hn : (zs.map (·.1)).Nodup)
    (hnone : Miss zs k zs.length → Q none s) (hsome : ∀ j z, zs[j]? = some z → z.1 = k → Q (some j) s) : wpAny (model P w) A (dictFind d key (k.hash w)) Q E s := by
  have hsz := ent_size he
  have plain := walk_plain (P := P) (A := A) (E := E) hu hk ho hd he his hnone hsome
  have hst : ∀ v ∈ (placesWithHash es.size (fun i => es[i]?.map (·.hash)) (k.hash w)).filterMap (fun i => es[i]?.map (·.key)), ∃ y : NestedKey, NestedIs s.heap y v ∧ y.depth ≤ 8 := by
    intro v hv
    obtain ⟨i, _, hi⟩ := List.mem_filterMap.mp hv
    rw [ent_at he i] at hi
    cases hz : zs[i]? with
    | none => rw [hz] at hi; cases hi
    | some z =>
      rw [hz] at hi
      simp only [Option.map_some, Option.some.injEq] at hi
      subst hi
      exact ⟨z.1, his z (List.mem_of_getElem? hz)⟩
  have hany : ¬ (es.any fun e => e.key == key && e.hash != k.hash w) = true := by
    rw [← Array.any_toList, he, List.any_eq_true]
    rintro ⟨e, hin, hc⟩
    obtain ⟨z, hz, rfl⟩ := List.mem_map.mp hin
    simp only [ent, Bool.and_eq_true, beq_iff_eq, bne_iff_ne, ne_eq] at hc
    have := (his z hz).1
    rw [hc.1] at this
    exact hc.2 (by rw [NestedIs.inj _ _ _ this hk])
  generalize hpl : placesWithHash es.size (fun i => es[i]?.map (·.hash)) (k.hash w) = pl at plain hst
  have hpl2 : pl = (List.range' 0 (es.size - 0)).filter (fun i => (es[i]?.map (·.hash)) == some (k.hash w)) := by rw [← hpl, placesWithHash, List.range_eq_range', Nat.sub_zero]
  have byText : ∀ x t, key = .str x t → (es.all fun e => isExactStrKey e.key) = true → wpAny (model P w) A (foundByValue d key es x) Q E s := by
    rintro x t rfl hall
    have hkx : k = .text x := NestedIs.inj _ _ _ hk (.text x t)
    have hiff : ∀ (j : Nat) (z : Ent) (e : DictEntry), zs[j]? = some z → es[j]? = some e → (e.key.isStr x = true ↔ z.1 = k) := by
      intro j z e hz hj
      rw [ent_at he j, hz] at hj
      cases hj
      have hzm := (his z (List.mem_of_getElem? hz)).1
      constructor
      · intro h1
        cases hv : z.2.1 with
        | str y t2 =>
          rw [show (ent w z).key = z.2.1 from rfl, hv] at h1
          have : y = x := by simpa [Value.isStr] using h1
          subst this
          rw [hv] at hzm
          rw [hkx]
          exact NestedIs.inj _ _ _ hzm (.text y t2)
        | _ => rw [show (ent w z).key = z.2.1 from rfl, hv] at h1; simp [Value.isStr] at h1
      · intro h1
        rw [h1, hkx] at hzm
        show z.2.1.isStr x = true
        cases hv : z.2.1 with
        | str y t2 =>
          rw [hv] at hzm
          cases hzm
          simp [Value.isStr]
        | _ => rw [hv] at hzm; cases hzm
    unfold foundByValue
    cases hf : es.findIdx? (fun e => e.key.isStr x) with
    | none =>
      refine wpAny_pure (hnone fun j z hz _ hzk => ?_)
      have hj : j < es.size := by rw [hsz]; exact (List.getElem?_eq_some_iff.mp hz).1
      have h1 := Array.findIdx?_eq_none_iff.mp hf es[j] (Array.getElem_mem hj)
      have h2 := (hiff j z es[j] hz (Array.getElem?_eq_getElem hj)).mpr hzk
      rw [h2] at h1
      cases h1
    | some i =>
      obtain ⟨hlt, hi, _⟩ := Array.findIdx?_eq_some_iff_getElem.mp hf
      obtain ⟨z, hz⟩ : ∃ z, zs[i]? = some z := ⟨zs[i]'(by rw [← hsz]; exact hlt), List.getElem?_eq_getElem _⟩
      have hzk := (hiff i z es[i] hz (Array.getElem?_eq_getElem hlt)).mp hi
      have hkey : es[i].key = z.2.1 := by
        have := ent_at he i
        rw [hz, Array.getElem?_eq_getElem hlt] at this
        exact congrArg DictEntry.key (Option.some.inj this)
      simp only [Array.getElem?_eq_getElem hlt]
      rw [hkey]
      refine wpAny_bind (wpAny_dictEpoch ho hd (wpAny_bind (same_key (y := z.1) hu (his z (List.mem_of_getElem? hz)) hk (wpAny_bind (wpAny_dictEpoch ho hd ?_)))))
      show wpAny _ _ (if (ep != ep) = true then _ else _) _ E _
      rw [if_neg (by simp), decide_eq_true hzk]
      exact wpAny_bind (wpAny_rule (wpAny_pure (hsome i z hz hzk)))
  unfold dictFind
  try with_reducible refine wpAny_holding ?_
  refine wpAny_bind (wpAny_dictEntries ho hd ?_)
  dsimp only
  rw [hpl]
  have st0 : Miss zs k 0 := fun _ _ _ h => absurd h (Nat.not_lt_zero _)
  cases key
  case' str x t =>
    dsimp only
    by_cases hs : (es.all fun e => isExactStrKey e.key) = true
    · rw [if_pos hs]
      exact byText x t rfl hs
    rw [if_neg hs]
    by_cases hall : ((Value.str x t :: pl.filterMap (fun i => es[i]?.map (·.key))).all carriedByValue) = true
    · rw [if_pos hall]
      exact plain
    rw [if_neg hall]
  case' ref a =>
    dsimp only
    rw [if_neg (show ¬ ((Value.ref a :: pl.filterMap (fun i => es[i]?.map (·.key))).all carriedByValue) = true by simp [carriedByValue]), if_neg hany]
  case' none =>
    dsimp only
    by_cases hall : ((Value.none :: pl.filterMap (fun i => es[i]?.map (·.key))).all carriedByValue) = true
    · rw [if_pos hall]
      exact plain
    rw [if_neg hall]
  case' bool b =>
    dsimp only
    by_cases hall : ((Value.bool b :: pl.filterMap (fun i => es[i]?.map (·.key))).all carriedByValue) = true
    · rw [if_pos hall]
      exact plain
    rw [if_neg hall]
  case' int i t =>
    dsimp only
    by_cases hall : ((Value.int i t :: pl.filterMap (fun i => es[i]?.map (·.key))).all carriedByValue) = true
    · rw [if_pos hall]
      exact plain
    rw [if_neg hall]
  all_goals first | (exfalso; cases hk; done) | skip
  all_goals (
    generalize hstd : pl.filterMap (fun i => es[i]?.map (·.key)) = stored at hst
    split <;> (first | refine wpAny_bind (wpAny_pure ?_) | refine wpAny_bind (quiet_stored hk hkd hst ?_)) <;> (
      rw [if_neg (by simp)]
      refine wpAny_bind ?_
      refine wpAny_forIn_list _
        (fun rest b s' => s' = s ∧ ∃ i hit, b = (none, hit) ∧ rest = (List.range' i (es.size - i)).filter (fun i => (es[i]?.map (·.hash)) == some (k.hash w)) ∧ i ≤ es.size ∧
          ((hit = none ∧ Miss zs k i) ∨ ∃ j z, hit = some j ∧ j < i ∧ zs[j]? = some z ∧ z.1 = k)) _ ?_ ?_ _ _
        ⟨rfl, 0, none, rfl, hpl2, Nat.zero_le _, .inl ⟨rfl, st0⟩⟩
      · rintro x rest b s' ⟨rfl, i, hit, rfl, hr, hi, hH⟩
        obtain ⟨hix, hxn, hpx, hskip, hrest⟩ := filter_range'_cons _ _ _ _ _ hr.symm
        have hlt : x < es.size := by omega
        have hrest' := hrest
        rw [show i + (es.size - i) - (x + 1) = es.size - (x + 1) by omega] at hrest'
        obtain ⟨z, hz⟩ : ∃ z, zs[x]? = some z := ⟨zs[x]'(by rw [← hsz]; exact hlt), List.getElem?_eq_getElem _⟩
        have hzm := his z (List.mem_of_getElem? hz)
        have hex : es[x]? = some (ent w z) := by rw [ent_at he x, hz]; rfl
        have hHx : (hit = none ∧ Miss zs k x) ∨ ∃ j z, hit = some j ∧ j < x ∧ zs[j]? = some z ∧ z.1 = k := by
          rcases hH with q | ⟨j, y, q1, q2, q3⟩
          · exact .inl ⟨q.1, miss_skip he q.2 hskip⟩
          · exact .inr ⟨j, y, q1, Nat.lt_of_lt_of_le q2 hix, q3⟩
        have stay : z.1 ≠ k → (hit = none ∧ Miss zs k (x + 1)) ∨ ∃ j z, hit = some j ∧ j < x + 1 ∧ zs[j]? = some z ∧ z.1 = k := fun hne => by
          rcases hHx with q | ⟨j, y, q1, q2, q3⟩
          · refine .inl ⟨q.1, fun j y hj hjx => ?_⟩
            rcases Nat.lt_or_ge j x with g | g
            · exact q.2 j y hj g
            · have : j = x := by omega
              subst this
              rw [hz] at hj
              cases hj
              exact hne
          · exact .inr ⟨j, y, q1, by omega, q3⟩
        rw [hex]
        dsimp only
        by_cases hh : ((ent w z).hash == k.hash w) = true
        · rw [if_pos hh]
          refine wpAny_bind (wpAny_dictEpoch ho hd (wpAny_bind (same_key (y := z.1) hu hzm hk (wpAny_bind (wpAny_dictEpoch ho hd ?_)))))
          show wpAny _ _ (if (ep != ep) = true then _ else _) _ E _
          rw [if_neg (by simp)]
          by_cases hkk : z.1 = k
          · rw [decide_eq_true hkk]
            rcases hHx with ⟨rfl, _⟩ | ⟨j, y, _, hjx, hj, hyk⟩
            · first | rw [if_pos rfl] | skip
              simp only [Option.isSome_none, Bool.false_eq_true, if_false]
              first | refine wpAny_bind (wpAny_pure ?_) | skip
              refine wpAny_bind (wpAny_rule ?_)
              split
              · exact wpAny_pure (wpAny_pure (hsome x _ hz hkk))
              · exact wpAny_pure ⟨rfl, x + 1, some x, rfl, hrest', hlt, .inr ⟨x, z, rfl, Nat.lt_succ_self x, hz, hkk⟩⟩
            · exact absurd (key_one hn hj hz hyk hkk) (by omega)
          · rw [decide_eq_false hkk]
            simp only [Bool.false_eq_true, if_false]
            refine wpAny_bind (wpAny_rule ?_)
            first | rw [if_neg (by simp)] | skip
            first
              | exact wpAny_pure ⟨rfl, x + 1, hit, rfl, hrest', hlt, stay hkk⟩
              | exact wpAny_bind (wpAny_pure (wpAny_pure ⟨rfl, x + 1, hit, rfl, hrest', hlt, stay hkk⟩))
        · rw [if_neg hh]
          refine wpAny_pure ⟨rfl, x + 1, hit, rfl, hrest', hlt, stay fun e => ?_⟩
          rw [show (ent w z).hash = z.1.hash w from rfl, e] at hh
          simp at hh
      · rintro b s' ⟨rfl, i, hit, rfl, hr, hi, hH⟩
        rcases hH with ⟨rfl, hno⟩ | ⟨j, z, rfl, _, hj, hjk⟩
        · refine wpAny_pure (hnone (miss_skip he hno fun j h1 h2 => ?_))
          have := List.filter_eq_nil_iff.mp hr.symm j (List.mem_range'_1.mpr ⟨h1, by omega⟩)
          simpa using this
        · exact wpAny_pure (hsome j z hj hjk)))
end
end Od
end PySem
end
section
set_option maxRecDepth 100000
set_option maxHeartbeats 4000000
/-! Tables of any keys: read, grown, made of pairs. -/
namespace PySem
namespace Od
open Sem (wp)
open SeqAt
/-- the dict at d holds zs, in this order -/
def OdOf (w : World) (h : Heap) (d : Addr) (zs : List Ent) : Prop := ∃ o es ep, h.get? d = some o ∧ o.ExactDict ∧ o.data = .dict es ep ∧ es.toList = zs.map (ent w) ∧ (zs.map (·.1)).Nodup
theorem KeysAt.at {h h' : Heap} {zs : List Ent} (x : KeysAt h zs) (k : ∀ a o vs n, h.get? a = some o → o.data = .seq vs n → h'.get? a = some o) : KeysAt h' zs := fun z hz => ⟨NestedIs.at k _ _ (x z hz).1, (x z hz).2⟩
section
variable {P : Program} {w : World} {A : Around} {E : Value → Shared → Prop} {s : Shared} {d : Addr} {zs : List Ent} {k : NestedKey} {key v : Value}
theorem OdOf.typeIs (T : OdOf w s.heap d zs) : s.TypeIs (.ref d) "dict" := let ⟨o, _, _, ho, hc, _⟩ := T; ⟨o, ho, hc.1⟩
theorem OdOf.at {h h' : Heap} (T : OdOf w h d zs) (k : ∀ o, h.get? d = some o → h'.get? d = some o) : OdOf w h' d zs := let ⟨o, es, ep, ho, r⟩ := T; ⟨o, es, ep, k _ ho, r⟩
theorem OdOf.lt {h : Heap} (T : OdOf w h d zs) : d < h.objs.size := let ⟨_, _, _, ho, _⟩ := T; Heap.lt_size ho
theorem get {Q : Option Value → Shared → Prop} (hu : A.units + 8 < cLine) (hk : NestedIs s.heap k key) (hkd : k.depth ≤ 8) (T : OdOf w s.heap d zs) (his : KeysAt s.heap zs) {j : Nat} {z : Ent} (hz : zs[j]? = some z) (hzk : z.1 = k)
    (q : Q (some z.2.2) { s with toks := s.toks + k.draws }) : wpAny (model P w) A (dictGet d key) Q E s := by
  obtain ⟨o, es, ep, ho, _, hd, he, hn⟩ := T
  unfold dictGet
  try with_reducible refine wpAny_holding ?_
  refine wpAny_bind (pyHash_key k key A s _ hk (by omega) (wpAny_bind (find (s := { s with toks := s.toks + k.draws }) hu hk hkd ho hd he his hn (fun m => absurd hzk (m j z hz (List.getElem?_eq_some_iff.mp hz).1)) fun i y hy hyk => ?_)))
  have : i = j := key_one hn hy hz hyk hzk
  subst this
  rw [hz] at hy
  cases hy
  refine wpAny_bind (wpAny_dictEntries (s := { s with toks := s.toks + k.draws }) ho hd ?_)
  rw [ent_at he i, hz]
  exact wpAny_pure q
theorem put {Q : Unit → Shared → Prop} (hu : A.units + 8 < cLine) (hk : NestedIs s.heap k key) (hkd : k.depth ≤ 8) (T : OdOf w s.heap d zs) (his : KeysAt s.heap zs) (hnew : k ∉ zs.map (·.1)) (hl : zs.length < sizeLine)
    (q : ∀ h', OdOf w h' d (zs ++ [(k, key, v)]) → Heap.SameBut d s.heap h' → Q () { s with heap := h', toks := s.toks + k.draws }) : wpAny (model P w) A (dictSet d key v) Q E s := by
  obtain ⟨o, es, ep, ho, hc, hd, he, hn⟩ := T
  have hsz := ent_size he
  unfold dictSet
  try with_reducible refine wpAny_holding ?_
  refine wpAny_bind (pyHash_key k key A s _ hk (by omega) ?_)
  unfold dictSetHashed
  try with_reducible refine wpAny_holding ?_
  refine wpAny_bind (find (s := { s with toks := s.toks + k.draws }) hu hk hkd ho hd he his hn (fun _ => ?_) fun i y hy hyk => absurd (List.mem_map.mpr ⟨y, List.mem_of_getElem? hy, hyk⟩) hnew)
  refine wpAny_bind (wpAny_rule (wpAny_updateDictKeys (hz := by omega) (s := { s with toks := s.toks + k.draws }) ho hd (q _ ⟨_, _, ep + 1, Heap.get?_update_self _ ho (Obj.isFreed_of_dict (Obj.data_mapDictKeys hd _)),
    hc.mapDictKeys _, Obj.data_mapDictKeys hd _, ?_, ?_⟩ (Heap.SameBut.update ..))))
  · simp [he, ent]
  · rw [List.map_append, List.nodup_append]
    refine ⟨hn, by simp, fun x hx y hy => ?_⟩
    simp only [List.map_cons, List.map_nil, List.mem_singleton] at hy
    subst hy
    exact fun e => hnew (e ▸ hx)
/-- d[x], x a text that is a key -/
theorem item {x : Str} {t : Tok} {Q : Value → Shared → Prop} (hu : A.units + 9 < cLine) (T : OdOf w s.heap d zs) (his : KeysAt s.heap zs) {j : Nat} {z : Ent} (hz : zs[j]? = some z) (hzk : z.1 = .text x)
    (q : Q z.2.2 { s with toks := s.toks + 1 }) : wpAny (model P w) A (getItem (.ref d) (.str x t)) Q E s := by
  unfold getItem
  try with_reducible refine wpAny_holding ?_
  refine wpAny_bind (wpAny_sequenceKey T.typeIs (by decide) ?_)
  refine wpAny_bind (wpAny_callSpecial?_slot (name := Str.ofString "__getitem__") T.typeIs slot_dict_getitem
    (wpAny_call_entry slot_dict_getitem T.typeIs entry_dict_getitem ?_ (args_dict_getitem _ _)))
  show wpAny _ _ (dictGet d (.str x t) >>= _) _ _ s
  refine wpAny_bind (get (k := .text x) (A := A.in1) (by show A.units + 1 + 8 < cLine; omega) (.text x t) (Nat.zero_le _) T his hz hzk ?_)
  exact wpAny_pure ⟨z.2.2, rfl, wpAny_pure q⟩
/-- len(d) -/
theorem len {Q : Value → Shared → Prop} (hq : (d == sysModules) = false) (T : OdOf w s.heap d zs) (hl : zs.length ≤ sizeLine) (q : Q (.int zs.length (s.toks + 1)) { s with toks := s.toks + 1 + 1 }) : wpAny (model P w) A (call (.builtin "len") [.ref d]) Q E s := by
  have typ := T.typeIs
  obtain ⟨o, es, ep, ho, _, hd, he, _⟩ := T
  have hsz := ent_size he
  have small : zs.length < 2 ^ 63 := by rw [sizeLine_eq] at hl; omega
  have slot : ∀ (A : Around) (E : Value → Shared → Prop), wpAny (model P w) A (callSpecial? (.ref d) (Str.ofString "__len__")) (fun r s2 => r = some (.int zs.length s.toks) ∧ s2 = { s with toks := s.toks + 1 }) E s := by
    intro A E
    refine wpAny_callSpecial?_slot (name := Str.ofString "__len__") typ F.slot_dict_len (wpAny_call_entry F.slot_dict_len typ F.entry_dict_len ?_ (F.args_dict_len_1 _))
    show wpAny _ _ (dictSize d >>= _) _ _ s
    unfold dictSize
    refine wpAny_bind (wpAny_bind (wpAny_dictEntries ho hd (wpAny_pure ?_)))
    refine wpAny_bind (wpAny_pendingCount_other hq ?_)
    have z : ((es.size : Int) + ((0 : Nat) : Int)) = zs.length := by omega
    rw [z]
    exact wpAny_ret_mkInt ⟨rfl, rfl⟩
  refine Calls.call_function_entry kind_len plain_len entry_len (args_len1 _) ?_
  unfold Builtin.«len»
  refine wpAny_bind (m := oneArg "len" _) (wpAny_pure ?_)
  refine wpAny_bind (m := callSpecial? (.ref d) (Str.ofString "__len__")) (wpAny_mono (slot _ _) ?_ fun _ _ e => e)
  rintro r s2 ⟨rfl, rfl⟩
  refine wpAny_bind (wpAny_holding (wpAny_pure ?_))
  refine wpAny_bind (wpAny_letGo ?_)
  show wpAny _ _ (if ((zs.length : Nat) : Int) < 0 then _ else _) _ _ _
  have a1 : ¬ ((zs.length : Nat) : Int) < 0 := by omega
  have a2 : ¬ ((zs.length : Nat) : Int) ≥ 2 ^ 63 := by omega
  simp only [if_neg a1, if_neg a2]
  exact wpAny_bind (wpAny_mkInt (wpAny_pure ⟨_, rfl, q⟩))
/-- dict(xs), xs a list of pairs whose keys are all unlike -/
theorem of_pairs {a : Addr} {items : Array Value} {Ts : Nat → Addr} {ps : List (Value × Value)} {ks : List NestedKey} {Q : Value → Shared → Prop} (hh : A.handled = none) (hu : A.units + 10 < cLine) (ok : PlainSeq "list" s.heap a items ∧ PairItems s.heap items Ts ps) (hl : ks.length = ps.length) (hn : ks.Nodup)
    (hk : ∀ (i : Nat) k u v, ks[i]? = some k → ps[i]? = some (u, v) → NestedIs s.heap k u ∧ k.depth ≤ 8) (hz : ps.length ≤ sizeLine)
    (q : ∀ h' tk, OdOf w h' s.heap.objs.size ((ks.zip ps).map fun z => (z.1, z.2.1, z.2.2)) → (∀ b o, s.heap.get? b = some o → h'.get? b = some o) → Q (.ref s.heap.objs.size) { s with heap := h', toks := tk }) :
    wpAny (model P w) A (call (.type "dict") [.ref a]) Q E s := by
  have keysZ : ∀ (zs : List Ent), zs = ((ks.zip ps).map fun z => (z.1, z.2.1, z.2.2)) → zs.map (·.1) = ks := by
    rintro _ rfl
    rw [List.map_map]
    show (ks.zip ps).map (fun z => z.1) = ks
    rw [List.map_fst_zip]
    omega
  generalize hzs : ((ks.zip ps).map fun z => (z.1, z.2.1, z.2.2)) = zs at q
  have hkeys := keysZ zs hzs.symm
  have hlen : zs.length = ps.length := by rw [← hzs, List.length_map, List.length_zip]; omega
  have at_ : ∀ (i : Nat) u v, ps[i]? = some (u, v) → ∃ k, ks[i]? = some k ∧ zs[i]? = some (k, u, v) := fun i u v hi => by
    have h1 : i < ks.length := by rw [hl]; exact (List.getElem?_eq_some_iff.mp hi).1
    refine ⟨ks[i], List.getElem?_eq_getElem h1, ?_⟩
    have e : (ks.zip ps)[i]? = some (ks[i], (u, v)) := List.getElem?_zip_eq_some.mpr ⟨List.getElem?_eq_getElem h1, hi⟩
    rw [← hzs, List.getElem?_map, e]
    rfl
  have hkeysAt : KeysAt s.heap zs := fun z hz2 => by
    rw [← hzs] at hz2
    obtain ⟨⟨k, u, v⟩, hm, rfl⟩ := List.mem_map.mp hz2
    obtain ⟨i, hi⟩ := List.mem_iff_getElem?.mp hm
    obtain ⟨h1, h2⟩ := List.getElem?_zip_eq_some.mp hi
    exact hk i k u v h1 h2
  refine call_dict_arg (PairArg.list a items Ts ps) ok fun s₁ hs₁ hdf ok₁ => ?_
  subst hs₁
  have stay : ∀ (h' : Heap), (∀ b o, b ≠ s.heap.objs.size → (s.heap.push { cls := .type "dict", data := .dict #[] }).get? b = some o → h'.get? b = some o) → ∀ b o, s.heap.get? b = some o → h'.get? b = some o := fun h' hk' b o e =>
    hk' b o (Nat.ne_of_lt (Heap.lt_size e)) (Heap.get?_push_of_some _ e)
  refine updateFrom_arg (A := A.in1) (Tab := fun i h => OdOf w h s.heap.objs.size (zs.take i) ∧ ∀ b o, b ≠ s.heap.objs.size → (s.heap.push { cls := .type "dict", data := .dict #[] }).get? b = some o → h.get? b = some o) (PairArg.list a items Ts ps) .none hh ok₁ hdf
    ⟨⟨_, #[], 0, Heap.get?_push_size _ rfl, ⟨rfl, rfl, rfl⟩, rfl, by simp, by simp⟩, fun _ _ _ e => e⟩ (fun _ _ tb => tb.1.lt) ?_ ?_ ?_
  · intro i h h' wr' hd hw tb hk'
    have hw' : ∀ b ∈ wr', ∀ o, (s.heap.push { cls := .type "dict", data := .dict #[] }).get? b = some o → False := fun b hb o e => by
      rcases hw b hb with q | q
      · cases q
      · have q : (s.heap.push { cls := .type "dict", data := .dict #[] }).get? b = none := q
        rw [q] at e
        cases e
    exact ⟨tb.1.at fun o e => hk' _ o hd e, fun b o h1 e => hk' b o (fun hb => hw' b hb o e) (tb.2 b o h1 e)⟩
  · intro i ku v s' Q' E' hi hrel tb _ hQ
    obtain ⟨k, h1, h2⟩ := at_ i ku v hrel
    have his : KeysAt s'.heap (zs.take i) := fun z hz2 => (hkeysAt.at fun b o vs n e _ => stay s'.heap tb.2 b o e) z (List.mem_of_mem_take hz2)
    have hki : NestedIs s'.heap k ku ∧ k.depth ≤ 8 := by
      obtain ⟨g1, g2⟩ := hk i k ku v h1 hrel
      exact ⟨NestedIs.at (fun b o vs n e _ => stay s'.heap tb.2 b o e) _ _ g1, g2⟩
    have hnew : k ∉ (zs.take i).map (·.1) := fun hm => by
      rw [List.map_take, hkeys] at hm
      obtain ⟨j, hj⟩ := List.mem_iff_getElem?.mp hm
      have hji : j < i := by
        have := (List.getElem?_eq_some_iff.mp hj).1
        rw [List.length_take] at this
        omega
      rw [List.getElem?_take_of_lt hji] at hj
      have := (List.getElem?_inj (List.getElem?_eq_some_iff.mp hj).1 hn).mp (hj.trans h1.symm)
      omega
    refine put (A := A.in1.in1) (by show A.units + 1 + 1 + 8 < cLine; omega) hki.1 hki.2 tb.1 his hnew (by rw [List.length_take]; have := (List.getElem?_eq_some_iff.mp hrel).1; omega) fun h' T' sb => ?_
    refine hQ h' _ ⟨by rw [List.take_add_one, h2]; exact T', fun b o hb e => (sb.2 b hb).trans (tb.2 b o hb e)⟩ sb
  · intro h' tk tb hk'
    have e : zs.take ps.length = zs := List.take_of_length_le (Nat.le_of_eq hlen)
    rw [e] at tb
    exact ⟨rfl, q h' tk tb.1 (stay h' tb.2)⟩
end
end Od
end PySem
end
section
set_option maxRecDepth 100000
set_option maxHeartbeats 4000000
/-! Expressions: and, or, not, a if c else b; items and slices; arguments and displays. -/
namespace Rs
open PySem PySem.Spec PyProof.Rows L2
section
variable {G : Gl} {T : Tab} {F : Call} {k : Nat} {X : Cx} {ea eb ec : Expr} {pos : Pos} {a b c : IE} {rest : List Expr}
theorem test_ok {β : Type} {c : IE} {s s' : S} {K : Bool → S → R β} {r : β} (e : ((evalE T F c s).val.bind fun x s => (R.opt (asB x) s).bind K) = .ok r s') : ∃ kb s1, evalB T F c s = .ok kb s1 ∧ K kb s1 = .ok r s' := by
  obtain ⟨x, s1, e1, e0⟩ := bind_ok e
  obtain ⟨kb, s2, e2, e5⟩ := bind_ok e0
  obtain ⟨e3, e4⟩ := opt_ok e2
  subst e4
  refine ⟨kb, s2, ?_, e5⟩
  unfold evalB
  rw [e1]
  show R.opt (asB x) s2 = _
  rw [e3]
theorem B_of {c : IE} {s s' : S} {r : Bool} (e : (evalE T F c s).val = .ok (.bl r) s') : evalB T F c s = .ok r s' := by
  unfold evalB
  rw [e]
  rfl
theorem PW.weak {e : Expr} {t t' : TT} (h : PW X e t) (w : ∀ σ H Q, t' σ H Q → t σ H Q) : PW X e t' := ⟨fun wh pins s σ H Q I q => h.run wh pins s σ H Q I (w σ H Q q)⟩
/-- a test's value from its use as a value -/
theorem EE_test {c : IE} {σ : L2.St} {H : Hp} {Q : VK} {C : Cf} {s s' : S} {kb : Bool} (hH : C.H = H) (r : Rel G C s σ) (e : evalB T F c s = .ok kb s') (k : ∀ C', Le C C' → Rel G C' s' σ → Q (.bl kb) C'.H) : EE G T F c σ H Q :=
  EE_of_val hH r (B_val e) fun C' v l r' h => by
    unfold VR at h
    subst h
    exact k C' l r'
theorem EB_of {c : IE} {σ : L2.St} {H : Hp} {Q : Bool → Hp → Prop} {C : Cf} {s s' : S} {kb : Bool} (hH : C.H = H) (r : Rel G C s σ) (e : evalB T F c s = .ok kb s') (k : ∀ C', Le C C' → Rel G C' s' σ → Q kb C'.H) : EB G T F c σ H Q := ⟨C, s, kb, s', hH, r, e, k⟩
theorem se_and1 (ha : PE X ea (EE G T F a)) : PE X (.BoolOp .And [ea] pos) (EE G T F a) := pe_one ha
theorem se_and (ha : PE X ea (EE G T F a)) (hb : PE X (.BoolOp .And (eb :: rest) pos) (EE G T F b)) : PE X (.BoolOp .And (ea :: eb :: rest) pos) (EE G T F (.and a b)) := by
  refine PE.weak (pe_and ha hb) fun σ H Q ⟨C, s, r, s', hH, rl, e, kk⟩ => ?_
  unfold evalE at e
  obtain ⟨kb, s1, e1, e⟩ := test_ok e
  show EE G T F a σ H (fun x H1 => ∃ c, x = .bl c ∧ if c = true then EE G T F b σ H1 Q else Q (.bl false) H1)
  refine EE_test hH rl e1 fun C1 l1 r1 => ⟨kb, rfl, ?_⟩
  cases kb with
  | false =>
    cases e
    rw [if_neg (by simp)]
    exact kk C1 _ l1 r1 (show VR G C1 (.bl false) (.bl false) from VR.bl)
  | true =>
    rw [if_pos rfl]
    exact ⟨C1, s1, r, s', rfl, r1, e, fun C2 v l2 r2 h2 => kk C2 v (l1.trans l2) r2 h2⟩
theorem se_not (ha : PE X ea (EE G T F a)) : PE X (.UnaryOp .Not ea pos) (EE G T F (.not a)) := by
  refine PE.weak (pe_not ha) fun σ H Q ⟨C, s, r, s', hH, rl, e, kk⟩ => ?_
  unfold evalE at e
  obtain ⟨kb, s1, e1, e⟩ := test_ok e
  cases e
  show EE G T F a σ H (fun x H1 => ∃ c, x = .bl c ∧ Q (.bl (!c)) H1)
  exact EE_test hH rl e1 fun C1 l1 r1 => ⟨kb, rfl, kk C1 _ l1 r1 (show VR G C1 (.bl (!kb)) (.bl (!kb)) from VR.bl)⟩
theorem st_or1 (ha : PT X ea (EB G T F a)) : PW X (.BoolOp .Or [ea] pos) (EB G T F a) := pw_or1 ha
theorem orB {s s' : S} {r : Bool} (e : evalB T F (.or a b) s = .ok r s') : ∃ kb s1, evalB T F a s = .ok kb s1 ∧ ((kb = true ∧ r = true ∧ s' = s1) ∨ (kb = false ∧ evalB T F b s1 = .ok r s')) := by
  have e := B_val e
  obtain ⟨x, e, ex⟩ := val_ok e
  unfold evalE at e
  obtain ⟨kb, s1, e1, e⟩ := test_ok e
  refine ⟨kb, s1, e1, ?_⟩
  cases kb with
  | true => cases e; cases ex; exact .inl ⟨rfl, rfl, rfl⟩
  | false =>
    refine .inr ⟨rfl, B_of ?_⟩
    have e6 : evalE T F b s1 = .ok x s' := e
    unfold R.val
    rw [e6]
    show R.opt (freeze x) s' = _
    rw [ex]
theorem st_or (ha : PT X ea (EB G T F a)) (hb : PW X (.BoolOp .Or (eb :: rest) pos) (EB G T F b)) : PW X (.BoolOp .Or (ea :: eb :: rest) pos) (EB G T F (.or a b)) := by
  refine PW.weak (pw_or ha hb) fun σ H Q ⟨C, s, r, s', hH, rl, e, kk⟩ => ?_
  obtain ⟨kb, s1, e1, e⟩ := orB e
  show EB G T F a σ H (fun c H1 => if c = true then Q true H1 else EB G T F b σ H1 Q)
  refine EB_of hH rl e1 fun C1 l1 r1 => ?_
  rcases e with ⟨rfl, rfl, rfl⟩ | ⟨rfl, e⟩
  · rw [if_pos rfl]
    exact kk C1 l1 r1
  · rw [if_neg (by simp)]
    exact EB_of rfl r1 e fun C2 l2 r2 => kk C2 (l1.trans l2) r2
theorem st_not (ha : PT X ea (EB G T F a)) : PT X (.UnaryOp .Not ea pos) (EB G T F (.not a)) := by
  refine PT.weak (pt_not ha) fun σ H Q ⟨C, s, r, s', hH, rl, e, kk⟩ => ?_
  have e := B_val e
  obtain ⟨x, e, ex⟩ := val_ok e
  unfold evalE at e
  obtain ⟨kb, s1, e1, e⟩ := test_ok e
  cases e
  cases ex
  show EB G T F a σ H (fun c H1 => Q (!c) H1)
  exact EB_of hH rl e1 fun C1 l1 r1 => kk C1 l1 r1
/-! ### items -/
theorem IxR.any : IxR X (fun x y H Q => ∃ r : R2, IxR X r ∧ r x y H Q) := fun value slice pins s σ H x y v u Q I rx ry ⟨r, h, q⟩ hs => h value slice pins s σ H x y v u Q I rx ry q hs
theorem ix_dict (o : XO0 G k X) : IxR X (fun x y H Q => ∃ a v, x = .ref a ∧ DGet H a y (some v) ∧ Q v H) := by
  intro value slice pins s σ H x y v u Q I rx ry h hs
  obtain ⟨p, w, rfl, g, q⟩ := h
  cases rx
  have h5 := o.room.units
  exact tail_any (dict_typeIs I g) PySem.F.slot_dict_getitem.lookup (d_getItem (by omega) I g ry fun w' s' I' r' => ⟨w, H, I', r', q⟩) hs
/-- a key that stands there -/
theorem txt_all {C : Cf} : ∀ {xs : List Val} {ys : List V} {us : List Value} {ks : List NestedKey} {h : Heap}, VRs G C xs ys → Vals ys us → txtV xs = some ks → NestedAll h ks us ∧ NestedKey.depthAll ks = 0
  | [], _, _, _, _, h, r, e => by
    unfold VRs at h; subst h; cases r; unfold txtV at e; cases e
    exact ⟨.nil, rfl⟩
  | x :: xs, _, _, _, _, h, r, e => by
    unfold VRs at h
    obtain ⟨y, r', e1, a, b⟩ := h
    subst e1
    cases r with
    | cons r1 r2 =>
      cases x with
      | str t =>
        unfold txtV at e
        obtain ⟨ks, e2, rfl⟩ := Option.map_eq_some_iff.mp e
        obtain ⟨h1, h2⟩ := txt_all b r2 e2
        unfold VR at a
        subst a
        obtain ⟨tk, rfl⟩ := r1
        exact ⟨.cons (.text t tk) h1, by show max 0 (NestedKey.depthAll ks) = 0; rw [h2]; rfl⟩
      | _ => unfold txtV at e; cases e
theorem nk_is {pins : List (Addr × Obj)} {σ : L2.St} {s : Shared} {C : Cf} (I : Inv X pins σ C.H s) (hK : X.K = G.K) {key : Val} {y : V} {u : Value} {nk : NestedKey} (h : VR G C key y) (r : RelV y u) (e : nkV key = some nk) : NestedIs s.heap nk u ∧ nk.depth ≤ 8 := by
  unfold nkV at e
  split at e
  · cases e; unfold VR at h; subst h; cases r; exact ⟨.none, Nat.zero_le _⟩
  · cases e; unfold VR at h; subst h; cases r; exact ⟨.bool rfl, Nat.zero_le _⟩
  · cases e; unfold VR at h; subst h; obtain ⟨t, rfl⟩ := r; exact ⟨.int _ t, Nat.zero_le _⟩
  · cases e; unfold VR at h; subst h; obtain ⟨t, rfl⟩ := r; exact ⟨.text _ t, Nat.zero_le _⟩
  · rename_i xs
    obtain ⟨ks, e2, rfl⟩ := Option.map_eq_some_iff.mp e
    unfold VR at h
    obtain ⟨p, ys, rfl, f, hr⟩ := h
    cases r
    obtain ⟨its, rv, ⟨o, ho, hc, n, hd⟩, _⟩ := I.tuple (by rw [hK]; exact tup_seq f)
    obtain ⟨h1, h2⟩ := txt_all (h := s.heap) hr rv e2
    exact ⟨.tup ho hc hd h1, by show NestedKey.depthAll ks + 1 ≤ 8; omega⟩
  · cases e
theorem odd_keys {pins : List (Addr × Obj)} {σ : L2.St} {s : Shared} {C : Cf} (I : Inv X pins σ C.H s) (hK : X.K = G.K) : ∀ {kvs : List (Val × Val)} {ps : List (V × V)} {zs : List (NestedKey × Value × Value)}, VRo G C kvs ps → OdP ps zs → (kvs.map fun kv => nkV kv.1) = zs.map (fun z => some z.1) → PySem.Od.KeysAt s.heap zs
  | [], _, _, h, p, e => by
    unfold VRo at h; subst h; cases p
    exact fun z hz => by cases hz
  | (k, x) :: kvs, _, _, h, p, e => by
    unfold VRo at h
    obtain ⟨z, y, r, e1, a, b, c⟩ := h
    subst e1
    cases p with
    | @cons _ w _ ws p1 p2 =>
      simp only [List.map_cons, List.cons.injEq] at e
      intro v hv
      rcases List.mem_cons.mp hv with rfl | hv
      · exact nk_is I hK a p1.1 e.1
      · exact odd_keys I hK c p2 e.2 v hv
theorem odd_at {C : Cf} : ∀ {kvs : List (Val × Val)} {ps : List (V × V)} {zs : List (NestedKey × Value × Value)} {j : Nat} {k x : Val}, VRo G C kvs ps → OdP ps zs → (kvs.map fun kv => nkV kv.1) = zs.map (fun z => some z.1) → kvs[j]? = some (k, x) →
    ∃ a b w, ps[j]? = some (a, b) ∧ zs[j]? = some w ∧ VR G C k a ∧ VR G C x b ∧ RelV a w.2.1 ∧ RelV b w.2.2 ∧ nkV k = some w.1
  | [], _, _, _, _, _, h, p, e, g => by cases g
  | (k0, x0) :: kvs, _, _, j, k, x, h, p, e, g => by
    unfold VRo at h
    obtain ⟨z, y, r, e1, a, b, c⟩ := h
    subst e1
    cases p with
    | @cons _ w _ ws p1 p2 =>
      simp only [List.map_cons, List.cons.injEq] at e
      cases j with
      | zero => cases g; exact ⟨z, y, w, rfl, rfl, a, b, p1.1, p1.2, e.1⟩
      | succ j => exact odd_at (j := j) c p2 e.2 g
theorem ix_odd (o : XO0 G k X) : IxR X (fun x y H Q => ∃ (C : Cf) (kvs : List (Val × Val)) (t : Str) (z : Val), C.H = H ∧ VR G C (.odd kvs) x ∧ y = .str t ∧ vsub (.odd kvs) (.str t) = some z ∧ ∀ u, VR G C z u → Q u H) := by
  intro value slice pins s σ H x y v u Q I rx ry h hs
  obtain ⟨C, kvs, t, z, rfl, hx, rfl, e, q⟩ := h
  unfold VR at hx
  obtain ⟨p, ob, zs, ps, rfl, _, _, hp, ⟨hex, es, ep, hdt, he, hn⟩, _, hpz, hk, hr⟩ := hx
  cases rx
  obtain ⟨tk, rfl⟩ := ry
  have e : (kvs.find? fun kv => decide (nkV kv.1 = some (.text t))).map (·.2) = some z := e
  obtain ⟨⟨k0, z0⟩, hf, rfl⟩ := Option.map_eq_some_iff.mp e
  have hk0 : nkV k0 = some (.text t) := of_decide_eq_true (List.find?_some (p := fun kv : Val × Val => decide (nkV kv.1 = some (.text t))) hf)
  obtain ⟨j, hj⟩ := List.mem_iff_getElem?.mp (List.mem_of_find?_eq_some hf)
  obtain ⟨a, b, w, g1, g2, g3, g4, g5, g6, g7⟩ := odd_at hr hpz hk hj
  have hw : w.1 = .text t := by rw [hk0] at g7; exact (Option.some.inj g7).symm
  have T : PySem.Od.OdOf X.w s.heap p zs := ⟨ob, es, ep, (I.hok p _ hp).1, hex, hdt, by rw [o.w]; exact he, hn⟩
  have h5 := o.room.un
  exact tail_any T.typeIs PySem.F.slot_dict_getitem.lookup (PySem.Od.item (by omega) T (odd_keys I o.K hr hpz hk) g2 hw ⟨b, C.H, I.tok _, g6, q b g4⟩) hs
theorem atI_rel {C : Cf} {xs : List Val} {ys : List V} {i : Int} {x : Val} (r : VRs G C xs ys) (h : atI xs i = some x) : ∃ y, atI ys i = some y ∧ VR G C x y := by
  unfold atI at h ⊢
  rw [← r.length]
  obtain ⟨j, h1, h2⟩ := Option.bind_eq_some_iff.mp h
  rw [h1]
  exact r.get h2
theorem sub_ok (o : XO0 G k X) {C : Cf} {x y : Val} {v w : V} {z : Val} {Q : VK} (hx : NR G C x v) (hy : NR G C y w) (e : vsub x y = some z) (q : ∀ u, VR G C z u → Q u C.H) : ∃ r : R2, IxR X r ∧ r v w C.H Q := by
  unfold vsub at e
  split at e
  · obtain ⟨p, ys, rfl, hp, hr⟩ := hx
    cases hy.int
    obtain ⟨u, h1, h2⟩ := atI_rel hr e
    exact ⟨_, ix_list, p, ys, _, u, rfl, rfl, SqL.of hp, h1, q u h2⟩
  · obtain ⟨p, ys, rfl, hp, hr⟩ := hx.tup
    cases hy.int
    obtain ⟨u, h1, h2⟩ := atI_rel hr e
    exact ⟨_, ix_tup, p, ys, _, u, rfl, rfl, by rw [o.K]; exact hp, h1, q u h2⟩
  · split at e
    · rename_i hl
      obtain ⟨c, h1, rfl⟩ := Option.map_eq_some_iff.mp e
      cases hx.str
      cases hy.int
      exact ⟨_, ix_str, _, _, c, rfl, rfl, hl, h1, q _ .str⟩
    · cases e
  · split at e
    · rename_i kk h1
      obtain ⟨p, ks, rfl, hp, hr⟩ := hx
      cases keyV_ok hy h1
      have h2 := hr.get (kk := kk)
      rw [e] at h2
      obtain ⟨u, h3, h4⟩ := h2
      exact ⟨_, ix_dict o, p, u, rfl, .inl ⟨ks, kk, hp, rfl, h3.symm⟩, q u h4⟩
    · cases e
  · cases hy.str
    exact ⟨_, ix_odd o, C, _, _, z, rfl, hx, rfl, e, q⟩
  · cases e
theorem vsub_bad (y : Val) : vsub .bad y = none := rfl
theorem se_sub (o : XO0 G k X) (ha : PE X ea (EE G T F a)) (hb : PE X eb (EE G T F b)) (hs : PlainIx eb := by intro _ _; rfl) : PE X (.Subscript ea eb pos) (EE G T F (.sub a b)) := by
  refine PE.weak (pe_ix IxR.any ha hb hs) fun σ H Q ⟨C, s, r, s', hH, rl, e, kk⟩ => ?_
  unfold evalE at e
  obtain ⟨x, s1, e1, e⟩ := bind_ok e
  obtain ⟨y, s2, e2, e⟩ := bind_ok e
  obtain ⟨e, e3⟩ := opt_ok e
  subst e3
  obtain ⟨z, e4, e5⟩ := Option.map_eq_some_iff.mp e
  subst e5
  show EE G T F a σ H (fun x H1 => EE G T F b σ H1 (fun y H2 => ∃ r : R2, IxR X r ∧ r x y H2 Q))
  refine EE_of_op hH rl e1 fun C1 v l1 r1 o1 => EE_of_val rfl r1 e2 fun C2 w l2 r2 o2 => ?_
  have hx := deref_ok r2 (OR.mono l2 o1) (ne_bad1 (op := vsub) vsub_bad e4)
  exact sub_ok o hx o2.nr e4 fun u hu => kk C2 u (l1.trans l2) r2 hu

/-! ### arguments -/
theorem sa_nil : PA X [] (tVs G (evalVs T F [])) := ⟨fun pos pins s σ H Q I ⟨C, s1, xs, s', hH, rl, e, kk⟩ => by
  unfold evalVs at e
  cases e
  subst hH
  exact pa_nil.run pos pins s σ C.H Q I (kk C [] (.refl C) rl VRs.nil)⟩
theorem PA.weak {es : List Expr} {t t' : TA} (h : PA X es t) (w : ∀ σ H Q, t' σ H Q → t σ H Q) : PA X es t' := ⟨fun pos pins s σ H Q I q => h.run pos pins s σ H Q I (w σ H Q q)⟩
theorem sa_cons {es : List Expr} {as : List IE} (ha : PE X ea (EE G T F a)) (hr : PA X es (tVs G (evalVs T F as))) (hs : starEach (ea :: es) X.env = (false, eval ea X.env) :: starEach es X.env := by rfl) : PA X (ea :: es) (tVs G (evalVs T F (a :: as))) := by
  refine PA.weak (pa_cons ha hr hs) fun σ H Q ⟨C, s, r, s', hH, rl, e, kk⟩ => ?_
  unfold evalVs at e
  obtain ⟨x, s1, e1, e⟩ := bind_ok e
  obtain ⟨xs, s2, e2, e⟩ := bind_ok e
  cases e
  show EE G T F a σ H (fun x H1 => tVs G (evalVs T F as) σ H1 (fun xs H2 => Q (x :: xs) H2))
  exact EE_of_val hH rl e1 fun C1 v l1 r1 h1 => ⟨C1, s1, xs, _, rfl, r1, e2, fun C2 vs l2 r2 h2 => kk C2 (v :: vs) (l1.trans l2) r2 (VRs.cons (h1.mono l2) h2)⟩
theorem so_nil : PA X [] (tOs G (evalOs T F [])) := ⟨fun pos pins s σ H Q I ⟨C, s1, xs, s', hH, rl, e, kk⟩ => by
  unfold evalOs at e
  cases e
  subst hH
  exact pa_nil.run pos pins s σ C.H Q I (kk C [] (.refl C) rl rfl)⟩
theorem so_cons {es : List Expr} {as : List IE} (ha : PE X ea (EE G T F a)) (hr : PA X es (tOs G (evalOs T F as))) (hs : starEach (ea :: es) X.env = (false, eval ea X.env) :: starEach es X.env := by rfl) : PA X (ea :: es) (tOs G (evalOs T F (a :: as))) := by
  refine PA.weak (pa_cons ha hr hs) fun σ H Q ⟨C, s, r, s', hH, rl, e, kk⟩ => ?_
  unfold evalOs at e
  obtain ⟨x, s1, e1, e⟩ := bind_ok e
  obtain ⟨xs, s2, e2, e⟩ := bind_ok e
  cases e
  show EE G T F a σ H (fun x H1 => tOs G (evalOs T F as) σ H1 (fun xs H2 => Q (x :: xs) H2))
  exact EE_of_op hH rl e1 fun C1 v l1 r1 h1 => ⟨C1, s1, xs, _, rfl, r1, e2, fun C2 vs l2 r2 h2 => kk C2 (v :: vs) (l1.trans l2) r2 ⟨v, vs, rfl, OR.mono l2 h1, h2⟩⟩
theorem se_tup {es : List Expr} {as : List IE} {x1 : Nat} (h : PA X es (tVs G (evalVs T F as))) (hl : as.length ≤ 1000 := by decide) : PE X (.Tuple es x1 pos) (EE G T F (.tup as)) := by
  refine PE.weak (pe_tup h) fun σ H Q ⟨C, s, r, s', hH, rl, e, kk⟩ => ?_
  unfold evalE at e
  obtain ⟨xs, s1, e1, e⟩ := bind_ok e
  cases e
  refine ⟨C, s, xs, _, hH, rl, e1, fun C1 vs l1 r1 h1 => ⟨?_, fun p n => out_t r1 h1 n fun C2 z l2 r2 h2 => kk C2 z (l1.trans l2) r2 h2⟩⟩
  rw [← h1.length]
  have : ∀ (as : List IE) (s : S) (xs : List Val) (s' : S), evalVs T F as s = .ok xs s' → xs.length = as.length := by
    intro as
    induction as with
    | nil => intro s xs s' e; unfold evalVs at e; cases e; rfl
    | cons a as ih =>
      intro s xs s' e
      unfold evalVs at e
      obtain ⟨x, s1, e1, e⟩ := bind_ok e
      obtain ⟨ys, s2, e2, e⟩ := bind_ok e
      cases e
      simp [ih _ _ _ e2]
  rw [this _ _ _ _ e1]
  exact Nat.le_trans hl (by decide)
theorem Vs_len : ∀ (as : List IE) (s : S) (xs : List Val) (s' : S), evalVs T F as s = .ok xs s' → xs.length = as.length
  | [], s, xs, s', e => by unfold evalVs at e; cases e; rfl
  | a :: as, s, xs, s', e => by
    unfold evalVs at e
    obtain ⟨x, s1, e1, e⟩ := bind_ok e
    obtain ⟨ys, s2, e2, e⟩ := bind_ok e
    cases e
    simp [Vs_len as _ _ _ e2]
theorem se_lst {es : List Expr} {as : List IE} (h : PA X es (tVs G (evalVs T F as))) (hl : as.length ≤ 1000 := by decide) : PE X (.List es pos) (EE G T F (.lst as)) := by
  refine PE.weak (pe_lst h) fun σ H Q ⟨C, s, r, s', hH, rl, e, kk⟩ => ?_
  unfold evalE at e
  obtain ⟨xs, s1, e1, e⟩ := bind_ok e
  cases e
  refine ⟨C, s, xs, _, hH, rl, e1, fun C1 vs l1 r1 h1 => ⟨?_, fun p n => out_l r1 h1 n fun C2 z l2 r2 h2 => kk C2 z (l1.trans l2) r2 h2⟩⟩
  rw [← h1.length, Vs_len _ _ _ _ e1]
  exact Nat.le_trans hl (by decide)
end
end Rs
end
section
set_option maxRecDepth 100000
set_option maxHeartbeats 4000000
/-! tuple(d): the keys of a dict. -/
namespace Rs
open PySem PySem.Spec PyProof.Rows L2
theorem tup_dict {P : Program} {w : World} {A : Around} {E : Value → Shared → Prop} {s : Shared} {T : String} {r d : Addr} {n : Nat} {Pi : Nat → Value → Prop} {OK : Heap → Prop} {Q : Value → Shared → Prop} (K : PySem.W.KdlSrc P w T r d n Pi OK) (hh : A.handled = none) (hok : OK s.heap) (hn : n ≤ sizeLine) (hTI : s.TypeIs (.ref r) "dict")
    (q : ∀ (h' : Heap) (tk : Nat) (acc : Array Value), (∀ b o, s.heap.get? b = some o → h'.get? b = some o) → ItemsOf Pi acc n → Q (.ref h'.objs.size) { s with heap := h'.push { cls := .type "tuple", data := .seq acc }, toks := tk }) :
    wpAny (model P w) A (call (.type "tuple") [.ref r]) Q E s := by
  refine callType_codes (Q₁ := fun obj s₁ => s₁.TypeIs obj "tuple" ∧ Q obj s₁) PySem.F.called_tuple (PySem.F.typeCall_tuple_1 _) PySem.F.entry_object_init (codeAny_of_tree ?_) fun obj s₁ h₁ =>
    ⟨h₁.1, PySem.F.args_object_init_2 obj _, object_init_meets PySem.F.called_tuple.init.lookup PySem.F.called_tuple.made (by decide) P w A.in1 _ s₁ ⟨h₁.1, rfl, h₁.2⟩⟩
  show wpAny _ A.in1.in1 (do checkBuiltinCall "tuple.__new__" ⟨[.type "tuple", .ref r], []⟩; again (.builtin "tuple.__new__" ⟨[.type "tuple", .ref r], []⟩)) _ _ s
  refine wpAny_bind (wpAny_of_eq (PySem.F.newCall_tuple_1 _) (wpAny_pure ⟨plainId_quiet PySem.F.plain_tuple_new _, codeAny_builtin PySem.F.entry_tuple_new ?_⟩))
  have h1 := sub_tuple_self
  have h2 := init_tuple_lookup
  have h3 := madeHere_tuple
  have h4 : A.in1.in1.handled = none := hh
  rw [Around.under_plainId PySem.F.plain_tuple_new _]
  wp_walk using wpAny_typeOf hTI, PySem.W.kdu_collect (A := A.in1.in1) K h4 hok hn
  intro h' tk acc hk hacc
  show wpAny _ _ (Builtin.Tuple.tupleExact acc.toList.toArray >>= fun v => ret v) _ _ _
  rw [Array.toArray_toList]
  unfold Builtin.Tuple.tupleExact
  exact wpAny_bind (wpAny_newObj_type (wpAny_pure (show Shared.TypeIs _ _ _ ∧ Q _ _ from ⟨⟨_, Heap.get?_push_size _ rfl, rfl⟩, q h' tk acc hk hacc⟩)) (by show acc.size ≤ sizeLine; rw [hacc.1]; exact hn))
theorem call_tupleD {X : Cx} (hc : X.calm = true) : CallR X (.type "tuple") (fun xs H Q => ∃ p kvs, xs = [.ref p] ∧ Rd H p (.dK kvs) ∧ ∀ q, H q = none → Q (.ref q) (upd H q (.tup (kvs.map fun kv => kV kv.1)))) := by
  intro pins s σ H xs us Q I r h
  obtain ⟨p, kvs, rfl, hk, q⟩ := h
  obtain ⟨u, rfl, rx⟩ := vals1 r
  cases rx
  obtain ⟨z, lo, vs, rel, dd⟩ := dk_rd I.hok hk
  obtain ⟨ep, hat⟩ := dd.dictAt
  have hl : kvs.length = vs.length := Paired.length rel
  refine tup_dict (PySem.W.kdl_dict (knd := mixKind X.prog X.w) (kvs := vs) (ep := ep) lo) (I.ok.hd hc) hat (by rw [← hl]; exact z) dd.typeIs fun h' tk acc hkeep hacc => ?_
  have I1 : Inv X pins σ H { s with heap := h', toks := tk } := I.kept hkeep
  refine ⟨.ref h'.objs.size, upd H h'.objs.size (.tup (kvs.map fun kv => kV kv.1)), I1.laid (t' := tk) (fun b o e => Heap.get?_push_of_some _ e) (Nat.le_refl _) (show ObjOk X.prog X.w _ _ _ (.tup (kvs.map fun kv => kV kv.1)) from ⟨?_, acc.toList, ?_, ?_⟩), rfl, q _ (I1.hok.fresh (Nat.le_refl _))⟩
  · rw [List.length_map]; exact z
  · have el : acc.toList.length = acc.size := Array.length_toList
    refine vals_of_at (by rw [List.length_map, el, hacc.1, hl]) fun j x w g1 g2 => ?_
    obtain ⟨c, y, hky, hi⟩ := hacc.2 j w (by rw [← Array.getElem?_toList]; exact g2)
    have e1 : (kvs.map (·.1))[j]? = some c := by
      rw [KV.keys rel, List.getElem?_map, hky]
      rfl
    have e2 : (kvs.map fun kv => kV kv.1) = (kvs.map (·.1)).map kV := by rw [List.map_map]; rfl
    rw [e2, List.getElem?_map, e1] at g1
    cases g1
    exact keyIs_rel hi
  · rw [Array.toArray_toList]; exact IsTup.new _ _
end Rs
end
section
set_option maxRecDepth 100000
set_option maxHeartbeats 4000000
/-! Built-in functions. -/
namespace Rs
open PySem PySem.Spec PyProof.Rows L2
def NRs (G : Gl) (C : Cf) : List Val → List V → Prop
  | [], vs => vs = []
  | x :: xs, vs => ∃ v r, vs = v :: r ∧ NR G C x v ∧ NRs G C xs r
def BiOk (G : Gl) (X : Cx) (f : Bi) (g : Value) : Prop :=
  ∀ (C : Cf) (s : S) (σ : L2.St) (xs : List Val) (vs : List V) (r : Rv) (Q : VK), Rel G C s σ → NRs G C xs vs → biop f xs = some r → (∀ C' z, Le C C' → Rel G C' s σ → RvR G C' s σ r z → Q z C'.H) → ∃ r2 : List V → Hp → VK → Prop, CallR X g r2 ∧ r2 vs C.H Q
section
variable {G : Gl} {T : Tab} {F : Call} {k : Nat} {X : Cx} {C : Cf} {s : S} {σ : L2.St} {Q : VK}
theorem NRs.one {x : Val} {vs : List V} (h : NRs G C [x] vs) : ∃ v, vs = [v] ∧ NR G C x v := by
  obtain ⟨v, r, e, a, b⟩ := h
  cases b
  exact ⟨v, e, a⟩
theorem NRs.two {x y : Val} {vs : List V} (h : NRs G C [x, y] vs) : ∃ v w, vs = [v, w] ∧ NR G C x v ∧ NR G C y w := by
  obtain ⟨v, r, e, a, b⟩ := h
  obtain ⟨w, e2, c⟩ := NRs.one b
  subst e2
  exact ⟨v, w, e, a, c⟩
theorem VRk.length {C : Cf} : ∀ {xs : List (Key × Val)} {ys : List (Key × V)}, VRk G C xs ys → xs.length = ys.length
  | [], ys, h => by unfold VRk at h; subst h; rfl
  | (j, x) :: xs, ys, h => by
    unfold VRk at h
    obtain ⟨y, r, e, a, b⟩ := h
    subst e
    simp [VRk.length b]
theorem CallR.lenD : CallR X (.builtin "len") (fun xs H Q => ∃ a kvs, xs = [.ref a] ∧ Rd H a (.dK kvs) ∧ Q (.int kvs.length) H) := by
  intro pins s σ H xs us Q I r h
  obtain ⟨a, kvs, rfl, e, q⟩ := h
  obtain ⟨u, rfl, rx⟩ := vals1 r
  cases rx
  exact d_len I e fun t s' I' => ⟨.int kvs.length, H, I', ⟨t, rfl⟩, q⟩
/-- len of a table of odd keys -/
theorem len_odd (o : XO0 G k X) : CallR X (.builtin "len") (fun xs H Q => ∃ (C : Cf) (kvs : List (Val × Val)) (v : V), xs = [v] ∧ C.H = H ∧ VR G C (.odd kvs) v ∧ Q (.int kvs.length) H) := by
  intro pins s σ H xs us Q I r h
  obtain ⟨C, kvs, v, rfl, rfl, hx, q⟩ := h
  unfold VR at hx
  obtain ⟨p, ob, zs, ps, rfl, _, hp0, hp, ⟨hex, es, ep, hdt, he, hn⟩, hl, hpz, hk, hr⟩ := hx
  obtain ⟨u, rfl, rx⟩ := vals1 r
  cases rx
  have T : PySem.Od.OdOf X.w s.heap p zs := ⟨ob, es, ep, (I.hok p _ hp).1, hex, hdt, by rw [o.w]; exact he, hn⟩
  have e : kvs.length = zs.length := by simpa using congrArg List.length hk
  exact PySem.Od.len hp0 T hl ⟨.int kvs.length, C.H, I.tok _, ⟨_, by rw [e]⟩, q⟩
theorem bi_len (o : XO0 G k X) : BiOk G X .len (.builtin "len") := by
  intro C s σ xs vs r Q rl h e kk
  unfold biop at e
  split at e
  all_goals try contradiction
  all_goals (obtain ⟨v, rfl, hx⟩ := h.one)
  · cases e
    obtain ⟨p, ys, rfl, hp, hr⟩ := hx
    exact ⟨_, call_len, _, ys.length, rfl, .inl ⟨ys, SqL.of hp, rfl⟩, by rw [← hr.length]; exact out_v rl .int kk⟩
  · cases e
    obtain ⟨p, ys, rfl, hp, hr⟩ := hx.tup
    exact ⟨_, call_len, _, ys.length, rfl, .inr ⟨ys, by rw [o.K]; exact hp, rfl⟩, by rw [← hr.length]; exact out_v rl .int kk⟩
  · cases e
    obtain ⟨p, ks, rfl, hp, hr⟩ := hx
    exact ⟨_, CallR.lenD, p, ks, rfl, hp, by rw [← hr.length]; exact out_v rl .int kk⟩
  · cases e
    exact ⟨_, len_odd o, C, _, v, rfl, rfl, hx, out_v rl .int kk⟩
  · cases e
    obtain ⟨p, rfl, hp⟩ := hx.scr
    exact ⟨_, call_len, _, _, rfl, .inl ⟨_, by rw [o.K]; exact hp, rfl⟩, by rw [List.length_map]; exact out_v rl .int kk⟩
  · split at e
    · rename_i hl
      cases e
      cases hx.str
      exact ⟨_, call_len, _, _, rfl, ⟨hl, rfl⟩, out_v rl .int kk⟩
    · cases e
theorem bi_abs : BiOk G X .abs (.builtin "abs") := by
  intro C s σ xs vs r Q rl h e kk
  unfold biop at e
  split at e
  all_goals try contradiction
  obtain ⟨v, rfl, hx⟩ := h.one
  cases e
  cases hx.int
  exact ⟨_, call_abs, _, rfl, out_v rl .int kk⟩
theorem intsOf_rel : ∀ {xs : List Val} {ys : List V} {ns : List Int}, VRs G C xs ys → intsOf xs = some ns → ys = ns.map V.int
  | [], ys, ns, h, e => by
    unfold VRs at h; unfold intsOf at e; cases e; subst h; rfl
  | x :: xs, ys, ns, h, e => by
    unfold VRs at h
    obtain ⟨y, r, e1, a, b⟩ := h
    subst e1
    cases x with
    | int i =>
      unfold intsOf at e
      obtain ⟨ms, e2, rfl⟩ := Option.map_eq_some_iff.mp e
      rw [intsOf_rel b e2]
      unfold VR at a
      rw [a]
      rfl
    | _ => unfold intsOf at e; cases e
theorem blsOf_rel : ∀ {xs : List Val} {ys : List V} {ns : List Bool}, VRs G C xs ys → blsOf xs = some ns → ys = ns.map V.bl
  | [], ys, ns, h, e => by
    unfold VRs at h; unfold blsOf at e; cases e; subst h; rfl
  | x :: xs, ys, ns, h, e => by
    unfold VRs at h
    obtain ⟨y, r, e1, a, b⟩ := h
    subst e1
    cases x with
    | bl i =>
      unfold blsOf at e
      obtain ⟨ms, e2, rfl⟩ := Option.map_eq_some_iff.mp e
      rw [blsOf_rel b e2]
      unfold VR at a
      rw [a]
      rfl
    | _ => unfold blsOf at e; cases e
theorem fold_min_mem : ∀ (ns : List Int) (n : Int), ns.foldl min n ∈ n :: ns ∧ ∀ y ∈ n :: ns, ns.foldl min n ≤ y
  | [], n => ⟨by simp, fun y h => by simp at h; subst h; exact Int.le_refl _⟩
  | m :: ns, n => by
    obtain ⟨h1, h2⟩ := fold_min_mem ns (min n m)
    refine ⟨?_, fun y hy => ?_⟩
    · show ns.foldl min (min n m) ∈ _
      rcases List.mem_cons.mp h1 with h | h
      · rw [h]
        by_cases hh : n ≤ m
        · rw [Int.min_eq_left hh]; simp
        · rw [Int.min_eq_right (by omega)]; simp
      · simp [h]
    · show ns.foldl min (min n m) ≤ y
      have h3 := h2 (min n m) (by simp)
      rcases List.mem_cons.mp hy with h | h
      · subst h; exact Int.le_trans h3 (Int.min_le_left _ _)
      · rcases List.mem_cons.mp h with h | h
        · subst h; exact Int.le_trans h3 (Int.min_le_right _ _)
        · exact h2 y (by simp [h])
theorem fold_max_mem : ∀ (ns : List Int) (n : Int), ns.foldl max n ∈ n :: ns ∧ ∀ y ∈ n :: ns, y ≤ ns.foldl max n
  | [], n => ⟨by simp, fun y h => by simp at h; subst h; exact Int.le_refl _⟩
  | m :: ns, n => by
    obtain ⟨h1, h2⟩ := fold_max_mem ns (max n m)
    refine ⟨?_, fun y hy => ?_⟩
    · show ns.foldl max (max n m) ∈ _
      rcases List.mem_cons.mp h1 with h | h
      · rw [h]
        by_cases hh : n ≤ m
        · rw [Int.max_eq_right hh]; simp
        · rw [Int.max_eq_left (by omega)]; simp
      · simp [h]
    · show y ≤ ns.foldl max (max n m)
      have h3 := h2 (max n m) (by simp)
      rcases List.mem_cons.mp hy with h | h
      · subst h; exact Int.le_trans (Int.le_max_left _ _) h3
      · rcases List.mem_cons.mp h with h | h
        · subst h; exact Int.le_trans (Int.le_max_right _ _) h3
        · exact h2 y (by simp [h])
theorem min_uniq {ns : List Int} {a b : Int} (ha : a ∈ ns ∧ ∀ y ∈ ns, a ≤ y) (hb : b ∈ ns) (hb2 : ∀ y, y ∈ ns → b ≤ y) : b = a := Int.le_antisymm (hb2 a ha.1) (ha.2 b hb)
theorem max_uniq {ns : List Int} {a b : Int} (ha : a ∈ ns ∧ ∀ y ∈ ns, y ≤ a) (hb : b ∈ ns) (hb2 : ∀ y, y ∈ ns → y ≤ b) : b = a := Int.le_antisymm (ha.2 b hb) (hb2 a ha.1)
theorem bi_max (o : XO0 G k X) : BiOk G X .max (.builtin "max") := by
  intro C s σ xs vs r Q rl h e kk
  unfold biop at e
  split at e
  all_goals try contradiction
  · obtain ⟨v, w, rfl, hx, hy⟩ := h.two
    cases e
    cases hx.int
    cases hy.int
    exact ⟨_, call_max2 o.calm, _, _, rfl, out_v rl .int kk⟩
  · obtain ⟨v, rfl, hx⟩ := h.one
    obtain ⟨x, e2, rfl⟩ := Option.map_eq_some_iff.mp e
    clear e
    have e := e2
    unfold vmax at e
    split at e
    · rename_i n ns hn
      cases e
      obtain ⟨p, ys, rfl, hp, hr⟩ := hx
      have := intsOf_rel hr hn
      subst this
      refine ⟨_, cr_max o.calm, p, n :: ns, rfl, SqL.of hp, by simp, fun m h1 h2 => ?_⟩
      rw [max_uniq (fold_max_mem ns n) h1 h2]
      exact out_v rl .int kk
    · cases e
theorem bi_all (o : XO0 G k X) : BiOk G X .all (.builtin "all") := by
  intro C s σ xs vs r Q rl h e kk
  unfold biop at e
  split at e
  all_goals try contradiction
  obtain ⟨v, rfl, hx⟩ := h.one
  obtain ⟨ns, e2, rfl⟩ := Option.map_eq_some_iff.mp e
  clear e
  have e := e2
  obtain ⟨p, ys, rfl, hp, hr⟩ := hx
  have := blsOf_rel hr e
  subst this
  exact ⟨_, cr_all o.calm, p, ns, rfl, SqL.of hp, out_v rl .bl kk⟩
theorem bi_int : BiOk G X .int (.type "int") := by
  intro C s σ xs vs r Q rl h e kk
  unfold biop at e
  split at e
  all_goals try contradiction
  · obtain ⟨v, rfl, hx⟩ := h.one
    cases e
    cases hx.int
    exact ⟨_, call_int1, .inl ⟨_, rfl, out_v rl .int kk⟩⟩
  · obtain ⟨v, rfl, hx⟩ := h.one
    cases e
    cases hx.bl
    exact ⟨_, call_int1, .inr ⟨_, rfl, out_v rl .int kk⟩⟩
theorem vKey_rel (kk : Key) : VR G C (vKey kk) (kV kk) := by
  cases kk with
  | inl i => exact VR.int
  | inr x => exact VR.str
theorem VRk.keys : ∀ {xs : List (Key × Val)} {ys : List (Key × V)}, VRk G C xs ys → VRs G C (xs.map fun kv => vKey kv.1) (ys.map fun kv => kV kv.1)
  | [], ys, h => by unfold VRk at h; subst h; exact VRs.nil
  | (j, x) :: xs, ys, h => by
    unfold VRk at h
    obtain ⟨y, r, e, a, b⟩ := h
    subst e
    exact VRs.cons (vKey_rel j) (VRk.keys b)
theorem bi_list (o : XO0 G k X) : BiOk G X .list (.type "list") := by
  intro C s σ xs vs r Q rl h e kk
  unfold biop at e
  split at e
  all_goals try contradiction
  rename_i x
  obtain ⟨v, rfl, hx⟩ := h.one
  split at e
  · cases e
  · obtain ⟨ys, e2, rfl⟩ := Option.map_eq_some_iff.mp e
    clear e
    have e := e2
    rename_i hs
    unfold itemsV at e
    split at e
    · cases e
      obtain ⟨p, ys, rfl, hp, hr⟩ := hx
      exact ⟨_, call_list_of, p, ys, rfl, .inl (SqL.of hp), fun l n => out_l rl hr n kk⟩
    · cases e
      obtain ⟨p, ys, rfl, hp, hr⟩ := hx.tup
      exact ⟨_, call_list_of, p, ys, rfl, .inr (by rw [o.K]; exact hp), fun l n => out_l rl hr n kk⟩
    · exact absurd rfl (hs _)
    · cases e
      obtain ⟨p, ks, rfl, hp, hr⟩ := hx
      exact ⟨_, call_listD o.calm, p, ks, rfl, hp, fun l n => out_l rl hr.keys n kk⟩
    · cases e
theorem bi_tuple (o : XO0 G k X) : BiOk G X .tuple (.type "tuple") := by
  intro C s σ xs vs r Q rl h e kk
  unfold biop at e
  split at e
  all_goals try contradiction
  all_goals (obtain ⟨v, rfl, hx⟩ := h.one)
  · cases e
    obtain ⟨p, ys, rfl, hp, hr⟩ := hx
    exact ⟨_, call_tuple_of, p, ys, rfl, .inl ⟨SqL.of hp, fun l n => out_t rl hr n kk⟩⟩
  · cases e
    obtain ⟨p, ys, e1, hp, hr⟩ := hx.tup
    subst e1
    exact ⟨_, call_tuple_of, p, ys, rfl, .inr ⟨by rw [o.K]; exact hp, out_v rl (show VR G C (.tup _) _ from hx) kk⟩⟩
  · cases e
    obtain ⟨p, ks, rfl, hp, hr⟩ := hx
    exact ⟨_, call_tupleD o.calm, p, ks, rfl, hp, fun l n => out_t rl hr.keys n kk⟩
theorem pairs_rel : ∀ {xs : List Val} {ys : List V} {kvs : List (Key × Val)}, VRs G C xs ys → pairsV xs = some kvs → ∃ (ps : List Addr) (ks : List (Key × V)), ys = ps.map V.ref ∧ VRk G C kvs ks ∧ Paired (fun p (kv : Key × V) => SqT G.K C.H p [kV kv.1, kv.2]) ps ks
  | [], ys, kvs, h, e => by
    unfold VRs at h; unfold pairsV at e; cases e; subst h
    exact ⟨[], [], rfl, by unfold VRk; rfl, .nil⟩
  | x :: xs, ys, kvs, h, e => by
    unfold VRs at h
    obtain ⟨y, r, e1, a, b⟩ := h
    subst e1
    unfold pairsV at e
    split at e
    · rename_i heq; cases heq
    · rename_i kx vx rr heq
      cases heq
      split at e
      · rename_i kk r2 h1 h2
        cases e
        obtain ⟨ps, ks, rfl, h3, h4⟩ := pairs_rel b h2
        have a' : NR G C (.tup [kx, vx]) y := a
        obtain ⟨p, zs, rfl, hp, hz⟩ := a'.tup
        unfold VRs at hz
        obtain ⟨z1, zr, rfl, g1, hz⟩ := hz
        unfold VRs at hz
        obtain ⟨z2, zr2, rfl, g2, hz⟩ := hz
        unfold VRs at hz
        subst hz
        cases keyV_ok g1.nr h1
        refine ⟨p :: ps, (kk, z2) :: ks, rfl, ?_, .cons hp h4⟩
        unfold VRk
        exact ⟨z2, ks, rfl, g2, h3⟩
      · cases e
    · cases e
theorem VRk.any {kk : Key} : ∀ {xs : List (Key × Val)} {ys : List (Key × V)}, VRk G C xs ys → (xs.any fun kv => decide (kv.1 = kk)) = (ys.any fun kv => decide (kv.1 = kk))
  | [], ys, h => by unfold VRk at h; subst h; rfl
  | (j, x) :: xs, ys, h => by
    unfold VRk at h
    obtain ⟨y, r, e, a, b⟩ := h
    subst e
    simp only [List.any_cons]
    rw [VRk.any b]
theorem VRk.repl {kk : Key} {x : Val} {y : V} (hx : VR G C x y) : ∀ {xs : List (Key × Val)} {ys : List (Key × V)}, VRk G C xs ys → VRk G C (xs.map fun kv => if kv.1 = kk then (kv.1, x) else kv) (ys.map fun kv => if kv.1 = kk then (kv.1, y) else kv)
  | [], ys, h => by unfold VRk at h; subst h; show VRk G C [] []; unfold VRk; rfl
  | (j, z) :: xs, ys, h => by
    unfold VRk at h
    obtain ⟨w, r, e, a, b⟩ := h
    subst e
    simp only [List.map_cons]
    by_cases hj : j = kk
    · rw [if_pos hj, if_pos hj]
      unfold VRk
      exact ⟨_, _, rfl, hx, VRk.repl hx b⟩
    · rw [if_neg hj, if_neg hj]
      unfold VRk
      exact ⟨_, _, rfl, a, VRk.repl hx b⟩
theorem VRk.snoc {kk : Key} {x : Val} {y : V} (hx : VR G C x y) : ∀ {xs : List (Key × Val)} {ys : List (Key × V)}, VRk G C xs ys → VRk G C (xs ++ [(kk, x)]) (ys ++ [(kk, y)])
  | [], ys, h => by
    unfold VRk at h; subst h
    show VRk G C [(kk, x)] [(kk, y)]
    unfold VRk
    exact ⟨y, [], rfl, hx, by unfold VRk; rfl⟩
  | (j, z) :: xs, ys, h => by
    unfold VRk at h
    obtain ⟨w, r, e, a, b⟩ := h
    subst e
    show VRk G C ((j, z) :: (xs ++ [(kk, x)])) ((j, w) :: (r ++ [(kk, y)]))
    unfold VRk
    exact ⟨_, _, rfl, a, VRk.snoc hx b⟩
theorem VRk.put {kk : Key} {x : Val} {y : V} (hx : VR G C x y) {xs : List (Key × Val)} {ys : List (Key × V)} (h : VRk G C xs ys) : VRk G C (dput xs kk x) (putK ys kk y) := by
  unfold dput putK
  rw [h.any]
  by_cases c : (ys.any fun kv => decide (kv.1 = kk)) = true
  · rw [if_pos c, if_pos c]
    exact h.repl hx
  · rw [if_neg c, if_neg c]
    exact h.snoc hx
theorem VRk.drop {kk : Key} : ∀ {xs : List (Key × Val)} {ys : List (Key × V)}, VRk G C xs ys → VRk G C (ddrop xs kk) (dropK ys kk)
  | [], ys, h => by unfold VRk at h; subst h; show VRk G C [] []; unfold VRk; rfl
  | (j, z) :: xs, ys, h => by
    unfold VRk at h
    obtain ⟨w, r, e, a, b⟩ := h
    subst e
    have ih := VRk.drop (kk := kk) b
    unfold ddrop dropK at ih ⊢
    by_cases hj : j = kk
    · simp only [List.filter_cons, hj, ne_eq, not_true_eq_false, decide_false, Bool.false_eq_true, if_false]
      exact ih
    · simp only [List.filter_cons, hj, ne_eq, not_false_eq_true, decide_true, if_true]
      unfold VRk
      exact ⟨_, _, rfl, a, ih⟩
theorem VRk.merge : ∀ {ms : List (Key × Val)} {ns : List (Key × V)} {xs : List (Key × Val)} {ys : List (Key × V)}, VRk G C ms ns → VRk G C xs ys → VRk G C (dmerge xs ms) (mergeK ys ns)
  | [], ns, xs, ys, h, g => by unfold VRk at h; subst h; exact g
  | (j, z) :: ms, ns, xs, ys, h, g => by
    unfold VRk at h
    obtain ⟨w, r, e, a, b⟩ := h
    subst e
    exact VRk.merge (xs := dput xs j z) (ys := putK ys j w) b (VRk.put a g)
theorem VRk.nil : VRk G C [] [] := by unfold VRk; rfl
theorem bi_dict (o : XO0 G k X) : BiOk G X .dict (.type "dict") := by
  intro C s σ xs vs r Q rl h e kk
  unfold biop at e
  split at e
  all_goals try contradiction
  all_goals (obtain ⟨v, rfl, hx⟩ := h.one)
  · cases e
    obtain ⟨p, ks, rfl, hp, hr⟩ := hx
    exact ⟨_, call_dictD, p, ks, rfl, hp, fun l n => out_d rl hr n kk⟩
  · obtain ⟨kvs, e2, rfl⟩ := Option.map_eq_some_iff.mp e
    clear e
    have e := e2
    obtain ⟨p, ys, rfl, hp, hr⟩ := hx
    obtain ⟨ps, ks, rfl, h3, h4⟩ := pairs_rel hr e
    exact ⟨_, call_dictP o.calm, p, ps, ks, rfl, SqL.of hp, by rw [o.K]; exact h4, fun l n => out_d rl (h3.merge VRk.nil) n kk⟩
end
end Rs
end
section
set_option maxRecDepth 100000
set_option maxHeartbeats 4000000
/-! Calls of defs of the text. -/
namespace Rs
open PySem PySem.Spec PyProof.Rows L2
/-! ### places that stay while something runs -/
section
variable {G : Gl} {C C' : Cf} {s s' : S} {σ : L2.St}
/-- places of others from here on -/
abbrev Cf.keep (C : Cf) (Z : Addr → Prop) : Cf := { C with rs := fun p => C.rs p ∨ Z p }
theorem lv_keep {Z : Addr → Prop} : Lv C (C.keep Z) := ⟨List.prefix_rfl, fun _ h => h, fun _ _ => .of fun _ h => h⟩
theorem lv_rs {K : Addr → Prop} : Lv C { C with rs := K } := ⟨List.prefix_rfl, fun _ h => h, fun _ _ => .of fun _ h => h⟩
theorem le_back {Z : Addr → Prop} (l : Le (C.keep Z) C') : Le C { C' with rs := C.rs } where
  ρ := l.ρ
  fz := l.fz
  hf := l.hf
  kp := l.kp
  rs := rfl
  hk := fun p z => l.hk p (z.imp id .inl)
  ff := l.ff
/-- the slots' own places -/
def Own (s : S) (σ : L2.St) (p : Addr) : Prop := ∃ (i : Nat) (c : Cell), s.e[i]? = some (.own c) ∧ σ[i]? = some (some (.ref p))
theorem own_at (r : Rel G C s σ) {p : Addr} (h : Own s σ p) : NT (C.H p) ∧ ¬ C.fz p ∧ p ∉ C.ρ := by
  obtain ⟨i, c, h1, h2⟩ := h
  obtain ⟨q, a, b, d, e, f⟩ := r.own i c h1
  rw [h2] at a
  cases a
  exact ⟨b.nt, d, e⟩
/-- into a call: no names, all that these names have stays -/
theorem Rel.enter (r : Rel G C s σ) : Rel G (C.keep (Own s σ)) ⟨[], s.h⟩ [] where
  len := rfl
  env := fun i x h => by simp at h
  own := fun i x h => by simp at h
  apart := fun i j c d p h => by simp at h
  hlen := r.hlen
  nd := r.nd
  cell := fun n c p h1 h2 => by
    obtain ⟨a, b, d⟩ := r.cell n c p h1 h2
    refine ⟨a.mono0 lv_keep, b, d.1, fun z => ?_⟩
    rcases z with z | z
    · exact d.2 z
    · exact (own_at r z).2.2 (List.mem_of_getElem? h2)
  fztr := r.fztr
  kptr := fun p z => by
    rcases z with z | z | z
    · exact r.kptr p (.inl z)
    · exact r.kptr p (.inr z)
    · exact (own_at r z).1
  fzkp := fun p h z => by
    rcases z with z | z | z
    · exact r.fzkp p h (.inl z)
    · exact r.fzkp p h (.inr z)
    · exact (own_at r z).2.1 h
  tabs := r.tabs
theorem Rel.leave (r : Rel G C s σ) {e2 : List Slot} {h2 : List Cell} {σ2 : L2.St} (l : Le (C.keep (Own s σ)) C') (r2 : Rel G C' ⟨e2, h2⟩ σ2) : Rel G { C' with rs := C.rs } ⟨s.e, h2⟩ σ where
  len := r.len
  env := fun i x h => by
    obtain ⟨v, a, b⟩ := r.env i x h
    exact ⟨v, a, b.mono (le_back l)⟩
  own := fun i c h => by
    obtain ⟨p, a, b, d, e, f⟩ := r.own i c h
    have kz : (C.keep (Own s σ)).rs p := .inr ⟨i, c, h, a⟩
    have hk : C'.rs p := by rw [l.rs]; exact kz
    refine ⟨p, a, ?_, fun z => r2.fzkp p z (.inr hk), fun z => ?_, fun u => by rw [l.kp]; exact f.1 u, f.2⟩
    · cases q : C.H p with
      | none => exact absurd q b.tr
      | some o =>
        have e1 : C'.H p = some o := l.hk p (.inr kz) o q
        show CR G _ c (C'.H p)
        rw [e1, ← q]
        exact b.mono (le_back l)
    · obtain ⟨n, hn, e3⟩ := List.getElem_of_mem z
      have h1 : n < h2.length := by rw [show h2.length = C'.ρ.length from r2.hlen]; exact hn
      exact (r2.cell n h2[n] p (by simp [h1]) (by rw [List.getElem?_eq_getElem hn, e3])).2.2.2 hk
  apart := r.apart
  hlen := r2.hlen
  nd := r2.nd
  cell := fun n c p h1 h2 => by
    obtain ⟨a, b, d⟩ := r2.cell n c p h1 h2
    exact ⟨a.mono0 lv_rs, b, d.1, fun u => d.2 (by rw [l.rs]; exact .inl u)⟩
  fztr := r2.fztr
  kptr := fun p z => r2.kptr p (z.imp id fun z => by rw [l.rs]; exact .inl z)
  fzkp := fun p h z => r2.fzkp p h (z.imp id fun z => by rw [l.rs]; exact .inl z)
  tabs := r2.tabs
end
/-! ### what a def does -/
/-- a def's own law: the wanted end is reached wherever the interpreter's answer is handed out -/
def spI (G : Gl) (F : Call) (id np : Nat) : List V → Hp → VK → Prop := fun vs H Q => vs.length = np ∧ ∃ C xs h r s2, C.H = H ∧ Rel G C ⟨[], h⟩ [] ∧ VRs G C xs vs ∧ F id xs h = .ok r s2 ∧
  ∀ C' v, Le C C' → Rel G C' ⟨[], s2.h⟩ [] → VR G C' r v → Q v C'.H
abbrev SpG := List V → Hp → VK → Prop
/-- a def, called where no repr is under way -/
structure FnG (P : Program) (w : World) (K : PySem.W.Frag) (mg : Str → Option Value) (base : Heap) (k : Nat) (f : Addr) (fd : FuncData) (ps : List Str) (sp : SpG) : Prop where
  len : ∀ vs H Q, sp vs H Q → vs.length = ps.length
  run : ∀ (A : Around) (outer : List Env) (s : Shared) (H : Hp) (args : Args) (us : List Value) (vs : List V) (Q : VK), A.guards = some [] → Room k A → Env0 P w K mg base A outer s H → BindsTo s fd args (ps.zip us) → Vals vs us → sp vs H Q →
    codeAny (model P w) A (.call (.ref f) args) (fun r s' => ∃ u, r = .ok (.ret u) ∧ CE outer P w H s Q u s') s
section
variable {X : Cx} {k : Nat} {f : Addr} {fd : FuncData} {ps : List Str} {sp : SpG} {dvs : List V} {ds : List Value} {x m : Str} {p pos apos : Pos} {e o : Expr} {es : List Expr} {ta : TE} {t : TA}
theorem FnG.go {pins : List (Addr × Obj)} {σ : L2.St} {H : Hp} {s : Shared} {Q : VK} {us : List Value} {vs : List V} (F : FnG X.prog X.w X.K X.mg X.base k f fd ps sp) (gd : X.A.guards = some []) (hr : Room k X.A) (hb : Binds X.K fd ps ds) (hd : Vals dvs ds)
    (I : Inv X pins σ H s) (r : Vals vs us) (h : sp (vs ++ dvs) H Q) : wpAny (model X.prog X.w) X.A (call (.ref f) us) (EP X pins σ Q) X.xe s := by
  have both : Vals (vs ++ dvs) (us ++ ds) := r.append hd
  have many : (us ++ ds).length = ps.length := by rw [← F.len _ _ _ h, both.length]
  refine wpAny_call (codeAny_mono (F.run X.A X.stack s H ⟨us, []⟩ _ _ Q gd hr I.env0 (hb s us I.kIn many) both h) fun r s' hq => ?_)
  obtain ⟨u, rfl, hq⟩ := hq
  exact I.after hq
def tGo (sp : SpG) (dvs : List V) (t : TA) : TE := fun σ H Q => t σ H fun vs H1 => sp (vs ++ dvs) H1 Q
theorem pg_call (F : FnG X.prog X.w X.K X.mg X.base k f fd ps sp) (gd : X.A.guards = some []) (hr : Room k X.A) (hb : Binds X.K fd ps ds) (hd : Vals dvs ds) (hg : L2.Gl X x) (hm : X.mg x = some (.ref f)) (hk : PySem.W.keepIn X.K (.ref f) = true)
    (ha : PA X (e :: es) t) (hdb : (x == ("__debug__" : Str)) = false := by decide) (st1 : starEach (e :: es) X.env = (false, eval e X.env) :: starEach es X.env := by rfl) (st2 : (backTo pos (starEach es X.env)).any (·.1) = false := by rfl) :
    PE X (.Call (.Name x p) (e :: es) [] pos) (tGo sp dvs t) :=
  ⟨fun pins s σ H Q I h => wpAny_Call_Name_kw (ld_glob I hg hm (PySem.W.callWith_K (h₀ := X.base) I.ok.mod.kin hk (thn (ha.run pos pins s σ H _ I h) fun us s1 ⟨vs, H1, I1, r, q⟩ => ⟨I1.kIn, F.go gd hr hb hd I1 r q⟩) st1 st2) hdb)⟩
end
/-! ### a def's body -/
theorem fnG_of {P : Program} {w : World} {K : PySem.W.Frag} {mg : Str → Option Value} {base : Heap} {k : Nat} {f : Addr} {x qual : Str} {params : Arguments} {body : List Stmt} {scope : Scope} {dvs : List V} {kws : List (Str × V)} {fd : FuncData}
    {N ps : List Str} {sp : SpG} (F : FunD K x qual params body scope dvs kws f fd) (S : FnScope N ps scope) (len : ∀ vs H Q, sp vs H Q → vs.length = ps.length)
    (hbody : ∀ (cdv : Value) (A : Around) (outer : List Env) (s : Shared) (H : Hp), A.guards = some [] → Room k (A.deeper (envOfC qual scope s.heap.objs.size f cdv)) → (∃ (o : Obj) (fd0 : FuncData), K.lookup f = some o ∧ o.data = .func fd0 ∧ fd0.code = cdv) →
      ∃ t, PSs (cxOf CX0 P w K mg base N qual scope f cdv A outer s H E0).nox body t ∧ ∀ (vs : List V) (Q : VK), sp vs H Q → t { nx := fun _ H' => Q .non H', rt := Q } (start N vs) H) : FnG P w K mg base (k + 1) f fd ps sp := by
  obtain ⟨oc, od, dV, kV, doc, pm, an, cdv, ct, osl, rfl, lk, hcd, _, _⟩ := F.ex
  refine ⟨len, fun A outer s H args us vs Q gd hr e0 hb r hsp => ?_⟩
  have hl := len _ _ _ hsp
  have KX : K.In s.heap := e0.mod.kin.keeps fun b o e => (e0.bs b o e).1
  have lim : s.heap.NoLimit := e0.mod.nolimit.keeps fun b o e => (e0.bs b o e).1
  have kinds : ∀ y ∈ ps.zip us, scope.names.lookup y.1 = some .local ∨ (scope.names.lookup y.1 = some .cell ∧ ((cellsFrom (s.heap.objs.size + 1) scope.names []).lookup y.1).isSome = true) := fun y hy => by
    rcases S.par y.1 (List.of_mem_zip (show (y.1, y.2) ∈ _ from hy)).1 with q | q
    · exact .inl q
    · exact .inr ⟨q, PySem.W.cellsFrom_some _ _ _ (.inl q)⟩
  refine codeAny_call_function hr.depth (KX _ _ lk) rfl S.co S.gen rfl (PySem.W.codeRec_of KX hcd) (hb _ _ _ _ (wpAny_newFunctionEnv_cells S.kind kinds fun env he s1 y => ?_))
  subst he
  refine ⟨lim.keeps y.toInCall.keep, codeAny_func ?_⟩
  obtain ⟨t, ht, hq⟩ := hbody cdv A outer s H gd (hr.deeper _) ⟨_, _, lk, rfl, rfl⟩
  have I := inv_start (CX := CX0) (E := E0) S hr.hd e0 hl r y
  refine wpAny_mono ((PSs.nox ht).run [] s1 (start N vs) H _ I (hq vs Q hsp)) (fun fl s' hs => ?_) fun e s' hs => ?_
  · cases fl with
    | ret u =>
      obtain ⟨v, σ', H', J, rv, q⟩ := hs
      exact ⟨u, rfl, v, H', J.os, J.bare, J.base, J.hok, rv, q⟩
    | next =>
      obtain ⟨σ', H', J, q⟩ := hs
      exact ⟨.none, rfl, .non, H', J.os, J.bare, J.base, J.hok, rfl, q⟩
    | brk =>
      obtain ⟨_, _, _, q⟩ := hs
      exact q.elim
    | cont =>
      obtain ⟨_, _, _, q⟩ := hs
      exact q.elim
  · exact wpAny_mono (show wpAny _ _ _ _ _ _ from hs) (fun _ _ h => h.elim) fun _ _ h => h.elim
end Rs
end
section
set_option maxRecDepth 100000
set_option maxHeartbeats 4000000
/-! What is walked; for; comprehensions. -/
namespace Rs
open PySem PySem.Spec PyProof.Rows L2
section
variable {G : Gl} {C C' : Cf} {s s' : S} {σ σ' : L2.St}
/-! ### names forgotten -/
theorem Rel.slots (r : Rel G C s σ) {e : List Slot} (hl : e.length = σ'.length) (h : ∀ (j : Nat) (t : Slot), e[j]? = some t → t ≠ .no → s.e[j]? = some t ∧ σ'[j]? = σ[j]?) : Rel G C { s with e := e } σ' where
  len := hl
  env := fun j x q => by
    obtain ⟨a, b⟩ := h j _ q (by simp)
    rw [b]
    exact r.env j x a
  own := fun j x q => by
    obtain ⟨a, b⟩ := h j _ q (by simp)
    rw [b]
    exact r.own j x a
  apart := fun i j c d p h1 h2 h3 h4 => by
    obtain ⟨a1, b1⟩ := h i _ h1 (by simp)
    obtain ⟨a2, b2⟩ := h j _ h2 (by simp)
    rw [b1] at h3
    rw [b2] at h4
    exact r.apart i j c d p a1 a2 h3 h4
  hlen := r.hlen
  nd := r.nd
  cell := r.cell
  fztr := r.fztr
  kptr := r.kptr
  fzkp := r.fzkp
  tabs := r.tabs
theorem wipeE_len (e : List Slot) : ∀ vs : List Nat, (wipeE e vs).length = e.length
  | [] => rfl
  | v :: vs => by unfold wipeE; rw [List.length_set, wipeE_len e vs]
theorem wipeE_at {e : List Slot} {j : Nat} {t : Slot} : ∀ {vs : List Nat}, (wipeE e vs)[j]? = some t → t ≠ .no → e[j]? = some t ∧ j ∉ vs
  | [], h, _ => ⟨h, by simp⟩
  | v :: vs, h, n => by
    unfold wipeE at h
    by_cases hv : v = j
    · subst hv
      by_cases hl : v < (wipeE e vs).length
      · rw [List.getElem?_set_self hl] at h
        exact absurd (Option.some.inj h).symm n
      · rw [List.getElem?_eq_none (by simpa using hl)] at h
        cases h
    · rw [List.getElem?_set_ne hv] at h
      obtain ⟨a, b⟩ := wipeE_at h n
      exact ⟨a, by simp only [List.mem_cons, not_or]; exact ⟨fun z => hv z.symm, b⟩⟩
theorem Rel.wipe (r : Rel G C s σ) (vs : List Nat) : Rel G C { s with e := wipeE s.e vs } (wipe σ vs) :=
  r.slots (by rw [wipeE_len, wipe_length]; exact r.len) fun j t h n => let ⟨a, b⟩ := wipeE_at h n; ⟨a, wipe_out b⟩
theorem restE_len (e0 e1 : List Slot) : ∀ vs : List Nat, (restE e0 e1 vs).length = e1.length
  | [] => rfl
  | v :: vs => by unfold restE; rw [List.length_set, restE_len e0 e1 vs]
theorem restE_at {e0 e1 : List Slot} {j : Nat} {t : Slot} : ∀ {vs : List Nat}, (restE e0 e1 vs)[j]? = some t → (j ∉ vs ∧ e1[j]? = some t) ∨ (j ∈ vs ∧ (t = .no ∨ ∃ x, t = .val x ∧ e0[j]? = some (.val x)))
  | [], h => .inl ⟨by simp, h⟩
  | v :: vs, h => by
    unfold restE at h
    by_cases hv : v = j
    · subst hv
      right
      refine ⟨by simp, ?_⟩
      by_cases hl : v < (restE e0 e1 vs).length
      · rw [List.getElem?_set_self hl] at h
        rw [List.getD_eq_getElem?_getD] at h
        cases q : e0[v]? with
        | none => rw [q] at h; exact .inl (Option.some.inj h).symm
        | some u =>
          rw [q] at h
          cases u with
          | val x => exact .inr ⟨x, (Option.some.inj h).symm, rfl⟩
          | _ => exact .inl (Option.some.inj h).symm
      · rw [List.getElem?_eq_none (by simpa using hl)] at h
        cases h
    · rw [List.getElem?_set_ne hv] at h
      rcases restE_at h with ⟨a, b⟩ | ⟨a, b⟩
      · exact .inl ⟨by simp only [List.mem_cons, not_or]; exact ⟨fun z => hv z.symm, a⟩, b⟩
      · exact .inr ⟨List.mem_cons_of_mem _ a, b⟩
/-- behind a comprehension: its names are those of before -/
theorem Rel.rest {C0 : Cf} {s0 : S} {vs : List Nat} (r0 : Rel G C0 s0 σ) (l : Lv C0 C) (r : Rel G C s (L2.wipe σ vs)) : Rel G C { s with e := restE s0.e s.e vs } σ where
  len := by rw [restE_len, r.len, wipe_length]
  env := fun j x q => by
    rcases restE_at q with ⟨a, b⟩ | ⟨a, b⟩
    · obtain ⟨v, h1, h2⟩ := r.env j x b
      exact ⟨v, by rw [wipe_out a] at h1; exact h1, h2⟩
    · rcases b with b | ⟨y, b, h⟩
      · cases b
      · cases b
        obtain ⟨v, h1, h2⟩ := r0.env j x h
        exact ⟨v, h1, h2.mono0 l⟩
  own := fun j x q => by
    rcases restE_at q with ⟨a, b⟩ | ⟨a, b⟩
    · obtain ⟨v, h1, h2⟩ := r.own j x b
      exact ⟨v, by rw [wipe_out a] at h1; exact h1, h2⟩
    · rcases b with b | ⟨y, b, h⟩
      · cases b
      · cases b
  apart := fun i j c d p h1 h2 h3 h4 => by
    rcases restE_at h1 with ⟨a1, b1⟩ | ⟨a1, b1⟩
    · rcases restE_at h2 with ⟨a2, b2⟩ | ⟨a2, b2⟩
      · exact r.apart i j c d p b1 b2 (by rw [wipe_out a1]; exact h3) (by rw [wipe_out a2]; exact h4)
      · rcases b2 with b | ⟨y, b, h⟩ <;> cases b
    · rcases b1 with b | ⟨y, b, h⟩ <;> cases b
  hlen := r.hlen
  nd := r.nd
  cell := r.cell
  fztr := r.fztr
  kptr := r.kptr
  fzkp := r.fzkp
  tabs := r.tabs

/-! ### places walked -/
/-- the place of what is no value -/
def Pl (C : Cf) (σ : L2.St) (o : Rv) (p : Addr) : Prop := match o with
  | .v (.ref n) => C.ρ[n]? = some p
  | .sl i => σ[i]? = some (some (.ref p))
  | _ => False
abbrev Cf.hold (C : Cf) (Z : Addr → Prop) : Cf := { C with kp := fun p => C.kp p ∨ Z p }
theorem lv_hold {Z : Addr → Prop} : Lv C (C.hold Z) := ⟨List.prefix_rfl, fun _ h => h, fun _ _ => .of fun _ h => h⟩
theorem lv_kp {K : Addr → Prop} : Lv C { C with kp := K } := ⟨List.prefix_rfl, fun _ h => h, fun _ _ => .of fun _ h => h⟩
theorem le_unhold {Z : Addr → Prop} (l : Le (C.hold Z) C') : Le C { C' with kp := C.kp } where
  ρ := l.ρ
  fz := l.fz
  hf := l.hf
  kp := rfl
  rs := l.rs
  hk := fun p z => l.hk p (z.imp .inl id)
  ff := l.ff
theorem Rel.unhold {Z : Addr → Prop} (r : Rel G (C.hold Z) s σ) : Rel G C s σ where
  len := r.len
  env := fun i x h => let ⟨v, a, b⟩ := r.env i x h; ⟨v, a, b.mono0 lv_kp⟩
  own := fun i c h => let ⟨p, a, b, d, e, f⟩ := r.own i c h; ⟨p, a, b.mono0 lv_kp, d, e, fun u z => f.1 u (.inl z), f.2⟩
  apart := r.apart
  hlen := r.hlen
  nd := r.nd
  cell := fun n c p h1 h2 => let ⟨a, b, d⟩ := r.cell n c p h1 h2; ⟨a.mono0 lv_kp, b, fun u z => d.1 u (.inl z), d.2⟩
  fztr := r.fztr
  kptr := fun p z => r.kptr p (z.imp .inl id)
  fzkp := fun p h z => r.fzkp p h (z.imp .inl id)
  tabs := r.tabs
theorem Rel.unhold' {Z K : Addr → Prop} (r : Rel G C s σ) (h : C.kp = fun p => K p ∨ Z p) : Rel G { C with kp := K } s σ :=
  Rel.unhold (C := { C with kp := K }) (Z := Z) (by
    have e : ({ C with kp := K } : Cf).hold Z = C := by
      cases C
      simp only at h
      subst h
      rfl
    rw [e]
    exact r)
/-- a list at a place is locked, unlocked -/
theorem lst_flag {xs : List Val} {a b : Bool} {o : Option HO} (h : CR G C (.lst xs a) o) : CR G C (.lst xs b) o := h
theorem Rel.flagH (r : Rel G C s σ) {n : Nat} {xs : List Val} {a b : Bool} {p : Addr} (h : s.h[n]? = some (.lst xs a)) (hp : C.ρ[n]? = some p) (k : b = false → ¬ C.kp p) : Rel G C { s with h := s.h.set n (.lst xs b) } σ where
  len := r.len
  env := r.env
  own := r.own
  apart := r.apart
  hlen := by simpa using r.hlen
  nd := r.nd
  cell := fun m c q h1 h2 => by
    have h1 : (s.h.set n (.lst xs b))[m]? = some c := h1
    by_cases e : n = m
    · subst e
      rw [hp] at h2
      cases h2
      have hn : n < s.h.length := (List.getElem?_eq_some_iff.mp h).1
      rw [List.getElem?_set_self hn] at h1
      cases h1
      obtain ⟨a, d, e, f⟩ := r.cell n _ p h hp
      exact ⟨lst_flag a, d, fun u => k (by simpa [free, unlocked] using u), f⟩
    · rw [List.getElem?_set_ne e] at h1
      exact r.cell m c q h1 h2
  fztr := r.fztr
  kptr := r.kptr
  fzkp := r.fzkp
  tabs := r.tabs
theorem Rel.flagO (r : Rel G C s σ) {n : Nat} {xs : List Val} {a b : Bool} {p : Addr} (h : s.e[n]? = some (.own (.lst xs a))) (hp : σ[n]? = some (some (.ref p))) (k : b = false → ¬ C.kp p) : Rel G C { s with e := s.e.set n (.own (.lst xs b)) } σ where
  len := by simpa using r.len
  env := fun j x q => by
    rcases set_val q with ⟨rfl, e, hi⟩ | ⟨e, h'⟩
    · cases e
    · exact r.env j x h'
  own := fun j c q => by
    rcases set_val q with ⟨rfl, e, hi⟩ | ⟨e, h'⟩
    · cases e
      obtain ⟨q, a, b, d, e, f⟩ := r.own n _ h
      rw [hp] at a
      cases a
      exact ⟨p, hp, lst_flag b, d, e, fun u => k (by simpa [unlocked] using u), f.2⟩
    · exact r.own j c h'
  apart := fun i j c d q h1 h2 h3 h4 => by
    have f1 : ∃ c', s.e[i]? = some (.own c') := by
      rcases set_val h1 with ⟨rfl, e, hi⟩ | ⟨e, h'⟩
      · exact ⟨_, h⟩
      · exact ⟨_, h'⟩
    have f2 : ∃ c', s.e[j]? = some (.own c') := by
      rcases set_val h2 with ⟨rfl, e, hi⟩ | ⟨e, h'⟩
      · exact ⟨_, h⟩
      · exact ⟨_, h'⟩
    obtain ⟨_, g1⟩ := f1
    obtain ⟨_, g2⟩ := f2
    exact r.apart i j _ _ q g1 g2 h3 h4
  hlen := r.hlen
  nd := r.nd
  cell := r.cell
  fztr := r.fztr
  kptr := r.kptr
  fzkp := r.fzkp
  tabs := r.tabs
theorem Rel.holdZ {Z : Addr → Prop} (r : Rel G C s σ) (h1 : ∀ p, Z p → NT (C.H p) ∧ ¬ C.fz p) (h2 : ∀ (i : Nat) c p, s.e[i]? = some (.own c) → σ[i]? = some (some (.ref p)) → Z p → unlocked c = false)
    (h3 : ∀ (n : Nat) c p, s.h[n]? = some c → C.ρ[n]? = some p → Z p → free c = false) : Rel G (C.hold Z) s σ where
  len := r.len
  env := fun i x h => let ⟨v, a, b⟩ := r.env i x h; ⟨v, a, b.mono0 lv_hold⟩
  own := fun i c h => let ⟨p, a, b, d, e, f⟩ := r.own i c h; ⟨p, a, b.mono0 lv_hold, d, e, fun u z => z.elim (f.1 u) fun z => (nomatch (h2 i c p h a z).symm.trans u), f.2⟩
  apart := r.apart
  hlen := r.hlen
  nd := r.nd
  cell := fun n c p g1 g2 => let ⟨a, b, d⟩ := r.cell n c p g1 g2; ⟨a.mono0 lv_hold, b, fun u z => z.elim (d.1 u) fun z => (nomatch (h3 n c p g1 g2 z).symm.trans u), d.2⟩
  fztr := r.fztr
  kptr := fun p z => by
    rcases z with (z | z) | z
    · exact r.kptr p (.inl z)
    · exact (h1 p z).1
    · exact r.kptr p (.inr z)
  fzkp := fun p h z => by
    rcases z with (z | z) | z
    · exact r.fzkp p h (.inl z)
    · exact (h1 p z).2 h
    · exact r.fzkp p h (.inr z)
  tabs := r.tabs
end
end Rs
end
section
set_option maxRecDepth 100000
set_option maxHeartbeats 4000000
/-! Sources of loops. -/
namespace Rs
open PySem PySem.Spec PyProof.Rows L2
section
variable {G : Gl} {C C' D : Cf} {s s' s0 : S} {σ σ' σ0 : L2.St}
def okS (s : S) (o : Rv) : Prop := match o with
  | .v (.ref n) => ∃ xs lk, s.h[n]? = some (.lst xs lk)
  | .v _ => True
  | .sl i => ∃ xs lk, s.e[i]? = some (.own (.lst xs lk))
  | .f _ => False
def Zs (C : Cf) (σ : L2.St) : List Rv → Addr → Prop
  | [], _ => False
  | o :: os, p => Pl C σ o p ∨ Zs C σ os p
theorem Zs.ref {os : List Rv} (hk : os.all (fun o => match o with | .sl _ => false | _ => true) = true) : ∀ p, Zs C σ os p → Zs C σ' os p := by
  induction os with
  | nil => exact fun _ h => h
  | cons o os ih =>
    intro p h
    obtain ⟨h1, h2⟩ := Bool.and_eq_true_iff.mp (show (_ && _) = true from hk)
    rcases h with h | h
    · left
      cases o with
      | sl i => cases h1
      | v x => cases x <;> exact h
      | f c => exact h
    · exact .inr (ih h2 p h)
theorem lock_one (r : Rel G C s σ) {o : Rv} (k : okS s o) : Rel G (C.hold (Pl C σ o)) (lockLoc s o) σ ∧ ∀ o', okS s o' → okS (lockLoc s o) o' := by
  cases o with
  | f c => exact k.elim
  | sl i =>
    obtain ⟨xs, lk, h⟩ := k
    obtain ⟨p, a, b, d, e, f⟩ := r.own i _ h
    have hi : i < s.e.length := (List.getElem?_eq_some_iff.mp h).1
    have e0 : lockLoc s (.sl i) = { s with e := s.e.set i (.own (.lst xs true)) } := by
      unfold lockLoc slotOf
      simp only [List.getD_eq_getElem?_getD, h]
      rfl
    rw [e0]
    refine ⟨(r.flagO h a (b := true) (by simp)).holdZ (fun q z => ?_) (fun j c q h1 h2 z => ?_) (fun m c q h1 h2 z => ?_), fun o' k' => ?_⟩
    · have z : σ[i]? = some (some (.ref q)) := z
      rw [a] at z
      cases z
      exact ⟨b.nt, d⟩
    · have z : σ[i]? = some (some (.ref q)) := z
      rcases set_val h1 with ⟨rfl, e, _⟩ | ⟨e, h'⟩
      · cases e; rfl
      · exact absurd (r.apart i j _ _ q h h' z h2) e
    · have z : σ[i]? = some (some (.ref q)) := z
      rw [a] at z
      cases z
      exact absurd (List.mem_of_getElem? h2) e
    · cases o' with
      | f c => exact k'.elim
      | v x => cases x <;> exact k'
      | sl j =>
        obtain ⟨ys, l2, h'⟩ := k'
        show ∃ xs lk, (s.e.set i _)[j]? = some (.own (.lst xs lk))
        by_cases e : i = j
        · subst e
          exact ⟨xs, true, by rw [List.getElem?_set_self hi]⟩
        · exact ⟨ys, l2, by rw [List.getElem?_set_ne e]; exact h'⟩
  | v x =>
    cases x with
    | ref n =>
      obtain ⟨xs, lk, h⟩ := k
      have hn : n < s.h.length := (List.getElem?_eq_some_iff.mp h).1
      have hp : C.ρ[n]? = some (C.ρ[n]'(by rw [← r.hlen]; exact hn)) := List.getElem?_eq_getElem _
      obtain ⟨b, d, f⟩ := r.cell n _ _ h hp
      have e0 : lockLoc s (.v (.ref n)) = { s with h := s.h.set n (.lst xs true) } := by
        unfold lockLoc
        simp only [h]
        rfl
      rw [e0]
      refine ⟨(r.flagH h hp (b := true) (by simp)).holdZ (fun q z => ?_) (fun j c q h1 h2 z => ?_) (fun m c q h1 h2 z => ?_), fun o' k' => ?_⟩
      · have z : C.ρ[n]? = some q := z
        rw [hp] at z
        cases z
        exact ⟨b.nt, d⟩
      · have z : C.ρ[n]? = some q := z
        obtain ⟨q', a', _, _, e', _⟩ := r.own j c h1
        rw [h2] at a'
        cases a'
        exact absurd (List.mem_of_getElem? z) e'
      · have z : C.ρ[n]? = some q := z
        have h1 : (s.h.set n (.lst xs true))[m]? = some c := h1
        have e : n = m := by
          have g1 := (List.getElem?_eq_some_iff.mp z).1
          exact (List.getElem?_inj g1 r.nd).mp (z.trans h2.symm)
        subst e
        rw [List.getElem?_set_self hn] at h1
        cases h1
        rfl
      · cases o' with
        | f c => exact k'.elim
        | sl j => exact k'
        | v x =>
          cases x with
          | ref m =>
            obtain ⟨ys, l2, h'⟩ := k'
            show ∃ xs lk, (s.h.set n _)[m]? = some (.lst xs lk)
            by_cases e : n = m
            · subst e
              exact ⟨xs, true, by rw [List.getElem?_set_self hn]⟩
            · exact ⟨ys, l2, by rw [List.getElem?_set_ne e]; exact h'⟩
          | _ => exact k'
    | _ =>
      refine ⟨?_, fun _ h => h⟩
      exact r.holdZ (fun _ z => z.elim) (fun _ _ _ _ _ z => z.elim) fun _ _ _ _ _ z => z.elim
theorem hold_hold {Y Z : Addr → Prop} : (C.hold Y).hold Z = C.hold fun p => Y p ∨ Z p := by
  show ({ C with kp := _ } : Cf) = _
  have e : (fun p => (C.kp p ∨ Y p) ∨ Z p) = fun p => C.kp p ∨ Y p ∨ Z p := funext fun p => propext or_assoc
  simp only [Cf.hold, e]
theorem lock_all : ∀ {os : List Rv} {C : Cf} {s : S}, Rel G C s σ → (∀ o ∈ os, okS s o) → Rel G (C.hold (Zs C σ os)) (lockAll s os) σ
  | [], C, s, r, _ => r.holdZ (fun _ z => z.elim) (fun _ _ _ _ _ z => z.elim) fun _ _ _ _ _ z => z.elim
  | o :: os, C, s, r, k => by
    obtain ⟨r1, k1⟩ := lock_one r (k o (by simp))
    have r2 := lock_all (os := os) r1 fun o' h => k1 o' (k o' (by simp [h]))
    rw [hold_hold] at r2
    have e : ∀ (os : List Rv) (p : Addr), Zs (C.hold (Pl C σ o)) σ os p = Zs C σ os p := fun os p => by
      induction os with
      | nil => rfl
      | cons a as ih =>
        show (Pl (C.hold (Pl C σ o)) σ a p ∨ _) = (Pl C σ a p ∨ _)
        rw [ih]
        cases a with
        | v x => cases x <;> rfl
        | _ => rfl
    have e2 : (fun p => Pl C σ o p ∨ Zs (C.hold (Pl C σ o)) σ os p) = Zs C σ (o :: os) := funext fun p => by rw [e]; rfl
    rw [e2] at r2
    exact r2
theorem un_one (r0 : Rel G C s0 σ0) {o : Rv} (k : okS s0 o) (r : Rel G D s σ) (hk : D.kp = C.kp) (same : ∀ p, Pl C σ0 o p → Pl D σ o p ∧ D.H p = C.H p) : Rel G D (unlockLoc s0 s o) σ := by
  cases o with
  | f c => exact k.elim
  | sl i =>
    obtain ⟨xs, lk, h⟩ := k
    obtain ⟨p, a, b, d, e, f⟩ := r0.own i _ h
    obtain ⟨hp, eH⟩ := same p a
    have hp : σ[i]? = some (some (.ref p)) := hp
    unfold unlockLoc
    simp only [h]
    cases q : s.e[i]? with
    | none => simp only [q]; exact r
    | some t =>
      cases t with
      | own c =>
        simp only [q]
        by_cases u : unlocked (.lst xs lk) = true
        · rw [if_pos u]
          obtain ⟨p', a', b', d', e', f'⟩ := r.own i c q
          rw [hp] at a'
          cases a'
          obtain ⟨ys, e1, _⟩ := b
          rw [eH, e1] at b'
          cases c with
          | lst zs l2 => exact r.flagO q hp (b := false) fun _ z => f.1 u (by rw [← hk]; exact z)
          | dct zs l2 => cases l2 <;> (obtain ⟨_, b'⟩ := b' <;> first | (obtain ⟨_, b', _⟩ := b'; cases b') | (obtain ⟨b', _⟩ := b'; cases b'))
          | ins _ _ => obtain ⟨_, _, b', _⟩ := b'; cases b'
          | err _ _ _ => obtain ⟨_, _, _, b', _⟩ := b'; cases b'
        · rw [if_neg u]
          exact r
      | _ => simp only [q]; exact r
  | v x =>
    cases x with
    | ref n =>
      obtain ⟨xs, lk, h⟩ := k
      have hn : n < s0.h.length := (List.getElem?_eq_some_iff.mp h).1
      have hp : C.ρ[n]? = some (C.ρ[n]'(by rw [← r0.hlen]; exact hn)) := List.getElem?_eq_getElem _
      obtain ⟨b, d, f⟩ := r0.cell n _ _ h hp
      obtain ⟨hp2, eH⟩ := same _ hp
      have hp2 : D.ρ[n]? = some (C.ρ[n]'(by rw [← r0.hlen]; exact hn)) := hp2
      unfold unlockLoc
      simp only [h]
      cases q : s.h[n]? with
      | none => simp only [q]; exact r
      | some c =>
        simp only [q]
        by_cases u : unlocked (.lst xs lk) = true
        · rw [if_pos u]
          obtain ⟨b', d', f'⟩ := r.cell n c _ q hp2
          obtain ⟨ys, e1, _⟩ := b
          rw [eH, e1] at b'
          cases c with
          | lst zs l2 => exact r.flagH q hp2 (b := false) fun _ z => f.1 u (by rw [← hk]; exact z)
          | dct zs l2 => cases l2 <;> (obtain ⟨_, b'⟩ := b' <;> first | (obtain ⟨_, b', _⟩ := b'; cases b') | (obtain ⟨b', _⟩ := b'; cases b'))
          | ins _ _ => obtain ⟨_, _, b', _⟩ := b'; cases b'
          | err _ _ _ => obtain ⟨_, _, _, b', _⟩ := b'; cases b'
        · rw [if_neg u]
          exact r
    | _ => exact r
theorem un_all (r0 : Rel G C s0 σ0) (hk : D.kp = C.kp) : ∀ {os : List Rv} {s : S}, (∀ o ∈ os, okS s0 o) → Rel G D s σ → (∀ o ∈ os, ∀ p, Pl C σ0 o p → Pl D σ o p ∧ D.H p = C.H p) → Rel G D (unlockAll s0 s os) σ
  | [], s, _, r, _ => r
  | o :: os, s, k, r, h => un_all r0 hk (os := os) (fun o' h' => k o' (by simp [h'])) (un_one r0 (k o (by simp)) r hk (h o (by simp))) fun o' h' => h o' (by simp [h'])
/-- what a source yields, turn by turn -/
def TW (G : Gl) (C1 : Cf) (Z : Addr → Prop) (items : List Val) (J : It) : Prop := ∃ Gd Y, Walk J items.length Gd Y ∧ (∀ C2, Lv C1 C2 → (∀ p, Z p → C2.H p = C1.H p) → Gd C2.H) ∧
  ∀ i C2 H' x v s2 σ2, items[i]? = some x → Lv C1 C2 → (∀ p, Z p → C2.H p = C1.H p) → Rel G C2 s2 σ2 → Y i C2.H v H' → ∃ C3, C3.H = H' ∧ Le C2 C3 ∧ Rel G C3 s2 σ2 ∧ VR G C3 x v
def tW (G : Gl) (k : Sk) (f : S → R (List Rv)) : TI := fun σ H R => ∃ C s os s' items, C.H = H ∧ Rel G C s σ ∧ f s = .ok os s' ∧ srcItems k (os.map (deref s')) = some items ∧
  ∀ C1 J, Le C C1 → Rel G C1 s' σ → (∀ o ∈ os, okS s' o) → TW G C1 (Zs C1 σ os) items J → R J C1.H
theorem PI.or {X : Cx} {tg e : Expr} {w1 w2 : TI} (h1 : PI X tg e w1) (h2 : PI X tg e w2) : PI X tg e (fun σ H R => w1 σ H R ∨ w2 σ H R) := ⟨fun pins s σ H R I h => h.elim (h1.run pins s σ H R I) (h2.run pins s σ H R I)⟩
theorem PI.weak {X : Cx} {tg e : Expr} {w1 w2 : TI} (h1 : PI X tg e w1) (h2 : ∀ σ H R, w2 σ H R → w1 σ H R) : PI X tg e w2 := ⟨fun pins s σ H R I h => h1.run pins s σ H R I (h2 σ H R h)⟩
theorem src_l (r : Rel G C s σ) {o : Rv} {v : V} {xs : List Val} (h : OR G C s σ o v) (e : deref s o = .lst xs) : ∃ p ys, v = .ref p ∧ C.H p = some (.lst ys) ∧ VRs G C xs ys ∧ okS s o ∧
    (∀ C2, Lv C C2 → (∀ q, Pl C σ o q → C2.H q = C.H q) → C2.H p = some (.lst ys)) := by
  cases o with
  | f c => exact h.elim
  | sl i =>
    have h : σ[i]? = some (some v) := h
    unfold deref at e
    cases q : s.e[i]? with
    | none => simp [q] at e
    | some t =>
      cases t with
      | own c =>
        simp only [q] at e
        obtain ⟨p, a, b, d⟩ := r.own i c q
        rw [h] at a
        cases a
        cases c with
        | lst zs lk =>
          cases e
          obtain ⟨ys, e1, e2⟩ := b
          exact ⟨p, ys, rfl, e1, e2, ⟨xs, lk, q⟩, fun C2 l k => by rw [k p h]; exact e1⟩
        | _ => cases e
      | _ => simp [q] at e
  | v x =>
    cases x with
    | ref n =>
      have h : VR G C (.ref n) v := h
      unfold VR at h
      obtain ⟨p, hp, rfl⟩ := h
      unfold deref at e
      cases q : s.h[n]? with
      | none => simp [q] at e
      | some c =>
        cases c with
        | lst zs lk =>
          simp only [q] at e
          cases e
          obtain ⟨⟨ys, e1, e2⟩, _⟩ := r.cell n _ p q hp
          exact ⟨p, ys, rfl, e1, e2, ⟨xs, lk, q⟩, fun C2 l k => by rw [k p hp]; exact e1⟩
        | _ => simp [q] at e
    | lst zs =>
      cases e
      have h : VR G C (.lst xs) v := h
      unfold VR at h
      obtain ⟨p, ys, rfl, f, hp, hr⟩ := h
      exact ⟨p, ys, rfl, hp, hr, trivial, fun C2 l _ => (l.hf p f).l ys hp⟩
    | _ => cases e
theorem lv_trans {A B C : Cf} (a : Lv A B) (b : Lv B C) : Lv A C := ⟨a.ρ.trans b.ρ, fun p h => b.fz p (a.fz p h), fun p h => (a.hf p h).trans (b.hf p (a.fz p h))⟩
theorem TW.seq {Z : Addr → Prop} {J : It} {xs : List Val} {ys : List V} {Gd : Hp → Prop} (w : Walk J ys.length Gd (YAt ys)) (h : VRs G C xs ys) (hG : ∀ C2, Lv C C2 → (∀ p, Z p → C2.H p = C.H p) → Gd C2.H) : TW G C Z xs J := by
  refine ⟨Gd, YAt ys, by rw [h.length]; exact w, hG, fun i C2 H' x v s2 σ2 hx l _ r y => ?_⟩
  obtain ⟨rfl, hy⟩ := y
  obtain ⟨v', h1, h2⟩ := h.get hx
  rw [hy] at h1
  cases h1
  exact ⟨C2, rfl, .refl _, r, h2.mono0 l⟩
theorem TW.pairs {Z : Addr → Prop} {J : It} {fx fz : Nat → Option V} {Gd : Hp → Prop} {n : Nat} {items : List Val} (hn : items.length = n) (w : Walk J n Gd (YPair fx fz))
    (hi : ∀ i x, items[i]? = some x → ∃ a b, x = .tup [a, b] ∧ ∀ u v, fx i = some u → fz i = some v → VR G C a u ∧ VR G C b v) (hG : ∀ C2, Lv C C2 → (∀ p, Z p → C2.H p = C.H p) → Gd C2.H) : TW G C Z items J := by
  refine ⟨Gd, _, by rw [hn]; exact w, hG, fun i C2 H' x v s2 σ2 hx l _ r y => ?_⟩
  obtain ⟨T, u, z, rfl, hT, rfl, h1, h2⟩ := y
  obtain ⟨a, b, rfl, hv⟩ := hi i x hx
  obtain ⟨va, vb⟩ := hv u z h1 h2
  have f := r.fresh hT
  have r1 := r.new (o := .tup [u, z]) hT
  refine ⟨(C2.new T (.tup [u, z])).ice T, rfl, (Le.new hT).trans .ice, r1.ice ⟨f.fz, f.kp, f.ρ, f.rs⟩ (nt_upd fun ps z => nomatch z) fun i c h z => own_tr r h z hT, ?_⟩
  have l2 : Lv C ((C2.new T (.tup [u, z])).ice T) := lv_trans l ((Le.new hT).trans .ice).toLv
  show VR G _ (.tup _) _
  unfold VR
  exact ⟨T, _, rfl, .inl ⟨.inr rfl, upd_same⟩, VRs.cons (va.mono0 l2) (VRs.cons (vb.mono0 l2) VRs.nil)⟩
end
section
variable {G : Gl} {T : Tab} {F : Call} {k : Nat} {X : Cx} {tg e ea eb : Expr} {pos p tpos : Pos} {a b : IE}
theorem so_one {a : IE} {s s' : S} {os : List Rv} (h : evalOs T F [a] s = .ok os s') : ∃ x, evalE T F a s = .ok x s' ∧ os = [opnd x] := by
  unfold evalOs at h
  obtain ⟨x, s1, e1, h⟩ := bind_ok h
  obtain ⟨ys, s2, e2, h⟩ := bind_ok h
  unfold evalOs at e2
  cases e2
  cases h
  exact ⟨x, e1, rfl⟩
theorem pw_it (o : XO0 G k X) (ha : PE X e (EE G T F a)) : PI X tg e (tW G .it (evalOs T F [a])) := by
  refine PI.weak (PI.or (pi_list ha) (PI.or (pi_tup ha) (pi_str ha))) fun σ H R ⟨C, s, os, s', items, hH, rl, ev, hi, kk⟩ => ?_
  obtain ⟨x, e1, rfl⟩ := so_one ev
  simp only [List.map_cons, List.map_nil] at hi
  generalize hd : deref s' (opnd x) = y at hi
  unfold srcItems at hi
  split at hi
  all_goals try contradiction
  · rename_i _ _ xs heq
    cases hi
    cases heq
    left
    show EE G T F a σ H (fun x H1 => ∃ a, x = .ref a ∧ (∃ xs, SqL X.K H1 a xs) ∧ R (Itl X.K a) H1)
    refine EE_of_op hH rl e1 fun C1 v l1 r1 o1 => ?_
    obtain ⟨p, ys, rfl, hp, hr, hok, hG⟩ := src_l r1 o1 hd
    refine ⟨p, rfl, ⟨ys, SqL.of hp⟩, kk C1 _ l1 r1 (fun o ho => by rw [List.mem_singleton.mp ho]; exact hok) ?_⟩
    exact TW.seq walk_list hr fun C2 l h => SqL.of (hG C2 l fun q z => h q (.inl z))
  · rename_i _ _ xs heq
    cases hi
    cases heq
    right; left
    show EE G T F a σ H (fun x H1 => ∃ a, x = .ref a ∧ (∃ xs, SqT X.K H1 a xs) ∧ R (Itt X.K a) H1)
    refine EE_of_op hH rl e1 fun C1 v l1 r1 o1 => ?_
    have hx : opnd x = .v (.tup items) := by
      cases x with
      | v z =>
        cases z with
        | ref n =>
          unfold opnd deref at hd
          cases q : s'.h[n]? with
          | none => simp [q] at hd
          | some c => cases c <;> simp [q] at hd
        | _ => first | (cases hd; rfl) | cases hd
      | f c => unfold opnd at hd; cases c <;> cases hd
      | sl i =>
        unfold opnd deref at hd
        cases q : s'.e[i]? with
        | none => simp [q] at hd
        | some t => cases t with
          | own c => cases c <;> simp [q, imm] at hd
          | _ => simp [q] at hd
    rw [hx] at o1
    have o1 : VR G C1 (.tup items) v := o1
    unfold VR at o1
    obtain ⟨p, ys, rfl, hp, hr⟩ := o1
    have st : ∀ C2, Lv C1 C2 → SqT X.K C2.H p ys := fun C2 l => by
      rw [o.K]
      rcases hp with hp | ⟨ob, its, n, h1, h2, h3, h4, h5⟩
      · exact .inl (.inl ((l.hf p hp.1).t ys hp.2))
      · exact .inr ⟨ob, its, n, h1, h2, h3, h4, h5⟩
    exact ⟨p, rfl, ⟨ys, st C1 ⟨List.prefix_rfl, fun _ h => h, fun _ _ => .of fun _ h => h⟩⟩, kk C1 _ l1 r1 (fun o ho => by rw [List.mem_singleton.mp ho, hx]; trivial) (TW.seq walk_tup hr fun C2 l _ => st C2 l)⟩
  · rename_i _ _ z _ heq
    cases hi
    cases heq
    right; right
    show EE G T F a σ H (fun v H1 => ∃ x, v = .str x ∧ R (Its x) H1)
    refine EE_of_op hH rl e1 fun C1 v l1 r1 o1 => ?_
    have hx : opnd x = .v (.str z) := by
      cases x with
      | v z =>
        cases z with
        | ref n =>
          unfold opnd deref at hd
          cases q : s'.h[n]? with
          | none => simp [q] at hd
          | some c => cases c <;> simp [q] at hd
        | _ => first | (cases hd; rfl) | cases hd
      | f c => unfold opnd at hd; cases c <;> cases hd
      | sl i =>
        unfold opnd deref at hd
        cases q : s'.e[i]? with
        | none => simp [q] at hd
        | some t => cases t with
          | own c => cases c <;> simp [q, imm] at hd
          | _ => simp [q] at hd
    rw [hx] at o1
    have o1 : VR G C1 (.str z) v := o1
    unfold VR at o1
    subst o1
    refine ⟨z, rfl, kk C1 _ l1 r1 (fun o ho => by rw [List.mem_singleton.mp ho, hx]; trivial) ⟨fun _ => True, fun i H v H' => H' = H ∧ ∃ c, z.cps[i]? = some c ∧ v = .str ⟨#[c]⟩, ?_, fun _ _ _ => trivial, ?_⟩⟩
    · have e : (signs z).length = z.cps.size := by unfold signs; simp
      rw [e]
      exact walk_str
    · intro i C2 H' x v s2 σ2 hx l _ r y
      obtain ⟨rfl, c, hc, rfl⟩ := y
      refine ⟨C2, rfl, .refl _, r, ?_⟩
      unfold signs at hx
      rw [List.getElem?_map, Array.getElem?_toList, hc] at hx
      cases hx
      exact VR.str
end
end Rs
end
section
set_option maxRecDepth 100000
set_option maxHeartbeats 1000000
/-! RsZipM: zip of a list or a tuple with a list or a tuple. -/
namespace Rs
open PySem PyProof.Rows L2

/-- the sequence l with the items xs: a tuple if b, else a list -/
def SqB (b : Bool) (h : Heap) (l : Addr) (xs : Array Value) : Prop := cond b (h.IsTuple l xs) (h.IsList l xs)
/-- an iterator over it -/
def ItB (b : Bool) (h : Heap) (m l : Addr) (k : Nat) : Prop := cond b (h.IsTupleIter m l k) (h.IsListIter m l k)
theorem SqB.ext {b : Bool} {c l : Addr} {xs : Array Value} {h g : Heap} (e : Heap.ExtBut c h g) (q : SqB b h l xs) (n : l ≠ c) : SqB b g l xs := by
  cases b
  · exact Heap.IsList.extBut q e n
  · exact Heap.IsTuple.extBut q e n
theorem ItB.ext {b : Bool} {c m l : Addr} {k : Nat} {h g : Heap} (e : Heap.ExtBut c h g) (q : ItB b h m l k) (n : m ≠ c) : ItB b g m l k := by
  cases b
  · exact Heap.IsListIter.extBut q e n
  · exact Heap.IsTupleIter.extBut q e n
theorem ItB.to {b : Bool} {m l : Addr} {k : Nat} {h g : Heap} (q : ItB b h m l k) (e : ∀ o, h.get? m = some o → g.get? m = some o) : ItB b g m l k := by
  cases b
  · exact Heap.IsListIter.at q e
  · exact Heap.IsTupleIter.at q e
theorem ItB.obj {b : Bool} {m l : Addr} {k : Nat} {h : Heap} (q : ItB b h m l k) : ∃ o, h.get? m = some o ∧ o.data = .fields #[.ref l, rawInt k] := by
  cases b
  · obtain ⟨o, e, _, d⟩ := q
    exact ⟨o, e, d⟩
  · obtain ⟨o, e, _, d⟩ := q
    exact ⟨o, e, d⟩
theorem SqB.lt {b : Bool} {l : Addr} {xs : Array Value} {h : Heap} (q : SqB b h l xs) : l < h.objs.size := by
  cases b
  · obtain ⟨o, e, _⟩ := q
    exact Heap.lt_size e
  · obtain ⟨o, e, _⟩ := q
    exact Heap.lt_size e
section
variable {prog : Program} {w : World} {A : Around} {E : Value → Shared → Prop} {s : Shared}
/-- what of the heap a turn of the zip at z leaves -/
def Off (z TO m n : Addr) (h g : Heap) : Prop := ∀ c o, c ≠ z → c ≠ TO → c ≠ m → c ≠ n → h.get? c = some o → g.get? c = some o
theorem Off.one {z TO m n c : Addr} {h g : Heap} (e : Heap.ExtBut c h g) (hc : c = z ∨ c = TO ∨ c = m ∨ c = n) : Off z TO m n h g := by
  intro d o d1 d2 d3 d4 x
  refine e d o ?_ x
  rcases hc with q | q | q | q <;> rw [q] <;> assumption
theorem Off.trans {z TO m n : Addr} {h g f : Heap} (p : Off z TO m n h g) (q : Off z TO m n g f) : Off z TO m n h f :=
  fun c o d1 d2 d3 d4 x => q c o d1 d2 d3 d4 (p c o d1 d2 d3 d4 x)

section
variable {b d : Bool} {z TI TO m n l r : Addr} {i j : Nat} {xs ys : Array Value}
end
end
/-! ### the call -/
/-- a new iterator over l -/
def itO (b : Bool) (l : Addr) : Obj := { cls := .type (cond b "tuple_iterator" "list_iterator"), data := .fields #[.ref l, .int 0 0] }
abbrev gA (b : Bool) (h : Heap) (l : Addr) : Heap := h.push (itO b l)
abbrev gB (b d : Bool) (h : Heap) (l r : Addr) : Heap := (gA b h l).push (itO d r)
abbrev gC (b d : Bool) (h : Heap) (l r : Addr) : Heap := (gB b d h l r).push { cls := .type "tuple", data := .seq #[.ref h.objs.size, .ref (gA b h l).objs.size] }
abbrev gD (b d : Bool) (h : Heap) (l r : Addr) : Heap := (gC b d h l r).push { cls := .type "tuple", data := .seq #[.none, .none] }
abbrev gE (b d : Bool) (h : Heap) (l r : Addr) : Heap :=
  (gD b d h l r).push { cls := .type "zip", data := .fields #[.none, .bool false, .bool false, .ref (gB b d h l r).objs.size, .ref (gC b d h l r).objs.size] }
theorem SqB.push {b : Bool} {l : Addr} {xs : Array Value} {h : Heap} {o : Obj} (q : SqB b h l xs) : SqB b (h.push o) l xs := by
  cases b
  · exact Heap.IsList.push q _
  · exact Heap.IsTuple.push q _
theorem ItB.start {b : Bool} {m l : Addr} {h : Heap} (e : h.get? m = some (itO b l)) : ItB b h m l 0 := by
  cases b
  · exact ⟨_, e, rfl, rfl⟩
  · exact ⟨_, e, rfl, rfl⟩
section
variable {prog : Program} {w : World} {A : Around} {E : Value → Shared → Prop} {s : Shared}
end
/-! ### turns -/
/-- the sequence a of the store: a tuple if b, else a list -/
def SqM (K : PySem.W.Frag) (b : Bool) (H : Hp) (a : Addr) (xs : List V) : Prop := cond b (SqT K H a xs) (SqL K H a xs)
theorem SqM.inj {X : Cx} {pins : List (Addr × Obj)} {σ : L2.St} {H : Hp} {s : Shared} {b : Bool} {a : Addr} {xs ys : List V} (I : Inv X pins σ H s) (p : SqM X.K b H a xs) (q : SqM X.K b H a ys) : xs = ys := by
  cases b
  · exact I.list_inj p q
  · exact I.tuple_inj p q
def ItzM (K : PySem.W.Frag) (b d : Bool) (l r : Addr) : It :=
  ⟨fun i H => ∃ (xs ys : List V) (x y : V), SqM K b H l xs ∧ SqM K d H r ys ∧ xs[i]? = some x ∧ ys[i]? = some y,
    fun i H v H' => ∃ T x y, v = .ref T ∧ H T = none ∧ H' = upd H T (.tup [x, y]) ∧ (∀ xs, SqM K b H l xs → xs[i]? = some x) ∧ ∀ ys, SqM K d H r ys → ys[i]? = some y,
    fun i H => ∃ xs ys : List V, SqM K b H l xs ∧ SqM K d H r ys ∧ (xs.length ≤ i ∨ ys.length ≤ i)⟩
def iZipM (K : PySem.W.Frag) (ta : TA) : TI := fun σ H R => ta σ H fun vs H1 => ∃ a b xs ys f d, vs = [.ref a, .ref b] ∧ SqM K f H1 a xs ∧ SqM K d H1 b ys ∧ R (ItzM K f d a b) H1
end Rs
end
section
set_option maxRecDepth 100000
set_option maxHeartbeats 4000000
/-! Sources of loops, patterns, loops. -/
namespace Rs
open PySem PySem.Spec PyProof.Rows L2
section
variable {G : Gl} {C C' D : Cf} {s s' s0 : S} {σ σ' σ0 : L2.St}
theorem int_of (r : Rel G C s σ) {o : Rv} {v : V} {i : Int} (h : OR G C s σ o v) (e : deref s o = .int i) : v = .int i ∧ okS s o := by
  have h1 := deref_ok r h (by rw [e]; simp)
  rw [e] at h1
  have h1 : VR G C (.int i) v := h1
  unfold VR at h1
  refine ⟨h1, ?_⟩
  cases o with
  | f c => exact h.elim
  | sl j =>
    unfold deref at e
    cases q : s.e[j]? with
    | none => simp [q] at e
    | some t => cases t with
      | own c => cases c <;> simp [q, imm] at e
      | _ => simp [q] at e
  | v x =>
    cases x with
    | ref n =>
      unfold deref at e
      cases q : s.h[n]? with
      | none => simp [q] at e
      | some c => cases c <;> simp [q] at e
    | _ => trivial
theorem range_get {lo : Int} {n i : Nat} {x : Val} (h : (rangeV lo n)[i]? = some x) : x = .int (lo + (i : Int)) := by
  unfold rangeV at h
  by_cases q : i < n
  · rw [List.getElem?_map, List.getElem?_range q] at h
    cases h; rfl
  · rw [List.getElem?_eq_none (by simp; omega)] at h
    cases h
theorem TW.rng {Z : Addr → Prop} {lo : Int} {n : Nat} : TW G C Z (rangeV lo n) (Itr lo n) := by
  refine ⟨fun _ => True, YFn fun i => .int (lo + i), ?_, fun _ _ _ => trivial, fun i C2 H' x v s2 σ2 hx l _ r y => ?_⟩
  · have e : (rangeV lo n).length = n := by unfold rangeV; simp
    rw [e]
    exact walk_range
  · obtain ⟨rfl, rfl⟩ := y
    rw [range_get hx]
    exact ⟨C2, rfl, .refl _, r, VR.int⟩
end
section
variable {G : Gl} {T : Tab} {F : Call} {k : Nat} {X : Cx} {tg e ea eb : Expr} {pos p tpos : Pos} {a b : IE}
theorem smallI_ok {i : Int} (h : smallI i = true) : -(2 ^ 62) ≤ i ∧ i < 2 ^ 62 := by
  obtain ⟨h1, h2⟩ := Bool.and_eq_true_iff.mp h
  exact ⟨of_decide_eq_true h1, of_decide_eq_true h2⟩
theorem pw_rng1 (o : XO0 G k X) (hg : L2.Gl X "range") (hm : X.mg "range" = none) (ha : PA X [ea] (tOs G (evalOs T F [a]))) (hs : starEach [ea] X.env = [(false, eval ea X.env)] := by rfl) : PI X tg (.Call (.Name "range" p) [ea] [] pos) (tW G .rng (evalOs T F [a])) := by
  refine PI.weak (pi_range1 hg hm ha hs) fun σ H R ⟨C, s, os, s', items, hH, rl, ev, hi, kk⟩ => ?_
  refine ⟨C, s, os, s', hH, rl, ev, fun C1 vs l1 r1 h1 => ?_⟩
  obtain ⟨x, e1, rfl⟩ := so_one ev
  obtain ⟨v, r, rfl, h2, h3⟩ := h1
  cases h3
  simp only [List.map_cons, List.map_nil] at hi
  generalize hd : deref s' (opnd x) = y at hi
  cases y with
  | int j =>
    unfold srcItems at hi
    simp only at hi
    split at hi
    · rename_i hs
      cases hi
      obtain ⟨rfl, ok⟩ := int_of r1 h2 hd
      exact ⟨j, rfl, (smallI_ok hs).1, (smallI_ok hs).2, kk C1 _ l1 r1 (fun o ho => by rw [List.mem_singleton.mp ho]; exact ok) TW.rng⟩
    · cases hi
  | _ => unfold srcItems at hi; cases hi
/-! ### patterns -/
mutual
def pnames : Pat → List Nat
  | .nm i => [i]
  | .tp ps => pnamess ps
def pnamess : List Pat → List Nat
  | [] => []
  | p :: ps => pnames p ++ pnamess ps
end
theorem wipe_in {j : Nat} : ∀ {σ : L2.St} {vs : List Nat}, j ∈ vs → (L2.wipe σ vs)[j]? = if j < σ.length then some none else none
  | σ, [], h => by simp at h
  | σ, w :: ws, h => by
    unfold L2.wipe
    by_cases e : w = j
    · subst e
      by_cases hl : w < σ.length
      · rw [List.getElem?_set_self (by rw [wipe_length]; exact hl), if_pos hl]
      · rw [if_neg hl, List.getElem?_eq_none]
        rw [List.length_set, wipe_length]
        omega
    · rw [List.getElem?_set_ne e]
      rcases List.mem_cons.mp h with h | h
      · exact absurd h.symm e
      · exact wipe_in h
theorem wipe_set {σ : L2.St} {vs : List Nat} {i : Nat} {v : Option V} (h : i ∈ vs) : L2.wipe (σ.set i v) vs = L2.wipe σ vs := by
  apply List.ext_getElem?
  intro j
  by_cases hj : j ∈ vs
  · rw [wipe_in hj, wipe_in hj]
    simp
  · rw [wipe_out hj, wipe_out hj, List.getElem?_set_ne fun e => hj (by rw [← e]; exact h)]
theorem wipe_wipe {σ : L2.St} {vs : List Nat} : L2.wipe (L2.wipe σ vs) vs = L2.wipe σ vs := by
  apply List.ext_getElem?
  intro j
  by_cases hj : j ∈ vs
  · rw [wipe_in hj, wipe_in hj, wipe_length]
  · rw [wipe_out hj]
/-- a pattern is given a value -/
def gP (G : Gl) (p : Pat) : TG := fun v σ H Q => ∃ C s x e', C.H = H ∧ Rel G C s σ ∧ VR G C x v ∧ patSet p x s.e = some e' ∧ ∀ σ', Rel G C { s with e := e' } σ' → (∀ vs, (∀ i ∈ pnames p, i ∈ vs) → L2.wipe σ' vs = L2.wipe σ vs) → Q σ' H
def gPs (G : Gl) (ps : List Pat) : TGs := fun vs σ H Q => ∃ C s xs e', C.H = H ∧ Rel G C s σ ∧ VRs G C xs vs ∧ patSets ps xs s.e = some e' ∧ ∀ σ', Rel G C { s with e := e' } σ' → (∀ vs, (∀ i ∈ pnamess ps, i ∈ vs) → L2.wipe σ' vs = L2.wipe σ vs) → Q σ' H
theorem PG.weak {t t' : TG} (h : PG X e t) (w : ∀ v σ H Q, t' v σ H Q → t v σ H Q) : PG X e t' := ⟨fun pins s σ H v u Q I r q => h.run pins s σ H v u Q I r (w v σ H Q q)⟩
theorem PGs.weak {es : List Expr} {t t' : TGs} (h : PGs X es t) (w : ∀ v σ H Q, t' v σ H Q → t v σ H Q) : PGs X es t' := ⟨fun pins s σ H v u Q I r q => h.run pins s σ H v u Q I r (w v σ H Q q)⟩
theorem sp_nm {x : Str} (o : XO0 G k X) (i : Nat) (hi : X.N[i]? = some x := by rfl) (hx : Loc X.env.scope x := by first | exact .inl rfl | exact .inr rfl) (hf : X.fn x = true ∨ X.env.scope.names.lookup x = some .local := by first | exact .inl rfl | exact .inr rfl) : PG X (.Name x pos) (gP G (.nm i)) := by
  refine PG.weak (pg_name o.nd hi hx hf) fun v σ H Q ⟨C, s, z, e', hH, rl, h, e, kk⟩ => ?_
  unfold patSet at e
  cases e
  exact kk _ (rl.setV h) fun vs hv => wipe_set (hv i (by unfold pnames; simp))
theorem sps_nil : PGs X [] (gPs G []) := by
  refine PGs.weak pgs_nil fun v σ H Q ⟨C, s, z, e', hH, rl, h, e, kk⟩ => ?_
  cases z with
  | nil => unfold patSets at e; cases e; unfold VRs at h; exact ⟨h, kk σ rl fun _ _ => rfl⟩
  | cons a b => unfold patSets at e; cases e
theorem sps_cons {es : List Expr} {p : Pat} {ps : List Pat} (h1 : PG X e (gP G p)) (h2 : PGs X es (gPs G ps)) (hs : (assignEach (e :: es) X.env).map (·.2) = assign e X.env :: (assignEach es X.env).map (·.2) := by rfl) : PGs X (e :: es) (gPs G (p :: ps)) := by
  refine PGs.weak (pgs_cons h1 h2 hs) fun v σ H Q ⟨C, s, z, e', hH, rl, h, e, kk⟩ => ?_
  cases z with
  | nil => unfold patSets at e; cases e
  | cons a as =>
    unfold patSets at e
    unfold VRs at h
    obtain ⟨y, r, rfl, h1, h2⟩ := h
    cases q : patSet p a s.e with
    | none => simp [q] at e
    | some e1 =>
      simp only [q] at e
      refine ⟨y, r, rfl, C, s, a, e1, hH, rl, h1, q, fun σ1 rl1 w1 => ?_⟩
      refine ⟨C, _, as, e', hH, rl1, h2, e, fun σ2 rl2 w2 => kk σ2 rl2 fun vs hv => ?_⟩
      rw [w2 vs fun i hi => hv i (by unfold pnamess; simp [hi]), w1 vs fun i hi => hv i (by unfold pnamess; simp [hi])]
theorem sp_tp {es : List Expr} {kt : Nat} {ps : List Pat} (o : XO0 G k X) (h : PGs X es (gPs G ps)) (hn : (assignEach es X.env).length = ps.length := by rfl) (hst : (assignEach es X.env).findIdx? (·.1) = none := by rfl) : PG X (.Tuple es kt pos) (gP G (.tp ps)) := by
  refine PG.weak (pg_tup o.calm h hn hst) fun v σ H Q ⟨C, s, z, e', hH, rl, h, e, kk⟩ => ?_
  unfold patSet at e
  cases z with
  | tup vs =>
    simp only at e
    unfold VR at h
    obtain ⟨p, ys, rfl, hp, hr⟩ := h
    have len : ∀ (ps : List Pat) (xs : List Val) (e e' : List Slot), patSets ps xs e = some e' → xs.length = ps.length := by
      intro ps
      induction ps with
      | nil => intro xs e e' h; cases xs <;> unfold patSets at h <;> first | rfl | cases h
      | cons p ps ih =>
        intro xs e e' h
        cases xs with
        | nil => unfold patSets at h; cases h
        | cons x xs =>
          unfold patSets at h
          split at h
          · simp [ih _ _ _ h]
          · cases h
    refine ⟨p, ys, rfl, ?_, by rw [← hr.length]; exact len _ _ _ _ e, C, s, vs, e', hH, rl, hr, e, fun σ' r' w => kk σ' r' fun ws hw => w ws fun i hi => hw i (by unfold pnames; exact hi)⟩
    rw [o.K, ← hH]
    rcases hp with hp | hp
    · exact .inl (.inl hp.2)
    · exact .inr (by obtain ⟨ob, its, n, h1, h2, h3, h4, h5⟩ := hp; exact ⟨ob, its, n, h1, h2, h3, h4, h5⟩)
  | _ => cases e
end
end Rs
end
section
set_option maxRecDepth 100000
set_option maxHeartbeats 4000000
/-! Loops and comprehensions. -/
namespace Rs
open PySem PySem.Spec PyProof.Rows L2
def endF (G : Gl) (D : Ends) (fl : Fl) (C' : Cf) (σ' : L2.St) : Prop := match fl with
  | .nx => D.nx σ' C'.H
  | .bk => D.bk σ' C'.H
  | .ct => D.ct σ' C'.H
  | .rt v => ∀ u, VR G C' v u → D.rt u C'.H
/-- a statement -/
def tS (G : Gl) (f : S → R Fl) : TS := fun D σ H => ∃ C s fl s', C.H = H ∧ Rel G C s σ ∧ f s = .ok fl s' ∧ ∀ C' σ', Le C C' → Rel G C' s' σ' → endF G D fl C' σ'
section
variable {G : Gl} {C C' D E : Cf} {s s' s0 : S} {σ σ' σ0 : L2.St}
theorem hold_same {Z : Addr → Prop} (rh : Rel G (C.hold Z) s σ) (l : Le (C.hold Z) D) : ∀ p, Z p → D.H p = C.H p := fun p z => by
  cases q : C.H p with
  | none => exact absurd q (rh.kptr p (.inl (.inr z))).ne
  | some o => exact l.hk p (.inl (.inr z)) o q
theorem zs_mem {os : List Rv} {o : Rv} {p : Addr} (h : o ∈ os) (hp : Pl C σ o p) : Zs C σ os p := by
  induction os with
  | nil => simp at h
  | cons a as ih =>
    rcases List.mem_cons.mp h with rfl | h
    · exact .inl hp
    · exact .inr (ih h)
theorem pl_le {o : Rv} {p : Addr} (l : Lv C D) (h : Pl C σ o p) (hσ : σ' = σ ∨ ∀ i, o ≠ .sl i) : Pl D σ' o p := by
  cases o with
  | f c => exact h
  | sl i =>
    rcases hσ with rfl | hσ
    · exact h
    · exact absurd rfl (hσ i)
  | v x =>
    cases x with
    | ref n =>
      have h : C.ρ[n]? = some p := h
      obtain ⟨t, ht⟩ := l.ρ
      show D.ρ[n]? = some p
      rw [← ht, List.getElem?_append_left (List.getElem?_eq_some_iff.mp h).1]
      exact h
    | _ => exact h
theorem noSl_ok {os : List Rv} (h : noSl os = true) {o : Rv} (ho : o ∈ os) : ∀ i, o ≠ .sl i := fun i e => by
  have := List.all_eq_true.mp h o ho
  rw [e] at this
  cases this
theorem Rel.unkeep {K : Addr → Prop} (r : Rel G C s σ) (h : ∀ p, K p → C.rs p) : Rel G { C with rs := K } s σ where
  len := r.len
  env := fun i x h => let ⟨v, a, b⟩ := r.env i x h; ⟨v, a, b.mono0 lv_rs⟩
  own := fun i c h1 => let ⟨p, a, b, d, e, f⟩ := r.own i c h1; ⟨p, a, b.mono0 lv_rs, d, e, f.1, fun z => f.2 (h p z)⟩
  apart := r.apart
  hlen := r.hlen
  nd := r.nd
  cell := fun n c p h1 h2 => let ⟨a, b, d⟩ := r.cell n c p h1 h2; ⟨a.mono0 lv_rs, b, d.1, fun z => d.2 (h p z)⟩
  fztr := r.fztr
  kptr := fun p z => r.kptr p (z.imp id (h p))
  fzkp := fun p h1 z => r.fzkp p h1 (z.imp id (h p))
  tabs := r.tabs
theorem Rel.keepOne (r : Rel G C s σ) {q : Addr} (f : Fr C q) (t : NT (C.H q)) (ho : ∀ (i : Nat) c, s.e[i]? = some (.own c) → σ[i]? ≠ some (some (.ref q))) : Rel G (C.keep (· = q)) s σ where
  len := r.len
  env := fun i x h => let ⟨v, a, b⟩ := r.env i x h; ⟨v, a, b.mono0 lv_rs⟩
  own := fun i c h1 => let ⟨p, a, b, d, e, g⟩ := r.own i c h1; ⟨p, a, b.mono0 lv_rs, d, e, g.1, fun z => z.elim g.2 fun z => ho i c h1 (by rw [a, z])⟩
  apart := r.apart
  hlen := r.hlen
  nd := r.nd
  cell := fun n c p h1 h2 => let ⟨a, b, d⟩ := r.cell n c p h1 h2; ⟨a.mono0 lv_rs, b, d.1, fun z => z.elim d.2 fun z => f.ρ (by rw [← z]; exact List.mem_of_getElem? h2)⟩
  fztr := r.fztr
  kptr := fun p z => by
    rcases z with z | z | z
    · exact r.kptr p (.inl z)
    · exact r.kptr p (.inr z)
    · have z : p = q := z
      rw [z]
      exact t
  fzkp := fun p h1 z => by
    rcases z with z | z | z
    · exact r.fzkp p h1 (.inl z)
    · exact r.fzkp p h1 (.inr z)
    · have z : p = q := z
      rw [z] at h1
      exact f.fz h1
  tabs := r.tabs
abbrev Cf.put (C : Cf) (q : Addr) (o : HO) : Cf := { C with H := upd C.H q o }
theorem lv_put {q : Addr} {o : HO} (n : ¬ C.fz q) : Lv C (C.put q o) := ⟨List.prefix_rfl, fun _ h => h, fun p h => .of fun u e => by
  show upd C.H q o p = _
  rw [upd_ne fun z => n (by rw [← z]; exact h)]
  exact e⟩
theorem Rel.putR (r : Rel G C s σ) {q : Addr} {o : HO} (h : C.rs q) (ht : ∀ u, C.H q = some u → (∀ ps, u ≠ .tbl ps) ∧ ∀ φ, u ≠ .ext φ) (no : ∀ ps, o ≠ .tbl ps := by intro ps z; cases z) : Rel G (C.put q o) s σ :=
  have nf : ¬ C.fz q := fun z => r.fzkp q z (.inr h)
  { len := r.len
    env := fun i x h1 => let ⟨v, a, b⟩ := r.env i x h1; ⟨v, a, b.mono0 (lv_put nf)⟩
    own := fun i c h1 => by
      obtain ⟨p, a, b, d, e, g⟩ := r.own i c h1
      refine ⟨p, a, ?_, d, e, g⟩
      show CR G _ c (upd C.H q o p)
      rw [upd_ne fun z => g.2 (by rw [z]; exact h)]
      exact b.mono0 (lv_put nf)
    apart := r.apart
    hlen := r.hlen
    nd := r.nd
    cell := fun n c p h1 h2 => by
      obtain ⟨a, b, d⟩ := r.cell n c p h1 h2
      refine ⟨?_, b, d⟩
      show CR G _ c (upd C.H q o p)
      rw [upd_ne fun z => d.2 (by rw [z]; exact h)]
      exact a.mono0 (lv_put nf)
    fztr := fun p z => by
      show NT (upd C.H q o p)
      rw [upd_ne fun e => nf (by rw [← e]; exact z)]
      exact r.fztr p z
    kptr := fun p z => by
      show NT (upd C.H q o p)
      by_cases e : p = q
      · rw [e]; exact nt_upd no
      · rw [upd_ne e]
        exact r.kptr p z
    fzkp := r.fzkp
    tabs := tabs_put r.tabs ht }
end
section
variable {G : Gl} {T : Tab} {F : Call} {k : Nat} {X : Cx} {tg e : Expr} {pos : Pos}
theorem PS.weak {st : Stmt} {t t' : TS} (h : PS X st t) (w : ∀ D σ H, t' D σ H → t D σ H) : PS X st t' := ⟨fun pins s σ H D I q => h.run pins s σ H D I (w D σ H q)⟩
theorem PSs.weak {st : List Stmt} {t t' : TS} (h : PSs X st t) (w : ∀ D σ H, t' D σ H → t D σ H) : PSs X st t' := ⟨fun pins s σ H D I q => h.run pins s σ H D I (w D σ H q)⟩
theorem drop_get {α : Type} {xs : List α} {i : Nat} (h : i < xs.length) : xs.drop i = xs[i] :: xs.drop (i + 1) := by simp
theorem forL_ct {st : Val → List Slot → Option (List Slot)} {body : S → R Fl} {x : Val} {xs : List Val} {s : S} {fl : Fl} {s2 : S} (h : forL st body (x :: xs) s = .ok fl s2) :
    ∃ e fb sb, st x s.e = some e ∧ body { s with e := e } = .ok fb sb ∧ ((fb = .nx ∨ fb = .ct) ∧ forL st body xs sb = .ok fl s2 ∨ (fb = .bk ∧ fl = .nx ∧ s2 = sb) ∨ ∃ v, fb = .rt v ∧ fl = .rt v ∧ s2 = sb) := by
  unfold forL at h
  cases q : st x s.e with
  | none => simp [q] at h
  | some e =>
    simp only [q] at h
    cases q2 : body { s with e := e } with
    | bad => simp [q2] at h
    | exc c p s => simp [q2] at h
    | ok fb sb =>
      rw [q2] at h
      refine ⟨e, fb, sb, rfl, q2, ?_⟩
      cases fb with
      | nx => exact .inl ⟨.inl rfl, h⟩
      | ct => exact .inl ⟨.inr rfl, h⟩
      | bk => simp only [R.ok.injEq] at h; exact .inr (.inl ⟨rfl, h.1.symm, h.2.symm⟩)
      | rt v => simp only [R.ok.injEq] at h; exact .inr (.inr ⟨v, rfl, h.1.symm, h.2.symm⟩)
theorem ss_for (o : XO0 G k X) {iter : Expr} {body : List Stmt} {p : Pat} {sk : Sk} {src : List IE} {b : List IS} (hi : PI X tg iter (tW G sk (evalOs T F src))) (hg : PG X tg (gP G p)) (hb : PSs X body (tS G (execSs T F b)))
    (hp : PassesOwn (model X.prog X.w) X.A X.env X.xe) (hs : ∀ x, foldedSetIterable iter X.env x = pure x := by intro _; rfl) : PS X (.For tg iter body [] pos) (tS G (execS T F (.for_ p sk src b))) := by
  refine PS.weak (ps_for hp o.calm hi hg hb hs) fun D σ H ⟨C, s, fl, s', hH, rl, ev, kk⟩ => ?_
  unfold execS at ev
  obtain ⟨os, s1, e1, ev⟩ := bind_ok ev
  cases q1 : noSl os with
  | false => simp [q1] at ev
  | true =>
    cases q2 : srcItems sk (os.map (deref s1)) with
    | none => simp [q1, q2] at ev
    | some items =>
      simp only [q1, q2] at ev
      obtain ⟨fl', s2, e2, ev⟩ := bind_ok ev
      simp only [R.ok.injEq] at ev
      obtain ⟨rfl, rfl⟩ := ev
      refine ⟨C, s, os, s1, items, hH, rl, e1, q2, fun C1 J l1 r1 hok tw => ?_⟩
      have rh := lock_all r1 hok
      have fin : ∀ Ce σe, Le (C1.hold (Zs C1 σ os)) Ce → Rel G Ce s2 σe → endF G D fl' Ce σe := fun Ce σe le re => by
        have re2 : Rel G { Ce with kp := C1.kp } (unlockAll s1 s2 os) σe :=
          un_all (D := { Ce with kp := C1.kp }) r1 rfl hok (re.unhold' le.kp) fun o ho p z => ⟨pl_le (le_unhold le).toLv z (.inr (noSl_ok q1 ho)), hold_same rh le p (zs_mem ho z)⟩
        have z := kk _ σe (l1.trans (le_unhold le)) re2
        cases fl' with
        | rt v => exact fun u hu => z u (hu.mono0 lv_kp)
        | _ => exact z
      obtain ⟨Gd, Y, w, hG, hY⟩ := tw
      have keep : ∀ {Ci : Cf}, Le (C1.hold (Zs C1 σ os)) Ci → Lv C1 Ci ∧ ∀ p, Zs C1 σ os p → Ci.H p = C1.H p := fun l => ⟨lv_trans lv_hold l.toLv, hold_same rh l⟩
      refine for_it w (fun i σi Hi => ∃ Ci si, Ci.H = Hi ∧ Le (C1.hold (Zs C1 σ os)) Ci ∧ Rel G Ci si σi ∧ forL (patSet p) (execSs T F b) (items.drop i) si = .ok fl' s2) ⟨_, _, rfl, .refl _, rh, e2⟩ ?_ ?_ ?_
      · rintro i σi Hi hi ⟨Ci, si, rfl, l, _, _⟩
        exact hG Ci (keep l).1 (keep l).2
      · rintro i x σi Hi H' hi ⟨Ci, si, rfl, l, ri, fi⟩ y
        rw [drop_get hi] at fi
        obtain ⟨e, fb, sb, g1, g2, g3⟩ := forL_ct fi
        obtain ⟨C3, rfl, l3, r3, v3⟩ := hY i Ci H' items[i] x si σi (by simp [hi]) (keep l).1 (keep l).2 ri y
        refine ⟨C3, si, _, e, rfl, r3, v3, g1, fun σ4 r4 _ => ⟨C3, _, fb, sb, rfl, r4, g2, fun C5 σ5 l5 r5 => ?_⟩⟩
        have l6 := (l.trans l3).trans l5
        rcases g3 with ⟨h, g⟩ | ⟨h, rfl, rfl⟩ | ⟨v, h, rfl, rfl⟩
        · rcases h with rfl | rfl
          · exact ⟨C5, sb, rfl, l6, r5, g⟩
          · exact ⟨C5, sb, rfl, l6, r5, g⟩
        · subst h
          exact fin C5 σ5 l6 r5
        · subst h
          exact fin C5 σ5 l6 r5
      · rintro σi Hi ⟨Ci, si, rfl, l, ri, fi⟩
        rw [List.drop_length] at fi
        unfold forL at fi
        simp only [R.ok.injEq] at fi
        obtain ⟨rfl, rfl⟩ := fi
        exact fin Ci σi l ri
end
end Rs
end
section
set_option maxRecDepth 100000
set_option maxHeartbeats 4000000
/-! Comprehensions. -/
namespace Rs
open PySem PySem.Spec PyProof.Rows L2
section
variable {G : Gl} {T : Tab} {F : Call} {k : Nat} {X : Cx} {tg e : Expr} {pos : Pos}
theorem XO.blk (o : XO G k X) (s : Shared) (H : Hp) (scope : Scope) (cenv : Env) (fp : List Addr) : XO G k (X.blk s H scope cenv fp) := ⟨⟨o.K, o.sys, o.calm, o.nd, o.room, rfl, o.w⟩, o.gd⟩
theorem XO0.blk (o : XO0 G k X) (s : Shared) (H : Hp) (scope : Scope) (cenv : Env) (fp : List Addr) : XO0 G k (X.blk s H scope cenv fp) := ⟨o.K, o.sys, o.calm, o.nd, o.room, rfl, o.w⟩
/-- tests -/
theorem sts_nil : PTs X [] (tBo G (evalTs T F [])) := ⟨fun pins s σ H Q I ⟨C, s1, b, s', hH, rl, e, kk⟩ => by
  unfold evalTs at e
  cases e
  subst hH
  exact pts_nil.run pins s σ C.H Q I (kk C (.refl C) rl)⟩
theorem sts_one {c : Expr} {a : IE} (h : PT X c (EB G T F a)) : PTs X [c] (tBo G (evalTs T F [a])) := ⟨fun pins s σ H Q I ⟨C, s1, b, s', hH, rl, e, kk⟩ => by
  refine (pts_one h).run pins s σ H Q I ⟨C, s1, b, s', hH, rl, ?_, kk⟩
  unfold evalTs at e
  unfold evalB
  obtain ⟨x, s2, e1, e⟩ := bind_ok e
  obtain ⟨y, s3, e2, e⟩ := bind_ok e
  rw [e1]
  obtain ⟨e3, rfl⟩ := opt_ok e2
  cases y with
  | true => unfold evalTs at e; cases e; exact e2
  | false => cases e; exact e2⟩
/-- one turn of a comprehension -/
theorem compL_step {α : Type} {st : Val → List Slot → Option (List Slot)} {tst : S → R Bool} {elt : S → R α} {vs : List Nat} {put : List α → α → Option (List α)} {x : Val} {xs : List Val} {s s2 : S} {acc r : List α}
    (h : compL st tst elt vs put (x :: xs) s acc = .ok r s2) : ∃ e b s1, st x s.e = some e ∧ tst { s with e := e } = .ok b s1 ∧
      ((b = false ∧ compL st tst elt vs put xs { s1 with e := wipeE s1.e vs } acc = .ok r s2) ∨
        (b = true ∧ ∃ y s3 acc', elt s1 = .ok y s3 ∧ put acc y = some acc' ∧ compL st tst elt vs put xs { s3 with e := wipeE s3.e vs } acc' = .ok r s2)) := by
  unfold compL at h
  cases q : st x s.e with
  | none => simp [q] at h
  | some e =>
    simp only [q] at h
    obtain ⟨b, s1, e1, h⟩ := bind_ok h
    refine ⟨e, b, s1, rfl, e1, ?_⟩
    cases b with
    | false => exact .inl ⟨rfl, h⟩
    | true =>
      right
      obtain ⟨y, s3, e2, h⟩ := bind_ok h
      cases q2 : put acc y with
      | none => simp [q2] at h
      | some acc' =>
        simp only [q2] at h
        exact ⟨rfl, y, s3, acc', e2, q2, h⟩
/-- the turns, from a reading B in which what is walked is held -/
theorem tLc_core {p : Pat} {conds : List IE} {elt : IE} {vs : List Nat} (hv : ∀ i ∈ pnames p, i ∈ vs) {σ : L2.St} {Q : VK} {B : Cf} {sl s2 : S} {J : It} {items acc : List Val} {Gd : Hp → Prop} {Y : Nat → Hp → V → Hp → Prop} (rh : Rel G B sl σ) (w : Walk J items.length Gd Y)
    (hG : ∀ C2 : Cf, Le B { C2 with rs := B.rs } → Gd C2.H)
    (hY : ∀ i (C2 : Cf) H' x v s2 σ2, items[i]? = some x → Le B { C2 with rs := B.rs } → Rel G C2 s2 σ2 → Y i C2.H v H' → ∃ C3, C3.H = H' ∧ Le C2 C3 ∧ Rel G C3 s2 σ2 ∧ VR G C3 x v)
    (e2 : compL (patSet p) (evalTs T F conds) (fun s => (evalE T F elt s).val) vs putL items { sl with e := wipeE sl.e vs } [] = .ok acc s2)
    (fin : ∀ D Ci ys, B.H D = none → Le B { Ci with rs := B.rs } → (Ci.rs = fun p => B.rs p ∨ p = D) → Rel G Ci s2 (L2.wipe σ vs) → Ci.H D = some (.lst ys) → VRs G Ci acc ys → Q (.ref D) Ci.H) :
    tLc (fun _ H R => R J H) (gP G p) (tBo G (evalTs T F conds)) (EE G T F elt) vs σ B.H Q := by
  intro D hD
  have fD := rh.fresh (p := D) hD
  refine lc_it w (Qd := fun H => Q (.ref D) H) (fun i Hi => ∃ Ci si acci ysi, Ci.H = Hi ∧ Le B { Ci with rs := B.rs } ∧ (Ci.rs = fun p => B.rs p ∨ p = D) ∧ Rel G Ci si (L2.wipe σ vs) ∧ Hi D = some (.lst ysi) ∧ VRs G Ci acci ysi ∧
    compL (patSet p) (evalTs T F conds) (fun s => (evalE T F elt s).val) vs putL (items.drop i) si acci = .ok acc s2) ?_ ?_ ?_ ?_
  · have rn := rh.new (o := .lst []) hD
    have rk : Rel G ((B.new D (.lst [])).keep (· = D)) sl σ := rn.keepOne ⟨fD.fz, fD.kp, fD.ρ, fD.rs⟩ (nt_upd fun ps z => nomatch z) fun i c h z => own_tr rh h z hD
    exact ⟨(B.new D (.lst [])).keep (· = D), _, [], [], rfl, Le.new (C := B) hD, rfl, rk.wipe vs, upd_same, VRs.nil, e2⟩
  · rintro i Hi hi ⟨Ci, si, acci, ysi, rfl, l, _⟩
    exact hG Ci l
  · rintro i x Hi H' hi ⟨Ci, si, acci, ysi, rfl, l, hrs, ri, hDi, va, ci⟩ y
    rw [drop_get hi] at ci
    obtain ⟨e, b, s3, g1, g2, g3⟩ := compL_step ci
    obtain ⟨C3, rfl, l3, r3, v3⟩ := hY i Ci H' items[i] x si _ (by simp [hi]) l ri y
    have kD : Ci.rs D := by rw [hrs]; exact .inr rfl
    -- what a turn leaves
    have step : ∀ {C4 : Cf}, Le Ci C4 → Le B { C4 with rs := B.rs } ∧ C4.rs = (fun p => B.rs p ∨ p = D) ∧ C4.H D = some (.lst ysi) := fun {C4} l4 =>
      ⟨⟨⟨l.ρ.trans l4.ρ, fun p h => l4.fz p (l.fz p h), fun p h => (l.hf p h).trans (l4.hf p (l.fz p h))⟩, l4.kp.trans l.kp, rfl, fun p h o e => l4.hk p (h.imp (fun h => by rw [show Ci.kp = _ from l.kp]; exact h) fun h => by rw [hrs]; exact .inl h) o (l.hk p h o e), fun p h x u e => l4.ff p (l.fz p h) x u (l.ff p h x u e)⟩,
        l4.rs.trans hrs, l4.hk D (.inr kD) _ hDi⟩
    refine ⟨C3, si, _, e, rfl, r3, v3, g1, fun σ4 r4 w4 => ?_⟩
    have w4 : L2.wipe σ4 vs = L2.wipe σ vs := by rw [w4 vs hv, wipe_wipe]
    refine ⟨w4, C3, _, b, s3, rfl, r4, g2, fun C5 l5 r5 => ?_⟩
    rcases g3 with ⟨rfl, g⟩ | ⟨rfl, yv, s4, acc', g4, g5, g⟩
    · rw [if_neg (by simp)]
      obtain ⟨h1, h2, h3⟩ := step (l3.trans l5)
      exact ⟨C5, _, acci, ysi, rfl, h1, h2, by rw [← w4]; exact r5.wipe vs, h3, va.mono (l3.trans l5), g⟩
    · rw [if_pos rfl]
      refine EE_of_val rfl r5 g4 fun C6 v l6 r6 v6 => ?_
      have l36 := (l3.trans l5).trans l6
      obtain ⟨h1, h2, h3⟩ := step l36
      have hlen := (va.mono l36).length
      unfold putL at g5
      split at g5
      · rename_i hz
        cases g5
        have kD6 : C6.rs D := by rw [h2]; exact .inr rfl
        have nf : ¬ C6.fz D := fun z => r6.fzkp D z (.inr kD6)
        refine ⟨ysi, h3, by rw [← hlen]; exact hz, C6.put D (.lst (ysi ++ [v])), _, _, _, rfl, ?_, h2, by rw [← w4]; exact (r6.putR kD6 (fun u e => by rw [h3] at e; cases e; exact ⟨fun _ z => (nomatch z), fun _ z => (nomatch z)⟩)).wipe vs, upd_same, (((va.mono l36).append (VRs.cons v6 VRs.nil)).mono0 (lv_put nf)), g⟩
        refine ⟨⟨h1.ρ, h1.fz, fun p h => (h1.hf p h).trans ((lv_put nf).hf p (h1.fz p h))⟩, h1.kp, rfl, fun p h o e => ?_, fun p h x u e => by
          have e2 : C6.H p = _ := h1.ff p h x u e
          show upd C6.H D _ p = _
          rw [upd_ne fun z => by rw [z, hD] at e; cases e]
          exact e2⟩
        have e2 : C6.H p = some o := h1.hk p h o e
        show upd C6.H D _ p = _
        rw [upd_ne fun z => by rw [z, hD] at e; cases e]
        exact e2
      · cases g5
  · rintro Hi ⟨Ci, si, acci, ysi, rfl, l, hrs, ri, hDi, va, ci⟩
    rw [List.drop_length] at ci
    unfold compL at ci
    simp only [R.ok.injEq] at ci
    obtain ⟨rfl, rfl⟩ := ci
    exact fin D Ci ysi hD l hrs ri hDi va
/-- the new list, as it is handed out -/
theorem new_out {C1 E : Cf} {s : S} {σ : L2.St} {D : Addr} {acc : List Val} {ys : List V} (hD : C1.H D = none) (r1 : ∃ s1, Rel G C1 s1 σ) (hkp : E.kp = C1.kp) (r4 : Rel G E s σ) (kD : E.rs D) (hDi : E.H D = some (.lst ys)) (va : VRs G E acc ys) : RvR G { E with rs := C1.rs } s σ (.f (.lst acc false)) (.ref D) := by
  obtain ⟨s1, r1⟩ := r1
  refine ⟨D, rfl, ⟨ys, hDi, va.mono0 lv_rs⟩, ⟨fun z => r4.fzkp D z (.inr kD), fun z => notkp r1 hD (by rw [← hkp]; exact z), fun z => ?_, notrs r1 hD⟩, rfl, fun i c h z => ?_⟩
  · obtain ⟨n, hn, e3⟩ := List.getElem_of_mem (show D ∈ E.ρ from z)
    have h1 : n < s.h.length := by rw [r4.hlen]; exact hn
    exact (r4.cell n _ D (List.getElem?_eq_getElem h1) (by rw [List.getElem?_eq_getElem hn, e3])).2.2.2 kD
  · obtain ⟨q, a, _, _, _, f⟩ := r4.own i c h
    rw [z] at a
    cases a
    exact f.2 kD
theorem tLc_of {p : Pat} {sk : Sk} {src conds : List IE} {elt : IE} {vs : List Nat} (hv : ∀ i ∈ pnames p, i ∈ vs) {σ : L2.St} {H : Hp} {Q : VK} (h : EE G T F (.lc elt p sk src conds vs) σ H Q) :
    tLc (tW G sk (evalOs T F src)) (gP G p) (tBo G (evalTs T F conds)) (EE G T F elt) vs σ H Q := by
  obtain ⟨C, s, x, s', hH, rl, ev, kk⟩ := h
  unfold evalE at ev
  obtain ⟨os, s1, e1, ev⟩ := bind_ok ev
  cases q2 : srcItems sk (os.map (deref s1)) with
  | none => simp [q2] at ev
  | some items =>
    simp only [q2] at ev
    obtain ⟨acc, s2, e2, ev⟩ := bind_ok ev
    simp only [R.ok.injEq] at ev
    obtain ⟨rfl, rfl⟩ := ev
    refine ⟨C, s, os, s1, items, hH, rl, e1, q2, fun C1 J l1 r1 hok tw => ?_⟩
    have rh := lock_all r1 hok
    obtain ⟨Gd, Y, w, hG, hY⟩ := tw
    have kz : ∀ {C2 : Cf}, Le (C1.hold (Zs C1 σ os)) { C2 with rs := C1.rs } → Lv C1 C2 ∧ ∀ p, Zs C1 σ os p → C2.H p = C1.H p := fun {C2} l => ⟨⟨l.ρ, l.fz, l.hf⟩, hold_same (D := { C2 with rs := C1.rs }) rh l⟩
    refine tLc_core (B := C1.hold (Zs C1 σ os)) hv rh w (fun C2 l => hG C2 (kz l).1 (kz l).2) (fun i C2 H' x v s2 σ2 hx l r y => hY i C2 H' x v s2 σ2 hx (kz l).1 (kz l).2 r y) e2 fun D Ci ysi hD l hrs ri hDi va => ?_
    have lv : Lv C1 Ci := ⟨l.ρ, l.fz, l.hf⟩
    have r2 := r1.rest lv ri
    have r3 : Rel G { Ci with kp := C1.kp } { s2 with e := restE s1.e s2.e vs } σ := r2.unhold' l.kp
    have r4 : Rel G { Ci with kp := C1.kp } (unlockAll s1 { s2 with e := restE s1.e s2.e vs } os) σ :=
      un_all (D := { Ci with kp := C1.kp }) r1 rfl hok r3 fun o ho p z => ⟨pl_le (D := { Ci with kp := C1.kp }) ⟨l.ρ, l.fz, l.hf⟩ z (.inl rfl), hold_same (D := { Ci with rs := C1.rs }) rh l p (zs_mem ho z)⟩
    have kD : Ci.rs D := by rw [hrs]; exact .inr rfl
    have r5 : Rel G { Ci with kp := C1.kp, rs := C1.rs } (unlockAll s1 { s2 with e := restE s1.e s2.e vs } os) σ := r4.unkeep fun p h => by show Ci.rs p; rw [hrs]; exact .inl h
    have lE : Le C1 { Ci with kp := C1.kp, rs := C1.rs } := le_unhold (C' := { Ci with rs := C1.rs }) l
    exact kk { Ci with kp := C1.kp, rs := C1.rs } (.ref D) (l1.trans lE) r5 (new_out (E := { Ci with kp := C1.kp }) hD ⟨_, r1⟩ rfl r4 kD hDi (va.mono0 lv_kp))
theorem se_lc {iter elt : Expr} {ifs : List Expr} {scope : Scope} {own : List (Str × Nat)} {p : Pat} {sk : Sk} {src conds : List IE} {a : IE} (o : XO0 G k X) (hi : PI X tg iter (tW G sk (evalOs T F src))) (ok : BlkOk X.N X.env.scope scope own)
    (hg : ∀ (s : Shared) (H : Hp) (C : Addr) (cl : List (Str × Addr)) (fp : List Addr), PG (X.blk s H scope (compEnvC scope cl C X.env) fp) tg (gP G p)) (ht : ∀ (s : Shared) (H : Hp) (C : Addr) (cl : List (Str × Addr)) (fp : List Addr), PTs (X.blk s H scope (compEnvC scope cl C X.env) fp) ifs (tBo G (evalTs T F conds)))
    (he : ∀ (s : Shared) (H : Hp) (C : Addr) (cl : List (Str × Addr)) (fp : List Addr), PE (X.blk s H scope (compEnvC scope cl C X.env) fp) elt (EE G T F a)) (hv : ∀ i ∈ pnames p, i ∈ own.map (·.2)) (hs : ∀ x, foldedSetIterable iter X.env x = pure x := by intro _; rfl) :
    PE X (.ListComp elt [⟨tg, iter, ifs, 0⟩] scope pos) (EE G T F (.lc a p sk src conds (own.map (·.2)))) :=
  PE.weak (pe_lc o.calm o.nd hi ok hg ht he hs) fun σ H Q h => tLc_of hv h
end
end Rs
end
section
set_option maxRecDepth 100000
set_option maxHeartbeats 4000000
/-! Things that change; methods of built-in types. -/
namespace Rs
open PySem PySem.Spec PyProof.Rows L2
section
variable {G : Gl} {C C' D : Cf} {s s' : S} {σ σ' : L2.St}
theorem slot_own {s : S} {i : Nat} {d : Cell} (h : slotOf s i = .own d) : s.e[i]? = some (.own d) := slot_get h (by simp)
theorem Rel.changeO (r : Rel G C s σ) {i : Nat} {d c : Cell} {p : Addr} {u : HO} (h : s.e[i]? = some (.own d)) (hu : unlocked d = true ∨ ¬ C.kp p) (hp : σ[i]? = some (some (.ref p))) (hc : CR G C c (some u)) : Le C (C.put p u) ∧ Rel G (C.put p u) { s with e := s.e.set i (.own c) } σ := by
  obtain ⟨q, a, b, nf, nρ, nk⟩ := r.own i d h
  rw [hp] at a
  cases a
  have nk1 : ¬ C.kp p := hu.elim nk.1 id
  have lv : Lv C (C.put p u) := lv_put nf
  have le : Le C (C.put p u) := ⟨lv, rfl, rfl, fun q h o e => by
    show upd C.H p u q = _
    rw [upd_ne fun z => by rw [z] at h; exact h.elim nk1 nk.2]
    exact e, fun q h b w e => by
    show upd C.H p u q = _
    rw [upd_ne fun z => nf (by rw [← z]; exact h)]
    exact e⟩
  refine ⟨le, { len := by simpa using r.len, env := fun j x h' => ?_, own := fun j c' h' => ?_, apart := fun j l c1 d1 q h1 h2 h3 h4 => ?_, hlen := r.hlen, nd := r.nd, cell := fun n c' q h1 h2 => ?_, fztr := fun q z => ?_, kptr := fun q z => ?_, fzkp := r.fzkp, tabs := tabs_put r.tabs fun u e => cr_nt b e }⟩
  · rcases set_val h' with ⟨rfl, e, hi⟩ | ⟨e, h'⟩
    · cases e
    · obtain ⟨v, h1, h2⟩ := r.env j x h'
      exact ⟨v, h1, h2.mono0 lv⟩
  · rcases set_val h' with ⟨rfl, e, hi⟩ | ⟨e, h'⟩
    · cases e
      refine ⟨p, hp, ?_, nf, nρ, fun _ => nk1, nk.2⟩
      show CR G _ c (upd C.H p u p)
      rw [upd_same]
      exact hc.mono0 lv
    · obtain ⟨q, a, b, d, e', f⟩ := r.own j c' h'
      refine ⟨q, a, ?_, d, e', f⟩
      show CR G _ c' (upd C.H p u q)
      rw [upd_ne fun z => e (r.apart i j _ _ p h h' hp (by rw [← z]; exact a))]
      exact b.mono0 lv
  · have f1 : ∃ c', s.e[j]? = some (.own c') := by
      rcases set_val h1 with ⟨rfl, e, hi⟩ | ⟨e, h'⟩
      · exact ⟨_, h⟩
      · exact ⟨_, h'⟩
    have f2 : ∃ c', s.e[l]? = some (.own c') := by
      rcases set_val h2 with ⟨rfl, e, hi⟩ | ⟨e, h'⟩
      · exact ⟨_, h⟩
      · exact ⟨_, h'⟩
    obtain ⟨_, g1⟩ := f1
    obtain ⟨_, g2⟩ := f2
    exact r.apart j l _ _ q g1 g2 h3 h4
  · obtain ⟨a, b, d⟩ := r.cell n c' q h1 h2
    refine ⟨?_, b, d⟩
    show CR G _ c' (upd C.H p u q)
    rw [upd_ne fun z => nρ (by rw [← z]; exact List.mem_of_getElem? h2)]
    exact a.mono0 lv
  · show NT (upd C.H p u q)
    by_cases e : q = p
    · rw [e]; exact nt_upd (cr_nt hc rfl).1
    · rw [upd_ne e]; exact r.fztr q z
  · show NT (upd C.H p u q)
    by_cases e : q = p
    · rw [e]; exact nt_upd (cr_nt hc rfl).1
    · rw [upd_ne e]; exact r.kptr q z
theorem Rel.changeH (r : Rel G C s σ) {i : Nat} {d c : Cell} {p : Addr} {u : HO} (h : s.h[i]? = some d) (hu : unlocked d = true ∨ ¬ C.kp p) (hp : C.ρ[i]? = some p) (hc : CR G C c (some u)) : Le C (C.put p u) ∧ Rel G (C.put p u) { s with h := s.h.set i c } σ := by
  obtain ⟨b, nf, nk⟩ := r.cell i d p h hp
  have nk1 : ¬ C.kp p := hu.elim (fun u => nk.1 (free_of u)) id
  have lv : Lv C (C.put p u) := lv_put nf
  have le : Le C (C.put p u) := ⟨lv, rfl, rfl, fun q h o e => by
    show upd C.H p u q = _
    rw [upd_ne fun z => by rw [z] at h; exact h.elim nk1 nk.2]
    exact e, fun q h b w e => by
    show upd C.H p u q = _
    rw [upd_ne fun z => nf (by rw [← z]; exact h)]
    exact e⟩
  refine ⟨le, { len := r.len, env := fun j x h' => ?_, own := fun j c' h' => ?_, apart := r.apart, hlen := by simpa using r.hlen, nd := r.nd, cell := fun n c' q h1 h2 => ?_, fztr := fun q z => ?_, kptr := fun q z => ?_, fzkp := r.fzkp, tabs := tabs_put r.tabs fun u e => cr_nt b e }⟩
  · obtain ⟨v, h1, h2⟩ := r.env j x h'
    exact ⟨v, h1, h2.mono0 lv⟩
  · obtain ⟨q, a, b, d, e', f⟩ := r.own j c' h'
    refine ⟨q, a, ?_, d, e', f⟩
    show CR G _ c' (upd C.H p u q)
    rw [upd_ne fun z => e' (by rw [z]; exact List.mem_of_getElem? hp)]
    exact b.mono0 lv
  · have h1 : (s.h.set i c)[n]? = some c' := h1
    by_cases e : i = n
    · subst e
      have h2 : C.ρ[i]? = some q := h2
      rw [hp] at h2
      cases h2
      rw [List.getElem?_set_self (List.getElem?_eq_some_iff.mp h).1] at h1
      cases h1
      refine ⟨?_, nf, fun _ => nk1, nk.2⟩
      show CR G _ c (upd C.H p u p)
      rw [upd_same]
      exact hc.mono0 lv
    · rw [List.getElem?_set_ne e] at h1
      obtain ⟨a, b, d⟩ := r.cell n c' q h1 h2
      refine ⟨?_, b, d⟩
      show CR G _ c' (upd C.H p u q)
      rw [upd_ne fun z => e ((List.getElem?_inj (List.getElem?_eq_some_iff.mp hp).1 r.nd).mp (by rw [hp, ← z]; exact h2.symm))]
      exact a.mono0 lv
  · show NT (upd C.H p u q)
    by_cases e : q = p
    · rw [e]; exact nt_upd (cr_nt hc rfl).1
    · rw [upd_ne e]; exact r.fztr q z
  · show NT (upd C.H p u q)
    by_cases e : q = p
    · rw [e]; exact nt_upd (cr_nt hc rfl).1
    · rw [upd_ne e]; exact r.kptr q z
/-- what stands at a place, changed -/
theorem loc_ok (r : Rel G C s σ) {o : Rv} {v : V} {c : Cell} (h : OR G C s σ o v) (e : setLoc s o c = some s') : ∃ p d, v = .ref p ∧ unlocked d = true ∧ deref s o = imm d ∧ CR G C d (C.H p) ∧ ∀ u, CR G C c (some u) → Le C (C.put p u) ∧ Rel G (C.put p u) s' σ := by
  cases o with
  | f c => exact h.elim
  | sl i =>
    have h : σ[i]? = some (some v) := h
    unfold setLoc at e
    cases q : slotOf s i with
    | own d =>
      simp only [q] at e
      cases u : unlocked d with
      | false => simp [u] at e
      | true =>
        simp only [u, if_true, Option.some.injEq] at e
        subst e
        have q' := slot_own q
        obtain ⟨p, a, b, _⟩ := r.own i d q'
        rw [h] at a
        cases a
        exact ⟨p, d, rfl, u, by unfold deref; simp only [q'], b, fun _ hc => r.changeO q' (.inl u) h hc⟩
    | _ => simp [q] at e
  | v x =>
    cases x with
    | ref n =>
      have h : VR G C (.ref n) v := h
      unfold VR at h
      obtain ⟨p, hp, rfl⟩ := h
      unfold setLoc at e
      cases q : s.h[n]? with
      | none => simp [q] at e
      | some d =>
        simp only [q] at e
        cases u : unlocked d with
        | false => simp [u] at e
        | true =>
          simp only [u, if_true, Option.some.injEq] at e
          subst e
          refine ⟨p, d, rfl, u, ?_, (r.cell n d p q hp).1, fun _ hc => r.changeH q (.inl u) hp hc⟩
          cases d with
          | lst zs lk => unfold deref imm; simp only [q]
          | dct zs lk => unfold deref imm; simp only [q]
          | ins _ _ => cases u
          | err _ _ _ => cases u
    | _ => cases e
theorem loc_lst (r : Rel G C s σ) {o : Rv} {v : V} {c : Cell} {xs : List Val} (h : OR G C s σ o v) (e : setLoc s o c = some s') (d : deref s o = .lst xs) : ∃ p ys, v = .ref p ∧ C.H p = some (.lst ys) ∧ VRs G C xs ys ∧ ∀ u, CR G C c (some u) → Le C (C.put p u) ∧ Rel G (C.put p u) s' σ := by
  obtain ⟨p, c', rfl, u, e2, hc, k⟩ := loc_ok r h e
  rw [d] at e2
  cases c' with
  | lst zs lk => cases e2; obtain ⟨ys, h1, h2⟩ := hc; exact ⟨p, ys, rfl, h1, h2, k⟩
  | _ => cases e2
theorem loc_dct (r : Rel G C s σ) {o : Rv} {v : V} {c : Cell} {xs : List (Key × Val)} (h : OR G C s σ o v) (e : setLoc s o c = some s') (d : deref s o = .dct xs) : ∃ p ys, v = .ref p ∧ C.H p = some (.dK ys) ∧ VRk G C xs ys ∧ ∀ u, CR G C c (some u) → Le C (C.put p u) ∧ Rel G (C.put p u) s' σ := by
  obtain ⟨p, c', rfl, u, e2, hc, k⟩ := loc_ok r h e
  rw [d] at e2
  cases c' with
  | dct zs lk =>
    cases e2
    cases lk with
    | false => obtain ⟨ys, h1, h2⟩ := hc; exact ⟨p, ys, rfl, h1, h2, k⟩
    | true => cases u
  | _ => cases e2
end
section
variable {G : Gl} {T : Tab} {F : Call} {k : Nat} {X : Cx} {e eo : Expr} {es : List Expr} {pos apos cpos : Pos} {a : IE} {as : List IE}
/-- a method's law -/
def MtOk (G : Gl) (m : Mt) (r : V → List V → Hp → VK → Prop) : Prop :=
  ∀ (C : Cf) (s : S) (σ : L2.St) (o : Rv) (v : V) (xs : List Val) (vs : List V) (ret : Rv) (oc : Option Cell) (s' : S) (Q : VK), Rel G C s σ → OR G C s σ o v → VRs G C xs vs → mtop m (deref s o) xs = some (ret, oc) → putLoc s o oc = some s' →
    (∀ C' z, Le C C' → Rel G C' s' σ → RvR G C' s' σ ret z → Q z C'.H) → r v vs C.H Q
theorem mt_all {m : Mt} {Ty : String} {r : V → List V → Hp → VK → Prop} (ok : MtOk G m r) (ty : ∀ (C : Cf) (s : S) (σ : L2.St) (o : Rv) (v : V), Rel G C s σ → OR G C s σ o v → mkind m (deref s o) = true → tyV X.K Ty v C.H)
    {σ : L2.St} {H : Hp} {Q : VK} (h : EE G T F (.mt m a as) σ H Q) : tBM X.K Ty r (EE G T F a) (tVs G (evalVs T F as)) σ H Q := by
  obtain ⟨C, s, x, s', hH, rl, ev, kk⟩ := h
  unfold evalE at ev
  obtain ⟨x1, s1, e1, ev⟩ := bind_ok ev
  cases q : mkind m (deref s1 (opnd x1)) with
  | false => simp [q] at ev
  | true =>
    simp only [q] at ev
    obtain ⟨vs, s2, e2, ev⟩ := bind_ok ev
    cases q2 : mtop m (deref s2 (opnd x1)) vs with
    | none => simp [q2] at ev
    | some ro =>
      obtain ⟨ret, oc⟩ := ro
      simp only [q2] at ev
      cases q3 : putLoc s2 (opnd x1) oc with
      | none => simp [q3] at ev
      | some s3 =>
        simp only [q3, R.ok.injEq] at ev
        obtain ⟨rfl, rfl⟩ := ev
        show EE G T F a σ H (fun x H1 => tyV X.K Ty x H1 ∧ tVs G (evalVs T F as) σ H1 fun xs H2 => r x xs H2 Q)
        refine EE_of_op hH rl e1 fun C1 v l1 r1 o1 => ⟨ty C1 s1 σ _ v r1 o1 q, C1, s1, vs, s2, rfl, r1, e2, fun C2 ws l2 r2 h2 => ?_⟩
        exact ok C2 s2 σ _ v vs ws ret oc s3 Q r2 (OR.mono l2 o1) h2 q2 q3 fun C3 z l3 r3 h3 => kk C3 z ((l1.trans l2).trans l3) r3 h3
end
end Rs
end
section
set_option maxRecDepth 100000
set_option maxHeartbeats 4000000
/-! Statements. -/
namespace Rs
open PySem PySem.Spec PyProof.Rows L2
section
variable {G : Gl} {T : Tab} {F : Call} {k : Nat} {X : Cx} {e ea eb eo ei : Expr} {pos tpos py : Pos} {a b c o : IE} {st : Stmt} {rest : List Stmt} {p q : IS} {ps qs : List IS} {y z : Str}
abbrev SS (G : Gl) (T : Tab) (F : Call) (p : IS) : TS := tS G (execS T F p)
abbrev SSs (G : Gl) (T : Tab) (F : Call) (p : List IS) : TS := tS G (execSs T F p)
theorem ss_nil : PSs X [] (SSs G T F []) := by
  refine PSs.weak pss_nil fun D σ H ⟨C, s, fl, s', hH, rl, e, kk⟩ => ?_
  unfold execSs at e
  cases e
  subst hH
  exact kk C σ (.refl C) rl
theorem ss_cons (h1 : PS X st (SS G T F p)) (h2 : PSs X rest (SSs G T F ps)) : PSs X (st :: rest) (SSs G T F (p :: ps)) := by
  refine PSs.weak (pss_cons h1 h2) fun D σ H ⟨C, s, fl, s', hH, rl, e, kk⟩ => ?_
  unfold execSs at e
  cases q : execS T F p s with
  | bad => simp [q] at e
  | exc c v s1 => simp [q] at e
  | ok f1 s1 =>
    rw [q] at e
    refine ⟨C, s, f1, s1, hH, rl, q, fun C1 σ1 l1 r1 => ?_⟩
    cases f1 with
    | nx => exact ⟨C1, s1, fl, s', rfl, r1, e, fun C2 σ2 l2 r2 => kk C2 σ2 (l1.trans l2) r2⟩
    | bk => simp only [R.ok.injEq] at e; obtain ⟨rfl, rfl⟩ := e; exact kk C1 σ1 l1 r1
    | ct => simp only [R.ok.injEq] at e; obtain ⟨rfl, rfl⟩ := e; exact kk C1 σ1 l1 r1
    | rt v => simp only [R.ok.injEq] at e; obtain ⟨rfl, rfl⟩ := e; exact kk C1 σ1 l1 r1
theorem ss_ret (ha : PE X e (EE G T F a)) : PS X (.Return (some e) pos) (SS G T F (.ret a)) := by
  refine PS.weak (ps_ret ha) fun D σ H ⟨C, s, fl, s', hH, rl, e, kk⟩ => ?_
  unfold execS at e
  obtain ⟨x, s1, e1, e⟩ := bind_ok e
  cases e
  show EE G T F a σ H D.rt
  exact EE_of_val hH rl e1 fun C1 v l1 r1 h1 => kk C1 σ l1 r1 v h1
theorem ss_if {c : IE} (hc : PT X e (EB G T F c)) (h1 : PSs X rest (SSs G T F ps)) {rest2 : List Stmt} (h2 : PSs X rest2 (SSs G T F qs)) : PS X (.If e rest rest2 pos) (SS G T F (.ite c ps qs)) := by
  refine PS.weak (ps_if hc h1 h2) fun D σ H ⟨C, s, fl, s', hH, rl, e, kk⟩ => ?_
  unfold execS at e
  obtain ⟨kb, s1, e1, e⟩ := bind_ok e
  refine ⟨C, s, kb, s1, hH, rl, e1, fun C1 l1 r1 => ?_⟩
  cases kb with
  | true => rw [if_pos rfl]; exact ⟨C1, s1, fl, s', rfl, r1, e, fun C2 σ2 l2 r2 => kk C2 σ2 (l1.trans l2) r2⟩
  | false => rw [if_neg (by simp)]; exact ⟨C1, s1, fl, s', rfl, r1, e, fun C2 σ2 l2 r2 => kk C2 σ2 (l1.trans l2) r2⟩
/-! ### names -/
theorem asg_nm {i : Nat} {D : Ends} {σ : L2.St} {H : Hp} (h : SS G T F (.asg (.nm i) a) D σ H) : EE G T F a σ H fun x H1 => D.nx (σ.set i (some x)) H1 := by
  obtain ⟨C, s, fl, s', hH, rl, e, kk⟩ := h
  unfold execS at e
  obtain ⟨x, s1, e1, e⟩ := bind_ok e
  obtain ⟨_, s2, e2, e⟩ := bind_ok e
  unfold tgtSet at e2
  cases e2
  cases e
  exact EE_of_val hH rl e1 fun C1 v l1 r1 h1 => kk C1 _ l1 (r1.setV h1)
theorem ss_set (ox : XO0 G k X) (i : Nat) (ha : PE X e (EE G T F a)) (hi : X.N[i]? = some y := by rfl) (hx : Loc X.env.scope y := by first | exact .inl rfl | exact .inr rfl) (hs : swapsWith e (some (.Name y py)) pos.line X.env = pure false := by rfl)
    (hf : X.fn y = true ∨ X.env.scope.names.lookup y = some .local := by first | exact .inl rfl | exact .inr rfl) : PS X (.Assign [.Name y py] e pos) (SS G T F (.asg (.nm i) a)) :=
  PS.weak (ps_set ox.nd hi hx ha hs hf) fun D σ H h => asg_nm h
section
variable {tg iter elt : Expr} {ifs : List Expr} {scope : Scope} {own : List (Str × Nat)} {pt : Pat} {sk : Sk} {src conds : List IE} {spos : Pos}
end
/-! ### targets -/
/-- a target is given a value -/
def gT (G : Gl) (T : Tab) (F : Call) (t : Tgt) : TG := fun v σ H Q => ∃ C s x s', C.H = H ∧ Rel G C s σ ∧ VR G C x v ∧ tgtSet T F t x s = .ok () s' ∧ ∀ C' σ', Le C C' → Rel G C' s' σ' → Q σ' C'.H
def gTs (G : Gl) (T : Tab) (F : Call) (t : List Tgt) : TGs := fun vs σ H Q => ∃ C s xs s', C.H = H ∧ Rel G C s σ ∧ VRs G C xs vs ∧ tgtSets T F t xs s = .ok () s' ∧ ∀ C' σ', Le C C' → Rel G C' s' σ' → Q σ' C'.H
theorem ss_asg {t : Tgt} {tg : Expr} (ha : PE X e (EE G T F a)) (hg : PG X tg (gT G T F t)) (hs : swapsWithSole [tg] e pos.line X.env = pure false := by rfl) (hw : swappedStores [tg] e X.env = pure none := by rfl)
    (h1 : (assignEach [tg] X.env).map (·.2) = [assign tg X.env] := by rfl) : PS X (.Assign [tg] e pos) (SS G T F (.asg t a)) := by
  refine PS.weak (ps_asg ha hg hs hw h1) fun D σ H ⟨C, s, fl, s', hH, rl, ev, kk⟩ => ?_
  unfold execS at ev
  obtain ⟨x, s1, e1, ev⟩ := bind_ok ev
  obtain ⟨_, s2, e2, ev⟩ := bind_ok ev
  cases ev
  show EE G T F a σ H fun x H1 => gT G T F t x σ H1 D.nx
  exact EE_of_val hH rl e1 fun C1 v l1 r1 h1 => ⟨C1, s1, x, _, rfl, r1, h1, e2, fun C2 σ2 l2 r2 => kk C2 σ2 (l1.trans l2) r2⟩
end
end Rs
end
section
set_option maxRecDepth 100000
set_option maxHeartbeats 4000000
/-! Built-in functions: min, sorted, repr; their calls. -/
namespace Rs
open PySem PySem.Spec PyProof.Rows L2
theorem CallR.any {X : Cx} {g : Value} : CallR X g (fun xs H Q => ∃ r : List V → Hp → VK → Prop, CallR X g r ∧ r xs H Q) := fun pins s σ H xs us Q I r ⟨_, h, q⟩ => h pins s σ H xs us Q I r q
theorem toDs_each : ∀ {xs : List Val} {ds : List PyData}, toDs xs = some ds → ds = xs.map dD ∧ ∀ x ∈ xs, toD x = some (dD x)
  | [], ds, h => by unfold toDs at h; cases h; exact ⟨rfl, by simp⟩
  | x :: xs, ds, h => by
    unfold toDs at h
    cases q : toD x with
    | none => simp [q] at h
    | some d =>
      cases q2 : toDs xs with
      | none => simp [q, q2] at h
      | some es =>
        simp only [q, q2, Option.some.injEq] at h
        obtain ⟨h1, h2⟩ := toDs_each q2
        have e : dD x = d := by unfold dD; rw [q]; rfl
        subst h
        refine ⟨by rw [h1, List.map_cons, e], fun y hy => ?_⟩
        rcases List.mem_cons.mp hy with rfl | hy
        · rw [q, e]
        · exact h2 y hy
theorem toDk_keys : ∀ {xs : List (Key × Val)} {ds : List (PyData × PyData)}, toDk xs = some ds → ds.any oddKd = false
  | [], ds, h => by unfold toDk at h; cases h; rfl
  | (k, x) :: xs, ds, h => by
    unfold toDk at h
    cases q : toD x <;> cases q2 : toDk xs <;> simp [q, q2] at h
    subst h
    have := toDk_keys q2
    cases k <;> simp [oddKd, this] <;> simpa using this
mutual
theorem toD_inj : ∀ {x y : Val} {d : PyData}, toD x = some d → toD y = some d → x = y
  | .non, y, d, h, k => by unfold toD at h; cases h; exact (toD_none k).symm
  | .bl b, y, d, h, k => by unfold toD at h; cases h; exact (toD_bool k).symm
  | .int b, y, d, h, k => by unfold toD at h; cases h; exact (toD_int k).symm
  | .str b, y, d, h, k => by unfold toD at h; cases h; exact (toD_str k).symm
  | .lst xs, y, d, h, k => by
    unfold toD at h
    cases q : toDs xs with
    | none => simp [q] at h
    | some ds =>
      simp only [q, Option.some.injEq] at h
      subst h
      obtain ⟨ys, rfl, hy⟩ := toD_lst k
      rw [toDs_inj q hy]
  | .tup xs, y, d, h, k => by
    unfold toD at h
    cases q : toDs xs with
    | none => simp [q] at h
    | some ds =>
      simp only [q, Option.some.injEq] at h
      subst h
      obtain ⟨ys, rfl, hy⟩ := toD_tup k
      rw [toDs_inj q hy]
  | .dct xs, y, d, h, k => by
    unfold toD at h
    cases q : toDk xs with
    | none => simp [q] at h
    | some ds =>
      simp only [q, Option.some.injEq] at h
      subst h
      rcases toD_dct k with ⟨ys, rfl, hy⟩ | ⟨ys, rfl, hy, ho⟩
      · rw [toDk_inj q hy]
      · rw [toDk_keys q] at ho; cases ho
  | .odd xs, y, d, h, k => by
    unfold toD at h
    cases q : toDo xs with
    | none => simp [q] at h
    | some ds =>
      simp only [q] at h
      split at h
      case isFalse => cases h
      rename_i ha
      simp only [Option.some.injEq] at h
      subst h
      rcases toD_dct k with ⟨ys, rfl, hy⟩ | ⟨ys, rfl, hy, ho⟩
      · rw [toDk_keys hy] at ha; cases ha
      · rw [toDo_inj q hy]
  | .ref _, y, d, h, k => by unfold toD at h; cases h
  | .scr _, y, d, h, k => by unfold toD at h; cases h
  | .bad, y, d, h, k => by unfold toD at h; cases h
theorem toDs_inj : ∀ {xs ys : List Val} {d : List PyData}, toDs xs = some d → toDs ys = some d → xs = ys
  | [], ys, d, h, k => by
    unfold toDs at h; cases h
    cases ys with
    | nil => rfl
    | cons y ys =>
      unfold toDs at k
      cases q : toD y with
      | none => simp [q] at k
      | some d => cases q2 : toDs ys <;> simp [q, q2] at k
  | x :: xs, ys, d, h, k => by
    unfold toDs at h
    cases q : toD x with
    | none => simp [q] at h
    | some e =>
      cases q2 : toDs xs with
      | none => simp [q, q2] at h
      | some es =>
        simp only [q, q2, Option.some.injEq] at h
        subst h
        cases ys with
        | nil => unfold toDs at k; cases k
        | cons y ys =>
          unfold toDs at k
          cases r : toD y with
          | none => simp [r] at k
          | some f =>
            cases r2 : toDs ys with
            | none => simp [r, r2] at k
            | some fs =>
              simp only [r, r2, Option.some.injEq, List.cons.injEq] at k
              obtain ⟨rfl, rfl⟩ := k
              rw [toD_inj q r, toDs_inj q2 r2]
theorem toDk_inj : ∀ {xs ys : List (Key × Val)} {d : List (PyData × PyData)}, toDk xs = some d → toDk ys = some d → xs = ys
  | [], ys, d, h, k => by
    unfold toDk at h; cases h
    cases ys with
    | nil => rfl
    | cons y ys =>
      obtain ⟨y1, y2⟩ := y
      unfold toDk at k
      cases q : toD y2 with
      | none => simp [q] at k
      | some d => cases q2 : toDk ys <;> simp [q, q2] at k
  | (x1, x) :: xs, ys, d, h, k => by
    unfold toDk at h
    cases q : toD x with
    | none => simp [q] at h
    | some e =>
      cases q2 : toDk xs with
      | none => simp [q, q2] at h
      | some es =>
        simp only [q, q2, Option.some.injEq] at h
        subst h
        cases ys with
        | nil => unfold toDk at k; cases k
        | cons y ys =>
          obtain ⟨y1, y⟩ := y
          unfold toDk at k
          cases r : toD y with
          | none => simp [r] at k
          | some f =>
            cases r2 : toDk ys with
            | none => simp [r, r2] at k
            | some fs =>
              simp only [r, r2, Option.some.injEq, List.cons.injEq, Prod.mk.injEq] at k
              obtain ⟨⟨h1, rfl⟩, rfl⟩ := k
              have e1 : x1 = y1 := by
                cases x1 <;> cases y1 <;> simp at h1 <;> rw [h1]
              rw [toD_inj q r, toDk_inj q2 r2, e1]
theorem toDo_inj : ∀ {xs ys : List (Val × Val)} {d : List (PyData × PyData)}, toDo xs = some d → toDo ys = some d → xs = ys
  | [], ys, d, h, k => by
    unfold toDo at h; cases h
    cases ys with
    | nil => rfl
    | cons y ys =>
      obtain ⟨y1, y2⟩ := y
      unfold toDo at k
      cases q : toD y1 <;> cases q2 : toD y2 <;> cases q3 : toDo ys <;> simp [q, q2, q3] at k
  | (x1, x) :: xs, ys, d, h, k => by
    unfold toDo at h
    cases q0 : toD x1 <;> cases q : toD x <;> cases q2 : toDo xs <;> simp [q0, q, q2] at h
    rename_i e0 e es
    subst h
    cases ys with
    | nil => unfold toDo at k; cases k
    | cons y ys =>
      obtain ⟨y1, y⟩ := y
      unfold toDo at k
      cases r0 : toD y1 <;> cases r : toD y <;> cases r2 : toDo ys <;> simp [r0, r, r2] at k
      obtain ⟨⟨rfl, rfl⟩, rfl⟩ := k
      rw [toD_inj q0 r0, toD_inj q r, toDo_inj q2 r2]
theorem toD_none : ∀ {y : Val}, toD y = some .none → y = .non
  | .non, _ => rfl
  | .bl _, h => by unfold toD at h; cases h
  | .int _, h => by unfold toD at h; cases h
  | .str _, h => by unfold toD at h; cases h
  | .lst xs, h => by unfold toD at h; cases q : toDs xs <;> simp [q] at h
  | .tup xs, h => by unfold toD at h; cases q : toDs xs <;> simp [q] at h
  | .dct xs, h => by unfold toD at h; cases q : toDk xs <;> simp [q] at h
  | .odd xs, h => by unfold toD at h; cases q : toDo xs <;> simp [q] at h
  | .ref _, h => by unfold toD at h; cases h
  | .scr _, h => by unfold toD at h; cases h
  | .bad, h => by unfold toD at h; cases h
theorem toD_bool : ∀ {y : Val} {b : Bool}, toD y = some (.bool b) → y = .bl b
  | .non, _, h => by unfold toD at h; cases h
  | .bl _, _, h => by unfold toD at h; cases h; rfl
  | .int _, _, h => by unfold toD at h; cases h
  | .str _, _, h => by unfold toD at h; cases h
  | .lst xs, _, h => by unfold toD at h; cases q : toDs xs <;> simp [q] at h
  | .tup xs, _, h => by unfold toD at h; cases q : toDs xs <;> simp [q] at h
  | .dct xs, _, h => by unfold toD at h; cases q : toDk xs <;> simp [q] at h
  | .odd xs, _, h => by unfold toD at h; cases q : toDo xs <;> simp [q] at h
  | .ref _, _, h => by unfold toD at h; cases h
  | .scr _, _, h => by unfold toD at h; cases h
  | .bad, _, h => by unfold toD at h; cases h
theorem toD_int : ∀ {y : Val} {b : Int}, toD y = some (.int b) → y = .int b
  | .non, _, h => by unfold toD at h; cases h
  | .bl _, _, h => by unfold toD at h; cases h
  | .int _, _, h => by unfold toD at h; cases h; rfl
  | .str _, _, h => by unfold toD at h; cases h
  | .lst xs, _, h => by unfold toD at h; cases q : toDs xs <;> simp [q] at h
  | .tup xs, _, h => by unfold toD at h; cases q : toDs xs <;> simp [q] at h
  | .dct xs, _, h => by unfold toD at h; cases q : toDk xs <;> simp [q] at h
  | .odd xs, _, h => by unfold toD at h; cases q : toDo xs <;> simp [q] at h
  | .ref _, _, h => by unfold toD at h; cases h
  | .scr _, _, h => by unfold toD at h; cases h
  | .bad, _, h => by unfold toD at h; cases h
theorem toD_str : ∀ {y : Val} {b : Str}, toD y = some (.str b) → y = .str b
  | .non, _, h => by unfold toD at h; cases h
  | .bl _, _, h => by unfold toD at h; cases h
  | .int _, _, h => by unfold toD at h; cases h
  | .str _, _, h => by unfold toD at h; cases h; rfl
  | .lst xs, _, h => by unfold toD at h; cases q : toDs xs <;> simp [q] at h
  | .tup xs, _, h => by unfold toD at h; cases q : toDs xs <;> simp [q] at h
  | .dct xs, _, h => by unfold toD at h; cases q : toDk xs <;> simp [q] at h
  | .odd xs, _, h => by unfold toD at h; cases q : toDo xs <;> simp [q] at h
  | .ref _, _, h => by unfold toD at h; cases h
  | .scr _, _, h => by unfold toD at h; cases h
  | .bad, _, h => by unfold toD at h; cases h
theorem toD_lst : ∀ {y : Val} {ds : List PyData}, toD y = some (.list ds) → ∃ ys, y = .lst ys ∧ toDs ys = some ds
  | .non, _, h => by unfold toD at h; cases h
  | .bl _, _, h => by unfold toD at h; cases h
  | .int _, _, h => by unfold toD at h; cases h
  | .str _, _, h => by unfold toD at h; cases h
  | .lst xs, _, h => by
    unfold toD at h
    cases q : toDs xs with
    | none => simp [q] at h
    | some ds => simp only [q, Option.some.injEq, PyData.list.injEq] at h; subst h; exact ⟨xs, rfl, q⟩
  | .tup xs, _, h => by unfold toD at h; cases q : toDs xs <;> simp [q] at h
  | .dct xs, _, h => by unfold toD at h; cases q : toDk xs <;> simp [q] at h
  | .odd xs, _, h => by unfold toD at h; cases q : toDo xs <;> simp [q] at h
  | .ref _, _, h => by unfold toD at h; cases h
  | .scr _, _, h => by unfold toD at h; cases h
  | .bad, _, h => by unfold toD at h; cases h
theorem toD_tup : ∀ {y : Val} {ds : List PyData}, toD y = some (.tuple ds) → ∃ ys, y = .tup ys ∧ toDs ys = some ds
  | .non, _, h => by unfold toD at h; cases h
  | .bl _, _, h => by unfold toD at h; cases h
  | .int _, _, h => by unfold toD at h; cases h
  | .str _, _, h => by unfold toD at h; cases h
  | .lst xs, _, h => by unfold toD at h; cases q : toDs xs <;> simp [q] at h
  | .tup xs, _, h => by
    unfold toD at h
    cases q : toDs xs with
    | none => simp [q] at h
    | some ds => simp only [q, Option.some.injEq, PyData.tuple.injEq] at h; subst h; exact ⟨xs, rfl, q⟩
  | .dct xs, _, h => by unfold toD at h; cases q : toDk xs <;> simp [q] at h
  | .odd xs, _, h => by unfold toD at h; cases q : toDo xs <;> simp [q] at h
  | .ref _, _, h => by unfold toD at h; cases h
  | .scr _, _, h => by unfold toD at h; cases h
  | .bad, _, h => by unfold toD at h; cases h
theorem toD_dct : ∀ {y : Val} {ds : List (PyData × PyData)}, toD y = some (.dict ds) → (∃ ys, y = .dct ys ∧ toDk ys = some ds) ∨ ∃ ys, y = .odd ys ∧ toDo ys = some ds ∧ ds.any oddKd = true
  | .non, _, h => by unfold toD at h; cases h
  | .bl _, _, h => by unfold toD at h; cases h
  | .int _, _, h => by unfold toD at h; cases h
  | .str _, _, h => by unfold toD at h; cases h
  | .lst xs, _, h => by unfold toD at h; cases q : toDs xs <;> simp [q] at h
  | .tup xs, _, h => by unfold toD at h; cases q : toDs xs <;> simp [q] at h
  | .dct xs, _, h => by
    unfold toD at h
    cases q : toDk xs with
    | none => simp [q] at h
    | some ds => simp only [q, Option.some.injEq, PyData.dict.injEq] at h; subst h; exact .inl ⟨xs, rfl, q⟩
  | .odd xs, _, h => by
    unfold toD at h
    cases q : toDo xs with
    | none => simp [q] at h
    | some ds =>
      simp only [q] at h
      split at h
      case isFalse => cases h
      rename_i ha
      simp only [Option.some.injEq, PyData.dict.injEq] at h
      subst h
      exact .inr ⟨xs, rfl, q, ha⟩
  | .ref _, _, h => by unfold toD at h; cases h
  | .scr _, _, h => by unfold toD at h; cases h
  | .bad, _, h => by unfold toD at h; cases h
end
theorem minD_mem : ∀ (xs : List PyData) (x : PyData), PySem.W.minD x xs ∈ x :: xs
  | [], x => by unfold PySem.W.minD; simp
  | y :: ys, x => by
    have h := minD_mem ys (if PySem.W.dataLt y x then y else x)
    show PySem.W.minD (if PySem.W.dataLt y x then y else x) ys ∈ _
    rcases List.mem_cons.mp h with h | h
    · rw [h]; split <;> simp
    · simp [h]
theorem best_minD : ∀ (xs : List Val) (x : Val), (∀ y ∈ x :: xs, toD y = some (dD y)) → toD (xs.foldl (fun b y => if PySem.W.dataLt (dD y) (dD b) then y else b) x) = some (PySem.W.minD (dD x) (xs.map dD))
  | [], x, h => h x (by simp)
  | y :: ys, x, h => by
    have e : dD (if PySem.W.dataLt (dD y) (dD x) then y else x) = if PySem.W.dataLt (dD y) (dD x) then dD y else dD x := by split <;> rfl
    have := best_minD ys (if PySem.W.dataLt (dD y) (dD x) then y else x) (fun z hz => by
      rcases List.mem_cons.mp hz with hz | hz
      · rw [hz]; split <;> exact h _ (by simp)
      · exact h z (by simp [hz]))
    rw [e] at this
    exact this
theorem allAlike_ok {ds : List PyData} (h : allAlike ds = true) : ∀ d ∈ ds, ∀ e ∈ ds, PySem.W.alike d e = true := fun d hd e he => by
  unfold allAlike at h
  exact List.all_eq_true.mp (List.all_eq_true.mp h d hd) e he
section
variable {G : Gl} {T : Tab} {F : Call} {k : Nat} {X : Cx} {C : Cf} {s : S} {σ : L2.St} {Q : VK}
theorem depthAll_le : ∀ {ds : List PyData} {n : Nat}, (∀ d ∈ ds, d.depth ≤ n) → PyData.depthAll ds ≤ n
  | [], n, _ => by unfold PyData.depthAll; exact Nat.zero_le _
  | d :: ds, n, h => by
    unfold PyData.depthAll
    exact Nat.max_le.mpr ⟨h d (by simp), depthAll_le fun e he => h e (by simp [he])⟩
/-- min of a list of data -/
theorem call_minD (o : XO0 G k X) : CallR X (.builtin "min") (fun vs H Q => ∃ C p xs ys r, C.H = H ∧ vs = [.ref p] ∧ H p = some (.lst ys) ∧ VRs G C xs ys ∧ vmin xs = some r ∧ intsOf xs = none ∧ ∀ v, VR G C r v → Q v H) := by
  intro pins s σ H vs us Q I r h
  obtain ⟨C, p, xs, ys, rr, hH, rfl, hp, hr, hm, hi, q⟩ := h
  subst hH
  rw [Vals.ref1 r]
  unfold vmin at hm
  rw [hi] at hm
  simp only at hm
  cases q1 : toDs xs with
  | none => simp [q1] at hm
  | some ds =>
    simp only [q1] at hm
    split at hm
    · rename_i hc
      obtain ⟨hc1, hc⟩ := Bool.and_eq_true_iff.mp hc
      obtain ⟨hc2, hc3⟩ := Bool.and_eq_true_iff.mp hc
      cases xs with
      | nil => cases hm
      | cons x xs =>
        obtain ⟨e1, e2⟩ := toDs_each q1
        unfold best at hm
        simp only [Option.some.injEq] at hm
        have hb := best_minD xs x e2
        rw [hm] at hb
        obtain ⟨its, rv, pl, hz⟩ := I.list (SqL.of hp)
        obtain ⟨as, rd, _⟩ := VRs.reads I o.K o.sys (x :: xs) ys its ds hr rv q1
        rw [e1, List.map_cons] at rd
        have al := allAlike_ok hc1
        rw [e1] at al
        have nn : ∀ d ∈ (x :: xs).map dD, d ≠ .none := fun d hd z => by
          have := List.all_eq_true.mp hc3 d (by rw [e1]; exact hd)
          rw [z] at this
          cases this
        have dp : PyData.depthAll ((x :: xs).map dD) ≤ 60 := depthAll_le fun d hd => (okD_iff (List.all_eq_true.mp hc2 d (by rw [e1]; exact hd))).2
        refine PySem.W.min_list_data (vs := its.toArray) (I.ok.hd o.calm) pl.isList (by simpa using rd) ⟨al, nn⟩ (by have := o.room.un; have h2 : PyData.depthAll (dD x :: xs.map dD) ≤ 60 := dp; omega) fun i v h' tk bs hv hr2 hk => ?_
        have hv : its[i]? = some v := by simpa using hv
        have hy : ∃ y, ys[i]? = some y ∧ RelV y v := by
          cases e : ys[i]? with
          | none => rw [rv.none_of e] at hv; cases hv
          | some y =>
            obtain ⟨u, h1, h2⟩ := rv.get e
            rw [hv] at h1
            cases h1
            exact ⟨y, rfl, h2⟩
        obtain ⟨y, hy, ry⟩ := hy
        have hx : ∃ z, (x :: xs)[i]? = some z := by
          have hl := hr.length
          have := (List.getElem?_eq_some_iff.mp hy).1
          exact ⟨(x :: xs)[i]'(by omega), List.getElem?_eq_getElem _⟩
        obtain ⟨z, hx⟩ := hx
        obtain ⟨y', hy', hvr⟩ := hr.get hx
        rw [hy] at hy'
        cases hy'
        have hz := e2 z (List.mem_of_getElem? hx)
        obtain ⟨as2, rd2, _⟩ := VR.reads I o.K o.sys z y v (dD z) hvr ry hz
        have mm : PySem.W.minD (dD x) (xs.map dD) ∈ (x :: xs).map dD := minD_mem _ _
        have e3 := PySem.W.alike_unique _ _ v as2 bs (al _ (List.mem_map.mpr ⟨z, List.mem_of_getElem? hx, rfl⟩) _ mm) (PyProof.Rows.Reads.keeps hk rd2) hr2
        have e4 : z = rr := toD_inj (by rw [hz, e3]) hb
        subst e4
        exact ⟨y, C.H, I.kept hk, ry, q y hvr⟩
    · cases hm
theorem bi_min (o : XO0 G k X) : BiOk G X .min (.builtin "min") := by
  intro C s σ xs vs r Q rl h e kk
  unfold biop at e
  split at e
  all_goals try contradiction
  · obtain ⟨v, w, rfl, hx, hy⟩ := h.two
    cases e
    cases hx.int
    cases hy.int
    exact ⟨_, call_min2 o.calm, _, _, rfl, out_v rl .int kk⟩
  · rename_i zs _
    obtain ⟨v, rfl, hx⟩ := h.one
    obtain ⟨x, e2, rfl⟩ := Option.map_eq_some_iff.mp e
    clear e
    have e := e2
    obtain ⟨p, ys, rfl, hp, hr⟩ := hx
    cases hi : intsOf zs with
    | some ns =>
      unfold vmin at e
      rw [hi] at e
      cases ns with
      | nil =>
        simp only at e
        cases zs with
        | nil => unfold toDs best at e; simp at e
        | cons a b =>
          cases a <;> unfold intsOf at hi <;> first | cases hi | (cases q : intsOf b <;> simp [q] at hi)
      | cons n ns =>
        simp only [Option.some.injEq] at e
        subst e
        have := intsOf_rel hr hi
        subst this
        refine ⟨_, cr_min o.calm, p, n :: ns, rfl, SqL.of hp, by simp, fun m h1 h2 => ?_⟩
        rw [min_uniq (fold_min_mem ns n) h1 h2]
        exact out_v rl .int kk
    | none => exact ⟨_, call_minD o, C, p, zs, ys, x, rfl, rfl, hp, hr, e, hi, fun v hv => out_v rl hv kk⟩
end
end Rs
end
section
set_option maxRecDepth 100000
set_option maxHeartbeats 4000000
/-! Built-in functions: sorted, repr; their calls. -/
namespace Rs
open PySem PySem.Spec PyProof.Rows L2
section
variable {G : Gl} {T : Tab} {F : Call} {k : Nat} {X : Cx} {C : Cf} {s : S} {σ : L2.St} {Q : VK}
theorem each_rel {R : Value → Val → Prop} : ∀ {out : List Value} {xs : List Val}, PySem.W.EachIs R out xs → (∀ u x, R u x → ∃ v, VR G C x v ∧ RelV v u) → ∃ vs, VRs G C xs vs ∧ Vals vs out
  | _, _, .nil, _ => ⟨[], VRs.nil, .nil⟩
  | _, _, .cons h t, f => by
    obtain ⟨v, h1, h2⟩ := f _ _ h
    obtain ⟨vs, h3, h4⟩ := each_rel t f
    exact ⟨v :: vs, VRs.cons h1 h3, .cons h2 h4⟩
theorem rel_each : ∀ {xs : List Val} {vs : List V} {us : List Value}, VRs G C xs vs → Vals vs us → PySem.W.EachIs (fun u x => ∃ v, VR G C x v ∧ RelV v u) us xs
  | [], vs, us, h, r => by unfold VRs at h; subst h; cases r; exact .nil
  | x :: xs, vs, us, h, r => by
    unfold VRs at h
    obtain ⟨y, t, rfl, h1, h2⟩ := h
    cases r with
    | cons r1 r2 => exact .cons ⟨y, h1, r1⟩ (rel_each h2 r2)
theorem each_imp {α β : Type} {R R' : α → β → Prop} : ∀ {as : List α} {bs : List β}, PySem.W.EachIs R as bs → (∀ a b, b ∈ bs → R a b → R' a b) → PySem.W.EachIs R' as bs
  | _, _, .nil, _ => .nil
  | _, _, .cons h t, f => .cons (f _ _ (by simp) h) (each_imp t fun a b hb => f a b (by simp [hb]))
theorem sortable_ok {ds : List PyData} (h : sortable ds = true) : PySem.W.Sortable ds := by
  unfold sortable at h
  rcases Bool.or_eq_true_iff.mp h with h | h
  · refine .inl fun d hd => ?_
    have := List.all_eq_true.mp h d hd
    split at this
    · exact ⟨_, _, rfl⟩
    · cases this
  · refine .inr fun d hd => ?_
    have := List.all_eq_true.mp h d hd
    cases d <;> simp at this ⊢
/-- sorted of a list of data -/
theorem call_sortedL (o : XO0 G k X) : CallR X (.builtin "sorted") (fun vs H Q => ∃ C p xs ys r, C.H = H ∧ vs = [.ref p] ∧ H p = some (.lst ys) ∧ VRs G C xs ys ∧ vsort xs = some r ∧ ∀ l zs, H l = none → VRs G C r zs → Q (.ref l) (upd H l (.lst zs))) := by
  intro pins s σ H vs us Q I r h
  obtain ⟨C, p, xs, ys, rr, hH, rfl, hp, hr, hm, q⟩ := h
  subst hH
  rw [Vals.ref1 r]
  unfold vsort at hm
  rw [isort_data] at hm
  cases q1 : toDs xs with
  | none => simp [q1] at hm
  | some ds =>
    simp only [q1] at hm
    split at hm
    · rename_i hc
      cases hm
      obtain ⟨hc1, hc⟩ := Bool.and_eq_true_iff.mp hc
      obtain ⟨hc2, hc⟩ := Bool.and_eq_true_iff.mp hc
      obtain ⟨hc3, hc4⟩ := Bool.and_eq_true_iff.mp hc
      obtain ⟨e1, e2⟩ := toDs_each q1
      obtain ⟨its, rv, pl, hz⟩ := I.list (SqL.of hp)
      have al := allAlike_ok hc1
      rw [e1] at al
      have so := sortable_ok hc2
      rw [e1] at so
      have hE := rel_each hr rv
      refine PySem.W.sorted_data (R := fun u x => ∃ v, VR G C x v ∧ RelV v u) (enc := dD) pl.isList hE (each_imp hE fun u x hx ⟨v, h1, h2⟩ => ?_) al so (of_decide_eq_true hc4) (fun b hb => ?_) fun out ho eo => ?_
      · obtain ⟨as, rd, _⟩ := VR.reads I o.K o.sys x v u (dD x) h1 h2 (e2 x hx)
        exact ⟨as, rd⟩
      · have := o.room.un
        have h2 : (dD b).depth ≤ 60 := (okD_iff (List.all_eq_true.mp hc3 (dD b) (by rw [e1]; exact List.mem_map.mpr ⟨b, hb, rfl⟩))).2
        omega
      · obtain ⟨zs, hz1, hz2⟩ := each_rel (G := G) (C := C) eo fun _ _ h => h
        obtain ⟨ep, he'⟩ := PyProof.Rows.sortedAll_at s.heap its out.toArray
        have hlen : zs.length ≤ sizeLine := by
          rw [← hz1.length, List.length_mergeSort]
          exact of_decide_eq_true hc4
        exact ⟨.ref _, upd C.H (s.heap.objs.size + 1) (.lst zs), I.laid (t' := s.toks) (fun _ _ => PyProof.Rows.sortedAll_old) (Nat.le_succ _) ⟨hlen, out, ep, hz2, he'⟩, rfl, q _ zs (I.hok.fresh (Nat.le_succ _)) hz1⟩
    · cases hm
/-- sorted of a tuple of data -/
theorem call_sortedT (o : XO0 G k X) : CallR X (.builtin "sorted") (fun vs H Q => ∃ C p xs ys r, C.H = H ∧ vs = [.ref p] ∧ SqT X.K H p ys ∧ VRs G C xs ys ∧ vsort xs = some r ∧ ∀ l zs, H l = none → VRs G C r zs → Q (.ref l) (upd H l (.lst zs))) := by
  intro pins s σ H vs us Q I r h
  obtain ⟨C, p, xs, ys, rr, hH, rfl, hp, hr, hm, q⟩ := h
  subst hH
  rw [Vals.ref1 r]
  unfold vsort at hm
  rw [isort_data] at hm
  cases q1 : toDs xs with
  | none => simp [q1] at hm
  | some ds =>
    simp only [q1] at hm
    split at hm
    · rename_i hc
      cases hm
      obtain ⟨hc1, hc⟩ := Bool.and_eq_true_iff.mp hc
      obtain ⟨hc2, hc⟩ := Bool.and_eq_true_iff.mp hc
      obtain ⟨hc3, hc4⟩ := Bool.and_eq_true_iff.mp hc
      obtain ⟨e1, e2⟩ := toDs_each q1
      obtain ⟨its, rv, pl, hz⟩ := I.tuple hp
      have al := allAlike_ok hc1
      rw [e1] at al
      have so := sortable_ok hc2
      rw [e1] at so
      have hE := rel_each hr rv
      refine PySem.W.rs_sorted_data (R := fun u x => ∃ v, VR G C x v ∧ RelV v u) (enc := dD) pl hE (each_imp hE fun u x hx ⟨v, h1, h2⟩ => ?_) al so (of_decide_eq_true hc4) (fun b hb => ?_) fun out ho eo => ?_
      · obtain ⟨as, rd, _⟩ := VR.reads I o.K o.sys x v u (dD x) h1 h2 (e2 x hx)
        exact ⟨as, rd⟩
      · have := o.room.un
        have h2 : (dD b).depth ≤ 60 := (okD_iff (List.all_eq_true.mp hc3 (dD b) (by rw [e1]; exact List.mem_map.mpr ⟨b, hb, rfl⟩))).2
        omega
      · obtain ⟨zs, hz1, hz2⟩ := each_rel (G := G) (C := C) eo fun _ _ h => h
        obtain ⟨ep, he'⟩ := PyProof.Rows.sortedAll_at s.heap its out.toArray
        have hlen : zs.length ≤ sizeLine := by
          rw [← hz1.length, List.length_mergeSort]
          exact of_decide_eq_true hc4
        exact ⟨.ref _, upd C.H (s.heap.objs.size + 1) (.lst zs), I.laid (t' := s.toks) (fun _ _ => PyProof.Rows.sortedAll_old) (Nat.le_succ _) ⟨hlen, out, ep, hz2, he'⟩, rfl, q _ zs (I.hok.fresh (Nat.le_succ _)) hz1⟩
    · cases hm
theorem sortedS_pw : ∀ (l : List Str), sortedS l = true → l.Pairwise fun a b => a.cps.toList ≤ b.cps.toList := by
  have h : ∀ (l : List Str) (x : Str), risingS x l = true → (∀ y ∈ l, x.cps.toList ≤ y.cps.toList) ∧ l.Pairwise fun a b => a.cps.toList ≤ b.cps.toList := by
    intro l
    induction l with
    | nil => intro x _; exact ⟨by simp, .nil⟩
    | cons y ys ih =>
      intro x hx
      unfold risingS at hx
      obtain ⟨h1, h2⟩ := Bool.and_eq_true_iff.mp hx
      obtain ⟨h3, h4⟩ := ih y h2
      have hxy : x.cps.toList ≤ y.cps.toList := by
        rw [ltCps_eq] at h1
        have h1 : ¬ y.cps.toList < x.cps.toList := by simpa using h1
        exact List.not_lt.mp h1
      refine ⟨fun z hz => ?_, .cons h3 h4⟩
      rcases List.mem_cons.mp hz with rfl | hz
      · exact hxy
      · exact List.le_trans hxy (h3 z hz)
  intro l hl
  cases l with
  | nil => exact .nil
  | cons x xs => obtain ⟨h1, h2⟩ := h xs x hl; exact .cons h1 h2
theorem str_eq {a b : Str} (h : a.cps.toList = b.cps.toList) : a = b := by
  cases a
  cases b
  simp only at h
  rw [Array.toList_inj.mp h]
theorem sort_strs {ks ys : List Str} (p : ys.Perm ks) (h : sortedS ys = true) : ys.map Val.str = (ks.map Val.str).mergeSort (PySem.W.dataLe false dD) := by
  have le : ∀ a b : Str, PySem.W.dataLe false dD (.str a) (.str b) = decide (a.cps.toList ≤ b.cps.toList) := fun a b => by
    have := congrFun (congrFun (PySem.W.dataLe_str (β := Str) (fun x => x)) a) b
    exact this
  have str : ∀ x ∈ (ks.map Val.str), ∃ a, x = .str a := fun x hx => by
    obtain ⟨a, _, rfl⟩ := List.mem_map.mp hx
    exact ⟨a, rfl⟩
  have pw : ((ks.map Val.str).mergeSort (PySem.W.dataLe false dD)).Pairwise fun a b => PySem.W.dataLe false dD a b = true := by
    have h0 := List.pairwise_mergeSort (le := fun a b : Str => decide (a.cps.toList ≤ b.cps.toList)) (fun a b c h1 h2 => by simp at h1 h2 ⊢; exact List.le_trans h1 h2) (fun a b => by simp; exact List.le_total ..) ks
    have e : (ks.map Val.str).mergeSort (PySem.W.dataLe false dD) = (ks.mergeSort fun a b : Str => decide (a.cps.toList ≤ b.cps.toList)).map Val.str := by
      rw [List.map_mergeSort]
      intro a _ b _
      exact (le a b).symm
    rw [e]
    exact List.pairwise_map.mpr (h0.imp fun {a b} h => by rw [le]; exact h)
  refine List.Perm.eq_of_pairwise (le := fun a b => PySem.W.dataLe false dD a b = true) (fun a b ha hb h1 h2 => ?_) (List.pairwise_map.mpr ((sortedS_pw ys h).imp fun {a b} h => by rw [le]; exact decide_eq_true h)) pw ((p.map _).trans (List.mergeSort_perm _ _).symm)
  obtain ⟨x, _, rfl⟩ := List.mem_map.mp ha
  obtain ⟨y, rfl⟩ := str b ((List.mergeSort_perm _ _).subset hb)
  rw [le] at h1 h2
  rw [str_eq (List.le_antisymm (of_decide_eq_true h1) (of_decide_eq_true h2))]
theorem keys_strs : ∀ {kvs : List (Key × Val)}, kvs.all (fun kv => kv.1.isRight) = true → ∃ ks : List Str, kvs.map (·.1) = ks.map Sum.inr ∧ (kvs.map fun kv => vKey kv.1) = ks.map Val.str
  | [], _ => ⟨[], rfl, rfl⟩
  | (.inl i, x) :: r, h => by simp at h
  | (.inr z, x) :: r, h => by
    obtain ⟨ks, h1, h2⟩ := keys_strs (kvs := r) (by simpa using h)
    exact ⟨z :: ks, by simp [h1], by rw [List.map_cons, h2]; rfl⟩
theorem VRk.fst : ∀ {xs : List (Key × Val)} {ys : List (Key × V)}, VRk G C xs ys → xs.map (·.1) = ys.map (·.1)
  | [], ys, h => by unfold VRk at h; subst h; rfl
  | (j, x) :: xs, ys, h => by
    unfold VRk at h
    obtain ⟨y, r, rfl, a, b⟩ := h
    simp [VRk.fst b]
theorem bi_sorted (o : XO0 G k X) : BiOk G X .sorted (.builtin "sorted") := by
  intro C s σ xs vs r Q rl h e kk
  unfold biop at e
  split at e
  all_goals try contradiction
  all_goals (obtain ⟨v, rfl, hx⟩ := h.one)
  · obtain ⟨ys, e2, rfl⟩ := Option.map_eq_some_iff.mp e
    obtain ⟨p, zs, rfl, hp, hr⟩ := hx
    exact ⟨_, call_sortedL o, C, p, _, zs, ys, rfl, rfl, hp, hr, e2, fun l ws hn hw => out_l rl hw hn kk⟩
  · obtain ⟨ys, e2, rfl⟩ := Option.map_eq_some_iff.mp e
    obtain ⟨p, zs, rfl, hp, hr⟩ := hx.tup
    exact ⟨_, call_sortedT o, C, p, _, zs, ys, rfl, rfl, by rw [o.K]; exact hp, hr, e2, fun l ws hn hw => out_l rl hw hn kk⟩
  · split at e
    · rename_i hc
      obtain ⟨hc1, hc2⟩ := Bool.and_eq_true_iff.mp hc
      obtain ⟨ys, e2, rfl⟩ := Option.map_eq_some_iff.mp e
      obtain ⟨p, ks, rfl, hp, hr⟩ := hx
      obtain ⟨ns, h1, h2⟩ := keys_strs hc2
      have hl : ns.length < 64 := by
        have := congrArg List.length h1
        simp at this
        have h3 := of_decide_eq_true hc1
        omega
      refine ⟨_, call_sortedD o.calm, p, ks, ns, rfl, hp, by rw [← hr.fst]; exact h1, hl, fun zs l hperm hs hn => ?_⟩
      rw [h2] at e2
      unfold vsort at e2
      rw [isort_data] at e2
      cases q : toDs (ns.map Val.str) with
      | none => simp [q] at e2
      | some ds =>
        simp only [q] at e2
        split at e2
        · cases e2
          rw [← sort_strs hperm hs] at kk
          exact out_l rl (VRs.map (fun a => VR.str) zs) hn kk
        · cases e2
    · cases e
/-- repr -/
theorem call_reprD (o : XO G k X) : CallR X (.builtin "repr") (fun vs H Q => ∃ C x p d, C.H = H ∧ vs = [.ref p] ∧ NR G C x (.ref p) ∧ toD x = some d ∧ showOk d = true ∧ Q (.str d.shown) H) := by
  intro pins s σ H vs us Q I r h
  obtain ⟨C, x, p, d, hH, rfl, hx, hd, hs, q⟩ := h
  subst hH
  obtain ⟨u, rfl, ru⟩ := vals1 r
  obtain ⟨hs1, hs2⟩ := Bool.and_eq_true_iff.mp hs
  obtain ⟨hs2, hs3⟩ := Bool.and_eq_true_iff.mp hs2
  have hs2 := of_decide_eq_true hs2
  have hs3 := of_decide_eq_true hs3
  obtain ⟨as, rd, nS⟩ := NR.reads I o.K o.sys hx ru hd
  have un := o.room.un
  cases ru
  exact PySem.repr_of_reads' rd hs1 (fun _ => nS) o.gd (by omega) (fun _ _ e => e) (fun h' u tk hk => ⟨.str d.shown, C.H, I.kept hk, ⟨_, rfl⟩, q⟩) hs3
theorem box_ref {x : Val} {v : V} (h : NR G C x v) (b : boxed x = true) : ∃ p, v = .ref p := by
  cases x with
  | lst xs => obtain ⟨p, _, e, _⟩ := h; exact ⟨p, e⟩
  | tup xs => obtain ⟨p, _, e, _⟩ := h.tup; exact ⟨p, e⟩
  | dct xs => obtain ⟨p, _, e, _⟩ := h; exact ⟨p, e⟩
  | odd xs => unfold NR at h; unfold VR at h; obtain ⟨p, _, _, _, e, _⟩ := h; exact ⟨p, e⟩
  | _ => cases b
theorem call_reprA : CallR X (.builtin "repr") (fun vs H Q => ∃ x d, vs = [x] ∧ showOk d = true ∧ ((x = .non ∧ d = .none) ∨ (∃ b, x = .bl b ∧ d = .bool b) ∨ (∃ i, x = .int i ∧ d = .int i) ∨ ∃ t, x = .str t ∧ d = .str t) ∧ Q (.str d.shown) H) := by
  intro pins s σ H vs us Q I r h
  obtain ⟨x, d, rfl, hs, hx, q⟩ := h
  obtain ⟨hs1, hs2⟩ := Bool.and_eq_true_iff.mp hs
  obtain ⟨hs2, hs3⟩ := Bool.and_eq_true_iff.mp hs2
  have hs3 := of_decide_eq_true hs3
  obtain ⟨u, rfl, ru⟩ := vals1 r
  rcases hx with ⟨rfl, rfl⟩ | ⟨b, rfl, rfl⟩ | ⟨i, rfl, rfl⟩ | ⟨t, rfl, rfl⟩
  · cases ru
    exact PySem.P.repr_of_none ⟨.str _, H, I.tok _, ⟨_, rfl⟩, by simpa only [PyData.shown] using q⟩
  · cases ru
    refine PySem.P.repr_of_bool ⟨.str _, H, I.tok _, ⟨_, rfl⟩, ?_⟩
    simp only [PyData.shown] at q
    cases b <;> exact q
  · obtain ⟨t, rfl⟩ := ru
    exact PySem.P.repr_of_int (by simpa [PyData.showable] using hs1) ⟨.str _, H, I.tok _, ⟨_, rfl⟩, by simpa only [PyData.shown] using q⟩
  · obtain ⟨tk, rfl⟩ := ru
    exact PySem.P.repr_of_str ⟨.str _, H, I.tok _, ⟨_, rfl⟩, by simpa only [PyData.shown] using q⟩ (by simpa only [PyData.shown] using hs3)
theorem bi_repr (o : XO G k X) : BiOk G X .repr (.builtin "repr") := by
  intro C s σ xs vs r Q rl h e kk
  unfold biop at e
  split at e
  all_goals try contradiction
  rename_i x _
  obtain ⟨v, rfl, hx⟩ := h.one
  split at e
  · rename_i d hd
    split at e
    · rename_i hs
      cases e
      cases hb : boxed x with
      | true =>
        obtain ⟨p, rfl⟩ := box_ref hx hb
        exact ⟨_, call_reprD o, C, x, p, d, rfl, rfl, hx, hd, hs, out_v rl .str kk⟩
      | false =>
        refine ⟨_, call_reprA, v, d, rfl, hs, ?_, out_v rl .str kk⟩
        cases x with
        | non => unfold toD at hd; cases hd; exact .inl ⟨hx.non, rfl⟩
        | bl b => unfold toD at hd; cases hd; exact .inr (.inl ⟨b, hx.bl, rfl⟩)
        | int i => unfold toD at hd; cases hd; exact .inr (.inr (.inl ⟨i, hx.int, rfl⟩))
        | str t => unfold toD at hd; cases hd; exact .inr (.inr (.inr ⟨t, hx.str, rfl⟩))
        | ref _ => unfold toD at hd; cases hd
        | scr _ => unfold toD at hd; cases hd
        | bad => unfold toD at hd; cases hd
        | _ => cases hb
    · cases e
  · cases e
theorem ORs.nr (r : Rel G C s σ) : ∀ {os : List Rv} {vs : List V}, ORs G C s σ os vs → (os.map (deref s)).all okV = true → NRs G C (os.map (deref s)) vs
  | [], vs, h, _ => h
  | o :: os, vs, h, b => by
    obtain ⟨v, t, rfl, h1, h2⟩ := h
    obtain ⟨b1, b2⟩ := Bool.and_eq_true_iff.mp (show (_ && _) = true from b)
    exact ⟨v, t, rfl, deref_ok r h1 (fun z => by rw [z] at b1; cases b1), ORs.nr r h2 b2⟩
theorem bi_all' {f : Bi} {g : Value} (ok : BiOk G X f g) {as : List IE} {σ : L2.St} {H : Hp} {Q : VK} (h : EE G T F (.bi f as) σ H Q) : tCB (fun xs H Q => ∃ r : List V → Hp → VK → Prop, CallR X g r ∧ r xs H Q) (tOs G (evalOs T F as)) σ H Q := by
  obtain ⟨C, s, x, s', hH, rl, ev, kk⟩ := h
  unfold evalE at ev
  obtain ⟨os, s1, e1, ev⟩ := bind_ok ev
  split at ev
  · rename_i hb
    obtain ⟨ev, rfl⟩ := opt_ok ev
    exact ⟨C, s, os, _, hH, rl, e1, fun C1 vs l1 r1 h1 => ok C1 _ σ _ vs x Q r1 (h1.nr r1 hb) ev fun C2 z l2 r2 h2 => kk C2 z (l1.trans l2) r2 h2⟩
  · cases ev
theorem se_bi {x : Str} {id : String} {f : Bi} {e : Expr} {es : List Expr} {as : List IE} {p pos : Pos} (ok : BiOk G X f (.builtin id)) (hg : L2.Gl X x) (hm : X.mg x = none) (hv : bootBuiltins x = some (.builtin id)) (ha : PA X (e :: es) (tOs G (evalOs T F as)))
    (hn : x ≠ "__name__" := by decide) (hdb : (x == ("__debug__" : Str)) = false := by decide) (he : starEach (e :: es) X.env = (false, eval e X.env) :: starEach es X.env := by rfl) (hpl : (backTo pos (starEach es X.env)).any (·.1) = false := by rfl) :
    PE X (.Call (.Name x p) (e :: es) [] pos) (EE G T F (.bi f as)) := PE.weak (pe_callB CallR.any hg hm hv ha hn hdb he hpl) fun σ H Q h => bi_all' ok h
theorem se_bt {x : Str} {id : String} {f : Bi} {e : Expr} {es : List Expr} {as : List IE} {p pos : Pos} (ok : BiOk G X f (.type id)) (hg : L2.Gl X x) (hm : X.mg x = none) (hv : bootBuiltins x = some (.type id)) (ha : PA X (e :: es) (tOs G (evalOs T F as)))
    (hn : x ≠ "__name__" := by decide) (hdb : (x == ("__debug__" : Str)) = false := by decide) (he : starEach (e :: es) X.env = (false, eval e X.env) :: starEach es X.env := by rfl) (hpl : (backTo pos (starEach es X.env)).any (·.1) = false := by rfl) :
    PE X (.Call (.Name x p) (e :: es) [] pos) (EE G T F (.bi f as)) := PE.weak (pe_callTy CallR.any hg hm hv ha hn hdb he hpl) fun σ H Q h => bi_all' ok h
end
end Rs
end
section
set_option maxRecDepth 100000
set_option maxHeartbeats 4000000
/-! Slices; calls of the text's defs. -/
namespace Rs
open PySem PySem.Spec PyProof.Rows L2
section
variable {G : Gl} {T : Tab} {F : Call} {k : Nat} {X : Cx} {e el eh : Expr} {pos p p2 : Pos} {a lo hi st : IE} {es : List Expr} {as : List IE}
/-- a slice's end, written or not -/
def tP (G : Gl) (f : S → R (List Val)) : TO := fun σ H Q => ∃ C s x s' i, C.H = H ∧ Rel G C s σ ∧ f s = .ok x s' ∧ partV x = some i ∧ ∀ C', Le C C' → Rel G C' s' σ → Q i C'.H
theorem po_no : PO X none (tP G (evalVs T F [])) := ⟨fun pins s σ H Q I ⟨C, s1, x, s', i, hH, rl, e, hp, kk⟩ => by
  unfold evalVs at e
  cases e
  cases hp
  subst hH
  exact po_none.run pins s σ C.H Q I (kk C (.refl C) rl)⟩
theorem po_so (h : PE X e (EE G T F a)) : PO X (some e) (tP G (evalVs T F [a])) := ⟨fun pins s σ H Q I ⟨C, s1, x, s', i, hH, rl, e, hp, kk⟩ => by
  refine (po_some h).run pins s σ H Q I ?_
  show EE G T F a σ H (fun x H1 => ∃ i, x = .int i ∧ Q (some i) H1)
  unfold evalVs at e
  obtain ⟨y, s2, e1, e⟩ := bind_ok e
  obtain ⟨ys, s3, e2, e⟩ := bind_ok e
  unfold evalVs at e2
  cases e2
  cases e
  refine EE_of_val hH rl e1 fun C1 v l1 r1 h1 => ?_
  cases y with
  | int j =>
    cases hp
    unfold VR at h1
    exact ⟨j, h1, kk C1 l1 r1⟩
  | _ => cases hp⟩
/-- what is cut -/
def SlOk (G : Gl) (X : Cx) (r : V → Option Int → Option Int → Hp → VK → Prop) : Prop := SlR X r
theorem sl_any : SlR X (fun x lo hi H Q => ∃ r : V → Option Int → Option Int → Hp → VK → Prop, SlR X r ∧ r x lo hi H Q) := fun pins s σ H x v vl vu lo hi sl Q I rx hs pl pu ⟨_, h, q⟩ => h pins s σ H x v vl vu lo hi sl Q I rx hs pl pu q
theorem cut_rel {C : Cf} {xs : List Val} {ys : List V} (h : VRs G C xs ys) (lo hi : Option Int) : VRs G C (cut xs lo hi) (cutV ys lo hi) := by
  unfold cut cutV
  rw [h.length]
  exact (h.drop _).take _
theorem cut_all {α : Type} {xs : List α} {lo hi : Option Int} (h : HT.sIx xs.length 0 lo = 0 ∧ HT.sIx xs.length xs.length hi = xs.length) : cut xs lo hi = xs := by
  unfold cut
  rw [h.1, h.2]
  simp
theorem cut_map {α β : Type} (f : α → β) (xs : List α) (lo hi : Option Int) : (cut xs lo hi).map f = cut (xs.map f) lo hi := by
  unfold cut
  simp
theorem slice_ok (o : XO0 G k X) {C : Cf} {s : S} {σ : L2.St} {x : Val} {v : V} {l h : Option Int} {r : Rv} {Q : VK} (rl : Rel G C s σ) (hx : NR G C x v) (e : vslice x l h = some r) (kk : ∀ C' z, Le C C' → Rel G C' s σ → RvR G C' s σ r z → Q z C'.H) :
    ∃ r : V → Option Int → Option Int → Hp → VK → Prop, SlR X r ∧ r v l h C.H Q := by
  unfold vslice at e
  split at e
  · cases e
    obtain ⟨q, ys, rfl, hp, hr⟩ := hx
    exact ⟨_, sl_list, q, ys, rfl, SqL.of hp, fun l hn => out_l rl (cut_rel hr _ _) hn kk⟩
  · cases e
    obtain ⟨q, ys, rfl, hp, hr⟩ := hx.tup
    refine ⟨_, sl_tupA, q, ys, rfl, by rw [o.K]; exact hp, fun w => ?_, fun w l hn => out_t rl (cut_rel hr _ _) hn kk⟩
    rw [cut_all (by rw [hr.length]; exact w)] at kk
    exact out_v rl (show VR G C (.tup _) _ from hx) kk
  · rename_i x
    split at e
    · rename_i hl
      cases e
      cases hx.str
      exact ⟨_, sl_str, _, rfl, hl, out_v rl .str kk⟩
    · cases e
  · cases e
    obtain ⟨q, rfl, hp⟩ := hx.scr
    refine ⟨_, sl_list, q, _, rfl, by rw [o.K]; exact hp, fun l hn => ?_⟩
    rw [cut_map] at kk
    exact out_l rl (cut_rel (VRs.map (fun a => VR.int) _) _ _) hn kk
  · cases e
theorem vsl_bad (l h : Option Int) : vslice .bad l h = none := rfl
theorem se_slc (o : XO0 G k X) {l h : Option Expr} {lo hi : List IE} (ha : PE X e (EE G T F a)) (hl : PO X l (tP G (evalVs T F lo))) (hh : PO X h (tP G (evalVs T F hi))) : PE X (.Subscript e (.Slice l h none p2) pos) (EE G T F (.slc a lo hi)) := by
  refine PE.weak (pe_slice sl_any ha hl hh) fun σ H Q ⟨C, s, r, s', hH, rl, ev, kk⟩ => ?_
  unfold evalE at ev
  obtain ⟨x, s1, e1, ev⟩ := bind_ok ev
  obtain ⟨y, s2, e2, ev⟩ := bind_ok ev
  obtain ⟨z, s3, e3, ev⟩ := bind_ok ev
  cases q1 : partV y with
  | none => simp [q1] at ev
  | some i =>
    cases q2 : partV z with
    | none => simp [q1, q2] at ev
    | some j =>
      simp only [q1, q2] at ev
      obtain ⟨ev, rfl⟩ := opt_ok ev
      show EE G T F a σ H (fun x H1 => (tP G (evalVs T F lo)) σ H1 fun l H2 => (tP G (evalVs T F hi)) σ H2 fun u H3 => ∃ r : V → Option Int → Option Int → Hp → VK → Prop, SlR X r ∧ r x l u H3 Q)
      refine EE_of_op hH rl e1 fun C1 v l1 r1 o1 => ⟨C1, s1, y, s2, i, rfl, r1, e2, q1, fun C2 l2 r2 => ⟨C2, s2, z, _, j, rfl, r2, e3, q2, fun C3 l3 r3 => ?_⟩⟩
      have hx := deref_ok r3 (OR.mono (l2.trans l3) o1) (fun w => by rw [w, vsl_bad] at ev; cases ev)
      exact slice_ok o r3 hx ev fun C4 w l4 r4 h4 => kk C4 w (((l1.trans l2).trans l3).trans l4) r4 h4
/-- xs[::k], k written in any way -/
theorem pe_stepL {te : TE} {ts : TO} {st : Expr} {p3 : Pos} (he : PE X e te) (hst : PO X (some st) ts) : PE X (.Subscript e (.Slice none none (some st) p3) pos) (fun σ H Q => te σ H fun x H1 => ts σ H1 fun o H2 => ∃ a xs, x = .ref a ∧ SqL X.K H2 a xs ∧
    ((o = some 1 ∧ ∀ p, H2 p = none → Q (.ref p) (upd H2 p (.lst xs))) ∨ (o = some (-1) ∧ ∀ p, H2 p = none → Q (.ref p) (upd H2 p (.lst xs.reverse))))) := by
  refine ⟨fun pins s σ H Q I h => ?_⟩
  refine Subscript_ (thn (he.run pins s σ H _ I h) fun v s1 ⟨x, H1, I1, r1, q1⟩ => ?_)
  refine wpAny_Slice (thn (po_none.run pins s1 σ H1 (fun o H2 => o = none ∧ H2 = H1) I1 ⟨rfl, rfl⟩) fun vl s2 ⟨l, H2, I2, pl, el, e2⟩ => ?_)
  subst el e2
  refine thn (po_none.run pins s2 σ H2 (fun o H3 => o = none ∧ H3 = H2) I2 ⟨rfl, rfl⟩) fun vu s3 ⟨u, H3, I3, pu, eu, e3⟩ => ?_
  subst eu e3
  refine thn (hst.run pins s3 σ H3 _ I3 q1) fun vs s4 ⟨o, H4, I4, ps, a, xs, ex, hx, q⟩ => ?_
  subst ex
  cases r1
  have I5 : Inv X pins σ H4 { s4 with heap := s4.heap.push { cls := .type "slice", data := .fields #[vl, vu, vs] } } := I4.kept (t' := s4.toks) fun b ob q => Heap.get?_push_of_some _ q
  obtain ⟨its, r, ht, hz⟩ := I5.list hx
  have hlen := r.length
  show wpAny (model X.prog X.w) X.A (subscriptTail e (.Slice none none (some st) p3) (.ref a) (.ref s4.heap.objs.size)) (EP X pins σ Q) X.xe { s4 with heap := s4.heap.push { cls := .type "slice", data := .fields #[vl, vu, vs] } }
  refine tail_any (ops := [.ref a, .ref s4.heap.objs.size]) ht.isList.typeIs (PySem.slot_list_getitem.lookup) ?_ (by with_unfolding_all rfl)
  rcases q with ⟨rfl, q⟩ | ⟨rfl, q⟩
  · refine wpAny_getItem_list_slice ht.isList (Heap.IsSliceOf.new _ vl vu vs) pl pu ps (by decide) ?_ (by rw [List.size_toArray]; omega)
    have e0 : slicePick its.toArray none none (some 1) = slicePick its.toArray none none none := rfl
    rw [e0, slicePick_cut]
    refine ⟨.ref _, _, I5.laid (t' := s4.toks) (o := .lst xs) (fun b ob q => Heap.get?_push_of_some _ q) (Nat.le_refl _) ?_, rfl, q _ (I5.hok.fresh (Nat.le_refl _))⟩
    refine ⟨hz, its, 0, r, ?_⟩
    rw [show (its.drop (HT.sIx its.length 0 none)).take (HT.sIx its.length its.length none - HT.sIx its.length 0 none) = its by simp [HT.sIx]]
    exact Heap.get?_push_size _ rfl
  · refine wpAny_getItem_list_slice ht.isList (Heap.IsSliceOf.new _ vl vu vs) pl pu ps (by decide) ?_ (by rw [List.size_toArray]; omega)
    rw [PySem.W.krv_pick]
    refine ⟨.ref _, _, I5.laid (t' := s4.toks) (o := .lst xs.reverse) (fun b ob q => Heap.get?_push_of_some _ q) (Nat.le_refl _) ?_, rfl, q _ (I5.hok.fresh (Nat.le_refl _))⟩
    exact ⟨by rw [List.length_reverse]; exact hz, _, 0, r.reverse, Heap.get?_push_size _ rfl⟩
/-- t[::k] -/
theorem pe_stepT {te : TE} {ts : TO} {st : Expr} {p3 : Pos} (he : PE X e te) (hst : PO X (some st) ts) : PE X (.Subscript e (.Slice none none (some st) p3) pos) (fun σ H Q => te σ H fun x H1 => ts σ H1 fun o H2 => ∃ a xs, x = .ref a ∧ SqT X.K H2 a xs ∧
    ((o = some 1 ∧ Q (.ref a) H2) ∨ (o = some (-1) ∧ ∀ p, H2 p = none → Q (.ref p) (upd H2 p (.tup xs.reverse))))) := by
  refine ⟨fun pins s σ H Q I h => ?_⟩
  refine Subscript_ (thn (he.run pins s σ H _ I h) fun v s1 ⟨x, H1, I1, r1, q1⟩ => ?_)
  refine wpAny_Slice (thn (po_none.run pins s1 σ H1 (fun o H2 => o = none ∧ H2 = H1) I1 ⟨rfl, rfl⟩) fun vl s2 ⟨l, H2, I2, pl, el, e2⟩ => ?_)
  subst el e2
  refine thn (po_none.run pins s2 σ H2 (fun o H3 => o = none ∧ H3 = H2) I2 ⟨rfl, rfl⟩) fun vu s3 ⟨u, H3, I3, pu, eu, e3⟩ => ?_
  subst eu e3
  refine thn (hst.run pins s3 σ H3 _ I3 q1) fun vs s4 ⟨o, H4, I4, ps, a, xs, ex, hx, q⟩ => ?_
  subst ex
  cases r1
  have I5 : Inv X pins σ H4 { s4 with heap := s4.heap.push { cls := .type "slice", data := .fields #[vl, vu, vs] } } := I4.kept (t' := s4.toks) fun b ob q => Heap.get?_push_of_some _ q
  obtain ⟨its, r, ht, hz⟩ := I5.tuple hx
  have hlen := r.length
  show wpAny (model X.prog X.w) X.A (subscriptTail e (.Slice none none (some st) p3) (.ref a) (.ref s4.heap.objs.size)) (EP X pins σ Q) X.xe { s4 with heap := s4.heap.push { cls := .type "slice", data := .fields #[vl, vu, vs] } }
  cases pl
  cases pu
  refine tail_any (ops := [.ref a, .ref s4.heap.objs.size]) ht.typeIs (PyProof.Rows.slot_tuple_getitem.lookup) ?_ (by with_unfolding_all rfl)
  rcases q with ⟨rfl, q⟩ | ⟨rfl, q⟩
  · exact HT.getItem_tuple_step (b := false) ht (Heap.IsSliceOf.new _ _ _ vs) ps rfl (fun _ => ⟨.ref a, H4, I5, rfl, q⟩) (fun z => nomatch z) (by omega)
  · refine HT.getItem_tuple_step (b := true) ht (Heap.IsSliceOf.new _ _ _ vs) ps rfl (fun z => nomatch z) (fun _ => ?_) (by omega)
    refine ⟨.ref _, _, I5.laid (t' := s4.toks) (o := .tup xs.reverse) (fun b ob q => Heap.get?_push_of_some _ q) (Nat.le_refl _) ?_, rfl, q _ (I5.hok.fresh (Nat.le_refl _))⟩
    exact ⟨by rw [List.length_reverse]; exact hz, _, r.reverse, IsTup.new _ _⟩
theorem PE.or' {t u : TE} (h1 : PE X e t) (h2 : PE X e u) : PE X e (fun σ H Q => t σ H Q ∨ u σ H Q) := ⟨fun pins s σ H Q I h => h.elim (h1.run pins s σ H Q I) (h2.run pins s σ H Q I)⟩
theorem se_sls (o : XO0 G k X) {es : Expr} {p3 : Pos} (ha : PE X e (EE G T F a)) (hs : PE X es (EE G T F st)) : PE X (.Subscript e (.Slice none none (some es) p3) pos) (EE G T F (.sls a st)) := by
  refine PE.weak (PE.or' (pe_stepL ha (po_so hs)) (pe_stepT ha (po_so hs))) fun σ H Q ⟨C, s, r, s', hH, rl, ev, kk⟩ => ?_
  unfold evalE at ev
  obtain ⟨x, s1, e1, ev⟩ := bind_ok ev
  obtain ⟨y, s2, e2, ev⟩ := bind_ok ev
  cases y with
  | int j =>
    simp only at ev
    obtain ⟨ev, rfl⟩ := opt_ok ev
    cases q : deref s' (opnd x) with
    | lst xs =>
      refine .inl ?_
      show EE G T F a σ H (fun x H1 => (tP G (evalVs T F [st])) σ H1 fun o H2 => _)
      refine EE_of_op hH rl e1 fun C1 v l1 r1 o1 => ⟨C1, s1, [.int j], _, some j, rfl, r1, by unfold evalVs; rw [e2]; rfl, rfl, fun C2 l2 r2 => ?_⟩
      have hx := deref_ok r2 (OR.mono l2 o1) (fun w => by rw [q] at w; cases w)
      rw [q] at hx ev
      obtain ⟨p, ys, rfl, hp, hr⟩ := hx
      unfold vstep at ev
      simp only at ev
      refine ⟨p, ys, rfl, SqL.of hp, ?_⟩
      split at ev
      · rename_i h1
        cases ev
        exact .inl ⟨by rw [h1], fun l hn => out_l r2 hr hn fun C3 z l3 r3 h3 => kk C3 z ((l1.trans l2).trans l3) r3 h3⟩
      · split at ev
        · rename_i h1
          cases ev
          exact .inr ⟨by rw [h1], fun l hn => out_l r2 hr.reverse hn fun C3 z l3 r3 h3 => kk C3 z ((l1.trans l2).trans l3) r3 h3⟩
        · cases ev
    | tup xs =>
      refine .inr ?_
      show EE G T F a σ H (fun x H1 => (tP G (evalVs T F [st])) σ H1 fun o H2 => _)
      refine EE_of_op hH rl e1 fun C1 v l1 r1 o1 => ⟨C1, s1, [.int j], _, some j, rfl, r1, by unfold evalVs; rw [e2]; rfl, rfl, fun C2 l2 r2 => ?_⟩
      have hx := deref_ok r2 (OR.mono l2 o1) (fun w => by rw [q] at w; cases w)
      rw [q] at hx ev
      have hx0 := hx
      obtain ⟨p, ys, rfl, hp, hr⟩ := hx.tup
      unfold vstep at ev
      simp only at ev
      refine ⟨p, ys, rfl, by rw [o.K]; exact hp, ?_⟩
      split at ev
      · rename_i h1
        cases ev
        exact .inl ⟨by rw [h1], kk C2 _ (l1.trans l2) r2 (show VR G C2 (.tup xs) _ from hx0)⟩
      · split at ev
        · rename_i h1
          cases ev
          exact .inr ⟨by rw [h1], fun l hn => out_t r2 hr.reverse hn fun C3 z l3 r3 h3 => kk C3 z ((l1.trans l2).trans l3) r3 h3⟩
        · cases ev
    | _ => rw [q] at ev; cases ev
  | _ => cases ev
/-! ### calls -/
theorem se_dsp0 : PE X (.Dict [] [] pos) (EE G T F (.dsp [])) := by
  refine PE.weak pe_dnewK fun σ H Q ⟨C, s, r, s', hH, rl, ev, kk⟩ => ?_
  unfold evalE at ev
  unfold evalVs at ev
  cases ev
  subst hH
  exact fun p n => out_d rl VRk.nil n kk
/-- a def of the text, as it is called by name: its place id in the table -/
structure Have (G : Gl) (F : Call) (P : Program) (w : World) (K : PySem.W.Frag) (mg : Str → Option Value) (base : Heap) (k : Nat) (x : Str) (id np : Nat) : Prop where
  ex : ∃ f fd ps, FnG P w K mg base k f fd ps (spI G F id np) ∧ mg x = some (.ref f) ∧ PySem.W.keepIn K (.ref f) = true ∧ Binds K fd ps []
theorem call_ok {f np : Nat} {as : List IE} {Q : VK} {σ : L2.St} {H : Hp} (hn : as.length = np) (h : EE G T F (.fn f as []) σ H Q) : tGo (spI G F f np) [] (tVs G (evalVs T F as)) σ H Q := by
  obtain ⟨C, s, x, s', hH, rl, ev, kk⟩ := h
  unfold evalE at ev
  obtain ⟨vs, s1, e1, ev⟩ := bind_ok ev
  have hl := Vs_len _ _ _ _ e1
  unfold permV at ev
  cases q : F f vs s1.h with
  | bad => rw [q] at ev; cases ev
  | exc c v s => rw [q] at ev; cases ev
  | ok r s2 =>
    rw [q] at ev
    simp only [R.back, R.ok.injEq] at ev
    obtain ⟨rfl, rfl⟩ := ev
    refine ⟨C, s, vs, s1, hH, rl, e1, fun C1 ws l1 r1 h1 => ?_⟩
    show spI G F f np (ws ++ []) C1.H Q
    rw [List.append_nil]
    refine ⟨by rw [← h1.length, hl, hn], C1.keep (Own s1 σ), vs, s1.h, r, s2, rfl, r1.enter, h1.mono0 lv_keep, q, fun C2 v l2 r2 h2 => ?_⟩
    exact kk { C2 with rs := C1.rs } v (l1.trans (le_back l2)) (r1.leave (e2 := []) (h2 := s2.h) (σ2 := []) l2 r2) (show VR G { C2 with rs := C1.rs } r v from h2.mono0 lv_rs)
theorem se_fn (o : XO G k X) {x : Str} {f np k' : Nat} (hv : Have G F X.prog X.w X.K X.mg X.base k' x f np) (hk : k' ≤ k) (hg : L2.Gl X x) (ha : PA X (e :: es) (tVs G (evalVs T F as))) (hn : as.length = np := by rfl)
    (hdb : (x == ("__debug__" : Str)) = false := by decide) (st1 : starEach (e :: es) X.env = (false, eval e X.env) :: starEach es X.env := by rfl) (st2 : (backTo pos (starEach es X.env)).any (·.1) = false := by rfl) : PE X (.Call (.Name x p) (e :: es) [] pos) (EE G T F (.fn f as [])) := by
  obtain ⟨fa, fd, ps, h1, h2, h3, h4⟩ := hv.ex
  exact PE.weak (pg_call h1 o.gd (o.room.mono hk) h4 .nil hg h2 h3 ha hdb st1 st2) fun σ H Q h => call_ok hn h
end
end Rs
end
section
set_option maxRecDepth 100000
set_option maxHeartbeats 4000000
/-! Statements: two names at once, op=, items stored and deleted, dict methods. -/
namespace Rs
open PySem PySem.Spec PyProof.Rows L2
section
variable {G : Gl} {C C' D : Cf} {s s' : S} {σ σ' : L2.St}
/-- a fresh thing's place, if it is one -/
def notAt (y : Rv) (w v : V) : Prop := match y with
  | .f _ => w ≠ v
  | .sl _ => False
  | .v _ => True
theorem set1 (r : Rel G C s σ) {x : Rv} {v : V} {own : Bool} {u : Slot} (i : Nat) (h : RvR G C s σ x v) (e : put1 own x = some u) : ∃ C', Le C C' ∧ C'.H = C.H ∧ Rel G C' { s with e := s.e.set i u } (σ.set i (some v)) ∧
    ∀ y w, RvR G C s σ y w → (∀ l, y ≠ .sl l) → ((∃ c, x = .f c) → notAt y w v) → RvR G C' { s with e := s.e.set i u } (σ.set i (some v)) y w := by
  have keep : ∀ {C' : Cf} {u : Slot}, Le C C' → C'.H = C.H → (∀ p, C'.fz p → C.fz p ∨ ((∃ c, x = .f c) ∧ v = .ref p)) → C'.ρ = C.ρ → (∀ c, u = .own c → ∃ c, x = .f c) → ∀ y w, RvR G C s σ y w → (∀ l, y ≠ .sl l) → ((∃ c, x = .f c) → notAt y w v) → RvR G C' { s with e := s.e.set i u } (σ.set i (some v)) y w := fun {C' u} l hH hf hρ hu y w hy hl hn => by
    cases y with
    | v y => exact VR.mono l hy
    | sl j => exact absurd rfl (hl j)
    | f c =>
      obtain ⟨p, rfl, a, f, un, d⟩ := hy
      have hn : (∃ c, x = .f c) → V.ref p ≠ v := hn
      refine ⟨p, rfl, by rw [hH]; exact a.mono l, ⟨fun z => (hf p z).elim f.fz fun z => hn z.1 z.2.symm, by rw [l.kp]; exact f.kp, by rw [hρ]; exact f.ρ, by rw [l.rs]; exact f.rs⟩, un, fun j c' h' => ?_⟩
      rcases set_val h' with ⟨rfl, e, hi⟩ | ⟨e, h'⟩
      · rw [List.getElem?_set_self (by rw [← r.len]; exact hi)]
        intro z
        cases z
        exact hn (hu _ e.symm) rfl
      · rw [List.getElem?_set_ne e]
        exact d j c' h'
  cases own with
  | false =>
    obtain ⟨y, e2, rfl⟩ := Option.map_eq_some_iff.mp (show (freeze x).map Slot.val = some u from e)
    cases x with
    | sl j => cases e2
    | v x =>
      cases e2
      exact ⟨C, .refl C, rfl, r.setV h, keep (.refl C) rfl (fun p z => .inl z) rfl fun c z => by cases z⟩
    | f c =>
      cases e2
      obtain ⟨p, rfl, a, f, un, d⟩ := h
      exact ⟨C.ice p, .ice, rfl, (r.ice f a.nt d).setV (imm_ok a un), keep .ice rfl (fun q z => z.imp id fun z => ⟨⟨c, rfl⟩, by rw [z]⟩) rfl fun c z => by cases z⟩
  | true =>
    cases x with
    | sl j => cases e
    | v x => cases e
    | f c =>
      cases e
      obtain ⟨p, rfl, a, f, un, d⟩ := h
      exact ⟨C, .refl C, rfl, r.setO a f fun j c h _ => d j c h, keep (.refl C) rfl (fun p z => .inl z) rfl fun c' _ => ⟨c, rfl⟩⟩
end
section
variable {G : Gl} {T : Tab} {F : Call} {k : Nat} {X : Cx} {e ea eb eo ei ev : Expr} {pos tpos py px pt apos cpos : Pos} {a b c o : IE} {y z : Str}
theorem RvR.new {C : Cf} {s : S} {σ : L2.St} {y : Rv} {w : V} {p : Addr} {u : HO} (h : RvR G C s σ y w) (n : C.H p = none) : RvR G (C.new p u) s σ y w := by
  cases y with
  | v y => exact VR.mono (Le.new n) h
  | sl l => exact h
  | f c =>
    obtain ⟨q, rfl, a, f, un, d⟩ := h
    refine ⟨q, rfl, ?_, ⟨f.fz, f.kp, f.ρ, f.rs⟩, un, d⟩
    show CR G _ c (upd C.H p u q)
    rw [upd_ne fun z => a.tr (by rw [z]; exact n)]
    exact a.mono (Le.new n)
theorem par_core {i j : Nat} {oi oj : Bool} {D : Ends} {σ : L2.St} {H : Hp} (h : SS G T F (.par i j oi oj a b) D σ H) : EE G T F a σ H fun x H1 => EE G T F b σ H1 fun y H2 => D.nx ((σ.set i (some x)).set j (some y)) H2 ∧ ∀ p u, H2 p = none → D.nx ((σ.set i (some x)).set j (some y)) (upd H2 p u) := by
  obtain ⟨C, s, fl, s', hH, rl, e, kk⟩ := h
  unfold execS at e
  obtain ⟨x, s1, e1, e⟩ := bind_ok e
  obtain ⟨y, s2, e2, e⟩ := bind_ok e
  cases q1 : put1 oi x with
  | none => simp [q1] at e
  | some u =>
    cases q2 : put1 oj y with
    | none => simp [q1, q2] at e
    | some t =>
      simp only [q1, q2, R.ok.injEq] at e
      obtain ⟨rfl, rfl⟩ := e
      have ny : ∀ l, y ≠ .sl l := fun l z => by subst z; cases oj <;> cases q2
      refine ⟨C, s, x, s1, hH, rl, e1, fun C1 v l1 r1 h1 => ?_⟩
      -- behind both
      have fin : ∀ {C2 : Cf} {w : V}, Le C C2 → Rel G C2 s2 σ → RvR G C2 s2 σ x v → RvR G C2 s2 σ y w → ((∃ c, x = .f c) → notAt y w v) → D.nx ((σ.set i (some v)).set j (some w)) C2.H := fun {C2 w} l r hx hy hn => by
        obtain ⟨C3, l3, e3, r3, k3⟩ := set1 r i hx q1
        obtain ⟨C4, l4, e4, r4, _⟩ := set1 r3 j (k3 y w hy ny hn) q2
        rw [← e3, ← e4]
        exact kk C4 _ ((l.trans l3).trans l4) r4
      have fin2 : ∀ {C2 : Cf} {w : V}, Le C C2 → Rel G C2 s2 σ → RvR G C2 s2 σ x v → RvR G C2 s2 σ y w → ((∃ c, x = .f c) → notAt y w v) → D.nx ((σ.set i (some v)).set j (some w)) C2.H ∧ ∀ p u, C2.H p = none → D.nx ((σ.set i (some v)).set j (some w)) (upd C2.H p u) := fun {C2 w} l r hx hy hn =>
        ⟨fin l r hx hy hn, fun p u n => fin (C2 := C2.new p u) (l.trans (Le.new n)) (r.new n) (hx.new n) (hy.new n) hn⟩
      cases x with
      | sl l => cases oi <;> cases q1
      | v x =>
        exact ⟨C1, s1, y, s2, rfl, r1, e2, fun C2 w l2 r2 h2 => fin2 (l1.trans l2) r2 (VR.mono l2 h1) h2 fun ⟨c, z⟩ => by cases z⟩
      | f c =>
        obtain ⟨p, rfl, a, f, un, d⟩ := h1
        refine ⟨C1.keep (· = p), s1, y, s2, rfl, r1.keepOne f a.nt d, e2, fun C2 w l2 r2 h2 => ?_⟩
        have kp : C2.rs p := by rw [l2.rs]; exact .inr rfl
        have r3 : Rel G { C2 with rs := C1.rs } s2 σ := r2.unkeep fun q z => by rw [l2.rs]; exact .inl z
        refine fin2 (C2 := { C2 with rs := C1.rs }) (l1.trans (le_back l2)) r3 ⟨p, rfl, ?_, ⟨fun z => r2.fzkp p z (.inr kp), fun z => f.kp (by rw [show C2.kp = C1.kp from l2.kp] at z; exact z), fun z => ?_, f.rs⟩, un, fun m c' h' z => ?_⟩ ?_ ?_
        · cases q : C1.H p with
          | none => exact absurd q a.tr
          | some o =>
            show CR G _ c (C2.H p)
            rw [l2.hk p (.inr (.inr rfl)) o q, ← q]
            exact a.mono (le_back l2)
        · obtain ⟨n, hn, e3⟩ := List.getElem_of_mem (show p ∈ C2.ρ from z)
          have h1 : n < s2.h.length := by rw [r2.hlen]; exact hn
          exact (r2.cell n _ p (List.getElem?_eq_getElem h1) (by rw [List.getElem?_eq_getElem hn, e3])).2.2.2 kp
        · obtain ⟨q, a', _, _, _, g⟩ := r2.own m c' h'
          rw [z] at a'
          cases a'
          exact g.2 kp
        · cases y with
          | sl l => exact absurd rfl (ny l)
          | v y => exact VR.mono0 lv_rs h2
          | f c2 =>
            obtain ⟨q, rfl, a2, f2, un2, d2⟩ := h2
            exact ⟨q, rfl, a2.mono0 lv_rs, ⟨f2.fz, f2.kp, f2.ρ, fun z => f2.rs (by rw [l2.rs]; exact .inl z)⟩, un2, d2⟩
        · intro _
          cases y with
          | sl l => exact absurd rfl (ny l)
          | v y => trivial
          | f c2 =>
            obtain ⟨q, rfl, a2, f2, un2, d2⟩ := h2
            intro z
            cases z
            exact f2.rs kp
theorem pairA {ta tb : TE} (ha : PE X ea ta) (hb : PE X eb tb) (h1 : starEach [ea, eb] X.env = (false, eval ea X.env) :: starEach [eb] X.env := by rfl) (h2 : starEach [eb] X.env = (false, eval eb X.env) :: starEach [] X.env := by rfl) : PA X [ea, eb] (tCons ta (tCons tb tNil)) := pa_cons ha (pa_cons hb pa_nil h2) h1
/-- two local names at once, stored from the right -/
theorem ss_par (ox : XO0 G k X) (i j : Nat) (oi oj : Bool) {kt k2 : Nat} {pt2 : Pos} (ha : PE X ea (EE G T F a)) (hb : PE X eb (EE G T F b)) (hw : swappedStores [.Tuple [.Name y px, .Name z py] kt pt] (.Tuple [ea, eb] k2 pt2) X.env = pure (some [y, z])) (hi : X.N[i]? = some y := by rfl) (hj : X.N[j]? = some z := by rfl) (hij : i ≠ j := by decide)
    (hx : X.env.scope.names.lookup y = some .local := by rfl) (hy : X.env.scope.names.lookup z = some .local := by rfl) (hs : swapsWithSole [.Tuple [.Name y px, .Name z py] kt pt] (.Tuple [ea, eb] k2 pt2) pos.line X.env = pure false := by rfl)
    (h1 : starEach [ea, eb] X.env = (false, eval ea X.env) :: starEach [eb] X.env := by rfl) (h2 : starEach [eb] X.env = (false, eval eb X.env) :: starEach [] X.env := by rfl) :
    PS X (.Assign [.Tuple [.Name y px, .Name z py] kt pt] (.Tuple [ea, eb] k2 pt2) pos) (SS G T F (.par i j oi oj a b)) :=
  PS.weak (ps_par ox.calm ox.nd hi hj hij hx hy (pairA ha hb h1 h2) hw hs) fun D σ H h => by
    obtain ⟨C, s, x, s', hH, rl, e1, kk⟩ := par_core h
    refine ⟨C, s, x, s', hH, rl, e1, fun C1 v l1 r1 q1 => ?_⟩
    obtain ⟨C2, s2, y, s3, hH2, rl2, e2, kk2⟩ := kk C1 v l1 r1 q1
    refine ⟨C2, s2, y, s3, hH2, rl2, e2, fun C3 w l3 r3 q3 => ?_⟩
    exact ⟨v, w, rfl, (kk2 C3 w l3 r3 q3).1⟩
/-! ### op= -/
def iopr : Bop → Operator
  | .add => .Add | .sub => .Sub | .mul => .Mult | .fdiv => .FloorDiv | .mod => .Mod | .pow => .Pow
/-! ### items stored -/
theorem pset_any : PSet X (fun o i v H Q => ∃ t : TSet, PSet X t ∧ t o i v H Q) := fun pins s σ H o i v ov iv u Q I ro ri rv ⟨_, h, q⟩ => h pins s σ H o i v ov iv u Q I ro ri rv q
theorem gt_sub (ox : XO0 G k X) (ho : PE X eo (EE G T F o)) (hi : PE X ei (EE G T F b)) (hr : ∀ v, assign (.Subscript eo ei pos) X.env v = (do
      let ov ← holding [v] (eval eo X.env)
      let iv ← holding [v, ov] (eval ei X.env)
      standAt pos
      holding [v, ov, iv] (setItem ov iv v)
      release [v, ov, iv] []) := by intro _; rfl) : PG X (.Subscript eo ei pos) (gT G T F (.sub o b)) := by
  refine PG.weak (pg_sub ho hi pset_any hr) fun v σ H Q ⟨C, s, x, s', hH, rl, h, ev, kk⟩ => ?_
  unfold tgtSet at ev
  obtain ⟨y, s1, e1, ev⟩ := bind_ok ev
  obtain ⟨j, s2, e2, ev⟩ := bind_ok ev
  show EE G T F o σ H fun o H1 => EE G T F b σ H1 fun i H2 => ∃ t : TSet, PSet X t ∧ t o i v H2 fun H3 => Q σ H3
  refine EE_of_op hH rl e1 fun C1 w l1 r1 o1 => EE_of_val rfl r1 e2 fun C2 iv l2 r2 h2 => ?_
  have o2 := OR.mono l2 o1 (s' := s2)
  have hv := h.mono (l1.trans l2)
  cases q : deref s2 (opnd y) with
  | lst xs =>
    rw [q] at ev
    simp only at ev
    cases j with
    | int j =>
      simp only at ev
      cases q2 : ixN xs.length j with
      | none => simp [q2] at ev
      | some n =>
        simp only [q2] at ev
        obtain ⟨s3, s4, e3, ev2⟩ := bind_ok ev
        clear ev
        obtain ⟨e4, rfl⟩ := opt_ok e3
        clear e3
        have e3 := e4
        cases ev2
        obtain ⟨p, ys, rfl, hp, hr, kl⟩ := loc_lst r2 o2 e3 q
        unfold VR at h2
        subst h2
        obtain ⟨l3, r3⟩ := kl (.lst (ys.set n v)) ⟨_, rfl, VRs.set hv n hr⟩
        exact ⟨_, set_list, p, ys, j, n, rfl, rfl, hp, by rw [← hr.length]; exact q2, kk _ σ ((l1.trans l2).trans l3) r3⟩
    | _ => cases ev
  | dct kvs =>
    rw [q] at ev
    simp only at ev
    cases q2 : keyV j with
    | none => simp [q2] at ev
    | some n =>
      simp only [q2] at ev
      split at ev
      · rename_i hz
        obtain ⟨s3, s4, e3, ev2⟩ := bind_ok ev
        clear ev
        obtain ⟨e4, rfl⟩ := opt_ok e3
        clear e3
        have e3 := e4
        cases ev2
        obtain ⟨p, ys, rfl, hp, hr, kl⟩ := loc_dct r2 o2 e3 q
        cases keyV_ok h2.nr q2
        obtain ⟨l3, r3⟩ := kl (.dK (putK ys n v)) ⟨_, rfl, hr.put hv⟩
        exact ⟨_, set_dict (by have := ox.room.un; omega), p, _, rfl, DPut.k hp (by rw [← hr.length]; exact hz), kk _ σ ((l1.trans l2).trans l3) r3⟩
      · cases ev
  | _ => rw [q] at ev; cases ev
end
end Rs
end
section
set_option maxRecDepth 100000
set_option maxHeartbeats 4000000
/-! Methods of dicts. -/
namespace Rs
open PySem PySem.Spec PyProof.Rows L2
section
variable {G : Gl} {T : Tab} {F : Call} {k : Nat} {X : Cx} {e f eo : Expr} {pos apos cpos : Pos} {a b c : IE}
end
end Rs
end
section
set_option maxRecDepth 100000
set_option maxHeartbeats 4000000
/-! Comprehensions over a dict that a name holds. -/
namespace Rs
open PySem PySem.Spec PyProof.Rows L2
section
variable {G : Gl} {C D : Cf} {s : S} {σ : L2.St}
theorem Rel.lv {C' : Cf} (r : Rel G C s σ) (l : Lv C C') (hρ : C'.ρ = C.ρ) (hfz : C'.fz = C.fz) (hkp : C'.kp = C.kp) (hrs : C'.rs = C.rs) (hH : ∀ p, ¬ C.fz p → C'.H p = C.H p) (ht : LamX.Tabs G.T C'.H) : Rel G C' s σ where
  len := r.len
  env := fun i x h => let ⟨v, a, b⟩ := r.env i x h; ⟨v, a, b.mono0 l⟩
  own := fun i c h => by
    obtain ⟨p, a, b, d, e, f⟩ := r.own i c h
    exact ⟨p, a, by rw [hH p d]; exact b.mono0 l, by rw [hfz]; exact d, by rw [hρ]; exact e, by rw [hkp]; exact f.1, by rw [hrs]; exact f.2⟩
  apart := r.apart
  hlen := by rw [hρ]; exact r.hlen
  nd := by rw [hρ]; exact r.nd
  cell := fun n c p h1 h2 => by
    rw [hρ] at h2
    obtain ⟨a, b, d⟩ := r.cell n c p h1 h2
    exact ⟨by rw [hH p b]; exact a.mono0 l, by rw [hfz]; exact b, by rw [hkp]; exact d.1, by rw [hrs]; exact d.2⟩
  fztr := fun p z => by rw [hfz] at z; exact (l.hf p z).tr (r.fztr p z)
  kptr := fun p z => by
    rw [hkp, hrs] at z
    rw [hH p fun y => r.fzkp p y z]
    exact r.kptr p z
  fzkp := fun p z y => r.fzkp p (by rw [← hfz]; exact z) (by rw [← hkp, ← hrs]; exact y)
  tabs := ht
theorem keeps_lock {od : Obj} {ks : List (Key × V)} : Keeps (some (.dK ks)) (some (.frz od (.dK ks))) where
  l := fun _ z => by cases z
  t := fun _ z => by cases z
  r := fun u n z => by
    rcases z with z | ⟨b, z⟩
    · cases z; exact .inr ⟨od, rfl⟩
    · cases z
  f := fun _ z => by cases z
  tr := fun _ => ⟨_, rfl, fun ps z => nomatch z⟩
theorem lv_at {d : Addr} {o : HO} (h : Keeps (C.H d) (some o)) : Lv C (C.put d o) where
  ρ := List.prefix_rfl
  fz := fun _ h => h
  hf := fun p _ => by
    by_cases e : p = d
    · subst e
      show Keeps (C.H p) (upd C.H p _ p)
      rw [upd_same]
      exact h
    · exact .of fun u z => by
        show upd C.H d _ p = _
        rw [upd_ne e]
        exact z
end
section
variable {G : Gl} {T : Tab} {F : Call} {k : Nat} {X : Cx} {tg e : Expr} {pos : Pos}
theorem PE.or {t u : TE} (h1 : PE X e t) (h2 : PE X e u) : PE X e (fun σ H Q => t σ H Q ∨ u σ H Q) := ⟨fun pins s σ H Q I h => h.elim (h1.run pins s σ H Q I) (h2.run pins s σ H Q I)⟩
end
end Rs
end
section
set_option maxRecDepth 100000
set_option maxHeartbeats 4000000
/-! Comparing lists that hold cells. -/
namespace Rs
open PySem PySem.Spec PyProof.Rows L2
section
variable {G : Gl} {T : Tab} {F : Call} {k : Nat} {X : Cx} {ea eb : Expr} {pos : Pos} {a b : IE}
/-- v reads as d, in any state of this heap -/
def RdV (X : Cx) (H : Hp) (v : V) (d : PyData) : Prop := ∀ (pins : List (Addr × Obj)) (σ : L2.St) (s : Shared) (u : Value), Inv X pins σ H s → RelV v u → ∃ as, Reads s.heap u d as ∧ sysModules ∉ as
end
end Rs
end
section
set_option maxRecDepth 100000
set_option maxHeartbeats 4000000
/-! The head: what the top wrote, read by names; the end of a law. -/
namespace Rs
open PySem PySem.Spec PyProof.Rows L2
/-! ### facts of the written part, with the modules' dict -/
def sysB (K : PySem.W.Frag) : Bool := match K.lookup sysModules with
  | some ⟨.type c, _, _, _⟩ => decide (c = "dict")
  | _ => false
def asR (g : Addr → Option Obj) (n : Nat) : List Addr := sysModules :: He.asD g n
abbrev AlR : Type := Bool × He.AlD
def obsR (n : Nat) (fa : List He.Fa) (fn : List He.DefD) (g : Addr → Option Obj) : AlR := (sysB (He.frG g (asR g n)), He.obsD fa fn (He.frG g (asR g n)))
def hookR (n : Nat) (fa : List He.Fa) (fn : List He.DefD) : PySem.W.Hook where
  α := AlR
  obs := fun s => obsR n fa fn s.heap.get?
  val := fun _ => (true, He.valD fn)
  says := fun _ h => ∃ K : PySem.W.Frag, K.In h ∧ sysB K = true ∧ He.SaysD fa fn K
  of := fun _ _ e => ⟨_, He.frG_in, congrArg Prod.fst e, congrArg Prod.snd e⟩
  keeps := fun _ _ _ ⟨K, hK, b, c⟩ k => ⟨K, PySem.W.Frag.In.keeps hK k, b, c⟩
theorem obsR_eq {n : Nat} {fa : List He.Fa} {fn : List He.DefD} {g : Addr → Option Obj} {s : Shared} (h : ∀ a, g a = s.heap.get? a) : obsR n fa fn g = (hookR n fa fn).obs s := by
  have e : g = s.heap.get? := funext h
  subst e
  rfl
theorem sys_ok {G : Gl} (h : sysB G.K = true) : G.Sys := by
  unfold sysB at h
  split at h
  · rename_i c _ _ _ hl
    exact ⟨_, hl, congrArg Value.type (of_decide_eq_true h)⟩
  · cases h
/-! ### a law's end -/
theorem fin_call {P : Program} {w : World} {K : PySem.W.Frag} {mg mb : Str → Option Value} {k : Nat} {fa a : Addr} {fd : FuncData} {x : Str} {sp : SpG} {s₁ : Shared} {vs : List Value} {ns : List Int}
    (inK : K.In s₁.heap) (gns : s₁.heap.Ns mainGlobals mg) (bns : s₁.heap.Ns builtinsNs mb) (bok : ∀ x : Str, x ≠ "__name__" → mb x = bootBuiltins x) (nolim : s₁.heap.NoLimit) (ngen : s₁.gens = #[])
    (at_ : s₁.heap.get? a = some { cls := .type "list", data := .seq vs.toArray }) (isI : IntsAre vs ns) (few : ns.length ≤ sizeLine) (room : Room k callerA)
    (Fn : ∀ base : Heap, K.In base → base.Ns mainGlobals mg → FnG P w K mg base k fa fd [x] sp) (bind : ∀ (s : Shared) (u : Value), BindsTo s fd ⟨[u], []⟩ [(x, u)])
    (prom : ∀ H : Hp, Only H → SqL K H a (ns.map V.int) → sp [.ref a] H fun v _ => v = .bl true) :
    codeAny (model P w) callerA (.call (.ref fa) ⟨[.ref a], []⟩) (fun r s' => r = .ok (.ret (.bool true)) ∧ OldK s₁.heap s'.heap ∧ s'.os = s₁.os ∧ AllBare s'.gens) s₁ := by
  have rel := vals_ints isI
  have len := isI.length
  have main : ∀ H : Hp, Only H → SqL K H a (ns.map V.int) → HOk P w H s₁.heap → (∀ b, H b ≠ none → b = a) → (H a ≠ none → K.lookup a = none) →
      codeAny (model P w) callerA (.call (.ref fa) ⟨[.ref a], []⟩) (fun r s' => r = .ok (.ret (.bool true)) ∧ OldK s₁.heap s'.heap ∧ s'.os = s₁.os ∧ AllBare s'.gens) s₁ := by
    intro H only seq hok one apart
    have notIt : ∀ {b : Addr} {o : Obj} {es : Array DictEntry} {ep : Nat}, s₁.heap.get? b = some o → o.data = .dict es ep → H b = none := fun {b o es ep} e d => by
      cases q : H b with
      | none => rfl
      | some u =>
        have z : b = a := one b (by rw [q]; simp)
        rw [z, at_] at e
        cases e
        have d2 : Data.seq vs.toArray _ = Data.dict es ep := d
        cases d2
    have nsT : ∀ {b : Addr} {m : Str → Option Value}, s₁.heap.Ns b m → (hidT s₁.heap H).Ns b m := fun {b m} ⟨o, es, ep, e, d, r⟩ => ⟨o, es, ep, hidT_get e (notIt e d), d, r⟩
    have inT : K.In (hidT s₁.heap H) := fun b o e => hidT_get (inK b o e) (by
      cases q : H b with
      | none => rfl
      | some u =>
        have z : b = a := one b (by rw [q]; simp)
        rw [z, apart (by rw [← z, q]; simp)] at e
        cases e)
    have M : Mod K mg (hidT s₁.heap H) := ⟨inT, nsT gns, ⟨mb, nsT bns, bok⟩, let ⟨mc, h1, h2⟩ := nolim; ⟨mc, nsT h1, h2⟩⟩
    have E : Env0 P w K mg (hidT s₁.heap H) callerA [] s₁ H := ⟨rfl, M, fun b o e => of_hidT e, Nat.le_of_eq (hidT_size _ _), trivial, fun b hb => absurd (show b ∈ ([] : List Addr) from hb) (by simp), hok, .of_eq ngen⟩
    refine codeAny_mono ((Fn _ inT (nsT gns)).run callerA [] s₁ H ⟨[.ref a], []⟩ [.ref a] [.ref a] _ rfl room E (bind s₁ (.ref a)) (.cons rfl .nil) (prom H only seq)) fun r s' h => ?_
    obtain ⟨u, rfl, v, H', os, bare, un, hok', ru, q⟩ := h
    have q : v = .bl true := q
    subst q
    obtain rfl : u = Value.bool true := ru
    refine ⟨rfl, OldK.of_keep fun b o e => ?_, os, bare⟩
    cases z : H b with
    | none => exact un.keep b o e z (fun y => absurd (show b ∈ ([] : List Addr) from y) (by simp)) (by simp)
    | some u =>
      rcases only b with y | ⟨ob, xs, y⟩
      · rw [z] at y; cases y
      · obtain ⟨e1, _⟩ := hok b _ y
        obtain ⟨e2, _⟩ := hok' b _ (un.frzs b ob _ y)
        rw [e] at e1
        cases e1
        exact e2
  cases hk : K.lookup a with
  | some o =>
    have e := inK a o hk
    rw [at_] at e
    cases e
    exact main (fun _ => none) (fun _ => .inl rfl) (.inr ⟨_, vs.toArray, _, hk, rfl, rfl, rfl, by rw [List.size_toArray, len]; exact few, by simpa using rel⟩) (fun b u z => nomatch (show (none : Option HO) = some u from z)) (fun b z => absurd rfl z) fun z => absurd rfl z
  | none =>
    have there : ∀ b u, (if b = a then some (HO.frz { cls := .type "list", data := .seq vs.toArray } (.lst (ns.map V.int))) else none) = some u → b = a ∧ u = .frz { cls := .type "list", data := .seq vs.toArray } (.lst (ns.map V.int)) := fun b u z => by
      by_cases hb : b = a
      · rw [if_pos hb] at z; cases z; exact ⟨hb, rfl⟩
      · rw [if_neg hb] at z; cases z
    refine main (fun b => if b = a then some (.frz { cls := .type "list", data := .seq vs.toArray } (.lst (ns.map V.int))) else none) (fun b => ?_) (.inl (.inr ⟨_, if_pos rfl⟩)) (fun b u z => ?_) (fun b z => ?_) fun _ => hk
    · by_cases hb : b = a
      · exact .inr ⟨_, _, if_pos hb⟩
      · exact .inl (if_neg hb)
    · obtain ⟨rfl, rfl⟩ := there b u z
      exact ⟨at_, by rw [List.length_map]; exact few, vs, _, rel, at_⟩
    · by_cases hb : b = a
      · exact hb
      · exact absurd (if_neg hb) z
theorem walk_R {l : PySem.W.OpenLaw} {n k : Nat} {q : Program} {loose : List Str} {XP : (Str → Option Value) → Heap → Prop} {YP : World → Heap → Prop} {d : DefRec} {x : Str} (hn : l.most = some n) (hn2 : n ≤ sizeLine) (hdf : d.params.defaults = []) (hr : Room k callerA)
    (F : ∀ (w : World) (mg : Str → Option Value) (fa : Addr) (h : Heap), YP w h → h.Ns mainGlobals mg → mg d.name = some (.ref fa) →
      ∃ (K : PySem.W.Frag) (fd : FuncData) (sp : SpG), K.In h ∧ (∀ (s : Shared) (u : Value), BindsTo s fd ⟨[u], []⟩ [(x, u)]) ∧ (∀ (H : Hp) (a : Addr) (ns : List Int), ns.length ≤ n → Only H → SqL K H a (ns.map V.int) → sp [.ref a] H fun v _ => v = .bl true) ∧
        ∀ base : Heap, K.In base → base.Ns mainGlobals mg → FnG l.prog w K mg base k fa fd [x] sp) :
    PySem.W.WalkO q loose XP YP l.row.toRowW d [] (fun f vs => PySem.call f vs) := by
  refine Att.attach_call hn hdf fun w s₀ s₁ mg mb fa o pm cd doc a vs ns G Y ho hd hcd hmg hobj hints hlen hg => ?_
  obtain ⟨K, fd, sp, h1, h2, h3, h4⟩ := F w mg fa _ Y G.T.g hmg
  exact fin_call h1 G.T.g G.T.b G.T.builtins G.T.nolimit hg hobj hints (Nat.le_trans hlen hn2) hr h4 h2 fun H hO hS => h3 H a ns hlen hO hS
/-- the law's promise from the interpreter's answer -/
theorem law_end {G : Gl} {F : Call} {id : Nat} {ns : List Int} {s2 : S} (h : F id [.scr ns] [] = .ok (.bl true) s2) {H : Hp} {a : Addr} (seq : SqL G.K H a (ns.map V.int)) (tb : LamX.Tabs G.T H := by exact fun p hp => nomatch (show p ∈ ([] : List (Addr × Str)) from hp)) : spI G F id 1 [.ref a] H fun v _ => v = .bl true := by
  refine ⟨rfl, ⟨[], fun p => NT (H p), fun _ => False, fun _ => False, H⟩, [.scr ns], [], .bl true, s2, rfl, ⟨rfl, fun i x h => by simp at h, fun i x h => by simp at h, fun i j c d p h => by simp at h, rfl, .nil, fun n c p h => by simp at h, fun p h => h, fun p h => h.elim False.elim False.elim, fun p _ h => h.elim (fun h => h) fun h => h, tb⟩, VRs.cons ?_ VRs.nil, h, fun C' v l r hv => ?_⟩
  · show VR G _ (.scr ns) (.ref a)
    unfold VR
    refine ⟨a, rfl, ?_⟩
    rcases seq with h | ⟨o, its, n, h1, h2, h3, h4, h5, h6⟩
    · refine .inl ⟨?_, h⟩
      rcases h with h | ⟨o, h⟩
      · exact ⟨_, h, fun ps z => nomatch z⟩
      · exact ⟨_, h, fun ps z => nomatch z⟩
    · exact .inr ⟨o, its, n, h1, h2, h3, h4, h5, h6⟩
  · unfold VR at hv
    exact hv
/-! ### a def's own promise -/
theorem Rel.bare {G : Gl} {C : Cf} {s : S} {σ : L2.St} (r : Rel G C s σ) : Rel G C ⟨[], s.h⟩ [] where
  len := rfl
  env := fun i x h => by simp at h
  own := fun i x h => by simp at h
  apart := fun i j c d p h => by simp at h
  hlen := r.hlen
  nd := r.nd
  cell := r.cell
  fztr := r.fztr
  kptr := r.kptr
  fzkp := r.fzkp
  tabs := r.tabs
theorem spI_body {G : Gl} {T : Tab} {fs : List Fd} {n id : Nat} {d : Fd} {N : List Str} {vs : List V} {H : Hp} {Q : VK} (hd : fs[id]? = some d) (hn : N.length = d.nn) (hp : d.np ≤ d.nn) (h : spI G (callI T fs (n + 1)) id d.np vs H Q) :
    tS G (execSs T (callI T fs n) d.body) { nx := fun _ H' => Q .non H', rt := Q } (L2.start N vs) H := by
  obtain ⟨hl, C, xs, hc, r, s2, hH, rl, hx, e, kk⟩ := h
  unfold callI at e
  simp only [hd] at e
  unfold runFd at e
  have lx : xs.length = d.np := by rw [hx.length]; exact hl
  rw [if_pos lx] at e
  have env : Rel G C ⟨xs.map .val ++ List.replicate (d.nn - d.np) .no, hc⟩ (L2.start N vs) := by
    refine ⟨?_, fun i x h => ?_, fun i c h => ?_, fun i j c c2 p h => ?_, rl.hlen, rl.nd, rl.cell, rl.fztr, rl.kptr, rl.fzkp, rl.tabs⟩
    · unfold L2.start
      simp [lx, hl, hn]
    · have h : (xs.map Slot.val ++ List.replicate (d.nn - d.np) .no)[i]? = some (.val x) := h
      by_cases hi : i < xs.length
      · rw [List.getElem?_append_left (by simpa using hi), List.getElem?_map] at h
        cases q : xs[i]? with
        | none => rw [q] at h; cases h
        | some y =>
          rw [q] at h
          cases h
          obtain ⟨v, h1, h2⟩ := hx.get q
          refine ⟨v, ?_, h2⟩
          unfold L2.start
          rw [List.getElem?_append_left (by simp; rw [← hx.length]; exact hi), List.getElem?_map, h1]
          rfl
      · rw [List.getElem?_append_right (by simpa using hi), List.getElem?_replicate] at h
        split at h <;> cases h
    all_goals
      exfalso
      have h : (xs.map Slot.val ++ List.replicate (d.nn - d.np) .no)[i]? = some (.own c) := h
      by_cases hi : i < xs.length
      · rw [List.getElem?_append_left (by simpa using hi), List.getElem?_map] at h
        cases q : xs[i]? with
        | none => rw [q] at h; cases h
        | some y => rw [q] at h; cases h
      · rw [List.getElem?_append_right (by simpa using hi), List.getElem?_replicate] at h
        split at h <;> cases h
  cases q : execSs T (callI T fs n) d.body ⟨xs.map .val ++ List.replicate (d.nn - d.np) .no, hc⟩ with
  | bad => rw [q] at e; exact absurd e exOut_ne
  | exc c p s => rw [q] at e; exact absurd e exOut_ne
  | ok fl s' =>
    rw [q] at e
    refine ⟨C, _, fl, s', hH, env, q, fun C' σ' l r' => ?_⟩
    cases fl with
    | nx => cases e; exact kk C' .non l r'.bare VR.non
    | rt v => cases e; exact fun u hu => kk C' u l r'.bare hu
    | bk => cases e
    | ct => cases e
theorem xo_of {G : Gl} {P : Program} {w : World} {mg : Str → Option Value} {base : Heap} {N : List Str} {qual : Str} {scope : Scope} {f : Addr} {cd : Value} {A : Around} {outer : List Env} {s : Shared} {H : Hp} {k : Nat} (hs : G.Sys) (nd : N.Nodup) (gd : A.guards = some []) (hr : Room k (A.deeper (envOfC qual scope s.heap.objs.size f cd))) (hw : w = G.w := by rfl) :
    XO G k (cxOf CX0 P w G.K mg base N qual scope f cd A outer s H E0).nox := ⟨⟨rfl, hs, rfl, nd, hr, rfl, hw⟩, gd⟩
/-- a def keeps its promise -/
theorem fn_R {G : Gl} {T : Tab} {fs : List Fd} {n id k : Nat} {d : Fd} {P : Program} {w : World} {mg : Str → Option Value} {base : Heap} {f : Addr} {x qual : Str} {params : Arguments} {body : List Stmt} {scope : Scope} {dvs : List V} {kws : List (Str × V)} {fd : FuncData} {N ps : List Str}
    (hs : G.Sys) (F : FunD G.K x qual params body scope dvs kws f fd) (Sc : FnScope N ps scope) (hd : fs[id]? = some d) (hn : N.length = d.nn) (hp : d.np ≤ d.nn) (hps : ps.length = d.np)
    (hb : ∀ (cdv : Value) (A : Around) (outer : List Env) (s : Shared) (H : Hp), XO G k (cxOf CX0 P w G.K mg base N qual scope f cdv A outer s H E0).nox → PSs (cxOf CX0 P w G.K mg base N qual scope f cdv A outer s H E0).nox body (SSs G T (callI T fs n) d.body)) (hw : w = G.w := by rfl) :
    FnG P w G.K mg base (k + 1) f fd ps (spI G (callI T fs (n + 1)) id d.np) :=
  fnG_of F Sc (fun vs H Q h => by rw [h.1, hps]) fun cdv A outer s H gd hr _ => ⟨_, hb cdv A outer s H (xo_of hs Sc.nd gd hr hw), fun vs Q h => spI_body hd hn hp h⟩
theorem fn_0 {G : Gl} {T : Tab} {fs : List Fd} {id np k : Nat} {P : Program} {w : World} {K : PySem.W.Frag} {mg : Str → Option Value} {base : Heap} {f : Addr} {fd : FuncData} {ps : List Str} : FnG P w K mg base k f fd ps (spI G (callI T fs 0) id np) where
  len := fun vs H Q h => by obtain ⟨_, C, xs, hc, r, s2, _, _, _, e, _⟩ := h; cases e
  run := fun A outer s H args us vs Q _ _ _ _ _ h => by obtain ⟨_, C, xs, hc, r, s2, _, _, _, e, _⟩ := h; cases e
end Rs
end
section
set_option maxRecDepth 100000
set_option maxHeartbeats 4000000
/-! Instances: attributes, methods, new ones. -/
namespace Rs
open PySem PySem.Spec PyProof.Rows L2
/-! ### attributes in both readings -/
section
variable {G : Gl} {C C' : Cf}
theorem VRf.get : ∀ {fs : List (Nat × Val)} {gs : List (Str × V)} {f : Nat} {x : Val}, VRf G C fs gs → G.okf f → fs.lookup f = some x → ∃ v, gs.lookup (G.nm f) = some v ∧ VR G C x v
  | [], _, _, _, _, _, e => by cases e
  | (g, y) :: fs, gs, f, x, h, ok, e => by
    obtain ⟨w, r, rfl, og, hv, hr⟩ := h
    rw [List.lookup_cons] at e
    by_cases q : f = g
    · subst q
      simp only [beq_self_eq_true] at e
      cases e
      exact ⟨w, by simp [List.lookup_cons], hv⟩
    · have q1 : (f == g) = false := by simpa using q
      have q2 : (G.nm f == G.nm g) = false := by
        simp only [beq_eq_false_iff_ne, ne_eq]
        exact fun z => q (G.inj f g ok og z)
      rw [q1] at e
      obtain ⟨v, h1, h2⟩ := VRf.get hr ok e
      exact ⟨v, by rw [List.lookup_cons, q2]; exact h1, h2⟩
theorem VRf.len : ∀ {fs : List (Nat × Val)} {gs : List (Str × V)}, VRf G C fs gs → gs.length = fs.length
  | [], _, h => by cases h; rfl
  | (g, y) :: fs, gs, h => by
    obtain ⟨w, r, rfl, og, hv, hr⟩ := h
    simp [VRf.len hr]
theorem VRf.put {f : Nat} {x : Val} {v : V} (ok : G.okf f) (hx : VR G C x v) : ∀ {fs : List (Nat × Val)} {gs : List (Str × V)}, VRf G C fs gs → VRf G C (putFs f x fs) (putF (G.nm f) v gs)
  | [], _, h => by cases h; exact ⟨v, [], rfl, ok, hx, rfl⟩
  | (g, y) :: fs, gs, h => by
    obtain ⟨w, r, rfl, og, hv, hr⟩ := h
    unfold putFs putF
    by_cases q : g = f
    · subst q
      simp only [if_true]
      exact ⟨v, r, rfl, og, hx, hr⟩
    · have q2 : ¬ G.nm g = G.nm f := fun z => q (G.inj g f og ok z)
      simp only [q, q2, if_false]
      exact ⟨w, _, rfl, og, hv, VRf.put ok hx hr⟩
end
/-! ### what the classes have -/
structure ObjOk (G : Gl) (T : Tab) : Prop where
  cls : ∀ c f, T.fld c f = true → G.okf f ∧ Cls G.K (G.ca c) ∧ NoAttr G.K (G.ca c) (G.nm f)
section
variable {G : Gl} {T : Tab} {F : Call} {k : Nat} {X : Cx} {e eo : Expr} {es : List Expr} {pos apos cpos : Pos} {a o : IE} {as : List IE}
/-! ### calls with keywords, defaults -/
/-- how a def is bound: n values by place, keywords ks; pm: what each parameter is given -/
structure Bd (G : Gl) (fd : FuncData) (ps : List Str) (n : Nat) (ks : List Str) (pm : List (Nat ⊕ Val)) : Prop where
  ex : ∃ (gu : List Value → List Value) (gv : List V → List V),
    (∀ (s : Shared) (us ws : List Value), G.K.In s.heap → us.length = n → ws.length = ks.length → BindsTo s fd ⟨us, ks.zip ws⟩ (ps.zip (gu (us ++ ws)))) ∧
    (∀ (vs : List V) (us : List Value), Vals vs us → Vals (gv vs) (gu us)) ∧
    ∀ (C : Cf) (xs : List Val) (vs : List V), xs.length = n + ks.length → VRs G C xs vs → VRs G C (permV xs pm) (gv vs)
theorem Bd.plain {fd : FuncData} {ps : List Str} (h : Binds G.K fd ps []) : Bd G fd ps ps.length [] [] where
  ex := ⟨id, id, fun s us ws hK l1 l2 => by
    have : ws = [] := List.length_eq_zero_iff.mp l2
    subst this
    have := h s us hK (by rw [List.append_nil]; exact l1)
    simpa using this, fun vs us r => r, fun C xs vs _ r => r⟩
/-- o.m(..), o of a class of the text -/
def tM (X : Cx) (G : Gl) (m : Str) (n : Nat) (ks : List Str) (ta : TE) (t tk : TA) : TE := fun σ H Q => ta σ H fun x H1 => ∃ (a C dx : Addr) (fs : List (Str × V)) (g : Addr) (fd : FuncData) (ps : List Str) (sp : SpG) (k : Nat) (gu : List Value → List Value) (gv : List V → List V),
  x = .ref a ∧ H1 a = some (.ins C dx fs) ∧ Cls X.K C ∧ Meth X.K C m g ∧ fs.lookup m = none ∧ FnG X.prog X.w X.K X.mg X.base k g fd ps sp ∧ Room k X.A ∧
  (∀ (s : Shared) (us ws : List Value), X.K.In s.heap → us.length = n + 1 → ws.length = ks.length → BindsTo s fd ⟨us, ks.zip ws⟩ (ps.zip (gu (us ++ ws)))) ∧ (∀ (vs : List V) (us : List Value), Vals vs us → Vals (gv vs) (gu us)) ∧
  t σ H1 fun vs H2 => tk σ H2 fun zs H3 => vs.length = n ∧ zs.length = ks.length ∧ sp (gv (.ref a :: vs ++ zs)) H3 Q
theorem FnG.goK {f : Addr} {fd : FuncData} {ps ks : List Str} {sp : SpG} {k : Nat} {pins : List (Addr × Obj)} {σ : L2.St} {H : Hp} {s : Shared} {Q : VK} {us ws gus : List Value} {vs : List V} (Fn : FnG X.prog X.w X.K X.mg X.base k f fd ps sp) (gd : X.A.guards = some []) (hr : Room k X.A)
    (hb : BindsTo s fd ⟨us, ks.zip ws⟩ (ps.zip gus)) (I : Inv X pins σ H s) (r : Vals vs gus) (h : sp vs H Q) : wpAny (model X.prog X.w) X.A (call (.ref f) us (ks.zip ws)) (EP X pins σ Q) X.xe s := by
  refine wpAny_call (codeAny_mono (Fn.run X.A X.stack s H ⟨us, ks.zip ws⟩ _ _ Q gd hr I.env0 hb r h) fun r s' hq => ?_)
  obtain ⟨u, rfl, hq⟩ := hq
  exact I.after hq
end
end Rs
end
section
set_option maxRecDepth 100000
set_option maxHeartbeats 4000000
/-! isinstance of built-in types. -/
namespace Rs
open PySem PySem.Spec PyProof.Rows L2
def kName : Nat → String
  | 0 => "NoneType" | 1 => "bool" | 2 => "int" | 3 => "str" | 4 => "list" | 5 => "tuple" | _ => "dict"
/-- the built-in that asks for a type -/
def isiT : Bi → Option String
  | .isInt => some "int" | .isBool => some "bool" | .isStr => some "str" | .isTup => some "tuple" | .isLst => some "list" | .isDct => some "dict"
  | _ => none
section
variable {G : Gl} {C : Cf}
theorem kind_ty {x : Val} {v : V} (h : NR G C x v) (k : kindV x < 7) (ho : ∀ kvs, x ≠ .odd kvs) : TyX G.K C.H v (.type (kName (kindV x))) := by
  cases x with
  | non => cases h.non; exact .base .non
  | bl b => cases h.bl; exact .base (.bl b)
  | int i => cases h.int; exact .base (.int i)
  | str s => cases h.str; exact .base (.str s)
  | lst xs => obtain ⟨p, ys, rfl, hp, _⟩ := h; exact .base (.lst hp)
  | tup xs =>
    unfold NR VR at h
    obtain ⟨p, ys, rfl, hp, _⟩ := h
    rcases hp with hp | hp
    · exact .base (.tup hp.2)
    · obtain ⟨o, its, n, h1, h2, _⟩ := hp
      exact .kTuple h1 h2
  | dct kvs =>
    obtain ⟨p, ks, rfl, hp, _⟩ := h
    rcases hp with hp | ⟨b, hp⟩
    · exact .base (.dK hp)
    · exact .fDict hp
  | odd kvs => exact absurd rfl (ho kvs)
  | ref i => exact absurd (show 7 < 7 from k) (by decide)
  | scr ns =>
    obtain ⟨p, rfl, hp⟩ := h.scr
    rcases hp with hp | hp
    · rcases hp with hp | ⟨b, hp⟩
      · exact .base (.lst hp)
      · exact .base (.frz hp)
    · obtain ⟨o, its, n, h1, h2, _⟩ := hp
      exact .kList h1 h2
  | bad => exact absurd (show 8 < 7 from k) (by decide)
/-- isinstance, the first argument of any kind that a value may have -/
def rIsiV (K : PySem.W.Frag) : List V → Hp → VK → Prop := fun xs H Q => rIsi K xs H Q ∨ ∃ (a : Addr) (o : Obj) (c : V) (u : Value) (b : Bool), xs = [.ref a, c] ∧ ClsV c u ∧ H a = some (.frz o (.own 0)) ∧ o.cls = .type "dict" ∧ PySem.W.kitOne K (.type "dict") u = some b ∧ Q (.bl b) H
theorem call_isiV {X : Cx} : CallR X (.builtin "isinstance") (rIsiV X.K) := by
  intro pins s σ H xs us Q I r h
  rcases h with h | ⟨a, o, c, u, b, rfl, k, ha, hc, e, q⟩
  · exact call_isi pins s σ H xs us Q I r h
  · obtain ⟨u1, u2, rfl, r1, r2⟩ := vals2 r
    have e2 := k.eq r2
    subst e2
    cases r1
    exact PySem.W.kia_one PySem.W.kitx_dict I.kIn ⟨o, (I.hok a _ ha).1, hc⟩ e (fun z => nomatch z) fun tk => ⟨.bl b, H, I.tok tk, rfl, q⟩
theorem kit_bi {f : Bi} {T : String} (e : isiT f = some T) {x : Val} {r : Rv} (h : biop f [x] = some r) (K : PySem.W.Frag) : kindV x < 7 ∧ ∃ b, r = .v (.bl b) ∧ PySem.W.kitOne K (.type (kName (kindV x))) (.type T) = some b := by
  have hk : ∀ (p : Nat → Bool), ((if 7 ≤ kindV x then none else some (p (kindV x))) : Option Bool).map (fun b => Rv.v (.bl b)) = some r → kindV x < 7 ∧ r = .v (.bl (p (kindV x))) := fun p h => by
    by_cases q : 7 ≤ kindV x
    · rw [if_pos q] at h; cases h
    · rw [if_neg q] at h; cases h; exact ⟨by omega, rfl⟩
  cases f with
  | isInt => cases e; obtain ⟨h1, h2⟩ := hk (fun n => n == 1 || n == 2) h; exact ⟨h1, _, h2, by cases x <;> first | (exfalso; simp [kindV] at h1; done) | kernel_rfl⟩
  | isBool => cases e; obtain ⟨h1, h2⟩ := hk (fun n => n == 1) h; exact ⟨h1, _, h2, by cases x <;> first | (exfalso; simp [kindV] at h1; done) | kernel_rfl⟩
  | isStr => cases e; obtain ⟨h1, h2⟩ := hk (fun n => n == 3) h; exact ⟨h1, _, h2, by cases x <;> first | (exfalso; simp [kindV] at h1; done) | kernel_rfl⟩
  | isLst => cases e; obtain ⟨h1, h2⟩ := hk (fun n => n == 4) h; exact ⟨h1, _, h2, by cases x <;> first | (exfalso; simp [kindV] at h1; done) | kernel_rfl⟩
  | isTup => cases e; obtain ⟨h1, h2⟩ := hk (fun n => n == 5) h; exact ⟨h1, _, h2, by cases x <;> first | (exfalso; simp [kindV] at h1; done) | kernel_rfl⟩
  | isDct => cases e; obtain ⟨h1, h2⟩ := hk (fun n => n == 6) h; exact ⟨h1, _, h2, by cases x <;> first | (exfalso; simp [kindV] at h1; done) | kernel_rfl⟩
  | _ => cases e
end
section
variable {G : Gl} {T : Tab} {F : Call} {k : Nat} {X : Cx} {e : Expr} {p p2 pos : Pos} {a : IE} {tn : Str} {tT : String}
theorem se_isi (ox : XO0 G k X) {f : Bi} (hT : isiT f = some tT) (hg : L2.Gl X "isinstance") (hm : X.mg "isinstance" = none) (hg2 : L2.Gl X tn) (hm2 : X.mg tn = none) (hv2 : bootBuiltins tn = some (.type tT)) (ha : PE X e (EE G T F a))
    (hn : tn ≠ "__name__" := by decide) (hdb : (tn == ("__debug__" : Str)) = false := by decide) (hs : starEach [e, .Name tn p2] X.env = (false, eval e X.env) :: starEach [.Name tn p2] X.env := by rfl) (hs2 : starEach [.Name tn p2] X.env = (false, eval (.Name tn p2) X.env) :: starEach [] X.env := by rfl)
    (hpl : (backTo pos (starEach [.Name tn p2] X.env)).any (·.1) = false := by rfl) :
    PE X (.Call (.Name "isinstance" p) [e, .Name tn p2] [] pos) (EE G T F (.bi f [a])) := by
  refine PE.weak (pe_callB call_isiV hg hm (by decide +kernel) (pa_cons ha (pa_cons (pe_bltn hg2 hm2 hv2 (show RelV (.ty tT) (.type tT) from rfl) hn hdb) pa_nil hs2) hs) (by decide) (by decide) hs hpl) fun σ H Q ⟨C, s, x, s', hH, rl, ev, kk⟩ => ?_
  unfold evalE at ev
  obtain ⟨os, s1, e1, ev2⟩ := bind_ok ev
  clear ev
  unfold evalOs at e1
  obtain ⟨y, s2, e2, e3⟩ := bind_ok e1
  obtain ⟨ys, s3, e4, e5⟩ := bind_ok e3
  unfold evalOs at e4
  cases e4
  cases e5
  split at ev2
  · rename_i hb
    obtain ⟨ev3, hs⟩ := opt_ok ev2
    subst hs
    show EE G T F a σ H fun x H1 => rIsiV X.K [x, .ty tT] H1 Q
    refine EE_of_op hH rl e2 fun C1 v l1 r1 o1 => ?_
    have hb1 : deref s' (opnd y) ≠ .bad := fun z => by rw [List.map_cons, List.map_nil, List.all_cons, z] at hb; cases hb
    have hx := deref_ok r1 o1 hb1
    obtain ⟨h1, b, rfl, h2⟩ := kit_bi hT ev3 X.K
    by_cases ho : ∃ kvs, deref s' (opnd y) = .odd kvs
    · obtain ⟨kvs, ho⟩ := ho
      rw [ho] at hx h2
      unfold NR VR at hx
      obtain ⟨p, ob, _, _, rfl, _, _, hp, ⟨hex, _⟩, _⟩ := hx
      exact .inr ⟨p, ob, .ty tT, _, b, rfl, .ty tT, hp, hex.1, h2, kk C1 (.bl b) l1 r1 (show VR G C1 (.bl b) (.bl b) from VR.bl)⟩
    refine .inl ⟨v, .ty tT, _, _, b, rfl, .ty tT, by rw [ox.K]; exact kind_ty hx h1 fun kvs e => ho ⟨kvs, e⟩, h2, ?_⟩
    exact kk C1 (.bl b) l1 r1 (show VR G C1 (.bl b) (.bl b) from VR.bl)
  · cases ev2
end
end Rs
end
section
set_option maxRecDepth 100000
set_option maxHeartbeats 4000000
/-! Methods of the text's classes; new instances. -/
namespace Rs
open PySem PySem.Spec PyProof.Rows L2
/-- how a method is bound: itself, n values by place, keywords ks -/
structure BdM (G : Gl) (fd : FuncData) (ps : List Str) (np n : Nat) (ks : List Str) (pm : List (Nat ⊕ Val)) : Prop where
  ex : ∃ (gu : List Value → List Value) (gv : List V → List V),
    (∀ (s : Shared) (us ws : List Value), G.K.In s.heap → us.length = n + 1 → ws.length = ks.length → BindsTo s fd ⟨us, ks.zip ws⟩ (ps.zip (gu (us ++ ws)))) ∧
    (∀ (vs : List V) (us : List Value), Vals vs us → Vals (gv vs) (gu us)) ∧
    ∀ (C : Cf) (x : Val) (v : V) (xs : List Val) (vs : List V), xs.length = n + ks.length → VR G C x v → VRs G C xs vs → VRs G C (x :: permV xs pm) (gv (v :: vs)) ∧ (x :: permV xs pm).length = np
theorem BdM.plain {G : Gl} {fd : FuncData} {ps : List Str} {n : Nat} (h : Binds G.K fd ps []) (hn : ps.length = n + 1) : BdM G fd ps (n + 1) n [] [] where
  ex := ⟨id, id, fun s us ws hK l1 l2 => by
    have : ws = [] := List.length_eq_zero_iff.mp l2
    subst this
    have := h s us hK (by rw [List.append_nil, l1, hn])
    simpa using this, fun vs us r => r, fun C x v xs vs l hx r => ⟨VRs.cons hx r, by show xs.length + 1 = n + 1; rw [l]; rfl⟩⟩
/-- what the classes have of a method's name, as it is called -/
structure HaveM (G : Gl) (T : Tab) (F : Call) (P : Program) (w : World) (mg : Str → Option Value) (base : Heap) (k : Nat) (cs : List Nat) (m n : Nat) (ks : List Str) (pm : List (Nat ⊕ Val)) : Prop where
  ok : G.okf (m % 1000) ∧ G.nm (m % 1000) = G.nm m
  at_ : ∀ c id, c ∈ cs → T.mth c m = some id → Cls G.K (G.ca c) ∧ ∃ g fd ps np, Meth G.K (G.ca c) (G.nm m) g ∧ FnG P w G.K mg base k g fd ps (spI G F id np) ∧ BdM G fd ps np n ks pm
section
variable {G : Gl} {T : Tab} {F : Call} {k : Nat} {X : Cx} {e eo : Expr} {es : List Expr} {pos apos cpos : Pos} {a o : IE} {as bs : List IE}
end
end Rs
end
section
set_option maxRecDepth 100000
set_option maxHeartbeats 4000000
/-! New instances; properties. -/
namespace Rs
open PySem PySem.Spec PyProof.Rows L2
/-- what a class has to be made -/
structure HaveN (G : Gl) (T : Tab) (F : Call) (P : Program) (w : World) (mg : Str → Option Value) (base : Heap) (k : Nat) (x : Str) (c n : Nat) (ks : List Str) (pm : List (Nat ⊕ Val)) : Prop where
  ex : ∃ f g fd ps np, T.ini c = some f ∧ mg x = some (.ref (G.ca c)) ∧ Mk G.K (G.ca c) g ∧ FnG P w G.K mg base k g fd ps (spI G F f np) ∧ BdM G fd ps np n ks pm
section
variable {G : Gl} {T : Tab} {F : Call} {k : Nat} {X : Cx} {e eo : Expr} {es : List Expr} {p pos apos cpos : Pos} {a o : IE} {as bs : List IE}
def tN (C : Addr) (sp : SpG) (gv : List V → List V) (n m : Nat) (t tk : TA) : TE := fun σ H Q => t σ H fun vs H1 => tk σ H1 fun zs H2 => vs.length = n ∧ zs.length = m ∧
  ∀ x dx, H2 x = none → H2 dx = none → dx ≠ x → sp (gv (.ref x :: vs ++ zs)) (upd (upd H2 dx (.own x)) x (.ins C dx [])) fun v H3 => v = .non ∧ Q (.ref x) H3
end
end Rs
end
section
set_option maxRecDepth 100000
set_option maxHeartbeats 4000000
/-! Properties. -/
namespace Rs
open PySem PySem.Spec PyProof.Rows L2
structure HaveP (G : Gl) (T : Tab) (F : Call) (P : Program) (w : World) (mg : Str → Option Value) (base : Heap) (k : Nat) (pn : Nat) : Prop where
  at_ : ∀ c id, T.prp c pn = some id → Cls G.K (G.ca c) ∧ ∃ pa g fd ps, PropOf G.K (G.ca c) (G.nm pn) pa g ∧ FnG P w G.K mg base k g fd ps (spI G F id 1) ∧ Binds G.K fd ps []
section
variable {G : Gl} {T : Tab} {F : Call} {k : Nat} {X : Cx} {e : Expr} {pos : Pos} {o : IE}
def tP1 (X : Cx) (f : Str) (ta : TE) : TE := fun σ H Q => ta σ H fun x H1 => ∃ (a C dx p g : Addr) (fs : List (Str × V)) (fd : FuncData) (ps : List Str) (sp : SpG) (k : Nat), x = .ref a ∧ H1 a = some (.ins C dx fs) ∧ Cls X.K C ∧ PropOf X.K C f p g ∧ FnG X.prog X.w X.K X.mg X.base k g fd ps sp ∧ Room (k + 1) X.A ∧ Binds X.K fd ps [] ∧ sp [.ref a] H1 Q
end
end Rs
end
section
set_option maxRecDepth 100000
set_option maxHeartbeats 4000000
/-! x in o, len(o) of own classes. -/
namespace Rs
open PySem PySem.Spec PyProof.Rows L2
section
variable {prog : Program} {w : World} {A : Around} {K : PySem.W.Frag} {a C f : Addr} {ox : Obj} {od : Option Obj} {s : Shared} {E : Value → Shared → Prop}
end
section
variable {G : Gl} {T : Tab} {F : Call} {k : Nat} {X : Cx} {e eo : Expr} {p pos : Pos} {a o : IE}
def inOp (ng : Bool) : CmpOp := if ng then .NotIn else .In
def rInO (X : Cx) (ng : Bool) : R2 := fun x y H Q => ∃ (a C dx g : Addr) (fs : List (Str × V)) (fd : FuncData) (ps : List Str) (sp : SpG) (k : Nat), y = .ref a ∧ H a = some (.ins C dx fs) ∧ Cls X.K C ∧ Meth X.K C "__contains__" g ∧ FnG X.prog X.w X.K X.mg X.base k g fd ps sp ∧ Room k X.A ∧ Binds X.K fd ps [] ∧
  ps.length = 2 ∧ sp [.ref a, x] H fun v H' => ∃ b, v = .bl b ∧ Q (.bl (b != ng)) H'
/-- what a class has of a special method -/
structure HaveS (G : Gl) (T : Tab) (F : Call) (P : Program) (w : World) (mg : Str → Option Value) (base : Heap) (k : Nat) (m np : Nat) : Prop where
  at_ : ∀ c id, T.mth c m = some id → Cls G.K (G.ca c) ∧ ∃ g fd ps, ps.length = np ∧ Meth G.K (G.ca c) (G.nm m) g ∧ FnG P w G.K mg base k g fd ps (spI G F id np) ∧ Binds G.K fd ps []
def rLenO (X : Cx) : List V → Hp → VK → Prop := fun xs H Q => ∃ (a C dx g : Addr) (fs : List (Str × V)) (fd : FuncData) (ps : List Str) (sp : SpG) (k : Nat), xs = [.ref a] ∧ H a = some (.ins C dx fs) ∧ Cls X.K C ∧ Meth X.K C "__len__" g ∧ FnG X.prog X.w X.K X.mg X.base k g fd ps sp ∧ Room (k + 1) X.A ∧ Binds X.K fd ps [] ∧
  ps.length = 1 ∧ sp [.ref a] H fun v H' => ∃ i : Int, v = .int i ∧ 0 ≤ i ∧ i < 2 ^ 63 ∧ Q (.int i) H'
end
end Rs
end
section
set_option maxRecDepth 100000
set_option maxHeartbeats 4000000
/-! Three names at once; list.insert; list(d.items()). -/
namespace Rs
open PySem PySem.Spec PyProof.Rows L2
section
variable {G : Gl} {T : Tab} {F : Call} {k : Nat} {X : Cx} {ea eb ec : Expr} {pos pt px py pz : Pos} {a b c : IE} {x y z : Str}
/-- a value that waits while something else runs -/
theorem hold {C1 : Cf} {s1 : S} {σ : L2.St} {x : Rv} {v : V} (r1 : Rel G C1 s1 σ) (h1 : RvR G C1 s1 σ x v) (nx : ∀ l, x ≠ .sl l) : ∃ C1', C1'.H = C1.H ∧ Rel G C1' s1 σ ∧ ∀ (C2 : Cf) (s2 : S), Le C1' C2 → Rel G C2 s2 σ →
    ∃ C2', C2'.H = C2.H ∧ Le C1 C2' ∧ Rel G C2' s2 σ ∧ RvR G C2' s2 σ x v ∧ ∀ (y : Rv) (w : V), (∀ l, y ≠ .sl l) → RvR G C2 s2 σ y w → RvR G C2' s2 σ y w ∧ ((∃ c, x = .f c) → notAt y w v) := by
  cases x with
  | sl l => exact absurd rfl (nx l)
  | v x =>
    refine ⟨C1, rfl, r1, fun C2 s2 l2 r2 => ⟨C2, rfl, l2, r2, VR.mono l2 h1, fun y w _ h => ⟨h, fun ⟨c, z⟩ => by cases z⟩⟩⟩
  | f c =>
    obtain ⟨p, rfl, a, f, un, d⟩ := h1
    refine ⟨C1.keep (· = p), rfl, r1.keepOne f a.nt d, fun C2 s2 l2 r2 => ?_⟩
    have kp : C2.rs p := by rw [l2.rs]; exact .inr rfl
    have r3 : Rel G { C2 with rs := C1.rs } s2 σ := r2.unkeep fun q z => by rw [l2.rs]; exact .inl z
    refine ⟨{ C2 with rs := C1.rs }, rfl, le_back l2, r3, ⟨p, rfl, ?_, ⟨fun z => r2.fzkp p z (.inr kp), fun z => f.kp (by rw [show C2.kp = C1.kp from l2.kp] at z; exact z), fun z => ?_, f.rs⟩, un, fun m c' h' z => ?_⟩, fun y w ny h2 => ⟨?_, ?_⟩⟩
    · cases q : C1.H p with
      | none => exact absurd q a.tr
      | some o =>
        show CR G _ c (C2.H p)
        rw [l2.hk p (.inr (.inr rfl)) o q, ← q]
        exact a.mono (le_back l2)
    · obtain ⟨n, hn, e3⟩ := List.getElem_of_mem (show p ∈ C2.ρ from z)
      have h1 : n < s2.h.length := by rw [r2.hlen]; exact hn
      exact (r2.cell n _ p (List.getElem?_eq_getElem h1) (by rw [List.getElem?_eq_getElem hn, e3])).2.2.2 kp
    · obtain ⟨q, a', _, _, _, g⟩ := r2.own m c' h'
      rw [z] at a'
      cases a'
      exact g.2 kp
    · cases y with
      | sl l => exact absurd rfl (ny l)
      | v y => exact VR.mono0 lv_rs h2
      | f c2 =>
        obtain ⟨q, rfl, a2, f2, un2, d2⟩ := h2
        exact ⟨q, rfl, a2.mono0 lv_rs, ⟨f2.fz, f2.kp, f2.ρ, fun z => f2.rs (by rw [l2.rs]; exact .inl z)⟩, un2, d2⟩
    · intro _
      cases y with
      | sl l => exact absurd rfl (ny l)
      | v y => trivial
      | f c2 =>
        obtain ⟨q, rfl, a2, f2, un2, d2⟩ := h2
        intro z
        cases z
        exact f2.rs kp
end
end Rs
end
section
set_option maxRecDepth 100000
set_option maxHeartbeats 4000000
/-! list.insert; list(d.items()). -/
namespace Rs
open PySem PySem.Spec PyProof.Rows L2
section
variable {G : Gl} {T : Tab} {F : Call} {k : Nat} {X : Cx} {e eo : Expr} {es : List Expr} {p pos apos cpos : Pos} {a : IE} {as : List IE}
def rIns : V → List V → Hp → VK → Prop := fun x vs H Q => ∃ (l : Addr) (xs : List V) (i : Int) (y : V), x = .ref l ∧ vs = [.int i, y] ∧ H l = some (.lst xs) ∧ xs.length < sizeLine ∧ 0 ≤ i ∧ i < 2 ^ 63 ∧
    Q .non (upd H l (.lst (xs.take i.toNat ++ [y] ++ xs.drop i.toNat)))
/-- list(e.items()), the dict walked or not -/
def rItm : V → Hp → VK → Prop := fun x H Q => ∃ (d : Addr) (kvs : List (Key × V)), x = .ref d ∧ Rd H d (.dK kvs) ∧
  ∀ (H' : Hp) (p : Addr) (ts : List Addr), (∀ b o, H b = some o → H' b = some o) → H p = none → (∀ t ∈ ts, H t = none) → p ∉ ts → H' p = some (.lst (ts.map V.ref)) → Paired (fun (t : Addr) (q : Key × V) => H' t = some (.tup [kV q.1, q.2])) ts kvs → Q (.ref p) H'
theorem pe_itm {te : TE} (hc : X.calm = true) (he : PE X e te) (hg : L2.Gl X "list") (hm : X.mg "list" = none) (hv : bootBuiltins "list" = some (.type "list")) (hbase : attributeBase e "items" X.env (eval e X.env) = eval e X.env) (hline : (apos.endLine == cpos.line) = true)
    (hs : starEach [.Call (.Attribute e "items" apos) [] [] cpos] X.env = (false, eval (.Call (.Attribute e "items" apos) [] [] cpos) X.env) :: starEach [] X.env) :
    PE X (.Call (.Name "list" p) [.Call (.Attribute e "items" apos) [] [] cpos] [] pos) (fun σ H Q => te σ H fun x H1 => rItm x H1 Q) := by
  constructor
  intro pins s σ H Q I hq
  apply wpAny_Call_Name_kw
  apply ld_blt I hg hm hv
  refine PyProof.Rows.callWith_type1 ?_ hs rfl
  rw [hs]
  show wpAny _ _ (spliced ((false, eval (.Call (.Attribute e "items" apos) [] [] cpos) X.env) :: backTo pos (starEach [] X.env))) _ _ s
  apply Calls.spliced_cons
  refine wpAny_Call_method (T := "dict") (id := "dict.items") hbase rfl hline F.plainAttrs_dict F.slot_dict_items F.type_dict_items (thn (he.run pins s σ H _ I hq) fun u t ⟨x, H1, J, rx, z⟩ => ?_)
  obtain ⟨d, kvs, rfl, hd, q⟩ := z
  obtain rfl : u = Value.ref d := rx
  obtain ⟨hz, hs0, vs, kv, hdo⟩ := Rd.ok hd J.hok
  obtain ⟨ep, hat⟩ := hdo.dictAt
  have J2 : Inv X pins σ H1 { t with heap := t.heap.push { cls := .type "dict_items", data := .fields #[.ref d] } } := J.kept (t' := t.toks) fun b ob q => Heap.get?_push_of_some _ q
  refine ⟨hdo.typeIs, hdo.mapOf.noDict, ?_⟩
  show wpAny _ _ (callWith cpos (.builtin "dict.items") [.ref d] [] []) _ X.xe t
  refine method_meetsIn F.slot_dict_items F.entry_dict_items rfl (PySem.evalArgs_none ⟨rfl, hdo.typeIs, F.args_dict_items_1 _, _, meets_dict_items (mixKind X.prog X.w) d hs0, ⟨vs, hdo⟩, Calls.spliced_nil ?_⟩)
  refine PySem.W.kdx_call (knd := mixKind X.prog X.w) (kvs := vs) (ep := ep) (J.ok.hd hc) ⟨_, Heap.get?_push_size _ rfl, rfl, rfl⟩ (hat.push _) (by have := Paired.length kv; omega) fun h' tk acc c as hk hS hl hG hacc => ?_
  obtain ⟨H', k1, k2, k3, k4, k5, k6, L⟩ := LiI.items_laid (tk := tk) J2 hz kv hk hS hl hG hacc
  exact ⟨.ref _, H', L, rfl, q H' _ as k1 k2 k3 k4 k5 k6⟩
theorem kV_key {C : Cf} (k : Key) : VR G C (vKey k) (kV k) := by
  cases k with
  | inl i => exact VR.int
  | inr x => exact VR.str
theorem items_vr {C C' : Cf} (l : Lv C C') : ∀ {ts : List Addr} {ks : List (Key × V)} {kvs : List (Key × Val)}, Paired (fun (t : Addr) (q : Key × V) => C'.H t = some (.tup [kV q.1, q.2])) ts ks → VRk G C kvs ks → (∀ t ∈ ts, C'.fz t) → VRs G C' (kvs.map fun kv => .tup [vKey kv.1, kv.2]) (ts.map V.ref)
  | _, _, [], p, h, f => by
    unfold VRk at h
    subst h
    cases p
    exact VRs.nil
  | _, _, (k, x) :: kvs, p, h, f => by
    unfold VRk at h
    obtain ⟨y, r, rfl, a, b⟩ := h
    cases p with
    | cons c t =>
      rename_i t0 ts0
      refine VRs.cons ?_ (items_vr l t b fun t h => f t (List.mem_cons_of_mem _ h))
      show VR G C' (.tup [vKey k, x]) (.ref t0)
      unfold VR
      exact ⟨t0, _, rfl, .inl ⟨f t0 List.mem_cons_self, c⟩, VRs.cons (kV_key k) (VRs.cons (a.mono0 l) VRs.nil)⟩
theorem se_litems (ox : XO0 G k X) (hg : L2.Gl X "list") (hm : X.mg "list" = none) (hv : bootBuiltins "list" = some (.type "list")) (ha : PE X e (EE G T F a)) (hbase : attributeBase e "items" X.env (eval e X.env) = eval e X.env := by rfl) (hline : (apos.endLine == cpos.line) = true := by rfl)
    (hs : starEach [.Call (.Attribute e "items" apos) [] [] cpos] X.env = (false, eval (.Call (.Attribute e "items" apos) [] [] cpos) X.env) :: starEach [] X.env := by rfl) :
    PE X (.Call (.Name "list" p) [.Call (.Attribute e "items" apos) [] [] cpos] [] pos) (EE G T F (.bi .litems [a])) := by
  refine PE.weak (pe_itm ox.calm ha hg hm hv hbase hline hs) fun σ H Q ⟨C, s, x, s', hH, rl, ev, kk⟩ => ?_
  unfold evalE at ev
  obtain ⟨os, s1, e1, ev2⟩ := bind_ok ev
  clear ev
  unfold evalOs at e1
  obtain ⟨y, s2, e2, e3⟩ := bind_ok e1
  obtain ⟨ys, s3, e4, e5⟩ := bind_ok e3
  unfold evalOs at e4
  cases e4
  cases e5
  split at ev2
  · rename_i hb
    obtain ⟨ev3, hs⟩ := opt_ok ev2
    subst hs
    refine EE_of_op hH rl e2 fun C1 v l1 r1 o1 => ?_
    have hb1 : deref s' (opnd y) ≠ .bad := fun z => by rw [List.map_cons, List.map_nil, List.all_cons, z] at hb; cases hb
    have hx := deref_ok r1 o1 hb1
    rw [List.map_cons, List.map_nil] at ev3
    unfold biop at ev3
    split at ev3
    all_goals try contradiction
    rename_i kvs hl
    have hl := (List.cons.inj hl).1
    cases ev3
    rw [hl] at hx
    obtain ⟨d, ks, rfl, hp, hr⟩ := hx
    refine ⟨d, ks, rfl, hp, fun H' p ts h1 h2 h3 h4 h5 h6 => ?_⟩
    have lv : Lv C1 ⟨C1.ρ, fun q => C1.fz q ∨ q ∈ ts, C1.kp, C1.rs, H'⟩ := ⟨List.prefix_rfl, fun q h => .inl h, fun q h => .of (h1 q)⟩
    have le : Le C1 ⟨C1.ρ, fun q => C1.fz q ∨ q ∈ ts, C1.kp, C1.rs, H'⟩ := .of rfl (fun q h => .inl h) rfl rfl fun q _ => h1 q
    have new : ∀ t ∈ ts, Fr C1 t ∧ NT (H' t) := fun t ht => ⟨r1.fresh (h3 t ht), by
      obtain ⟨j, y, _, _, e3⟩ := LiI.paired_ix h6 ht
      exact ⟨_, e3, fun ps z => nomatch z⟩⟩
    have same : ∀ q, C1.H q ≠ none → H' q = C1.H q := fun q h => by
      cases e : C1.H q with
      | none => exact absurd e h
      | some o => exact h1 q o e
    have r2 : Rel G ⟨C1.ρ, fun q => C1.fz q ∨ q ∈ ts, C1.kp, C1.rs, H'⟩ s' σ := r1.le le rfl (fun i c q a b => same q (by
      obtain ⟨q2, b2, c2, _⟩ := r1.own i c a
      rw [b] at b2
      cases b2
      exact c2.tr)) (fun q z => z.imp id fun z => ⟨(new q z).1, (new q z).2, fun i c a b => own_tr r1 a b (h3 q z)⟩) (fun q z => same q (ρtr r1 z)) (r1.tabs.ext h1)
    have f := r1.fresh h2
    exact kk _ _ (l1.trans le) r2 ⟨p, rfl, ⟨_, h5, items_vr lv h6 hr fun t h => .inr h⟩, ⟨fun z => z.elim f.fz h4, f.kp, f.ρ, f.rs⟩, rfl, fun i c a b => own_tr r1 a b h2⟩
  · cases ev2
end
end Rs
end
section
set_option maxRecDepth 100000
set_option maxHeartbeats 4000000
/-! join and split. -/
namespace Rs
open PySem PySem.Spec PyProof.Rows L2
section
variable {G : Gl} {T : Tab} {F : Call} {k : Nat} {X : Cx} {e eo : Expr} {es : List Expr} {p pos apos cpos : Pos} {a : IE} {as : List IE}
theorem strs_vr {C : Cf} : ∀ {xs : List Val} {ys : List Str} {vs : List V}, VRs G C xs vs → strsV xs = some ys → vs = ys.map V.str
  | [], ys, vs, h, e => by
    unfold VRs at h; unfold strsV at e; cases e; exact h
  | x :: xs, ys, vs, h, e => by
    unfold VRs at h
    obtain ⟨y, r, rfl, a, b⟩ := h
    cases x with
    | str t =>
      unfold strsV at e
      obtain ⟨zs, e1, e2⟩ := Option.map_eq_some_iff.mp e
      subst e2
      unfold VR at a
      rw [strs_vr b e1, a]
      rfl
    | _ => unfold strsV at e; cases e
theorem mto_join (hK : X.K = G.K) : MtOk G .join (fun x xs H Q => ∃ a p, ∃ ys : List Str, x = .str a ∧ xs = [.ref p] ∧ (SqL X.K H p (ys.map V.str) ∨ SqT X.K H p (ys.map V.str)) ∧ (ys.map (·.length)).sum + ys.length * a.length ≤ 16777216 ∧ Q (.str (Txt.join a ys)) H) := by
  intro C s σ o v xs vs ret oc s' Q r h hv e p kk
  unfold mtop at e
  split at e
  all_goals try contradiction
  rename_i t zs _ hd
  split at e
  · rename_i ys hy
    split at e
    · rename_i hl
      cases e
      have hs : v = .str t := by
        have := deref_ok r h (by rw [hd]; simp)
        rw [hd] at this
        exact this.str
      subst hs
      unfold VRs at hv
      obtain ⟨w, t2, rfl, hw, hv⟩ := hv
      unfold VRs at hv
      subst hv
      unfold VR at hw
      obtain ⟨q, ws, rfl, f, hq, hr⟩ := hw
      cases p
      refine ⟨t, q, ys, rfl, rfl, .inl ?_, hl, kk C _ (.refl C) r (show VR G C (.str _) _ from VR.str)⟩
      rw [← strs_vr hr hy]
      exact SqL.of hq
    · cases e
  · cases e
theorem ty_str {C : Cf} {s : S} {σ : L2.St} {o : Rv} {v : V} {t : Str} {K : PySem.W.Frag} (r : Rel G C s σ) (h : OR G C s σ o v) (e : deref s o = .str t) : tyV K "str" v C.H := by
  have := deref_ok r h (by rw [e]; simp)
  rw [e] at this
  rw [this.str]
  exact rfl
theorem se_join (ox : XO0 G k X) (ha : PE X eo (EE G T F a)) (hs : PA X (e :: es) (tVs G (evalVs T F as))) (hb : attributeBase eo "join" X.env (eval eo X.env) = eval eo X.env := by rfl)
    (hf : ((backTo cpos (starEach (e :: es) X.env)).all (fun x => !x.1) && (backToKw cpos (keywordEach [] X.env)).all (fun x => x.1.isSome) && decide ((e :: es).length + ([] : List Keyword).length + (if ([] : List Keyword).isEmpty then 0 else 1) < 30)) = true := by rfl)
    (hl : (apos.endLine == cpos.line) = true := by rfl) (h1 : starEach (e :: es) X.env = (false, eval e X.env) :: starEach es X.env := by rfl) (h2 : (backTo cpos (starEach es X.env)).any (·.1) = false := by rfl) :
    PE X (.Call (.Attribute eo "join" apos) (e :: es) [] cpos) (EE G T F (.mt .join a as)) :=
  PE.weak (pe_bm PySem.F.plainAttrs_str PySem.F.slot_str_join PySem.F.type_str_join mt_join ha hs hb hf hl h1 h2) fun σ H Q h => mt_all (mto_join ox.K) (fun C s σ o v r h1 h2 => by
    cases q : deref s o with
    | str xs => exact ty_str r h1 q
    | _ => rw [q] at h2; cases h2) h
end
end Rs
end
section
set_option maxRecDepth 100000
/-! The shared defs of the texts, as the interpreter has them (printed by gen2.py). -/
namespace Rs
open PySem L2
def attL : List Str := [("items" : Str), ("join" : Str), ("append" : Str), ("insert" : Str), ("__init__" : Str), ("name" : Str), ("out" : Str), ("given" : Str), ("number" : Str), ("line" : Str), ("__contains__" : Str), ("__len__" : Str), ("places" : Str), ("things" : Str), ("placed" : Str), ("spent" : Str), ("prices" : Str), ("clear" : Str), ("check_out" : Str), ("names" : Str), ("paid" : Str), ("call" : Str), ("pop" : Str), ("void" : Str), ("upper" : Str), ("calls" : Str), ("ways" : Str), ("free" : Str), ("idle" : Str), ("send" : Str), ("distances" : Str), ("steps" : Str), ("credit_of" : Str), ("last_call" : Str), ("sums" : Str), ("entries" : Str), ("marks" : Str), ("update" : Str), ("accounts" : Str), ("returned" : Str), ("lost" : Str), ("choices" : Str), ("rent" : Str), ("what_given" : Str), ("what_out" : Str), ("met" : Str), ("get" : Str), ("journal" : Str), ("is_full_for" : Str), ("back" : Str), ("mark" : Str), ("takes_fetched" : Str), ("takes_found" : Str), ("takes" : Str), ("shelf_places" : Str), ("called" : Str), ("held" : Str), ("fresh" : Str), ("again" : Str), ("plan" : Str), ("row" : Str), ("next_call" : Str), ("end_round" : Str), ("split" : Str)]
/-- the law has this def at this number -/
class HasD (fs : List Fd) (i : Nat) (d : outParam Fd) : Prop where
  e : fs[i]? = some d
/-- the class has this method -/
class HasM (T : Tab) (c m : Nat) (i : outParam Nat) : Prop where
  e : T.mth c m = some i
class HasF (T : Tab) (c f : Nat) : Prop where
  e : T.fld c f = true
def nmG (i : Nat) : Str := attL.getD (i % 1000) ""
def okG (i : Nat) : Prop := i < attL.length
instance (i : Nat) : Decidable (okG i) := by unfold okG; infer_instance
def clsL : List Str := [("Shelf" : Str), ("Keeper" : Str), ("Steps" : Str), ("Line" : Str), ("Cruel" : Str), ("UnknownThing" : Str), ("BadOut" : Str), ("BadGiven" : Str), ("UnknownMark" : Str), ("InvalidText" : Str)]
class HasI (T : Tab) (c : Nat) (i : outParam Nat) : Prop where
  e : T.ini c = some i
class HasP (T : Tab) (c p : Nat) (i : outParam Nat) : Prop where
  e : T.prp c p = some i
def is__law_feed : List IS := [(.asg (.nm 2) (.sub (.bin .add (.bi .list [(.slc (.var 0) [(.var 1)] [(.bin .add (.var 1) (.cst (.int 1)))])]) (.lst [(.bin .add (.bin .mul (.cst (.int 71)) (.var 1)) (.cst (.int 23)))])) (.cst (.int 0)))), (.asg (.nm 3) (.bi .max [(.cst (.int 0)), (.bin .sub (.bi .abs [(.var 2)]) (.bin .pow (.cst (.int 10)) (.cst (.int 18))))])), (.ret (.heap (.lst [(.var 3), (.bin .mod (.bi .int [(.bin .add (.bin .add (.bin .mul (.bin .mod (.bi .int [(.bi .abs [(.var 2)])]) (.cst (.int 1000003))) (.cst (.int 7919))) (.bin .mul (.cst (.int 31)) (.var 1))) (.cst (.int 17)))]) (.cst (.int 1000033)))])))]
abbrev fd__law_feed : Fd := ⟨2, 4, is__law_feed⟩ -- 0
def is__law_take : List IS := [(.ite (.cmp .gt (.sub (.var 0) (.cst (.int 0))) (.cst (.int 0))) [(.asg (.nm 2) (.bin .mod (.bi .int [(.sub (.var 0) (.cst (.int 0)))]) (.var 1))), (.asg (.sub (.var 0) (.cst (.int 0))) (.bin .fdiv (.sub (.var 0) (.cst (.int 0))) (.var 1))), (.ret (.var 2))] []), (.asg (.sub (.var 0) (.cst (.int 1))) (.bin .mod (.bi .int [(.bin .add (.bin .mul (.sub (.var 0) (.cst (.int 1))) (.cst (.int 69069))) (.cst (.int 12345)))]) (.cst (.int 4294967311)))), (.ret (.bin .mod (.bi .int [(.bin .fdiv (.sub (.var 0) (.cst (.int 1))) (.cst (.int 65536)))]) (.var 1)))]
abbrev fd__law_take : Fd := ⟨2, 3, is__law_take⟩ -- 1
def is__law_pick : List IS := [(.ret (.sub (.var 1) (.fn 1 [(.var 0), (.bi .len [(.var 1)])] [])))]
abbrev fd__law_pick : Fd := ⟨2, 2, is__law_pick⟩ -- 2
def is__law_names : List IS := [(.asg (.nm 2) (.lst [(.cst (.str "a")), (.cst (.str "b")), (.cst (.str "c")), (.cst (.str "d")), (.cst (.str "e")), (.cst (.str "f")), (.cst (.str "g")), (.cst (.str "h")), (.cst (.str "jug")), (.cst (.str "lamp")), (.cst (.str "map"))])), (.asg (.nm 2) (.bin .add (.var 2) (.lst [(.cst (.str "call")), (.cst (.str "void")), (.cst (.str "zz")), (.cst (.str "quilts")), (.cst (.str "abcdefgh")), (.cst (.str "n")), (.cst (.str "m")), (.cst (.str "rook")), (.cst (.str "waxy"))]))), (.asg (.nm 3) (.fn 1 [(.var 0), (.cst (.int 4))] [])), (.ret (.slc (.sls (.bin .add (.slc (.var 2) [(.var 3)] []) (.slc (.var 2) [] [(.var 3)])) (.fn 2 [(.var 0), (.lst [(.cst (.int 1)), (.neg (.cst (.int 1)))])] [])) [] [(.var 1)]))]
abbrev fd__law_names : Fd := ⟨2, 4, is__law_names⟩ -- 3
def is__law_things : List IS := [(.asg (.nm 2) (.fn 2 [(.var 0), (.lst [(.lst [(.cst (.int 1))]), (.lst [(.cst (.int 7))]), (.lst [(.cst (.int 1)), (.cst (.int 2)), (.cst (.int 3))]), (.lst [(.cst (.int 1)), (.cst (.int 2)), (.cst (.int 4)), (.cst (.int 8)), (.cst (.int 16))]), (.lst [(.cst (.int 5)), (.cst (.int 6)), (.cst (.int 7))]), (.lst [(.cst (.int 1)), (.bin .pow (.cst (.int 10)) (.cst (.int 6)))]), (.lst [(.cst (.int 999999)), (.bin .pow (.cst (.int 10)) (.cst (.int 6))), (.cst (.int 3)), (.cst (.int 1))])])] [])), (.ret (.bi .dict [(.lc (.tup [(.var 3), (.fn 2 [(.var 0), (.var 2)] [])]) (.nm 3) .it [(.fn 3 [(.var 0), (.var 1)] [])] [] [3])]))]
abbrev fd__law_things : Fd := ⟨2, 4, is__law_things⟩ -- 4
def is__law_event : List IS := [(.asg (.nm 3) (.fn 2 [(.var 0), (.bin .add (.var 2) (.lst [(.fn 2 [(.var 0), (.var 1)] [])]))] [])), (.ret (.tup [(.ite (.cmp .eq (.fn 1 [(.var 0), (.cst (.int 9))] []) (.cst (.int 0))) (.cst (.str "void")) (.cst (.str "call"))), (.var 3)]))]
abbrev fd__law_event : Fd := ⟨3, 4, is__law_event⟩ -- 5
def is__law_row : List IS := [(.par 5 6 true false (.lst []) (.bi .sorted [(.var 1)])), (.asg (.nm 3) (.lc (.fn 2 [(.var 0), (.var 6)] []) (.nm 4) .rng [(.cst (.int 3))] [] [4])), (.for_ (.nm 4) .rng [(.var 2)] [(.ite (.cmp .eq (.fn 1 [(.var 0), (.cst (.int 7))] []) (.cst (.int 0))) [(.asg (.nm 3) (.lc (.fn 2 [(.var 0), (.var 6)] []) (.nm 7) .rng [(.bin .add (.cst (.int 1)) (.fn 1 [(.var 0), (.cst (.int 4))] []))] [] [7]))] []), (.ex (.mt .append (.var 5) [(.fn 5 [(.var 0), (.var 6), (.var 3)] [])]))]), (.ret (.frz 5))]
abbrev fd__law_row : Fd := ⟨3, 8, is__law_row⟩ -- 6
def is_stretches : List IS := [(.own 1 (.lst [])), (.own 2 (.dsp [])), (.for_ (.tp [(.nm 3), (.tp [(.nm 4), (.nm 5)])]) .enum [(.var 0)] [(.ite (.cmp .eq (.var 4) (.cst (.str "void"))) [(.ex (.mt .dpop (.var 2) [(.var 5), (.cst .non)]))] [(.ite (.cmp .isin (.var 5) (.var 2)) [(.ex (.mt .append (.var 1) [(.tup [(.sub (.var 2) (.var 5)), (.var 3)])]))] []), (.asg (.sub (.var 2) (.var 5)) (.var 3))])]), (.ret (.bi .sorted [(.var 1)]))]
abbrev fd_stretches : Fd := ⟨1, 6, is_stretches⟩ -- 7
def is_calls_of : List IS := [(.ret (.lc (.var 1) (.tp [(.nm 1), (.tp [(.nm 2), (.nm 3)])]) .enum [(.var 0)] [(.cmp .eq (.var 2) (.cst (.str "call")))] [1, 2, 3]))]
abbrev fd_calls_of : Fd := ⟨1, 4, is_calls_of⟩ -- 8
def is_price_of_calls : List IS := [(.ret (.bi .sum [(.lc (.sub (.var 0) (.sub (.sub (.var 1) (.var 2)) (.cst (.int 1)))) (.nm 2) .it [(.fn 8 [(.var 1)] [])] [] [2])]))]
abbrev fd_price_of_calls : Fd := ⟨2, 3, is_price_of_calls⟩ -- 9
def is_plan_cost : List IS := [(.ret (.bin .sub (.fn 9 [(.var 0), (.var 1)] []) (.bi .sum [(.lc (.sub (.var 0) (.sub (.sub (.var 1) (.var 3)) (.cst (.int 1)))) (.tp [(.nm 3), (.nm 4)]) .it [(.var 2)] [] [3, 4])])))]
abbrev fd_plan_cost : Fd := ⟨3, 5, is_plan_cost⟩ -- 10
def is_crosses : List IS := [(.ret (.chn .lt .lt (.sub (.var 0) (.cst (.int 0))) (.var 1) (.sub (.var 0) (.cst (.int 1)))))]
abbrev fd_crosses : Fd := ⟨2, 2, is_crosses⟩ -- 11
def is_is_plan : List IS := [(.asg (.nm 3) (.fn 7 [(.var 0)] [])), (.ite (.or (.not (.bi .isLst [(.var 2)])) (.not (.bi .all [(.lc (.fn 13 [(.var 3), (.var 6)] []) (.nm 6) .it [(.var 2)] [] [6])]))) [(.ret (.cst (.bl false)))] []), (.ite (.not (.bi .all [(.lc (.cmp .lt (.sub (.var 2) (.var 5)) (.sub (.var 2) (.bin .add (.var 5) (.cst (.int 1))))) (.nm 5) .rng [(.bin .sub (.bi .len [(.var 2)]) (.cst (.int 1)))] [] [5])])) [(.ret (.cst (.bl false)))] []), (.ret (.bi .all [(.lc (.cmp .lt (.bi .len [(.lc (.var 6) (.nm 6) .it [(.var 2)] [(.fn 11 [(.var 6), (.var 4)] [])] [6])]) (.var 1)) (.nm 4) .it [(.fn 8 [(.var 0)] [])] [] [4])]))]
abbrev fd_is_plan : Fd := ⟨3, 7, is_is_plan⟩ -- 12
def is_is_stretch : List IS := [(.ite (.or (.not (.bi .isTup [(.var 1)])) (.cmp .ne (.bi .len [(.var 1)]) (.cst (.int 2)))) [(.ret (.cst (.bl false)))] []), (.ret (.and (.bi .all [(.lc (.and (.bi .isInt [(.var 2)]) (.not (.bi .isBool [(.var 2)]))) (.nm 2) .it [(.var 1)] [] [2])]) (.cmp .isin (.var 1) (.var 0))))]
abbrev fd_is_stretch : Fd := ⟨2, 3, is_is_stretch⟩ -- 13
def is_is_one_of : List IS := [(.ret (.and (.bi .isStr [(.var 0)]) (.cmp .isin (.var 0) (.var 1))))]
abbrev fd_is_one_of : Fd := ⟨2, 2, is_is_one_of⟩ -- 14
def is_is_event : List IS := [(.ite (.or (.not (.bi .isTup [(.var 1)])) (.or (.cmp .ne (.bi .len [(.var 1)]) (.cst (.int 2))) (.not (.bi .isStr [(.sub (.var 1) (.cst (.int 0)))])))) [(.ret (.cst (.bl false)))] []), (.ret (.and (.cmp .isin (.sub (.var 1) (.cst (.int 0))) (.tup [(.cst (.str "call")), (.cst (.str "void"))])) (.fn 14 [(.sub (.var 1) (.cst (.int 1))), (.var 0)] [])))]
abbrev fd_is_event : Fd := ⟨2, 2, is_is_event⟩ -- 15
def is_is_row : List IS := [(.ret (.and (.bi .isLst [(.var 1)]) (.bi .all [(.lc (.fn 15 [(.var 0), (.var 2)] []) (.nm 2) .it [(.var 1)] [] [2])])))]
abbrev fd_is_row : Fd := ⟨2, 3, is_is_row⟩ -- 16
def is_put_away : List IS := [(.own 3 (.lst [])), (.own 4 (.dsp [])), (.for_ (.tp [(.nm 5), (.tp [(.nm 7), (.nm 8)])]) .enum [(.var 0)] [(.asg (.nm 6) (.cst .non)), (.ite (.cmp .eq (.var 7) (.cst (.str "void"))) [(.ex (.mt .dpop (.var 4) [(.var 8), (.cst .non)]))] [(.ite (.cmp .isin (.var 8) (.var 4)) [(.ite (.var 2) [(.asg (.sub (.var 4) (.var 8)) (.var 5))] [])] [(.ite (.cmp .ge (.bi .len [(.var 4)]) (.var 1)) [(.asg (.nm 6) (.sub (.bi .min [(.lck (.tup [(.sub (.var 4) (.var 9)), (.var 9)]) (.nm 9) false 4 [] [9])]) (.cst (.int 1)))), (.del (.var 4) (.var 6))] []), (.asg (.sub (.var 4) (.var 8)) (.var 5))])]), (.ex (.mt .append (.var 3) [(.var 6)]))]), (.ret (.mv 3))]
abbrev fd_put_away : Fd := ⟨3, 10, is_put_away⟩ -- 17
def is_longest_ago : List IS := [(.ret (.fn 17 [(.var 0), (.var 1), (.cst (.bl true))] []))]
abbrev fd_longest_ago : Fd := ⟨2, 2, is_longest_ago⟩ -- 18
def is_first_come : List IS := [(.ret (.fn 17 [(.var 0), (.var 1), (.cst (.bl false))] []))]
abbrev fd_first_come : Fd := ⟨2, 2, is_first_come⟩ -- 19
def is__law_stretches : List IS := [(.own 1 (.lst [])), (.for_ (.tp [(.nm 2), (.tp [(.nm 3), (.nm 4)])]) .enum [(.var 0)] [(.ite (.cmp .eq (.var 3) (.cst (.str "call"))) [(.asg (.nm 5) (.lc (.var 6) (.nm 6) .rng [(.bin .add (.var 2) (.cst (.int 1))), (.bi .len [(.var 0)])] [(.cmp .eq (.sub (.sub (.var 0) (.var 6)) (.cst (.int 1))) (.var 4))] [6])), (.ite (.and (.cmp .ne (.var 5) (.lst [])) (.cmp .eq (.sub (.sub (.var 0) (.sub (.var 5) (.cst (.int 0)))) (.cst (.int 0))) (.cst (.str "call")))) [(.ex (.mt .append (.var 1) [(.tup [(.var 2), (.sub (.var 5) (.cst (.int 0)))])]))] [])] [])]), (.ret (.frz 1))]
abbrev fd__law_stretches : Fd := ⟨1, 7, is__law_stretches⟩ -- 20
def is__law_cost : List IS := [(.asg (.nm 3) (.bi .sum [(.lc (.sub (.var 0) (.var 5)) (.tp [(.nm 4), (.nm 5)]) .it [(.var 1)] [(.cmp .eq (.var 4) (.cst (.str "call")))] [4, 5])])), (.ret (.bin .sub (.var 3) (.bi .sum [(.lc (.sub (.var 0) (.sub (.sub (.var 1) (.var 6)) (.cst (.int 1)))) (.tp [(.nm 6), (.nm 7)]) .it [(.var 2)] [] [6, 7])])))]
abbrev fd__law_cost : Fd := ⟨3, 8, is__law_cost⟩ -- 21
def is__law_crossing : List IS := [(.own 2 (.lst [])), (.for_ (.tp [(.nm 3), (.tp [(.nm 4), (.nm 5)])]) .enum [(.var 0)] [(.ite (.cmp .eq (.var 4) (.cst (.str "call"))) [(.ex (.mt .append (.var 2) [(.bi .len [(.lc (.var 6) (.nm 6) .it [(.var 1)] [(.chn .lt .lt (.sub (.var 6) (.cst (.int 0))) (.var 3) (.sub (.var 6) (.cst (.int 1))))] [6])])]))] [])]), (.ret (.frz 2))]
abbrev fd__law_crossing : Fd := ⟨2, 7, is__law_crossing⟩ -- 22
def is__law_fits : List IS := [(.ret (.cmp .lt (.bi .max [(.bin .add (.lst [(.cst (.int 0))]) (.fn 22 [(.var 0), (.var 2)] []))]) (.var 1)))]
abbrev fd__law_fits : Fd := ⟨3, 3, is__law_fits⟩ -- 23
def is_is_integer : List IS := [(.ret (.and (.bi .isInt [(.var 0)]) (.and (.not (.bi .isBool [(.var 0)])) (.chn .le .le (.var 1) (.var 0) (.var 2)))))]
abbrev fd_is_integer : Fd := ⟨3, 3, is_is_integer⟩ -- 25
def is_is_name : List IS := [(.ite (.or (.not (.bi .isStr [(.var 0)])) (.not (.chn .le .le (.cst (.int 1)) (.bi .len [(.var 0)]) (.glb 0 (.int 8))))) [(.ret (.cst (.bl false)))] []), (.ret (.bi .all [(.lc (.cmp .isin (.var 1) (.glb 0 (.str "abcdefghijklmnopqrstuvwxyz"))) (.nm 1) .it [(.var 0)] [] [1])]))]
abbrev fd_is_name : Fd := ⟨1, 2, is_is_name⟩ -- 26
def is_check_thing : List IS := [(.ite (.not (.fn 14 [(.var 1), (.var 0)] [])) [(.rais 0 (.var 1))] [])]
abbrev fd_check_thing : Fd := ⟨2, 2, is_check_thing⟩ -- 28
def is_are_unlike : List IS := [(.ite (.or (.not (.bi .isTup [(.var 0)])) (.not (.bi .all [(.lc (.and (.bi .isStr [(.var 2)]) (.cmp .isin (.var 2) (.var 1))) (.nm 2) .it [(.var 0)] [] [2])]))) [(.ret (.cst (.bl false)))] []), (.ret (.cmp .eq (.bi .lenset [(.var 0)]) (.bi .len [(.var 0)])))]
abbrev fd_are_unlike : Fd := ⟨2, 3, is_are_unlike⟩ -- 29
def is_write : List IS := [(.ret (.mt .join (.cst (.str "\n")) [(.lc (.bin .add (.bin .add (.var 1) (.cst (.str " "))) (.var 2)) (.tp [(.nm 1), (.nm 2)]) .it [(.var 0)] [] [1, 2])]))]
abbrev fd_write : Fd := ⟨1, 3, is_write⟩ -- 30
def is_read : List IS := [(.own 2 (.lst [])), (.ite (.cmp .ne (.var 1) (.cst (.str ""))) [(.for_ (.tp [(.nm 3), (.nm 4)]) .enum [(.mt .split (.var 1) [(.cst (.str "\n"))])] [(.asg (.nm 5) (.bi .tuple [(.mt .split (.var 4) [(.cst (.str " "))])])), (.ite (.not (.fn 15 [(.var 0), (.var 5)] [])) [(.rais 4 (.var 3))] []), (.ex (.mt .append (.var 2) [(.var 5)]))])] []), (.ret (.mv 2))]
abbrev fd_read : Fd := ⟨2, 6, is_read⟩ -- 31
def is_Shelf___init__ : List IS := [(.asg (.att (.var 0) 12) (.var 1)), (.asg (.att (.var 0) 13) (.bi .dict [(.var 2)])), (.asg (.att (.var 0) 14) (.lst [])), (.asg (.att (.var 0) 15) (.cst (.int 0)))]
abbrev fd_Shelf___init__ : Fd := ⟨3, 3, is_Shelf___init__⟩ -- 50
def is_Shelf___contains__ : List IS := [(.ret (.and (.bi .isStr [(.var 1)]) (.cmp .isin (.var 1) (.att (.var 0) 14))))]
abbrev fd_Shelf___contains__ : Fd := ⟨2, 2, is_Shelf___contains__⟩ -- 51
def is_Shelf___len__ : List IS := [(.ret (.bi .len [(.att (.var 0) 14)]))]
abbrev fd_Shelf___len__ : Fd := ⟨1, 1, is_Shelf___len__⟩ -- 52
def is_Shelf_prices : List IS := [(.ret (.bi .dict [(.att (.var 0) 13)]))]
abbrev fd_Shelf_prices : Fd := ⟨1, 1, is_Shelf_prices⟩ -- 53
def is_Shelf_names : List IS := [(.ret (.bi .list [(.att (.var 0) 14)]))]
abbrev fd_Shelf_names : Fd := ⟨1, 1, is_Shelf_names⟩ -- 54
def is_Shelf_paid : List IS := [(.ret (.att (.var 0) 15))]
abbrev fd_Shelf_paid : Fd := ⟨1, 1, is_Shelf_paid⟩ -- 55
def is_Shelf_check_out : List IS := [(.ite (.not (.fn 29 [(.var 2), (.att (.var 0) 14)] [])) [(.rais 1 (.var 2))] []), (.ite (.and (.cmp .isin (.var 1) (.att (.var 0) 14)) (.cmp .ne (.var 2) (.tup []))) [(.rais 1 (.var 2))] []), (.ite (.and (.cmp .notin (.var 1) (.att (.var 0) 14)) (.cmp .ge (.bin .sub (.bi .len [(.att (.var 0) 14)]) (.bi .len [(.var 2)])) (.att (.var 0) 12))) [(.rais 1 (.var 2))] [])]
abbrev fd_Shelf_check_out : Fd := ⟨3, 3, is_Shelf_check_out⟩ -- 56
def is_Shelf_call : List IS := [(.ex (.fn 28 [(.att (.var 0) 13), (.var 1)] [])), (.ex (.me [0] 18 (.var 0) [(.var 1), (.var 2)] [])), (.ite (.cmp .isin (.var 1) (.att (.var 0) 14)) [(.ret (.cst (.int 0)))] []), (.asg (.att (.var 0) 14) (.bi .sorted [(.bin .add (.lc (.var 3) (.nm 3) .it [(.att (.var 0) 14)] [(.cmp .notin (.var 3) (.var 2))] [3]) (.lst [(.var 1)]))])), (.augA (.var 0) 15 .add (.sub (.att (.var 0) 13) (.var 1))), (.ret (.sub (.att (.var 0) 13) (.var 1)))]
abbrev fd_Shelf_call : Fd := ⟨3, 4, is_Shelf_call⟩ -- 57
def is_Shelf_void : List IS := [(.ex (.fn 28 [(.att (.var 0) 13), (.var 1)] [])), (.asg (.att (.var 0) 14) (.lc (.var 2) (.nm 2) .it [(.att (.var 0) 14)] [(.cmp .ne (.var 2) (.var 1))] [2]))]
abbrev fd_Shelf_void : Fd := ⟨2, 3, is_Shelf_void⟩ -- 58
def is_moves : List IS := [(.gst (.asg (.nm 3) (.lst []))), (.for_ (.tp [(.nm 4), (.tp [(.nm 5), (.nm 6)])]) .enum [(.var 0)] [(.ite (.cmp .eq (.var 5) (.cst (.str "void"))) [(.gst (.asg (.nm 3) (.lc (.var 8) (.nm 8) .it [(.var 3)] [(.cmp .ne (.var 8) (.var 6))] [8]))), (.yld (.tup []))] [(.ite (.cmp .isin (.var 6) (.var 3)) [(.yld (.tup []))] [(.gst (.asg (.nm 7) (.lc (.sub (.sub (.var 0) (.var 9)) (.cst (.int 1))) (.tp [(.nm 9), (.nm 10)]) .it [(.var 2)] [(.fn 11 [(.tup [(.var 9), (.var 10)]), (.var 4)] [])] [9, 10]))), (.yld (.bi .tuple [(.bi .sorted [(.lc (.var 8) (.nm 8) .it [(.var 3)] [(.cmp .notin (.var 8) (.var 7))] [8])])])), (.gst (.asg (.nm 3) (.bin .add (.lc (.var 8) (.nm 8) .it [(.var 3)] [(.cmp .isin (.var 8) (.var 7))] [8]) (.lst [(.var 6)]))))])])])]
abbrev fd_moves : Fd := ⟨3, 11, [.gen is_moves]⟩ -- 76
def is_Line_distances : List IS := [(.own 1 (.bin .add (.lst [(.cst (.int 0))]) (.lc (.cst .non) (.nm 10) .it [(.att (.var 0) 25)] [] [10]))), (.own 2 (.lc (.cst .non) (.nm 5) .it [(.var 1)] [] [5])), (.asg (.nm 3) (.bi .sortk [(.me [3] 31 (.var 0) [] [])])), (.asg (.nm 4) (.cst (.bl true))), (.whl (.var 4) [(.asg (.nm 4) (.cst (.bl false))), (.for_ (.tp [(.nm 6), (.nm 7), (.nm 8), (.nm 9)]) .it [(.var 3)] [(.ite (.and (.cmp .isnot (.sub (.var 1) (.var 6)) (.cst .non)) (.or (.cmp .is_ (.sub (.var 1) (.var 7)) (.cst .non)) (.cmp .lt (.bin .add (.sub (.var 1) (.var 6)) (.var 8)) (.sub (.var 1) (.var 7))))) [(.asg (.sub (.var 1) (.var 7)) (.bin .add (.sub (.var 1) (.var 6)) (.var 8))), (.asg (.sub (.var 2) (.var 7)) (.tup [(.var 6), (.var 9)])), (.asg (.nm 4) (.cst (.bl true)))] [])])]), (.ret (.tup [(.frz 1), (.frz 2)]))]
abbrev fd_Line_distances : Fd := ⟨1, 11, is_Line_distances⟩ -- 88
def is_Line_steps : List IS := [(.own 1 (.lst [])), (.for_ (.tp [(.nm 3), (.nm 4)]) .enum [(.att (.var 0) 28)] [(.ex (.mt .append (.var 1) [(.tup [(.var 3), (.bin .add (.var 3) (.cst (.int 1))), (.cst (.int 0)), (.tup [(.var 3), (.cst (.int 1))])])])), (.ite (.cmp .gt (.var 4) (.cst (.int 0))) [(.ex (.mt .append (.var 1) [(.tup [(.bin .add (.var 3) (.cst (.int 1))), (.var 3), (.cst (.int 0)), (.tup [(.var 3), (.bin .sub (.cst (.int 0)) (.cst (.int 1)))])])]))] [])]), (.for_ (.nm 2) .it [(.att (.var 0) 26)] [(.ite (.sub (.var 2) (.cst (.int 4))) [(.ex (.mt .append (.var 1) [(.tup [(.sub (.var 2) (.cst (.int 1))), (.sub (.var 2) (.cst (.int 0))), (.sub (.var 2) (.cst (.int 2))), (.var 2)])]))] [(.ex (.mt .append (.var 1) [(.tup [(.sub (.var 2) (.cst (.int 0))), (.sub (.var 2) (.cst (.int 1))), (.bin .sub (.cst (.int 0)) (.sub (.var 2) (.cst (.int 2)))), (.var 2)])]))])]), (.ret (.frz 1))]
abbrev fd_Line_steps : Fd := ⟨1, 5, is_Line_steps⟩ -- 89
def is_Line_send : List IS := [(.asg (.nm 1) (.sub (.me [3] 30 (.var 0) [] []) (.cst (.int 1)))), (.asg (.nm 2) (.bi .len [(.att (.var 0) 25)])), (.whl (.cmp .ne (.var 2) (.cst (.int 0))) [(.asg (.tp [(.nm 3), (.nm 4)]) (.sub (.var 1) (.var 2))), (.ite (.bi .isTup [(.var 4)]) [(.augS (.att (.var 0) 28) (.sub (.var 4) (.cst (.int 0))) .add (.sub (.var 4) (.cst (.int 1))))] [(.asg (.sub (.var 4) (.cst (.int 4))) (.not (.sub (.var 4) (.cst (.int 4)))))]), (.asg (.nm 2) (.var 3))])]
abbrev fd_Line_send : Fd := ⟨1, 5, is_Line_send⟩ -- 90
def is_line_of : List IS := [(.asg (.nm 3) (.new 3 [(.var 0), (.var 1)] [])), (.for_ (.nm 4) .rng [(.bin .sub (.var 2) (.cst (.int 1)))] [(.ex (.me [3] 29 (.var 3) [] []))]), (.ret (.var 3))]
abbrev fd_line_of : Fd := ⟨3, 5, is_line_of⟩ -- 91
def is_tolls_of : List IS := [(.own 2 (.lc (.cst (.int 0)) (.nm 6) .it [(.var 1)] [] [6])), (.asg (.nm 3) (.sub (.me [3] 30 (.var 0) [] []) (.cst (.int 0)))), (.for_ (.tp [(.nm 4), (.nm 5)]) .enum [(.att (.var 0) 25)] [(.asg (.sub (.var 2) (.var 5)) (.bin .sub (.sub (.var 3) (.var 4)) (.sub (.var 3) (.bin .add (.var 4) (.cst (.int 1))))))]), (.ret (.frz 2))]
abbrev fd_tolls_of : Fd := ⟨2, 7, is_tolls_of⟩ -- 92
def is_toll_of : List IS := [(.ret (.bi .sum [(.slc (.var 0) [(.bin .add (.sub (.var 1) (.cst (.int 0))) (.cst (.int 1)))] [(.sub (.var 1) (.cst (.int 1)))])]))]
abbrev fd_toll_of : Fd := ⟨2, 2, is_toll_of⟩ -- 93
def is_limit : List IS := [(.asg (.nm 4) (.cst (.int 0))), (.for_ (.nm 5) .it [(.fn 7 [(.var 1)] [])] [(.aug 4 .add (.bi .max [(.cst (.int 0)), (.bin .sub (.sub (.var 0) (.sub (.sub (.var 1) (.sub (.var 5) (.cst (.int 0)))) (.cst (.int 1)))) (.fn 93 [(.var 3), (.var 5)] []))]))]), (.ret (.bin .sub (.bin .sub (.fn 9 [(.var 0), (.var 1)] []) (.bin .mul (.bin .sub (.var 2) (.cst (.int 1))) (.bi .sum [(.var 3)]))) (.var 4)))]
abbrev fd_limit : Fd := ⟨4, 6, is_limit⟩ -- 94
def is_least : List IS := [(.asg (.nm 3) (.fn 91 [(.var 0), (.var 1), (.var 2)] [])), (.asg (.nm 4) (.bi .sorted [(.bin .add (.att (.var 3) 27) (.lc (.sub (.var 5) (.cst (.int 3))) (.nm 5) .it [(.att (.var 3) 26)] [(.sub (.var 5) (.cst (.int 4)))] [5]))])), (.ret (.tup [(.fn 10 [(.var 0), (.var 1), (.var 4)] []), (.var 4), (.fn 92 [(.var 3), (.var 1)] [])]))]
abbrev fd_least : Fd := ⟨3, 6, is_least⟩ -- 95
def is_are_tolls : List IS := [(.ite (.or (.not (.bi .isLst [(.var 1)])) (.cmp .ne (.bi .len [(.var 1)]) (.bi .len [(.var 0)]))) [(.ret (.cst (.bl false)))] []), (.ite (.not (.bi .all [(.lc (.and (.bi .isInt [(.var 3)]) (.and (.not (.bi .isBool [(.var 3)])) (.cmp .ge (.var 3) (.cst (.int 0))))) (.nm 3) .it [(.var 1)] [] [3])])) [(.ret (.cst (.bl false)))] []), (.asg (.nm 2) (.fn 8 [(.var 0)] [])), (.ret (.bi .all [(.lc (.or (.cmp .isin (.var 4) (.var 2)) (.cmp .eq (.var 5) (.cst (.int 0)))) (.tp [(.nm 4), (.nm 5)]) .enum [(.var 1)] [] [4, 5])]))]
abbrev fd_are_tolls : Fd := ⟨2, 6, is_are_tolls⟩ -- 96
def is_is_least : List IS := [(.ite (.or (.not (.bi .isTup [(.var 3)])) (.cmp .ne (.bi .len [(.var 3)]) (.cst (.int 3)))) [(.ret (.cst (.bl false)))] []), (.asg (.tp [(.nm 4), (.nm 5), (.nm 6)]) (.var 3)), (.ite (.or (.not (.bi .isInt [(.var 4)])) (.bi .isBool [(.var 4)])) [(.ret (.cst (.bl false)))] []), (.ite (.or (.not (.fn 12 [(.var 1), (.var 2), (.var 5)] [])) (.not (.fn 96 [(.var 1), (.var 6)] []))) [(.ret (.cst (.bl false)))] []), (.ret (.and (.cmp .eq (.fn 10 [(.var 0), (.var 1), (.var 5)] []) (.var 4)) (.cmp .eq (.fn 94 [(.var 0), (.var 1), (.var 2), (.var 6)] []) (.var 4))))]
abbrev fd_is_least : Fd := ⟨4, 7, is_is_least⟩ -- 97
def is__law_limit : List IS := [(.asg (.nm 4) (.bin .sub (.fn 21 [(.var 0), (.var 1), (.lst [])] []) (.bin .mul (.bin .sub (.var 2) (.cst (.int 1))) (.bi .sum [(.var 3)])))), (.for_ (.tp [(.nm 5), (.nm 6)]) .it [(.fn 20 [(.var 1)] [])] [(.asg (.nm 7) (.lc (.var 8) (.tp [(.nm 8), (.nm 9)]) .it [(.slc (.bi .lzip [(.var 3), (.var 1)]) [(.bin .add (.var 5) (.cst (.int 1)))] [(.var 6)])] [(.cmp .eq (.sub (.var 9) (.cst (.int 0))) (.cst (.str "call")))] [8, 9])), (.asg (.nm 4) (.bin .sub (.var 4) (.bi .max [(.cst (.int 0)), (.bin .sub (.sub (.var 0) (.sub (.sub (.var 1) (.var 5)) (.cst (.int 1)))) (.bi .sum [(.var 7)]))])))]), (.ret (.var 4))]
abbrev fd__law_limit : Fd := ⟨4, 10, is__law_limit⟩ -- 98
def is__law_plans : List IS := [(.asg (.nm 2) (.lst [(.lst [])])), (.for_ (.nm 3) .it [(.fn 20 [(.var 0)] [])] [(.asg (.nm 2) (.bin .add (.var 2) (.lc (.bin .add (.var 4) (.lst [(.var 3)])) (.nm 4) .it [(.var 2)] [(.fn 23 [(.var 0), (.var 1), (.bin .add (.var 4) (.lst [(.var 3)]))] [])] [4])))]), (.ret (.var 2))]
abbrev fd__law_plans : Fd := ⟨2, 5, is__law_plans⟩ -- 99
def is__law_are_tolls : List IS := [(.ite (.or (.not (.bi .isLst [(.var 1)])) (.cmp .ne (.bi .len [(.var 1)]) (.bi .len [(.var 0)]))) [(.ret (.cst (.bl false)))] []), (.ite (.cmp .ne (.lc (.var 2) (.nm 2) .it [(.var 1)] [(.or (.not (.bi .isInt [(.var 2)])) (.bi .isBool [(.var 2)]))] [2]) (.lst [])) [(.ret (.cst (.bl false)))] []), (.ite (.cmp .ne (.lc (.var 2) (.nm 2) .it [(.var 1)] [(.cmp .lt (.var 2) (.cst (.int 0)))] [2]) (.lst [])) [(.ret (.cst (.bl false)))] []), (.ret (.cmp .eq (.lc (.cst (.int 1)) (.tp [(.nm 3), (.nm 4)]) .zip [(.var 1), (.var 0)] [(.and (.cmp .gt (.var 3) (.cst (.int 0))) (.cmp .eq (.sub (.var 4) (.cst (.int 0))) (.cst (.str "void"))))] [3, 4]) (.lst [])))]
abbrev fd__law_are_tolls : Fd := ⟨2, 5, is__law_are_tolls⟩ -- 100
def is__law_is_least : List IS := [(.ite (.or (.not (.bi .isTup [(.var 3)])) (.or (.cmp .ne (.bi .len [(.var 3)]) (.cst (.int 3))) (.or (.not (.bi .isInt [(.sub (.var 3) (.cst (.int 0)))])) (.bi .isBool [(.sub (.var 3) (.cst (.int 0)))])))) [(.ret (.cst (.bl false)))] []), (.ite (.or (.not (.fn 267 [(.var 1), (.var 2), (.sub (.var 3) (.cst (.int 1)))] [])) (.not (.fn 100 [(.var 1), (.sub (.var 3) (.cst (.int 2)))] []))) [(.ret (.cst (.bl false)))] []), (.ret (.chn .eq .eq (.fn 21 [(.var 0), (.var 1), (.sub (.var 3) (.cst (.int 1)))] []) (.sub (.var 3) (.cst (.int 0))) (.fn 98 [(.var 0), (.var 1), (.var 2), (.sub (.var 3) (.cst (.int 2)))] [])))]
abbrev fd__law_is_least : Fd := ⟨4, 4, is__law_is_least⟩ -- 101
def is_least_costs : List IS := [(.ret (.lc (.sub (.fn 95 [(.var 0), (.var 1), (.var 2)] []) (.cst (.int 0))) (.nm 2) .rng [(.cst (.int 1)), (.bin .add (.glb 0 (.int 8)) (.cst (.int 1)))] [] [2]))]
abbrev fd_least_costs : Fd := ⟨2, 3, is_least_costs⟩ -- 109
def is_Keeper___init__ : List IS := [(.asg (.att (.var 0) 12) (.var 1)), (.asg (.att (.var 0) 13) (.bi .dict [(.var 2)])), (.asg (.att (.var 0) 14) (.lst [])), (.asg (.att (.var 0) 32) (.heap (.dsp []))), (.asg (.att (.var 0) 33) (.heap (.dsp []))), (.asg (.att (.var 0) 34) (.lst [(.cst (.int 0)), (.cst (.int 0)), (.cst (.int 0))])), (.asg (.att (.var 0) 35) (.heap (.lst []))), (.asg (.att (.var 0) 36) (.heap (.lst [])))]
abbrev fd_Keeper___init__ : Fd := ⟨3, 3, is_Keeper___init__⟩ -- 118
def is_Keeper___contains__ : List IS := [(.ret (.and (.bi .isStr [(.var 1)]) (.cmp .isin (.var 1) (.att (.var 0) 14))))]
abbrev fd_Keeper___contains__ : Fd := ⟨2, 2, is_Keeper___contains__⟩ -- 119
def is_Keeper___len__ : List IS := [(.ret (.bi .len [(.att (.var 0) 14)]))]
abbrev fd_Keeper___len__ : Fd := ⟨1, 1, is_Keeper___len__⟩ -- 120
def is_Keeper_prices : List IS := [(.ret (.bi .dict [(.att (.var 0) 13)]))]
abbrev fd_Keeper_prices : Fd := ⟨1, 1, is_Keeper_prices⟩ -- 121
def is_Keeper_names : List IS := [(.ret (.bi .list [(.att (.var 0) 14)]))]
abbrev fd_Keeper_names : Fd := ⟨1, 1, is_Keeper_names⟩ -- 122
def is_Keeper_paid : List IS := [(.ret (.sub (.att (.var 0) 34) (.cst (.int 0))))]
abbrev fd_Keeper_paid : Fd := ⟨1, 1, is_Keeper_paid⟩ -- 123
def is_Keeper_returned : List IS := [(.ret (.sub (.att (.var 0) 34) (.cst (.int 1))))]
abbrev fd_Keeper_returned : Fd := ⟨1, 1, is_Keeper_returned⟩ -- 124
def is_Keeper_lost : List IS := [(.ret (.sub (.att (.var 0) 34) (.cst (.int 2))))]
abbrev fd_Keeper_lost : Fd := ⟨1, 1, is_Keeper_lost⟩ -- 125
def is_Keeper_is_full_for : List IS := [(.ret (.and (.cmp .notin (.var 1) (.att (.var 0) 32)) (.cmp .ge (.bi .len [(.att (.var 0) 32)]) (.att (.var 0) 12))))]
abbrev fd_Keeper_is_full_for : Fd := ⟨2, 2, is_Keeper_is_full_for⟩ -- 126
def is_Keeper_rent : List IS := [(.ret (.bi .min [(.lcr (.sub (.att (.var 0) 32) (.var 1)) (.nm 1) (.att (valI 0) 32) [] [1])]))]
abbrev fd_Keeper_rent : Fd := ⟨1, 2, is_Keeper_rent⟩ -- 127
def is_Keeper_choices : List IS := [(.ex (.fn 28 [(.att (.var 0) 13), (.var 1)] [])), (.ite (.not (.me [1] 48 (.var 0) [(.var 1)] [])) [(.ret (.lst []))] []), (.asg (.nm 2) (.me [1] 42 (.var 0) [] [])), (.ret (.bi .sorted [(.lcr (.var 3) (.nm 3) (.att (valI 0) 32) [(.cmp .eq (.sub (.att (.var 0) 32) (.var 3)) (.var 2))] [3])]))]
abbrev fd_Keeper_choices : Fd := ⟨2, 4, is_Keeper_choices⟩ -- 128
def is_Keeper_what_given : List IS := [(.asg (.nm 3) (.ite (.cmp .isin (.var 1) (.att (.var 0) 32)) (.bin .sub (.sub (.att (.var 0) 13) (.var 1)) (.sub (.att (.var 0) 32) (.var 1))) (.cst .non))), (.ite (.cmp .is_ (.var 2) (.cst .non)) [(.ret (.ite (.cmp .is_ (.var 3) (.cst .non)) (.cst (.int 0)) (.var 3)))] []), (.ite (.or (.cmp .is_ (.var 3) (.cst .non)) (.not (.fn 25 [(.var 2), (.cst (.int 0)), (.var 3)] []))) [(.rais 2 (.var 2))] []), (.ret (.var 2))]
abbrev fd_Keeper_what_given : Fd := ⟨3, 4, is_Keeper_what_given⟩ -- 129
def is_Keeper_what_out : List IS := [(.asg (.nm 3) (.me [1] 41 (.var 0) [(.var 1)] [])), (.ite (.cmp .is_ (.var 2) (.cst .non)) [(.asg (.nm 4) (.bi .sorted [(.lc (.tup [(.sub (.att (.var 0) 33) (.var 5)), (.var 5)]) (.nm 5) .it [(.var 3)] [] [5])])), (.ret (.bi .tuple [(.lc (.var 5) (.tp [(.nm 6), (.nm 5)]) .it [(.slc (.var 4) [] [(.cst (.int 1))])] [] [6, 5])]))] []), (.ite (.or (.not (.fn 29 [(.var 2), (.var 3)] [])) (.and (.cmp .eq (.var 2) (.tup [])) (.cmp .ne (.var 3) (.lst [])))) [(.rais 1 (.var 2))] []), (.ret (.var 2))]
abbrev fd_Keeper_what_out : Fd := ⟨3, 7, is_Keeper_what_out⟩ -- 130
def is_Keeper_met : List IS := [(.asg (.att (.var 0) 14) (.bi .sorted [(.att (.var 0) 32)])), (.asg (.att (.var 0) 34) (.lst [(.bin .add (.sub (.att (.var 0) 34) (.cst (.int 0))) (.var 3)), (.bin .add (.sub (.att (.var 0) 34) (.cst (.int 1))) (.var 4)), (.bin .add (.sub (.att (.var 0) 34) (.cst (.int 2))) (.var 5))])), (.ex (.mt .append (.att (.var 0) 35) [(.tup [(.var 1), (.var 2)])])), (.ret (.var 2))]
abbrev fd_Keeper_met : Fd := ⟨6, 6, is_Keeper_met⟩ -- 131
def is_Keeper_call : List IS := [(.ex (.fn 28 [(.att (.var 0) 13), (.var 1)] [])), (.asg (.nm 4) (.me [1] 43 (.var 0) [(.var 1), (.var 2)] [])), (.asg (.nm 5) (.me [1] 44 (.var 0) [(.var 1), (.var 3)] [])), (.asg (.sub (.att (.var 0) 33) (.var 1)) (.bi .len [(.att (.var 0) 35)])), (.ite (.cmp .isin (.var 1) (.att (.var 0) 32)) [(.asg (.sub (.att (.var 0) 32) (.var 1)) (.bin .add (.sub (.att (.var 0) 32) (.var 1)) (.var 4))), (.ret (.me [1] 45 (.var 0) [(.tup [(.cst (.str "call")), (.var 1)]), (.tup [(.cst (.int 0)), (.var 4), (.cst (.int 0)), (.tup [])]), (.cst (.int 0)), (.var 4), (.cst (.int 0))] []))] []), (.asg (.nm 6) (.ite (.cmp .ne (.var 5) (.tup [])) (.me [1] 42 (.var 0) [] []) (.cst (.int 0)))), (.asg (.nm 7) (.sub (.att (.var 0) 13) (.var 1))), (.asg (.att (.var 0) 32) (.heap (.dcr (.var 8) (.bin .sub (.sub (.att (.var 0) 32) (.var 8)) (.var 6)) (.nm 8) (.att (valI 0) 32) [(.cmp .notin (.var 8) (.var 5))] [8]))), (.asg (.sub (.att (.var 0) 32) (.var 1)) (.var 7)), (.ret (.me [1] 45 (.var 0) [(.tup [(.cst (.str "call")), (.var 1)]), (.tup [(.var 7), (.cst (.int 0)), (.var 6), (.bi .tuple [(.bi .sorted [(.var 5)])])]), (.var 7), (.cst (.int 0)), (.cst (.int 0))] []))]
abbrev fd_Keeper_call : Fd := ⟨4, 9, is_Keeper_call⟩ -- 132
def is_Keeper_void : List IS := [(.ex (.fn 28 [(.att (.var 0) 13), (.var 1)] [])), (.asg (.nm 2) (.mt .dpop (.att (.var 0) 32) [(.var 1), (.cst (.int 0))])), (.ret (.me [1] 45 (.var 0) [(.tup [(.cst (.str "void")), (.var 1)]), (.var 2), (.cst (.int 0)), (.cst (.int 0)), (.var 2)] []))]
abbrev fd_Keeper_void : Fd := ⟨2, 3, is_Keeper_void⟩ -- 133
def is_Keeper_accounts : List IS := [(.ret (.bi .dict [(.att (.var 0) 32)]))]
abbrev fd_Keeper_accounts : Fd := ⟨1, 1, is_Keeper_accounts⟩ -- 134
def is_Keeper_journal : List IS := [(.ret (.bi .list [(.att (.var 0) 35)]))]
abbrev fd_Keeper_journal : Fd := ⟨1, 1, is_Keeper_journal⟩ -- 135
def is_Keeper_mark : List IS := [(.ex (.mt .append (.att (.var 0) 36) [(.tup [(.bi .dict [(.att (.var 0) 32)]), (.bi .dict [(.att (.var 0) 33)]), (.att (.var 0) 34), (.bi .len [(.att (.var 0) 35)])])])), (.ret (.bin .sub (.bi .len [(.att (.var 0) 36)]) (.cst (.int 1))))]
abbrev fd_Keeper_mark : Fd := ⟨1, 1, is_Keeper_mark⟩ -- 136
def is_Keeper_back : List IS := [(.ite (.not (.fn 25 [(.var 1), (.cst (.int 0)), (.bin .sub (.bi .len [(.att (.var 0) 36)]) (.cst (.int 1)))] [])) [(.rais 3 (.var 1))] []), (.asg (.tp [(.nm 2), (.nm 3), (.att (.var 0) 34), (.nm 4)]) (.sub (.att (.var 0) 36) (.var 1))), (.asg (.tp [(.att (.var 0) 32), (.att (.var 0) 33)]) (.tup [(.heap (.bi .dict [(.var 2)])), (.heap (.bi .dict [(.var 3)]))])), (.asg (.att (.var 0) 14) (.bi .sorted [(.att (.var 0) 32)])), (.asg (.att (.var 0) 35) (.heap (.slc (.att (.var 0) 35) [] [(.var 4)]))), (.asg (.att (.var 0) 36) (.heap (.slc (.att (.var 0) 36) [] [(.bin .add (.var 1) (.cst (.int 1)))])))]
abbrev fd_Keeper_back : Fd := ⟨2, 5, is_Keeper_back⟩ -- 137
def is_missing : List IS := [(.for_ (.nm 2) .it [(.bi .sorted [(.var 0)])] [(.ite (.inown true 10 (.var 2) (.var 1)) [(.ret (.var 2))] [])]), (.ret (.cst .non))]
abbrev fd_missing : Fd := ⟨2, 3, is_missing⟩ -- 138
def is__law_chosen : List IS := [(.par 3 4 false false (.sub (.var 1) (.cst (.str "credits_so"))) (.fn 263 [(.var 1), (.var 2)] [])), (.asg (.tp [(.nm 5), (.nm 6)]) (.tup [(.cst .non), (.cst .non)])), (.ite (.and (.cmp .isin (.var 2) (.var 3)) (.cmp .gt (.fn 1 [(.var 0), (.cst (.int 3))] []) (.cst (.int 0)))) [(.asg (.nm 7) (.bin .sub (.sub (.sub (.var 1) (.cst (.str "things"))) (.var 2)) (.sub (.var 3) (.var 2)))), (.asg (.nm 5) (.fn 2 [(.var 0), (.lst [(.cst (.int 0)), (.var 7), (.fn 1 [(.var 0), (.bin .add (.var 7) (.cst (.int 1)))] []), (.bin .fdiv (.var 7) (.cst (.int 2)))])] []))] []), (.ite (.and (.cmp .ne (.var 4) (.lst [])) (.cmp .gt (.fn 1 [(.var 0), (.cst (.int 4))] []) (.cst (.int 0)))) [(.asg (.nm 8) (.lc (.var 9) (.nm 9) .it [(.var 4)] [(.cmp .eq (.fn 1 [(.var 0), (.cst (.int 3))] []) (.cst (.int 0)))] [9])), (.asg (.nm 6) (.sls (.bi .tuple [(.ite (.cmp .ne (.var 8) (.lst [])) (.var 8) (.lst [(.fn 2 [(.var 0), (.var 4)] [])]))]) (.fn 2 [(.var 0), (.lst [(.cst (.int 1)), (.neg (.cst (.int 1)))])] [])))] []), (.ret (.lst [(.var 5), (.var 6)]))]
abbrev fd__law_chosen : Fd := ⟨3, 10, is__law_chosen⟩ -- 144
def is__law_noted : List IS := [(.asg (.tp [(.sub (.var 0) (.cst (.str "paid"))), (.sub (.var 0) (.cst (.str "given_so")))]) (.tup [(.bin .add (.sub (.var 0) (.cst (.str "paid"))) (.var 3)), (.bin .add (.sub (.var 0) (.cst (.str "given_so"))) (.var 4))])), (.asg (.sub (.var 0) (.cst (.str "lost_so"))) (.bin .add (.sub (.var 0) (.cst (.str "lost_so"))) (.var 5))), (.asg (.sub (.var 0) (.cst (.str "told"))) (.bin .add (.sub (.var 0) (.cst (.str "told"))) (.lst [(.tup [(.var 1), (.var 2)])]))), (.ret (.var 2))]
abbrev fd__law_noted : Fd := ⟨6, 6, is__law_noted⟩ -- 145
def is_row_of : List IS := [(.ret (.lc (.var 1) (.tp [(.nm 1), (.nm 2)]) .it [(.var 0)] [] [1, 2]))]
abbrev fd_row_of : Fd := ⟨1, 3, is_row_of⟩ -- 158
def is_rents_of : List IS := [(.ret (.lc (.ite (.cmp .eq (.sub (.var 1) (.cst (.int 0))) (.cst (.str "call"))) (.sub (.var 2) (.cst (.int 2))) (.cst (.int 0))) (.tp [(.nm 1), (.nm 2)]) .it [(.var 0)] [] [1, 2]))]
abbrev fd_rents_of : Fd := ⟨1, 3, is_rents_of⟩ -- 159
def is_rent_limit : List IS := [(.asg (.nm 2) (.me [1] 47 (.var 0) [] [])), (.ret (.fn 94 [(.me [1] 16 (.var 0) [] []), (.fn 158 [(.var 2)] []), (.var 1), (.fn 159 [(.var 2)] [])] []))]
abbrev fd_rent_limit : Fd := ⟨2, 3, is_rent_limit⟩ -- 160
def is_Steps___init__ : List IS := [(.asg (.att (.var 0) 13) (.var 1)), (.asg (.att (.var 0) 12) (.var 2)), (.asg (.att (.var 0) 32) (.heap (.dsp [])))]
abbrev fd_Steps___init__ : Fd := ⟨3, 3, is_Steps___init__⟩ -- 173
def is_Steps_takes : List IS := [(.asg (.tp [(.nm 3), (.nm 4)]) (.var 1)), (.ite (.cmp .eq (.var 3) (.cst (.str "void"))) [(.asg (.nm 5) (.mt .dget (.att (.var 0) 32) [(.var 4), (.cst (.int 0))])), (.ite (.not (.fn 25 [(.var 2), (.var 5), (.var 5)] [])) [(.ret (.cst (.bl false)))] []), (.ex (.mt .dpop (.att (.var 0) 32) [(.var 4), (.cst .non)])), (.ret (.cst (.bl true)))] []), (.ite (.or (.not (.bi .isTup [(.var 2)])) (.or (.cmp .ne (.bi .len [(.var 2)]) (.cst (.int 4))) (.not (.bi .isTup [(.sub (.var 2) (.cst (.int 3)))])))) [(.ret (.cst (.bl false)))] []), (.ite (.cmp .isin (.var 4) (.att (.var 0) 32)) [(.ret (.me [2] 52 (.var 0) [(.var 4), (.var 2)] []))] []), (.ret (.me [2] 51 (.var 0) [(.var 4), (.var 2)] []))]
abbrev fd_Steps_takes : Fd := ⟨3, 6, is_Steps_takes⟩ -- 174
def is_Steps_takes_found : List IS := [(.asg (.nm 3) (.bin .sub (.sub (.att (.var 0) 13) (.var 1)) (.sub (.att (.var 0) 32) (.var 1)))), (.ite (.or (.not (.fn 25 [(.sub (.var 2) (.cst (.int 0))), (.cst (.int 0)), (.cst (.int 0))] [])) (.or (.not (.fn 25 [(.sub (.var 2) (.cst (.int 1))), (.cst (.int 0)), (.var 3)] [])) (.not (.fn 25 [(.sub (.var 2) (.cst (.int 2))), (.cst (.int 0)), (.cst (.int 0))] [])))) [(.ret (.cst (.bl false)))] []), (.asg (.sub (.att (.var 0) 32) (.var 1)) (.bin .add (.sub (.att (.var 0) 32) (.var 1)) (.sub (.var 2) (.cst (.int 1))))), (.ret (.cmp .eq (.sub (.var 2) (.cst (.int 3))) (.tup [])))]
abbrev fd_Steps_takes_found : Fd := ⟨3, 4, is_Steps_takes_found⟩ -- 175
def is_Steps_takes_fetched : List IS := [(.asg (.nm 3) (.sub (.att (.var 0) 13) (.var 1))), (.ite (.or (.not (.fn 25 [(.sub (.var 2) (.cst (.int 0))), (.var 3), (.var 3)] [])) (.not (.fn 25 [(.sub (.var 2) (.cst (.int 1))), (.cst (.int 0)), (.cst (.int 0))] []))) [(.ret (.cst (.bl false)))] []), (.par 5 6 false false (.cst (.int 0)) (.lst [])), (.ite (.cmp .ge (.bi .len [(.att (.var 0) 32)]) (.att (.var 0) 12)) [(.asg (.nm 5) (.bi .min [(.lcr (.sub (.att (.var 0) 32) (.var 7)) (.nm 7) (.att (valI 0) 32) [] [7])])), (.asg (.nm 6) (.lcr (.var 7) (.nm 7) (.att (valI 0) 32) [(.cmp .eq (.sub (.att (.var 0) 32) (.var 7)) (.var 5))] [7]))] []), (.asg (.nm 4) (.sub (.var 2) (.cst (.int 3)))), (.ite (.or (.not (.fn 25 [(.sub (.var 2) (.cst (.int 2))), (.var 5), (.var 5)] [])) (.or (.not (.fn 29 [(.var 4), (.var 6)] [])) (.cmp .ne (.bi .list [(.var 4)]) (.bi .sorted [(.var 4)])))) [(.ret (.cst (.bl false)))] []), (.ite (.and (.cmp .eq (.var 4) (.tup [])) (.cmp .ne (.var 6) (.lst []))) [(.ret (.cst (.bl false)))] []), (.asg (.att (.var 0) 32) (.heap (.dcr (.var 7) (.bin .sub (.sub (.att (.var 0) 32) (.var 7)) (.var 5)) (.nm 7) (.att (valI 0) 32) [(.cmp .notin (.var 7) (.var 4))] [7]))), (.asg (.sub (.att (.var 0) 32) (.var 1)) (.var 3)), (.ret (.cst (.bl true)))]
abbrev fd_Steps_takes_fetched : Fd := ⟨3, 8, is_Steps_takes_fetched⟩ -- 176
def is_fault : List IS := [(.asg (.nm 3) (.new 2 [(.var 0), (.var 1)] [])), (.for_ (.tp [(.nm 4), (.tp [(.nm 5), (.nm 6)])]) .enum [(.var 2)] [(.ite (.not (.me [2] 53 (.var 3) [(.var 5), (.var 6)] [])) [(.ret (.var 4))] [])]), (.ret (.cst .non))]
abbrev fd_fault : Fd := ⟨3, 7, is_fault⟩ -- 177
def is__law_moved : List IS := [(.own 4 (.bi .list [(.var 1)])), (.ite (.cmp .isin (.var 3) (.var 4)) [(.ret (.tup []))] []), (.own 5 (.lst [])), (.whl (.or (.cmp .ge (.bi .len [(.var 4)]) (.var 2)) (.and (.cmp .ne (.var 4) (.lst [])) (.cmp .eq (.fn 1 [(.var 0), (.cst (.int 6))] []) (.cst (.int 0))))) [(.ex (.mt .append (.var 5) [(.mt .pop (.var 4) [(.fn 1 [(.var 0), (.bi .len [(.var 4)])] [])])]))]), (.ret (.bi .tuple [(.var 5)]))]
abbrev fd__law_moved : Fd := ⟨4, 6, is__law_moved⟩ -- 188
def is__law_call : List IS := [(.asg (.tp [(.nm 5), (.nm 6)]) (.tup [(.cst .non), (.cst .non)])), (.ite (.and (.inown false 10 (.var 3) (.var 1)) (.cmp .gt (.fn 1 [(.var 0), (.cst (.int 3))] []) (.cst (.int 0)))) [(.asg (.nm 7) (.bin .sub (.sub (.var 2) (.var 3)) (.sub (.me [1] 38 (.var 1) [] []) (.var 3)))), (.asg (.nm 5) (.fn 2 [(.var 0), (.lst [(.cst (.int 0)), (.cst (.int 0)), (.var 7), (.fn 1 [(.var 0), (.bin .add (.var 7) (.cst (.int 1)))] [])])] []))] []), (.asg (.nm 4) (.me [1] 41 (.var 1) [(.var 3)] [])), (.ite (.and (.cmp .ne (.var 4) (.lst [])) (.cmp .gt (.fn 1 [(.var 0), (.cst (.int 3))] []) (.cst (.int 0)))) [(.asg (.nm 6) (.fn 2 [(.var 0), (.lst [(.bi .tuple [(.var 4)]), (.bi .tuple [(.slc (.var 4) [] [(.cst (.int 1))])]), (.bi .tuple [(.slc (.var 4) [(.neg (.cst (.int 1)))] [])]), (.tup [(.fn 2 [(.var 0), (.var 4)] [])])])] []))] []), (.ex (.me [1] 21 (.var 1) [(.var 3), (.var 5), (.var 6)] [.inl 0, .inl 1, .inl 2]))]
abbrev fd__law_call : Fd := ⟨4, 8, is__law_call⟩ -- 195
def is_block_plan : List IS := [(.asg (.nm 3) (.fn 7 [(.var 0)] [])), (.ite (.cmp .gt (.var 2) (.var 1)) [(.ret (.var 3))] []), (.asg (.nm 4) (.lc (.var 7) (.tp [(.nm 6), (.nm 7)]) .it [(.var 3)] [(.and (.cmp .ge (.var 7) (.var 1)) (.chn .lt .lt (.cst (.int 0)) (.bin .mod (.var 7) (.var 1)) (.var 2)))] [6, 7])), (.ret (.lc (.var 5) (.nm 5) .it [(.var 3)] [(.cmp .isin (.sub (.var 5) (.cst (.int 1))) (.var 4))] [5]))]
abbrev fd_block_plan : Fd := ⟨3, 8, is_block_plan⟩ -- 204
def is_Cruel___init__ : List IS := [(.asg (.att (.var 0) 13) (.bi .dict [(.var 1)])), (.asg (.att (.var 0) 54) (.var 2)), (.asg (.att (.var 0) 12) (.var 3)), (.asg (.att (.var 0) 55) (.heap (.lst []))), (.asg (.att (.var 0) 56) (.heap (.lst []))), (.asg (.att (.var 0) 57) (.heap (.lst []))), (.asg (.att (.var 0) 58) (.heap (.lst [])))]
abbrev fd_Cruel___init__ : Fd := ⟨4, 4, is_Cruel___init__⟩ -- 214
def is_Cruel_next_call : List IS := [(.ite (.cmp .lt (.bi .len [(.att (.var 0) 55)]) (.att (.var 0) 12)) [(.asg (.nm 2) (.sub (.lc (.var 4) (.nm 4) .it [(.bi .sorted [(.att (.var 0) 13)])] [(.cmp .notin (.var 4) (.att (.var 0) 55))] [4]) (.cst (.int 0)))), (.ex (.mt .append (.att (.var 0) 56) [(.var 2)]))] [(.ite (.cmp .lt (.bi .len [(.att (.var 0) 57)]) (.bin .add (.bin .sub (.att (.var 0) 54) (.att (.var 0) 12)) (.cst (.int 1)))) [(.asg (.nm 3) (.bin .add (.bin .add (.bi .list [(.var 1)]) (.att (.var 0) 56)) (.att (.var 0) 57))), (.asg (.nm 2) (.sub (.lc (.var 4) (.nm 4) .it [(.bi .sorted [(.att (.var 0) 13)])] [(.cmp .notin (.var 4) (.var 3))] [4]) (.cst (.int 0)))), (.ex (.mt .append (.att (.var 0) 57) [(.var 2)]))] [(.asg (.nm 2) (.sub (.lc (.var 4) (.nm 4) .it [(.bin .add (.att (.var 0) 56) (.att (.var 0) 57))] [(.cmp .notin (.var 4) (.var 1))] [4]) (.cst (.int 0)))), (.ex (.mt .append (.att (.var 0) 58) [(.var 2)]))])]), (.ite (.cmp .eq (.bin .add (.bi .len [(.att (.var 0) 57)]) (.bi .len [(.att (.var 0) 58)])) (.att (.var 0) 54)) [(.ex (.me [4] 62 (.var 0) [] []))] []), (.ex (.mt .append (.att (.var 0) 55) [(.var 2)])), (.ret (.var 2))]
abbrev fd_Cruel_next_call : Fd := ⟨2, 5, is_Cruel_next_call⟩ -- 215
def is_Cruel_end_round : List IS := [(.own 1 (.lst [(.sub (.att (.var 0) 57) (.neg (.cst (.int 1))))])), (.for_ (.nm 2) .it [(.bin .add (.att (.var 0) 58) (.att (.var 0) 56))] [(.ite (.and (.cmp .notin (.var 2) (.var 1)) (.cmp .lt (.bi .len [(.var 1)]) (.att (.var 0) 12))) [(.ex (.mt .append (.var 1) [(.var 2)]))] [])]), (.asg (.att (.var 0) 56) (.mv 1)), (.asg (.att (.var 0) 57) (.heap (.lst []))), (.asg (.att (.var 0) 58) (.heap (.lst [])))]
abbrev fd_Cruel_end_round : Fd := ⟨1, 3, is_Cruel_end_round⟩ -- 216
def is_Cruel_row : List IS := [(.ret (.lc (.tup [(.cst (.str "call")), (.var 1)]) (.nm 1) .it [(.att (.var 0) 55)] [] [1]))]
abbrev fd_Cruel_row : Fd := ⟨1, 2, is_Cruel_row⟩ -- 217
def is_gap : List IS := [(.par 5 6 false false (.me [1] 38 (.var 0) [] []) (.me [0] 16 (.var 1) [] [])), (.asg (.nm 2) (.bi .sum [(.lc (.bin .sub (.sub (.var 6) (.var 7)) (.mt .dget (.var 5) [(.var 7), (.cst (.int 0))])) (.nm 7) .it [(.me [0] 19 (.var 1) [] [])] [] [7])])), (.asg (.nm 3) (.bin .mul (.bin .add (.bin .sub (.att (.var 0) 12) (.att (.var 1) 12)) (.cst (.int 1))) (.prp (.var 0) 20))), (.asg (.nm 4) (.bin .mul (.bin .sub (.att (.var 1) 12) (.cst (.int 1))) (.bi .sum [(.lck (.sub (.var 5) (.var 7)) (.nm 7) false 5 [] [7])]))), (.ret (.bin .sub (.bin .sub (.bin .sub (.bin .mul (.att (.var 0) 12) (.prp (.var 1) 20)) (.var 3)) (.var 4)) (.bin .mul (.att (.var 0) 12) (.var 2))))]
abbrev fd_gap : Fd := ⟨2, 8, is_gap⟩ -- 260
def is_Line___init__ : List IS := [(.asg (.att (.var 0) 25) (.fn 8 [(.var 2)] [])), (.asg (.nm 3) (.dc (.var 9) (.var 8) (.tp [(.nm 8), (.nm 9)]) .enum [(.att (.var 0) 25)] [] [8, 9])), (.asg (.att (.var 0) 26) (.heap (.lst []))), (.asg (.att (.var 0) 27) (.heap (.lst []))), (.for_ (.tp [(.nm 4), (.nm 5)]) .it [(.fn 7 [(.var 2)] [])] [(.ite (.cmp .eq (.bin .add (.sub (.var 3) (.var 4)) (.cst (.int 1))) (.sub (.var 3) (.var 5))) [(.ex (.mt .append (.att (.var 0) 27) [(.tup [(.var 4), (.var 5)])]))] [(.asg (.nm 6) (.sub (.var 1) (.sub (.sub (.var 2) (.var 4)) (.cst (.int 1))))), (.ex (.mt .append (.att (.var 0) 26) [(.heap (.lst [(.bin .add (.sub (.var 3) (.var 4)) (.cst (.int 1))), (.sub (.var 3) (.var 5)), (.var 6), (.tup [(.var 4), (.var 5)]), (.cst (.bl false))]))]))])]), (.asg (.att (.var 0) 28) (.heap (.lc (.cst (.int 0)) (.nm 7) .it [(.att (.var 0) 25)] [] [7])))]
abbrev fd_Line___init__ : Fd := ⟨3, 10, is_Line___init__⟩ -- 261
def is__law_new : List IS := [(.own 2 (.dsp [(.cst (.str "places")), (.var 0), (.cst (.str "things")), (.var 1), (.cst (.str "credits_so")), (.heap (.dsp [])), (.cst (.str "last")), (.heap (.dsp [])), (.cst (.str "calls")), (.cst (.int 0))])), (.ex (.mt .upd (.var 2) [(.dsp [(.cst (.str "paid")), (.cst (.int 0)), (.cst (.str "given_so")), (.cst (.int 0)), (.cst (.str "lost_so")), (.cst (.int 0)), (.cst (.str "told")), (.lst [])])])), (.ret (.mv 2))]
abbrev fd__law_new : Fd := ⟨2, 3, is__law_new⟩ -- 262
def is__law_choices : List IS := [(.asg (.nm 2) (.sub (.var 0) (.cst (.str "credits_so")))), (.ite (.or (.cmp .isin (.var 1) (.var 2)) (.cmp .lt (.bi .len [(.var 2)]) (.sub (.var 0) (.cst (.str "places"))))) [(.ret (.lst []))] []), (.asg (.nm 3) (.bi .min [(.lcr (.sub (.var 2) (.var 4)) (.nm 4) (valI 2) [] [4])])), (.ret (.bi .sorted [(.lcr (.var 4) (.nm 4) (valI 2) [(.cmp .eq (.sub (.var 2) (.var 4)) (.var 3))] [4])]))]
abbrev fd__law_choices : Fd := ⟨2, 5, is__law_choices⟩ -- 263
def is__law_called : List IS := [(.par 9 10 false false (.sub (.var 0) (.cst (.str "credits_so"))) (.sub (.sub (.var 0) (.cst (.str "things"))) (.var 1))), (.asg (.nm 4) (.fn 263 [(.var 0), (.var 1)] [])), (.asg (.sub (.var 0) (.cst (.str "calls"))) (.bin .add (.sub (.var 0) (.cst (.str "calls"))) (.cst (.int 1)))), (.asg (.sub (.sub (.var 0) (.cst (.str "last"))) (.var 1)) (.sub (.var 0) (.cst (.str "calls")))), (.ite (.cmp .isin (.var 1) (.var 9)) [(.asg (.nm 11) (.ite (.cmp .is_ (.var 2) (.cst .non)) (.bin .sub (.var 10) (.sub (.var 9) (.var 1))) (.var 2))), (.asg (.sub (.var 9) (.var 1)) (.bin .add (.sub (.var 9) (.var 1)) (.var 11))), (.ret (.fn 145 [(.var 0), (.tup [(.cst (.str "call")), (.var 1)]), (.tup [(.cst (.int 0)), (.var 11), (.cst (.int 0)), (.tup [])]), (.cst (.int 0)), (.var 11), (.cst (.int 0))] []))] []), (.asg (.nm 5) (.var 3)), (.ite (.cmp .is_ (.var 3) (.cst .non)) [(.asg (.nm 5) (.bi .tuple [(.lc (.var 8) (.tp [(.nm 12), (.nm 8)]) .it [(.slc (.bi .sorted [(.lc (.tup [(.sub (.sub (.var 0) (.cst (.str "last"))) (.var 8)), (.var 8)]) (.nm 8) .it [(.var 4)] [] [8])]) [] [(.cst (.int 1))])] [] [12, 8])]))] []), (.asg (.nm 6) (.ite (.cmp .ne (.var 4) (.lst [])) (.bi .min [(.lcr (.sub (.var 9) (.var 8)) (.nm 8) (valI 9) [] [8])]) (.cst (.int 0)))), (.own 7 (.dsp [])), (.forr (.nm 8) (valI 9) [(.ite (.cmp .notin (.var 8) (.var 5)) [(.asg (.sub (.var 7) (.var 8)) (.bin .sub (.sub (.var 9) (.var 8)) (.var 6)))] [])]), (.asg (.sub (.var 7) (.var 1)) (.var 10)), (.asg (.sub (.var 0) (.cst (.str "credits_so"))) (.mv 7)), (.ret (.fn 145 [(.var 0), (.tup [(.cst (.str "call")), (.var 1)]), (.tup [(.var 10), (.cst (.int 0)), (.var 6), (.bi .tuple [(.bi .sorted [(.var 5)])])]), (.var 10), (.cst (.int 0)), (.cst (.int 0))] []))]
abbrev fd__law_called : Fd := ⟨4, 13, is__law_called⟩ -- 264
def is__law_voided : List IS := [(.asg (.nm 2) (.sub (.var 0) (.cst (.str "credits_so")))), (.asg (.sub (.var 0) (.cst (.str "credits_so"))) (.heap (.bi .dict [(.lcr (.tup [(.var 3), (.sub (.var 2) (.var 3))]) (.nm 3) (valI 2) [(.cmp .ne (.var 3) (.var 1))] [3])]))), (.ret (.fn 145 [(.var 0), (.tup [(.cst (.str "void")), (.var 1)]), (.mt .dget (.var 2) [(.var 1), (.cst (.int 0))]), (.cst (.int 0)), (.cst (.int 0)), (.mt .dget (.var 2) [(.var 1), (.cst (.int 0))])] []))]
abbrev fd__law_voided : Fd := ⟨2, 4, is__law_voided⟩ -- 265
def is__law_is_plan : List IS := [(.ite (.or (.not (.bi .isLst [(.var 2)])) (.cmp .ne (.lc (.var 4) (.nm 4) .it [(.var 2)] [(.not (.bi .isTup [(.var 4)]))] [4]) (.lst []))) [(.ret (.cst (.bl false)))] []), (.asg (.nm 3) (.lc (.bi .repr [(.var 4)]) (.nm 4) .it [(.fn 20 [(.var 0)] [])] [] [4])), (.ite (.cmp .ne (.lc (.var 4) (.nm 4) .it [(.var 2)] [(.cmp .notin (.bi .repr [(.var 4)]) (.var 3))] [4]) (.lst [])) [(.ret (.cst (.bl false)))] []), (.ret (.and (.cmp .eq (.var 2) (.bi .sorted [(.var 2)])) (.and (.cmp .eq (.bi .lensetL [(.var 2)]) (.bi .len [(.var 2)])) (.fn 23 [(.var 0), (.var 1), (.var 2)] []))))]
abbrev fd__law_is_plan : Fd := ⟨3, 5, is__law_is_plan⟩ -- 267
def is_tolls_of_v1 : List IS := [(.own 2 (.lc (.cst (.int 0)) (.nm 6) .it [(.var 1)] [] [6])), (.asg (.nm 3) (.sub (.me [3] 30 (.var 0) [] []) (.cst (.int 0)))), (.for_ (.tp [(.nm 4), (.nm 5)]) .enum [(.att (.var 0) 25)] [(.asg (.sub (.var 2) (.var 5)) (.bin .sub (.sub (.var 3) (.var 4)) (.sub (.var 3) (.bin .add (.var 4) (.cst (.int 1))))))]), (.ret (.mv 2))]
abbrev fd_tolls_of_v1 : Fd := ⟨2, 7, is_tolls_of_v1⟩ -- 269
def is_least_v1 : List IS := [(.asg (.nm 3) (.fn 91 [(.var 0), (.var 1), (.var 2)] [])), (.asg (.nm 4) (.heap (.bi .sorted [(.bin .add (.att (.var 3) 27) (.lc (.sub (.var 5) (.cst (.int 3))) (.nm 5) .it [(.att (.var 3) 26)] [(.sub (.var 5) (.cst (.int 4)))] [5]))]))), (.ret (.tup [(.fn 10 [(.var 0), (.var 1), (.var 4)] []), (.var 4), (.fn 269 [(.var 3), (.var 1)] [])]))]
abbrev fd_least_v1 : Fd := ⟨3, 6, is_least_v1⟩ -- 270
def is_is_things : List IS := [(.ite (.or (.not (.bi .isDct [(.var 0)])) (.not (.chn .le .le (.cst (.int 1)) (.bi .len [(.var 0)]) (.glb 0 (.int 20))))) [(.ret (.cst (.bl false)))] []), (.ret (.bi .all [(.lck (.and (.fn 26 [(.var 1)] []) (.fn 25 [(.sub (.var 0) (.var 1)), (.cst (.int 1)), (.glb 0 (.int 1000000))] [])) (.nm 1) false 0 [] [1])]))]
abbrev fd_is_things : Fd := ⟨1, 2, is_is_things⟩ -- 280
end Rs
end
section
set_option maxRecDepth 100000
set_option maxHeartbeats 4000000
/-! Dict comprehensions; comprehensions over dicts that are fields. -/
namespace Rs
open PySem PySem.Spec PyProof.Rows L2
section
variable {J : It} {n : Nat} {Gw : Hp → Prop} {Y : Nat → Hp → V → Hp → Prop}
end
section
variable {G : Gl} {T : Tab} {F : Call} {k : Nat} {X : Cx} {tg e : Expr} {pos : Pos}
/-- what a walk gives, as the comprehensions use it -/
abbrev YieldsL (G : Gl) (B : Cf) (items : List Val) (Y : Nat → Hp → V → Hp → Prop) : Prop :=
  ∀ i (C2 : Cf) H' x v s2 σ2, items[i]? = some x → Le B { C2 with rs := B.rs } → Rel G C2 s2 σ2 → Y i C2.H v H' → ∃ C3, C3.H = H' ∧ Le C2 C3 ∧ Rel G C3 s2 σ2 ∧ VR G C3 x v
/-- the new thing, at the end of the turns -/
abbrev FinL (G : Gl) (B : Cf) (σ : L2.St) (vs : List Nat) (s2 : S) (c : Cell) (Q : VK) : Prop :=
  ∀ D Ci, B.H D = none → Le B { Ci with rs := B.rs } → (Ci.rs = fun p => B.rs p ∨ p = D) → Rel G Ci s2 (L2.wipe σ vs) → CR G Ci c (Ci.H D) → Q (.ref D) Ci.H
/-- a comprehension's turns are sound: run goes over the items, Body is what is asked of it -/
def CoreL (G : Gl) (σ : L2.St) (vs : List Nat) (run : List Val → S → R Cell) (Body : It → Hp → VK → Prop) : Prop :=
  ∀ {Q : VK} {B : Cf} {sl s2 : S} {J : It} {items : List Val} {Gd : Hp → Prop} {Y : Nat → Hp → V → Hp → Prop} {c : Cell}, Rel G B sl σ → Walk J items.length Gd Y → (∀ C2 : Cf, Le B { C2 with rs := B.rs } → Gd C2.H) → YieldsL G B items Y →
    run items { sl with e := wipeE sl.e vs } = .ok c s2 → FinL G B σ vs s2 c Q → Body J B.H Q
def crunL (T : Tab) (F : Call) (p : Pat) (conds : List IE) (elt : IE) (vs : List Nat) (items : List Val) (s : S) : R Cell := (compL (patSet p) (evalTs T F conds) (fun s => (evalE T F elt s).val) vs putL items s []).bind fun acc s2 => .ok (.lst acc false) s2
def kvE (T : Tab) (F : Call) (key elt : IE) (s : S) : R (Key × Val) := (evalE T F key s).val.bind fun kv s => (evalE T F elt s).val.bind fun x s => match keyV kv with | some k => .ok (k, x) s | none => .bad
def crunD (T : Tab) (F : Call) (p : Pat) (conds : List IE) (key elt : IE) (vs : List Nat) (items : List Val) (s : S) : R Cell := (compL (patSet p) (evalTs T F conds) (kvE T F key elt) vs putD items s []).bind fun acc s2 => .ok (.dct acc false) s2
def bodyL (g : TG) (tt : TT) (te : TE) (vs : List Nat) (σ : L2.St) (J : It) (H : Hp) (Q : VK) : Prop := tLc (fun _ H R => R J H) g tt te vs σ H Q
def bodyD (g : TG) (tt : TT) (tk tv : TE) (vs : List Nat) (σ : L2.St) (J : It) (H : Hp) (Q : VK) : Prop := tDc (fun _ H R => R J H) g tt tk tv vs σ H Q
/-- an expression that changes nothing and does not look at locks; what it gives is a value -/
def Pu (T : Tab) (F : Call) (a : IE) : Prop := ∀ s x s1, evalE T F a s = .ok x s1 → s1 = s ∧ (∃ y, x = .v y) ∧ ∀ n kvs, s.h[n]? = some (.dct kvs false) → evalE T F a { s with h := s.h.set n (.dct kvs true) } = .ok x { s with h := s.h.set n (.dct kvs true) }
theorem PS.or {st : Stmt} {t u : TS} (h1 : PS X st t) (h2 : PS X st u) : PS X st (fun D σ H => t D σ H ∨ u D σ H) := ⟨fun pins s σ H D I h => h.elim (h1.run pins s σ H D I) (h2.run pins s σ H D I)⟩
theorem st_chn {ea eb ec : Expr} {a b c : IE} (o : XO0 G k X) (o1 o2 : Cop) (ha : PE X ea (EE G T F a)) (hb : PE X eb (EE G T F b)) (hc : PE X ec (EE G T F c)) (hm : lastMarks [cop o1, cop o2] [eb, ec] = false := by with_unfolding_all rfl) :
    PT X (.Compare ea [cop o1, cop o2] [eb, ec] pos) (EB G T F (.chn o1 o2 a b c)) := by
  refine PT.weak (pt_chain OpR.any OpR.any ha hb hc hm) fun σ H Q ⟨C, s, rr, s', hH, rl, e, kk⟩ => ?_
  unfold evalB at e
  obtain ⟨z, s5, e, e'⟩ := bind_ok e
  obtain ⟨z', e, ez⟩ := val_ok e
  obtain ⟨e', rfl⟩ := opt_ok e'
  unfold evalE at e
  obtain ⟨x, s1, e1, e⟩ := bind_ok e
  obtain ⟨y, s2, e2, e⟩ := bind_ok e
  obtain ⟨bb, s3, e3, e⟩ := bind_ok e
  obtain ⟨e3, e4⟩ := opt_ok e3
  subst e4
  show EE G T F a σ H (fun x H1 => EE G T F b σ H1 (fun y H2 => ∃ r : R2, OpR X _ r ∧ r x y H2 (fun z H3 => ∃ k, z = .bl k ∧ (if k = true then EE G T F c σ H3 (fun w' H4 => ∃ r : R2, OpR X _ r ∧ r y w' H4 fun x H' => ∃ k, x = .bl k ∧ Q k H') else (∃ k, (.bl false : V) = .bl k ∧ Q k H3)))))
  refine EE_of_op hH rl e1 fun C1 v l1 r1 q1 => EE_of_op rfl r1 e2 fun C2 w l2 r2 q2 => ?_
  have hx := deref_ok r2 (OR.mono l2 q1) (ne_bad1 (cmp_bad1 o1) e3)
  have hy := deref_ok r2 q2 (ne_bad2 (cmp_bad2 o1) e3)
  refine cmp_ok o.K o.sys o.room o1 C2 _ _ v w bb _ hx hy e3 ⟨bb, rfl, ?_⟩
  cases bb with
  | false =>
    cases e
    cases ez
    cases e'
    rw [if_neg (by simp)]
    exact ⟨false, rfl, kk C2 (l1.trans l2) r2⟩
  | true =>
    rw [if_pos rfl]
    obtain ⟨z, s4, e5, e⟩ := bind_ok e
    obtain ⟨e, e6⟩ := opt_ok e
    subst e6
    obtain ⟨b2, e7, e8⟩ := Option.map_eq_some_iff.mp e
    subst e8
    cases ez
    cases e'
    refine EE_of_op rfl r2 e5 fun C3 u l3 r3 q3 => ?_
    have hy := deref_ok r3 (OR.mono l3 q2) (ne_bad1 (cmp_bad1 o2) e7)
    have hz := deref_ok r3 q3 (ne_bad2 (cmp_bad2 o2) e7)
    exact cmp_ok o.K o.sys o.room o2 C3 _ _ w u _ _ hy hz e7 ⟨_, rfl, kk C3 ((l1.trans l2).trans l3) r3⟩
end
end Rs
end
section
set_option maxRecDepth 100000
set_option maxHeartbeats 4000000
/-! A name is given a dict comprehension. -/
namespace Rs
open PySem PySem.Spec PyProof.Rows L2
section
variable {X : Cx} {G : Gl} {T : Tab} {F : Call} {k : Nat} {pos : Pos} {tg : Expr}
end
end Rs
end
section
set_option maxRecDepth 100000
set_option maxHeartbeats 1000000
/-! More methods of dicts; items of instances as targets; op= at places. -/
namespace Rs
open PySem PySem.Spec PyProof.Rows L2
section
variable {G : Gl} {T : Tab} {F : Call} {k : Nat} {X : Cx} {e f eo : Expr} {es : List Expr} {pos apos cpos : Pos} {a b c : IE} {as : List IE}
/-! ### dict displays -/
def pairUp : List V → List (V × V)
  | x :: y :: r => (x, y) :: pairUp r
  | _ => []
structure DP (G : Gl) (T : Tab) (F : Call) (X : Cx) (pos : Pos) (keys : List (Option Expr)) (values : List Expr) (as : List IE) : Prop where
  ex : ∃ trs, PPs X pos keys values trs ∧ ∀ σ H Q, tVs G (evalVs T F as) σ H (fun vs H2 => Q (pairUp vs) H2) → tPairs trs σ H Q
/-! ### an instance's field as a target -/
end
end Rs
end
section
set_option maxRecDepth 100000
set_option maxHeartbeats 3200000
/-! len(set(..)): of a tuple of texts, however many; of a list of tuples of ints. -/
namespace Rs
open PySem
section
open PyProof.Rows PySem.Spec
variable {prog : Program} {w : World} {A : Around}
end
open PySem.Spec PyProof.Rows L2
section
variable {G : Gl} {T : Tab} {F : Call} {k : Nat} {X : Cx} {e : Expr} {p p2 pos pos2 : Pos} {a : IE}
/-- a tuple of texts, and how many unlike ones -/
def rLenSetS (K : PySem.W.Frag) (te : TE) : TE := fun σ H Q => te σ H fun x H1 => ∃ (l : Addr) (ys : List Str), x = .ref l ∧ SqT K H1 l (ys.map V.str) ∧ ys.length < 64 ∧ Q (.int (dd ys).length) H1
end
end Rs
end
section
set_option maxRecDepth 100000
set_option maxHeartbeats 3200000
/-! len(set(..)) of a list of tuples of ints. -/
namespace Rs
open PySem
open PySem.Spec PyProof.Rows L2
section
variable {G : Gl} {T : Tab} {F : Call} {k : Nat} {X : Cx} {e : Expr} {p p2 pos pos2 : Pos} {a : IE}
/-- a list of tuples of ints, and how many unlike ones -/
def rLenSetT (K : PySem.W.Frag) (te : TE) : TE := fun σ H Q => te σ H fun x H1 => ∃ (l : Addr) (ks : List (Addr × List Int)), x = .ref l ∧ SqL K H1 l (ks.map fun p => V.ref p.1) ∧ (∀ p ∈ ks, SqT K H1 p.1 (p.2.map V.int)) ∧ ks.length < 64 ∧ Q (.int (dd (ks.map (·.2))).length) H1
end
end Rs
end
section
set_option maxRecDepth 100000
set_option maxHeartbeats 4000000
/-! sorted(d.items()). -/
namespace Rs
open PySem PySem.Spec PyProof.Rows L2 PySem.Calls
section
variable {G : Gl} {T : Tab} {F : Call} {k : Nat} {X : Cx} {e : Expr} {p pos apos cpos : Pos} {a : IE}
def rItemsK : V → Hp → VK → Prop := fun x H Q => ∃ (d : Addr) (kvs : List (Key × V)), x = .ref d ∧ Rd H d (.dK kvs) ∧ ∀ p, H p = none → Q (.ref p) (upd H p (DX.itemsO p d))
def cfT (C : Cf) (H' : Hp) (ts : List Addr) : Cf := ⟨C.ρ, fun q => C.fz q ∨ q ∈ ts, C.kp, C.rs, H'⟩
def rSortV (G : Gl) : List V → Hp → VK → Prop := fun vs H Q => ∃ C p d kvs xs r, C.H = H ∧ vs = [.ref p] ∧ H p = some (DX.itemsO p d) ∧ Rd H d (.dK kvs) ∧ VRk G C xs kvs ∧ vsort (xs.map fun kv => .tup [vKey kv.1, kv.2]) = some r ∧
  ∀ (H' : Hp) (l : Addr) (ts : List Addr) (zs : List V), (∀ b o, H b = some o → H' b = some o) → (∀ t ∈ ts, H t = none) → Paired (fun (t : Addr) (q : Key × V) => H' t = some (.tup [kV q.1, q.2])) ts kvs → H' l = none → VRs G (cfT C H' ts) r zs → Q (.ref l) (upd H' l (.lst zs))
end
end Rs
end
section
set_option maxRecDepth 100000
set_option maxHeartbeats 4000000
/-! list(zip(xs, ys)). -/
namespace Rs
open PySem
structure ZipG (xs ys : Array Value) (S : Nat) (h : Heap) (as : List Nat) : Prop where
  above : ∀ a : Nat, a ∈ as → S < a
  rise : as.Pairwise (fun (a b : Nat) => a < b)
  pairs : ∀ (j a : Nat), as[j]? = some a → ∃ x y, xs[j]? = some x ∧ ys[j]? = some y ∧ h.get? a = some { cls := .type "tuple", data := .seq #[x, y] }
structure ZSt (z TI TO i1 i2 l1 l2 S : Addr) (xs ys : Array Value) (i : Nat) (h : Heap) : Prop where
  ti : IsPair h TI (.ref i1) (.ref i2)
  u1 : h.IsListIter i1 l1 i
  u2 : h.IsListIter i2 l2 i
  v1 : h.IsList l1 xs
  v2 : h.IsList l2 ys
  st : (IsZip h z TI TO .none ∧ ∃ a b, IsPair h TO a b) ∨ ∃ T f oT, IsZipHeld h z TI TO T f ∧ h.get? T = some oT ∧ T ≠ z ∧ T ≠ i1 ∧ T ≠ i2 ∧ T ≠ S
section
variable {prog : Program} {w : World} {A : Around} {z TI TO i1 i2 l1 l2 S : Nat} {xs ys : Array Value}
variable {E : Value → Shared → Prop} {s : Shared}
end
open PySem.Spec PyProof.Rows L2
/-- the tuples tracked at their addresses -/
def putP : Hp → List Nat → List (V × V) → Hp
  | H, a :: as, p :: kvs => putP (upd H a (.tup [p.1, p.2])) as kvs
  | H, _, _ => H
def rZipL (K : PySem.W.Frag) : List V → Hp → VK → Prop := fun vs H Q => ∃ (l1 l2 : Addr) (xs ys : List V), vs = [.ref l1, .ref l2] ∧ SqL K H l1 xs ∧ SqL K H l2 ys ∧
  ∀ (H' : Hp) (p : Addr) (ts : List Addr), (∀ b o, H b = some o → H' b = some o) → H p = none → (∀ t ∈ ts, H t = none) → p ∉ ts → H' p = some (.lst (ts.map V.ref)) → Paired (fun (t : Addr) (q : V × V) => H' t = some (.tup [q.1, q.2])) ts (xs.zip ys) → Q (.ref p) H'
section
variable {X : Cx} {e e2 : Expr} {p cpos czp pos : Pos} {ta : TA}
variable {G : Gl} {T : Tab} {F : Call} {k : Nat} {a b : IE}
end
end Rs
end
section
set_option maxRecDepth 100000
set_option maxHeartbeats 4000000
/-! Three names at once, by a tuple that is unpacked. -/
namespace Rs
open PySem PySem.Spec PyProof.Rows L2
section
variable {G : Gl} {T : Tab} {F : Call} {k : Nat} {X : Cx} {ea eb ec : Expr} {pos pt px py pz : Pos} {a b c : IE} {x y z : Str}
end
end Rs
end
section
set_option maxRecDepth 100000
set_option maxHeartbeats 4000000
/-! The pairs of a dict, one by one: any keys, any target. -/
namespace PySem
namespace Od
open Sem (wp)
open SeqAt Builtin.Dict_items
/-- an iterator over the pairs; x0, x1: the tuple that it handed out -/
abbrev itO (x0 x1 : Value) (d : Addr) (i n ep : Nat) (ck cv : Value) : Obj := { cls := .type "dict_itemiterator", dict := none, data := .fields #[x0, x1, .ref d, .int i 0, .int n 0, .int ep 0, ck, cv], slots := #[] }
def ItAt (h : Heap) (it d : Addr) (i n ep : Nat) : Prop := ∃ x0 x1 ck cv, h.get? it = some (itO x0 x1 d i n ep ck cv) ∧ (x0 = .none ∨ ∃ (a : Addr) (f : Bool), x0 = rawInt a ∧ x1 = .bool f)
section
variable {P : Program} {w : World} {A : Around} {E : Value → Shared → Prop} {s : Shared} {it d : Addr} {i n ep : Nat} {od : Obj} {es : Array DictEntry} {en : DictEntry} {x0 x1 ck cv : Value}
theorem alive {a : Addr} {Q : Option Obj → Shared → Prop} (q : Q (s.heap.get? a) s) : wpAny (model P w) A (loadIfAlive a) Q E s := fun _ _ _ => q
/-- the turn up to the pair -/
theorem nxt_pre {Q : Option Value → Shared → Prop} (hit : s.heap.get? it = some (itO x0 x1 d i n ep ck cv)) (hod : s.heap.get? d = some od) (hdd : od.data = .dict es ep) (hsz : es.size = n) (hx : es[i]? = some en)
    (q : ∀ h1, h1.get? it = some (itO x0 x1 d (i + 1) n ep ck cv) → Heap.SameBut it s.heap h1 → ∀ (B : Around) (E2 : Value → Shared → Prop), wpAny (model P w) B (pairFromOwner (.ref it) 6 en.key en.val) (fun r s2 => Q (some r) s2) E2 { s with heap := h1 }) :
    wpAny (model P w) A (pyNext (.ref it)) Q E s := by
  have typ : s.TypeIs (.ref it) "dict_itemiterator" := ⟨_, hit, rfl⟩
  unfold pyNext
  refine wpAny_bind (wpAny_attempt (wpAny_callSpecial?_slot (name := Str.ofString "__next__") typ F.slot_dict_itemiterator_next
    (wpAny_call_entry F.slot_dict_itemiterator_next typ F.entry_dict_itemiterator_next ?_ (F.args_dict_itemiterator_next_1 _))))
  refine wpAny_bind (wpAny_pure ?_)
  refine wpAny_bind ?_
  refine wpAny_bind ?_
  first | refine wpAny_bind (wpAny_typeNameOfWhole_itemiter typ (wpAny_pure ?_)) | refine wpAny_bind (wpAny_typeNameOf_itemiter typ (wpAny_pure ?_))
  refine wpAny_bind (wpAny_fieldsOf hit rfl ?_)
  have own : ownsTuple "dict_itemiterator" = true := by decide
  simp only [own, if_true]
  show wpAny _ _ (if (Value.ref d == Value.none) = true then _ else _) _ _ _
  rw [if_neg (show ¬ ((Value.ref d == Value.none) = true) from Bool.false_ne_true)]
  refine wpAny_bind (wpAny_pure ?_)
  refine wpAny_bind (wpAny_dictEntries hod hdd ?_)
  rw [if_neg (by rw [hsz]; simp)]
  refine wpAny_bind (wpAny_pure ?_)
  refine wpAny_bind (wpAny_dictEpoch hod hdd ?_)
  rw [if_neg (by simp)]
  refine wpAny_pure ?_
  obtain ⟨hlt, hen⟩ := Array.getElem?_eq_some_iff.mp hx
  simp only [show ¬ ((i : Int) < 0) from by omega, if_false, Int.toNat_natCast, Array.getElem?_eq_getElem hlt]
  refine wpAny_bind ?_
  first | refine wpAny_bind (wpAny_typeNameOfWhole_itemiter typ (wpAny_pure ?_)) | refine wpAny_bind (wpAny_typeNameOf_itemiter typ (wpAny_pure ?_))
  refine wpAny_bind (wpAny_isOneOf_itemiter typ ?_)
  show wpAny _ _ (setField (.ref it) 3 (rawInt ((i : Int) + 1)) >>= _) _ _ s
  refine wpAny_bind (wpAny_setField_rec hit (by simp) fun h1 g1 sb1 => ?_)
  replace sb1 : Heap.SameBut it s.heap h1 := sb1
  replace g1 : h1.get? it = some (itO x0 x1 d (i + 1) n ep ck cv) := by
    have e : ((i + 1 : Nat) : Int) = (i : Int) + 1 := by omega
    unfold itO; rw [e]; simpa [rawInt] using g1
  have typ1 : Shared.TypeIs { s with heap := h1 } (.ref it) "dict_itemiterator" := ⟨_, g1, rfl⟩
  refine wpAny_bind (wpAny_holding ?_)
  refine wpAny_bind (wpAny_isOneOf_itemiter typ1 ?_)
  refine wpAny_bind (wpAny_isOneOf_itemiter typ1 ?_)
  show wpAny _ _ (pairFromOwner (.ref it) 6 es[i].key es[i].val) _ _ { s with heap := h1 }
  rw [hen]
  exact wpAny_mono (q h1 g1 sb1 _ _) (fun r s2 z => wpAny_pure ⟨_, rfl, wpAny_pure z⟩) fun _ _ z => z
/-- the pair: a new tuple -/
theorem pair_new {u v : Value} {Q : Value → Shared → Prop} (hit : s.heap.get? it = some (itO x0 x1 d i n ep ck cv)) (hx : x0 = .none ∨ ∃ (a : Addr) (f : Bool), x0 = rawInt a ∧ x1 = .bool f)
    (q : ∀ h', ItAt h' it d i n ep → h'.get? s.heap.objs.size = some { cls := .type "tuple", data := .seq #[u, v] } → (∀ b o, b ≠ it → s.heap.get? b = some o → h'.get? b = some o) → Q (.ref s.heap.objs.size) { s with heap := h' }) :
    wpAny (model P w) A (pairFromOwner (.ref it) 6 u v) Q E s := by
  have hlt : it < s.heap.objs.size := Heap.lt_size hit
  have ne : s.heap.objs.size ≠ it := Nat.ne_of_gt hlt
  unfold pairFromOwner
  refine wpAny_bind (wpAny_newTuple ?_)
  have g2 : (s.heap.push { cls := .type "tuple", data := .seq #[u, v] }).get? it = some (itO x0 x1 d i n ep ck cv) := Heap.get?_push_of_some _ hit
  have t2 : (s.heap.push { cls := .type "tuple", data := .seq #[u, v] }).get? s.heap.objs.size = some { cls := .type "tuple", data := .seq #[u, v] } := Heap.get?_push_size _ rfl
  have k2 : ∀ b o, b ≠ it → s.heap.get? b = some o → (s.heap.push { cls := .type "tuple", data := .seq #[u, v] }).get? b = some o := fun b o _ e => Heap.get?_push_of_some _ e
  generalize s.heap.push { cls := .type "tuple", data := .seq #[u, v] } = h2 at g2 t2 k2
  show wpAny _ _ (ownedTupleIsFree (.ref it) >>= _) _ _ { s with heap := h2 }
  have free : wpAny (model P w) A (do
      let .ref a := (Value.ref s.heap.objs.size) | unsupported "internal:owned-tuple"
      let old := [← field (.ref it) 6, ← field (.ref it) (6 + 1)]
      setField (.ref it) 6 u; setField (.ref it) (6 + 1) v
      setField (.ref it) 0 (rawInt a); setField (.ref it) 1 (.bool false)
      letGo old [Value.ref s.heap.objs.size]
      return (Value.ref s.heap.objs.size)) Q E { s with heap := h2 } := by
    refine wpAny_bind (wpAny_field g2 rfl (x := ck) rfl ?_)
    refine wpAny_bind (wpAny_field g2 rfl (x := cv) rfl ?_)
    refine wpAny_bind (wpAny_setField_rec g2 (by simp) fun h3 g3 sb3 => ?_)
    replace sb3 : Heap.SameBut it h2 h3 := sb3
    replace g3 : h3.get? it = some (itO x0 x1 d i n ep u cv) := g3
    refine wpAny_bind (wpAny_setField_rec g3 (by simp) fun h4 g4 sb4 => ?_)
    replace sb4 : Heap.SameBut it h3 h4 := sb4
    replace g4 : h4.get? it = some (itO x0 x1 d i n ep u v) := g4
    refine wpAny_bind (wpAny_setField_rec g4 (by simp) fun h5 g5 sb5 => ?_)
    replace sb5 : Heap.SameBut it h4 h5 := sb5
    replace g5 : h5.get? it = some (itO (rawInt s.heap.objs.size) x1 d i n ep u v) := g5
    refine wpAny_bind (wpAny_setField_rec g5 (by simp) fun h6 g6 sb6 => ?_)
    replace sb6 : Heap.SameBut it h5 h6 := sb6
    replace g6 : h6.get? it = some (itO (rawInt s.heap.objs.size) (.bool false) d i n ep u v) := g6
    have up : ∀ b o, b ≠ it → h2.get? b = some o → h6.get? b = some o := fun b o hb e => sb6.extBut b o hb (sb5.extBut b o hb (sb4.extBut b o hb (sb3.extBut b o hb e)))
    refine wpAny_bind (wpAny_letGo (wpAny_pure ?_))
    exact q h6 ⟨_, _, _, _, g6, .inr ⟨_, false, rfl, rfl⟩⟩ (up _ _ ne t2) fun b o hb e => up b o hb (k2 b o hb e)
  refine wpAny_bind ?_
  unfold ownedTupleIsFree
  rcases hx with rfl | ⟨a, f, rfl, rfl⟩
  · refine wpAny_bind (wpAny_field g2 rfl (x := .none) rfl (wpAny_pure ?_))
    simp only [if_true]
    exact free
  · refine wpAny_bind (wpAny_field g2 rfl (x := rawInt a) rfl ?_)
    show wpAny _ _ (loadIfAlive ((a : Int).toNat) >>= _) _ _ _
    rw [Int.toNat_natCast]
    refine wpAny_bind (alive ?_)
    cases ha : (({ s with heap := h2 } : Shared).heap.get? a) with
    | none =>
      simp only [Option.isNone_none, if_true]
      refine wpAny_pure ?_
      simp only [if_true]
      exact free
    | some oa =>
      simp only [Option.isNone_some, Bool.false_eq_true, if_false]
      refine wpAny_bind (wpAny_field g2 rfl (x := .bool f) rfl ?_)
      have fin : ∀ h3 : Heap, h3.get? it = some (itO (rawInt a) (.bool true) d i n ep ck cv) → Heap.SameBut it h2 h3 → Q (.ref s.heap.objs.size) { s with heap := h3 } := fun h3 g3 sb3 =>
        q h3 ⟨_, _, _, _, g3, .inr ⟨a, true, rfl, rfl⟩⟩ (sb3.extBut _ _ ne t2) fun b o hb e => sb3.extBut b o hb (k2 b o hb e)
      cases f with
      | true =>
        rw [if_neg (show ¬ ((Value.bool true != Value.bool true) = true) from Bool.false_ne_true)]
        refine wpAny_pure ?_
        simp only [Bool.false_eq_true, if_false]
        exact wpAny_pure (fin h2 g2 (Heap.SameBut.refl _ _))
      | false =>
        rw [if_pos (show (Value.bool false != Value.bool true) = true from rfl)]
        refine wpAny_bind (wpAny_setField_rec g2 (by simp) fun h3 g3 sb3 => ?_)
        replace sb3 : Heap.SameBut it h2 h3 := sb3
        replace g3 : h3.get? it = some (itO (rawInt a) (.bool true) d i n ep ck cv) := g3
        refine wpAny_pure ?_
        simp only [Bool.false_eq_true, if_false]
        exact wpAny_pure (fin h3 g3 sb3)
theorem nxt {Q : Option Value → Shared → Prop} (hit : ItAt s.heap it d i n ep) (hod : s.heap.get? d = some od) (hdd : od.data = .dict es ep) (hsz : es.size = n) (hx : es[i]? = some en) (hne : d ≠ it)
    (q : ∀ h', ItAt h' it d (i + 1) n ep → h'.get? s.heap.objs.size = some { cls := .type "tuple", data := .seq #[en.key, en.val] } → (∀ b o, b ≠ it → s.heap.get? b = some o → h'.get? b = some o) → Q (some (.ref s.heap.objs.size)) { s with heap := h' }) :
    wpAny (model P w) A (pyNext (.ref it)) Q E s := by
  obtain ⟨x0, x1, ck, cv, g, hx0⟩ := hit
  refine nxt_pre g hod hdd hsz hx fun h1 g1 sb1 B E2 => ?_
  have sz : h1.objs.size = s.heap.objs.size := sb1.1
  refine pair_new (s := { s with heap := h1 }) g1 hx0 fun h' i' t' k' => ?_
  have t' : h'.get? h1.objs.size = _ := t'
  rw [sz] at t'
  show Q (some (.ref h1.objs.size)) _
  rw [sz]
  exact q h' i' t' fun b o hb e => k' b o hb (sb1.extBut b o hb e)
/-- the end -/
theorem nxt_end {Q : Option Value → Shared → Prop} (hh : A.handled = none) (hit : ItAt s.heap it d i n ep) (hod : s.heap.get? d = some od) (hdd : od.data = .dict es ep) (hsz : es.size = n) (hge : n ≤ i)
    (q : ∀ h', Heap.ExtBut it s.heap h' → Q none { s with heap := h' }) : wpAny (model P w) A (pyNext (.ref it)) Q E s := by
  obtain ⟨x0, x1, ck, cv, g, _⟩ := hit
  have typ : s.TypeIs (.ref it) "dict_itemiterator" := ⟨_, g, rfl⟩
  unfold pyNext
  refine wpAny_bind (wpAny_attempt (wpAny_callSpecial?_slot (name := Str.ofString "__next__") typ F.slot_dict_itemiterator_next
    (wpAny_call_entry F.slot_dict_itemiterator_next typ F.entry_dict_itemiterator_next ?_ (F.args_dict_itemiterator_next_1 _))))
  refine wpAny_bind (wpAny_pure ?_)
  refine wpAny_bind ?_
  refine wpAny_bind ?_
  first | refine wpAny_bind (wpAny_typeNameOfWhole_itemiter typ (wpAny_pure ?_)) | refine wpAny_bind (wpAny_typeNameOf_itemiter typ (wpAny_pure ?_))
  refine wpAny_bind (wpAny_fieldsOf g rfl ?_)
  have own : ownsTuple "dict_itemiterator" = true := by decide
  simp only [own, if_true]
  show wpAny _ _ (if (Value.ref d == Value.none) = true then _ else _) _ _ s
  rw [if_neg (show ¬ ((Value.ref d == Value.none) = true) from Bool.false_ne_true)]
  refine wpAny_bind (wpAny_pure ?_)
  refine wpAny_bind (wpAny_dictEntries hod hdd ?_)
  rw [if_neg (by rw [hsz]; simp)]
  refine wpAny_bind (wpAny_pure ?_)
  refine wpAny_bind (wpAny_dictEpoch hod hdd ?_)
  rw [if_neg (by simp)]
  refine wpAny_pure ?_
  have out : es.size ≤ i := by rw [hsz]; exact hge
  simp only [show ¬ ((i : Int) < 0) from by omega, if_false, Int.toNat_natCast, Array.getElem?_eq_none out]
  refine wpAny_bind ?_
  first | refine wpAny_bind (wpAny_typeNameOfWhole_itemiter typ (wpAny_pure ?_)) | refine wpAny_bind (wpAny_typeNameOf_itemiter typ (wpAny_pure ?_))
  show wpAny _ _ (setField (.ref it) 2 .none >>= _) _ _ s
  refine wpAny_bind (wpAny_setField g rfl (by simp) ?_)
  show wpAny _ _ (newExc (.type "StopIteration") [] >>= _) _ _ _
  refine wpAny_bind ?_
  simp only [newExc, newTuple]
  refine wpAny_bind (wpAny_newObj_type ?_ (by size_fits))
  refine wpAny_bind (m := firstArgMember _ _) (wpAny_of_eq (a := Value.none) (by first | rfl | (simp only [firstArgMember]; rfl)) ?_)
  refine wpAny_newObj_type ?_ (by size_fits)
  simp only [raiseNew]
  refine wpAny_bind (wpAny_handled ?_)
  rw [show A.in1.handled = none from hh]
  refine wpAny_bind (wpAny_pure (wpAny_throw ?_))
  refine wpAny_bind (wpAny_isInstance (T := "StopIteration") (b := true) ⟨_, Heap.get?_push_size _ rfl, rfl⟩ isSubtype_stop ?_)
  exact wpAny_pure (q _ (((Heap.SameBut.update ..).extBut.push _).push _))
/-- ahead of the store -/
theorem let_go {tg : Expr} {T : Addr} {Q : Unit → Shared → Prop} (hit : ItAt s.heap it d i n ep) (q : ∀ h', ItAt h' it d i n ep → (∀ b o, b ≠ it → s.heap.get? b = some o → h'.get? b = some o) → Q () { s with heap := h' }) :
    wpAny (model P w) A (letOwnedTupleGo tg (.ref it) (.ref T)) Q E s := by
  have same : Q () s := q s.heap hit fun _ _ _ e => e
  obtain ⟨x0, x1, ck, cv, g, hx0⟩ := hit
  have go : wpAny (model P w) A (do
      let o ← load it
      match o.cls, o.data with
      | .type n, .fields vs =>
        if ["enumerate", "zip", "dict_itemiterator", "dict_reverseitemiterator", "odict_iterator", "itertools.zip_longest", "itertools.pairwise"].contains n && vs[0]? == some (rawInt T) then
          rule "for.unpacks-the-owned-tuple"
          updateField it 0 .none
      | _, _ => pure ()) Q E s := by
    refine wpAny_bind (wpAny_load g ?_)
    show wpAny _ _ (if (["enumerate", "zip", "dict_itemiterator", "dict_reverseitemiterator", "odict_iterator", "itertools.zip_longest", "itertools.pairwise"].contains "dict_itemiterator" &&
        (#[x0, x1, .ref d, .int i 0, .int n 0, .int ep 0, ck, cv] : Array Value)[0]? == some (rawInt T)) = true then _ else _) Q E s
    split
    · refine wpAny_bind (wpAny_rule ?_)
      show wpAny _ _ (setField (.ref it) 0 .none) Q E s
      exact wpAny_setField_rec g (by simp) fun h' g' sb => q h' ⟨.none, x1, ck, cv, g', .inl rfl⟩ fun b o hb e => (sb.2 b hb).trans e
    · exact wpAny_pure same
  unfold letOwnedTupleGo
  cases tg <;> first
    | exact wpAny_pure same
    | exact go
end
end Od
end PySem
end
section
set_option maxRecDepth 100000
set_option maxHeartbeats 4000000
/-! The keys and the pairs of a dict that stands as it is: the turns of a loop. -/
namespace L2
open PySem PySem.Spec PyProof.Rows
/-- what the entries of a dict are -/
def OdE (o : Obj) (ps : List (V × V)) : Prop := o.ExactDict ∧ ∃ es ep, o.data = .dict es ep ∧ es.size = ps.length ∧ ∀ (i : Nat) a b, ps[i]? = some (a, b) → ∃ en, es[i]? = some en ∧ RelV a en.key ∧ RelV b en.val
def FzD (H : Hp) (d : Addr) (o : Obj) (ps : List (V × V)) : Prop := (d == sysModules) = false ∧ (∃ u, H d = some (.frz o u)) ∧ OdE o ps
abbrev pairsK (kvs : List (Key × V)) : List (V × V) := kvs.map fun kv => (kV kv.1, kv.2)
/-- the keys -/
def ItOk (d : Addr) (o : Obj) (ps : List (V × V)) : It := ⟨fun i H => FzD H d o ps ∧ i < ps.length, fun i H x H' => H' = H ∧ ∃ b, ps[i]? = some (x, b), fun i H => FzD H d o ps ∧ ps.length ≤ i⟩
/-- the pairs, each a new tuple -/
def ItOi (d : Addr) (o : Obj) (ps : List (V × V)) : It := ⟨fun i H => FzD H d o ps ∧ i < ps.length, fun i H x H' => ∃ T a b, ps[i]? = some (a, b) ∧ x = .ref T ∧ H T = none ∧ H' = upd H T (.tup [a, b]), fun i H => FzD H d o ps ∧ ps.length ≤ i⟩
section
variable {X : Cx} {pins : List (Addr × Obj)} {σ : St} {H : Hp} {s : Shared} {d : Addr} {o : Obj} {ps : List (V × V)}
theorem Inv.fzD {kvs : List (Key × V)} (I : Inv X pins σ H s) (h : H d = some (.frz o (.dK kvs))) : FzD H d o (pairsK kvs) := by
  obtain ⟨hs, hg, hx, es, ep, vs, hdt, hsz, kv, da⟩ := I.frzK h
  refine ⟨hs, ⟨_, h⟩, hx, es, ep, hdt, by simpa using hsz, fun i a b hi => ?_⟩
  obtain ⟨es3, ep3, ⟨o3, ho3, _, hdt3⟩, hs3, q3⟩ := da.dictOf.raw
  rw [hg] at ho3
  cases ho3
  obtain ⟨rfl, rfl⟩ := dict_ep hdt hdt3
  rw [List.getElem?_map] at hi
  obtain ⟨⟨k, v⟩, hk, he⟩ := Option.map_eq_some_iff.mp hi
  cases he
  obtain ⟨u, hu, ru⟩ := kv_get kv hk
  have hlt : i < es3.size := by
    have := (List.getElem?_eq_some_iff.mp hu).1
    omega
  obtain ⟨g1, g2⟩ := q3 i hlt k u hu
  exact ⟨es3[i], Array.getElem?_eq_getElem hlt, relV_key (show keyIs k es3[i].key = true from g1), by rw [g2]; exact ru⟩
theorem FzD.at (I : Inv X pins σ H s) (f : FzD H d o ps) : s.heap.get? d = some o := let ⟨_, ⟨_, h⟩, _⟩ := f; (I.hok d _ h).1
theorem FzD.upd {T : Addr} {u : HO} (f : FzD H d o ps) (n : H T = none) : FzD (upd H T u) d o ps := by
  obtain ⟨hs, ⟨v, h⟩, r⟩ := f
  exact ⟨hs, ⟨v, by rw [upd_ne (ne_of_none h n)]; exact h⟩, r⟩
end
section
variable {P : Program} {w : World} {K : PySem.W.Frag} {tg : Expr} {d : Addr} {o : Obj} {es : Array DictEntry} {ep : Nat} {ps : List (V × V)}
theorem turn_ok (it : Addr) (hod : o.data = .dict es ep) : Turn P w K tg (ItOk d o ps) [it] it (fun i h => h.IsKeyIter it d i ps.length ep) where
  mem := List.mem_singleton.mpr rfl
  obj := fun i h st b hb => by
    obtain ⟨oi, e, _, dd⟩ := st
    obtain rfl := List.mem_singleton.mp hb
    exact ⟨oi, e, fun v z => by rw [dd] at z; cases z⟩
  keep := fun i h h' st k => st.at fun oi e => k it (List.mem_singleton.mpr rfl) oi e
  item := by
    intro X hP hw hK hc i pins s σ H E I hf st ⟨f, hi⟩
    subst hP hw hK
    obtain ⟨f0, f1, f2, f3, f4, f5⟩ := hf it (List.mem_singleton.mpr rfl)
    have hg := f.at I
    obtain ⟨hs, _, hx, es', ep', hdt, hsz, ent⟩ := f
    obtain ⟨rfl, rfl⟩ := dict_ep hod hdt
    obtain ⟨en, h1, h2, h3⟩ := ent i ps[i].1 ps[i].2 (List.getElem?_eq_getElem hi)
    refine next_key_item st hg hdt hsz h1 fun h' st' sb => ?_
    have I1 : Inv X pins σ H { s with heap := h' } := I.turned (t' := s.toks) (fun b ob hb e => (sb.2 b hb).trans e) f0 f1 f3 f4 f5
    obtain ⟨oi, e, c, dd⟩ := id st'
    exact ⟨en.key, rfl, go_of (s := { s with heap := h' }) e c dd (by decide) ⟨ps[i].1, H, I1, h2, ⟨rfl, ps[i].2, List.getElem?_eq_getElem hi⟩, st', fun b hb => (hf b hb).1⟩⟩
  done := by
    intro X hP hw hK hc i pins s σ H E I hf st ⟨f, hi⟩
    subst hP hw hK
    obtain ⟨f0, f1, f2, f3, f4, f5⟩ := hf it (List.mem_singleton.mpr rfl)
    have hg := f.at I
    obtain ⟨hs, _, hx, es', ep', hdt, hsz, ent⟩ := f
    obtain ⟨rfl, rfl⟩ := dict_ep hod hdt
    exact next_key_end (I.ok.hd hc) st hg hdt hsz hi fun h' eb => ⟨rfl, I.turned (t' := s.toks) (fun b ob hb e => eb b ob hb e) f0 f1 f3 f4 f5⟩
  self := fun A i s Q E st h => (turn_keys (P := P) (w := w) (K := K) (tg := tg) (kvs := List.replicate ps.length (.inl 0, .non)) it hod).self A i s Q E (by simpa using st) h
theorem turn_oi (it : Addr) (hod : o.data = .dict es ep) : Turn P w K tg (ItOi d o ps) [it] it (fun i h => PySem.Od.ItAt h it d i ps.length ep) where
  mem := List.mem_singleton.mpr rfl
  obj := fun i h st b hb => by
    obtain ⟨_, _, _, _, e, _⟩ := st
    obtain rfl := List.mem_singleton.mp hb
    exact ⟨_, e, fun v z => nomatch z⟩
  keep := fun i h h' st k => let ⟨x0, x1, ck, cv, e, z⟩ := st; ⟨x0, x1, ck, cv, k it (List.mem_singleton.mpr rfl) _ e, z⟩
  item := by
    intro X hP hw hK hc i pins s σ H E I hf st ⟨f, hi⟩
    subst hP hw hK
    obtain ⟨f0, f1, f2, f3, f4, f5⟩ := hf it (List.mem_singleton.mpr rfl)
    have hg := f.at I
    obtain ⟨hs, ⟨u, hu⟩, hx, es', ep', hdt, hsz, ent⟩ := f
    obtain ⟨rfl, rfl⟩ := dict_ep hod hdt
    obtain ⟨en, h1, h2, h3⟩ := ent i ps[i].1 ps[i].2 (List.getElem?_eq_getElem hi)
    have hne : d ≠ it := fun z => by rw [z, f0] at hu; cases hu
    have hlt : it < s.heap.objs.size := by obtain ⟨_, _, _, _, e, _⟩ := st; exact Heap.lt_size e
    refine PySem.Od.nxt st hg hdt hsz h1 hne fun h1 st1 hT k1 => ⟨_, rfl, PySem.Od.let_go (s := { s with heap := h1 }) st1 fun h2' st2 k2 => ?_⟩
    have hT2 : h2'.get? s.heap.objs.size = some { cls := .type "tuple", data := .seq #[en.key, en.val] } := k2 _ _ (Nat.ne_of_gt hlt) hT
    have new : ObjOk X.prog X.w (upd H s.heap.objs.size (.tup [ps[i].1, ps[i].2])) h2' s.heap.objs.size (.tup [ps[i].1, ps[i].2]) :=
      ⟨by show 2 ≤ sizeLine; decide, [en.key, en.val], .cons h2 (.cons h3 .nil), ⟨_, hT2, rfl, _, rfl⟩⟩
    have I1 := I.turnedNew (t' := s.toks) (ch := [it]) (fun b ob hb e => k2 b ob (fun z => hb (List.mem_singleton.mpr z)) (k1 b ob (fun z => hb (List.mem_singleton.mpr z)) e)) hf (Nat.le_refl _) new
    refine ⟨.ref s.heap.objs.size, _, I1, rfl, ⟨_, ps[i].1, ps[i].2, List.getElem?_eq_getElem hi, rfl, I.hok.fresh (Nat.le_refl _), rfl⟩, st2, fun b hb => ?_⟩
    rw [List.mem_singleton.mp hb, upd_ne (Nat.ne_of_lt hlt)]
    exact f0
  done := by
    intro X hP hw hK hc i pins s σ H E I hf st ⟨f, hi⟩
    subst hP hw hK
    obtain ⟨f0, f1, f2, f3, f4, f5⟩ := hf it (List.mem_singleton.mpr rfl)
    have hg := f.at I
    obtain ⟨hs, _, hx, es', ep', hdt, hsz, ent⟩ := f
    obtain ⟨rfl, rfl⟩ := dict_ep hod hdt
    exact PySem.Od.nxt_end (I.ok.hd hc) st hg hdt hsz hi fun h' eb => ⟨rfl, I.turned (t' := s.toks) (fun b ob hb e => eb b ob hb e) f0 f1 f3 f4 f5⟩
  self := fun A i s Q E st h => by
    obtain ⟨x0, x1, ck, cv, e, _⟩ := st
    have typ : s.TypeIs (.ref it) "dict_itemiterator" := ⟨_, e, rfl⟩
    exact wpAny_pyIter_slot typ PySem.F.slot_dict_itemiterator_iter (wpAny_call_entry PySem.F.slot_dict_itemiterator_iter typ PySem.W.kcp_entry (show wpAny _ _ (ret (.ref it)) _ _ s from wpAny_pure ⟨_, rfl, "dict_itemiterator", _, typ, PySem.F.slot_dict_itemiterator_next.lookup, h⟩) (PySem.F.args_dict_itemiterator_iter_1 _))
end
theorem walk_ok {d : Addr} {o : Obj} {ps : List (V × V)} : Walk (ItOk d o ps) ps.length (fun H => FzD H d o ps) (fun i H x H' => H' = H ∧ ∃ b, ps[i]? = some (x, b)) :=
  ⟨fun _ _ hi q => ⟨q, hi⟩, fun _ q => ⟨q, Nat.le_refl _⟩, fun _ _ _ _ _ _ y => y⟩
theorem walk_oi {d : Addr} {o : Obj} {ps : List (V × V)} : Walk (ItOi d o ps) ps.length (fun H => FzD H d o ps) (YPair (fun i => ps[i]?.map Prod.fst) (fun i => ps[i]?.map Prod.snd)) := by
  refine ⟨fun _ _ hi q => ⟨q, hi⟩, fun _ q => ⟨q, Nat.le_refl _⟩, fun i H x H' _ _ y => ?_⟩
  obtain ⟨T, a, b, h1, h2, h3, h4⟩ := y
  exact ⟨T, a, b, h2, h3, h4, by simp [h1], by simp [h1]⟩
/-- what stands at d, as keys and values; a dict that is not yet held is held from now on -/
def OdR (H : Hp) (d : Addr) (R : Obj → List (V × V) → Hp → Prop) : Prop := (∃ o ps, FzD H d o ps ∧ R o ps H) ∨ (∃ o kvs, H d = some (.frz o (.dK kvs)) ∧ (FzD H d o (pairsK kvs) → R o (pairsK kvs) H)) ∨ ∃ kvs, H d = some (.dK kvs) ∧ ∀ o, FzD (upd H d (.frz o (.dK kvs))) d o (pairsK kvs) → R o (pairsK kvs) (upd H d (.frz o (.dK kvs)))
def iOk (td : TE) : TI := fun σ H R => td σ H fun x H1 => ∃ d, x = .ref d ∧ OdR H1 d fun o ps H2 => R (ItOk d o ps) H2
def iOi (td : TE) : TI := fun σ H R => td σ H fun x H1 => ∃ d, x = .ref d ∧ OdR H1 d fun o ps H2 => R (ItOi d o ps) H2
section
variable {X : Cx} {tg e : Expr} {td : TE} {apos cpos : Pos} {pins : List (Addr × Obj)} {σ : St} {H : Hp} {s : Shared} {d : Addr}
theorem OdR.held {R : Obj → List (V × V) → Hp → Prop} (I : Inv X pins σ H s) (h : OdR H d R) : ∃ o ps H2, Inv X pins σ H2 s ∧ FzD H2 d o ps ∧ R o ps H2 := by
  rcases h with ⟨o, ps, f, r⟩ | ⟨o, kvs, f, r⟩ | ⟨kvs, f, r⟩
  · exact ⟨o, ps, H, I, f, r⟩
  · exact ⟨o, _, H, I, I.fzD f, r (I.fzD f)⟩
  · obtain ⟨od, I2⟩ := I.lock f trivial
    exact ⟨od, _, _, I2, I2.fzD upd_same, r od (I2.fzD upd_same)⟩
theorem pi_ok (he : PE X e td) : PI X tg e (iOk td) := by
  refine ⟨fun pins s σ H R I h => ?_⟩
  refine thn (he.run pins s σ H _ I h) fun u s1 ⟨x, H1, I1, rx, d, ex, q⟩ => ?_
  subst ex
  obtain rfl : u = Value.ref d := rx
  obtain ⟨o, ps, H2, I2, f, r⟩ := q.held I1
  have hg := f.at I2
  obtain ⟨hs, _, hx, es, ep, hdt, hsz, _⟩ := id f
  exact iter_keys hs hg hx hdt (pi_one (tk := s1.toks) I2 _ (turn_ok _ hdt) ⟨_, Heap.get?_push_size _ rfl, rfl, by rw [hsz] <;> rfl⟩ r)
theorem pi_oi (he : PE X e td) (hbase : attributeBase e "items" X.env (eval e X.env) = eval e X.env := by rfl) (hline : (apos.endLine == cpos.line) = true := by rfl) : PI X tg (.Call (.Attribute e "items" apos) [] [] cpos) (iOi td) := by
  refine ⟨fun pins s σ H R I h => ?_⟩
  refine wpAny_Call_method (T := "dict") (id := "dict.items") hbase rfl hline F.plainAttrs_dict F.slot_dict_items F.type_dict_items (thn (he.run pins s σ H _ I h) fun u s1 ⟨x, H1, I1, rx, d, ex, q⟩ => ?_)
  subst ex
  obtain rfl : u = Value.ref d := rx
  obtain ⟨o, ps, H2, I2, f, r⟩ := q.held I1
  have hg := f.at I2
  obtain ⟨hs, _, hx, es, ep, hdt, hsz, _⟩ := id f
  have raw : s1.heap.DictRaw d es ep := ⟨o, hg, hx, hdt⟩
  refine ⟨raw.typeIs, fun a ha => by cases ha; exact ⟨o, hg, hx.2.1⟩, ?_⟩
  have I3 : Inv X pins σ H2 { s1 with heap := s1.heap.push { cls := .type "dict_items", data := .fields #[.ref d] } } := I2.kept (t' := s1.toks) fun b ob q => Heap.get?_push_of_some _ q
  have fin : wpAny (model X.prog X.w) X.A (pyIter (.ref s1.heap.objs.size)) (PIE X pins σ tg R) X.xe { s1 with heap := s1.heap.push { cls := .type "dict_items", data := .fields #[.ref d] } } := by
    refine wpAny_pyIter_items_raw (d := d) ⟨_, Heap.get?_push_size _ rfl, rfl, rfl⟩ (raw.at fun o2 ho2 => Heap.get?_push_of_some _ ho2) (pi_one (tk := s1.toks) I3 _ (turn_oi _ hdt) ⟨.none, .bool false, .none, .none, ?_, .inl rfl⟩ r)
    rw [← hsz]
    exact Heap.get?_push_size _ rfl
  exact method_meetsIn F.slot_dict_items F.entry_dict_items rfl (PySem.evalArgs_none ⟨rfl, raw.typeIs, F.args_dict_items_1 _, _, meets_dict_items_raw d hs, ⟨⟨es, ep, raw⟩, fin⟩⟩)
end
end L2
end
section
set_option maxRecDepth 100000
set_option maxHeartbeats 4000000
/-! for over the keys of a dict that is a cell. -/
namespace Rs
open PySem PySem.Spec PyProof.Rows L2
section
variable {G : Gl} {T : Tab} {F : Call} {k : Nat} {X : Cx} {tg e : Expr} {pos : Pos}
/-- the turns of a loop, from a reading in which what is walked is held -/
theorem for_core {p : Pat} {b : List IS} {σ : L2.St} {D : Ends} {B : Cf} {sl s2 : S} {J : It} {items : List Val} {Gd : Hp → Prop} {Y : Nat → Hp → V → Hp → Prop} {fl : Fl} (rh : Rel G B sl σ) (w : Walk J items.length Gd Y) (hG : ∀ C2 : Cf, Le B C2 → Gd C2.H)
    (hY : ∀ i (C2 : Cf) H' x v s2 σ2, items[i]? = some x → Le B C2 → Rel G C2 s2 σ2 → Y i C2.H v H' → ∃ C3, C3.H = H' ∧ Le C2 C3 ∧ Rel G C3 s2 σ2 ∧ VR G C3 x v)
    (e2 : forL (patSet p) (execSs T F b) items sl = .ok fl s2) (fin : ∀ Ce σe, Le B Ce → Rel G Ce s2 σe → endF G D fl Ce σe) : tFor (fun _ H R => R J H) (gP G p) (tS G (execSs T F b)) D σ B.H := by
  refine for_it w (fun i σi Hi => ∃ Ci si, Ci.H = Hi ∧ Le B Ci ∧ Rel G Ci si σi ∧ forL (patSet p) (execSs T F b) (items.drop i) si = .ok fl s2) ⟨_, _, rfl, .refl _, rh, e2⟩ ?_ ?_ ?_
  · rintro i σi Hi hi ⟨Ci, si, rfl, l, _, _⟩
    exact hG Ci l
  · rintro i x σi Hi H' hi ⟨Ci, si, rfl, l, ri, fi⟩ y
    rw [drop_get hi] at fi
    obtain ⟨e, fb, sb, g1, g2, g3⟩ := forL_ct fi
    obtain ⟨C3, rfl, l3, r3, v3⟩ := hY i Ci H' items[i] x si σi (by simp [hi]) l ri y
    refine ⟨C3, si, _, e, rfl, r3, v3, g1, fun σ4 r4 _ => ⟨C3, _, fb, sb, rfl, r4, g2, fun C5 σ5 l5 r5 => ?_⟩⟩
    have l6 := (l.trans l3).trans l5
    rcases g3 with ⟨h, g⟩ | ⟨h, rfl, rfl⟩ | ⟨v, h, rfl, rfl⟩
    · rcases h with rfl | rfl
      · exact ⟨C5, sb, rfl, l6, r5, g⟩
      · exact ⟨C5, sb, rfl, l6, r5, g⟩
    · subst h
      exact fin C5 σ5 l6 r5
    · subst h
      exact fin C5 σ5 l6 r5
  · rintro σi Hi ⟨Ci, si, rfl, l, ri, fi⟩
    rw [List.drop_length] at fi
    unfold forL at fi
    simp only [R.ok.injEq] at fi
    obtain ⟨rfl, rfl⟩ := fi
    exact fin Ci σi l ri
end
end Rs
end
section
set_option maxRecDepth 100000
set_option maxHeartbeats 4000000
/-! for over the keys of a name's dict that is a value; x.upper(). -/
namespace Rs
open PySem PySem.Spec PyProof.Rows L2
section
variable {G : Gl} {T : Tab} {F : Call} {k : Nat} {X : Cx} {tg e eo : Expr} {pos cpos apos : Pos} {a : IE}
end
end Rs
end
section
set_option maxRecDepth 100000
set_option maxHeartbeats 4000000
/-! Comprehensions and loops over the keys or the pairs of a dict that is a value, its keys of any kind. -/
namespace Rs
open PySem PySem.Spec PyProof.Rows L2
section
variable {G : Gl} {T : Tab} {F : Call} {k : Nat} {X : Cx} {tg e : Expr} {pos apos : Pos} {C : Cf} {s : S} {σ : L2.St}
/-- what is walked, beside what stands there -/
def ItsR (its : Bool) (G : Gl) (B : Cf) (items : List Val) (ps : List (V × V)) : Prop := items.length = ps.length ∧ ∀ (i : Nat) x a b, items[i]? = some x → ps[i]? = some (a, b) → if its then ∃ c w, x = .tup [c, w] ∧ VR G B c a ∧ VR G B w b else VR G B x a
theorem ItsR.mono {its : Bool} {B B' : Cf} {items : List Val} {ps : List (V × V)} (h : ItsR its G B items ps) (l : Lv B B') : ItsR its G B' items ps := by
  refine ⟨h.1, fun i x a b hx hp => ?_⟩
  have q := h.2 i x a b hx hp
  cases its with
  | true => obtain ⟨c, w, e, h1, h2⟩ := q; exact ⟨c, w, e, h1.mono0 l, h2.mono0 l⟩
  | false => exact (show VR G B x a from q).mono0 l
theorem dct_at : ∀ {kvs : List (Key × Val)} {ks : List (Key × V)} {i : Nat} {a : Key × Val} {b : Key × V}, VRk G C kvs ks → kvs[i]? = some a → ks[i]? = some b → a.1 = b.1 ∧ VR G C a.2 b.2
  | [], ks, i, a, b, h, e, _ => by cases e
  | (c, x) :: kvs, ks, i, a, b, h, e1, e2 => by
    unfold VRk at h
    obtain ⟨y, r, e, h1, h2⟩ := h
    subst e
    cases i with
    | zero => cases e1; cases e2; exact ⟨rfl, h1⟩
    | succ j => exact dct_at (i := j) h2 e1 e2
theorem its_dct {its : Bool} {kvs : List (Key × Val)} {ks : List (Key × V)} {items : List Val} (h : VRk G C kvs ks) (hi : itemsI its (.dct kvs) = some items) : ItsR its G C items (pairsK ks) := by
  unfold itemsI keysV at hi
  cases its with
  | true =>
    simp only [if_true, Option.some.injEq] at hi
    subst hi
    refine ⟨by simp [h.length], fun i x a b hx hp => ?_⟩
    rw [List.getElem?_map] at hx hp
    obtain ⟨u, hu, rfl⟩ := Option.map_eq_some_iff.mp hx
    obtain ⟨w, hw, e⟩ := Option.map_eq_some_iff.mp hp
    cases e
    obtain ⟨h1, h2⟩ := dct_at h hu hw
    exact ⟨vKey u.1, u.2, rfl, by rw [h1]; exact vKey_rel _, h2⟩
  | false =>
    simp only [Bool.false_eq_true, if_false, Option.some.injEq] at hi
    subst hi
    refine ⟨by simp [h.length], fun i x a b hx hp => ?_⟩
    rw [List.getElem?_map] at hx hp
    obtain ⟨u, hu, rfl⟩ := Option.map_eq_some_iff.mp hx
    obtain ⟨w, hw, e⟩ := Option.map_eq_some_iff.mp hp
    cases e
    obtain ⟨h1, h2⟩ := dct_at h hu hw
    show VR G C (vKey u.1) (kV w.1)
    rw [h1]
    exact vKey_rel _
theorem odd_at2 : ∀ {kvs : List (Val × Val)} {ps : List (V × V)} {i : Nat} {a : Val × Val} {b : V × V}, VRo G C kvs ps → kvs[i]? = some a → ps[i]? = some b → VR G C a.1 b.1 ∧ VR G C a.2 b.2
  | [], ps, i, a, b, h, e, _ => by cases e
  | (c, x) :: kvs, ps, i, a, b, h, e1, e2 => by
    unfold VRo at h
    obtain ⟨z, y, r, e, h1, h2, h3⟩ := h
    subst e
    cases i with
    | zero => cases e1; cases e2; exact ⟨h1, h2⟩
    | succ j => exact odd_at2 (i := j) h3 e1 e2
theorem VRo.length : ∀ {kvs : List (Val × Val)} {ps : List (V × V)}, VRo G C kvs ps → kvs.length = ps.length
  | [], ps, h => by unfold VRo at h; subst h; rfl
  | (c, x) :: kvs, ps, h => by
    unfold VRo at h
    obtain ⟨z, y, r, e, h1, h2, h3⟩ := h
    subst e
    simp [VRo.length h3]
theorem its_odd {its : Bool} {kvs : List (Val × Val)} {ps : List (V × V)} {items : List Val} (h : VRo G C kvs ps) (hi : itemsI its (.odd kvs) = some items) : ItsR its G C items ps := by
  unfold itemsI at hi
  cases its with
  | true =>
    simp only [if_true, Option.some.injEq] at hi
    subst hi
    refine ⟨by simp [h.length], fun i x a b hx hp => ?_⟩
    rw [List.getElem?_map] at hx
    obtain ⟨u, hu, rfl⟩ := Option.map_eq_some_iff.mp hx
    obtain ⟨h1, h2⟩ := odd_at2 h hu hp
    exact ⟨u.1, u.2, rfl, h1, h2⟩
  | false =>
    simp only [Bool.false_eq_true, if_false, Option.some.injEq] at hi
    subst hi
    refine ⟨by simp [h.length], fun i x a b hx hp => ?_⟩
    rw [List.getElem?_map] at hx
    obtain ⟨u, hu, rfl⟩ := Option.map_eq_some_iff.mp hx
    exact (odd_at2 h hu hp).1
/-- a dict of odd keys, as it stands -/
theorem ode_odd {w : World} {o : Obj} {zs : List (NestedKey × Value × Value)} {ps : List (V × V)} (ho : OdObj w o zs) (hp : OdP ps zs) : OdE o ps := by
  obtain ⟨hx, es, ep, hd, he, _⟩ := ho
  have l1 : es.size = zs.length := by rw [← Array.length_toList, he, List.length_map]
  refine ⟨hx, es, ep, hd, by rw [l1, Paired.length hp], fun i a b hi => ?_⟩
  obtain ⟨z, hz, r1, r2⟩ := paired_get hp hi
  refine ⟨⟨z.1.hash w, z.2.1, z.2.2⟩, ?_, r1, r2⟩
  rw [← Array.getElem?_toList, he, List.getElem?_map, hz]
  rfl
/-- a dict value, walked from here on -/
theorem od_read {its : Bool} {x : Val} {v : V} {items : List Val} {R : Addr → Obj → List (V × V) → Hp → Prop} (rl : Rel G C s σ) (hx : VR G C x v) (hi : itemsI its x = some items)
    (h : ∀ (B : Cf) d o ps, Le C B → B.rs = C.rs → Rel G B s σ → B.fz d → FzD B.H d o ps → ItsR its G B items ps → R d o ps B.H) : ∃ d, v = .ref d ∧ OdR C.H d (R d) := by
  cases x with
  | dct kvs =>
    unfold VR at hx
    obtain ⟨d, ks, rfl, hf, hr, hk⟩ := hx
    refine ⟨d, rfl, ?_⟩
    rcases hr with hr | ⟨od, hr⟩
    · refine .inr (.inr ⟨ks, hr, fun od f => ?_⟩)
      have lB : Lv C (C.put d (.frz od (.dK ks))) := lv_at (by rw [hr]; exact keeps_lock)
      have rB : Rel G (C.put d (.frz od (.dK ks))) s σ := rl.lv lB rfl rfl rfl rfl (fun p n => by
        show upd C.H d _ p = _
        rw [upd_ne fun z => n (by rw [z]; exact hf)]) (tabs_put rl.tabs (fun u e => by rw [hr] at e; cases e; exact ⟨fun _ z => (nomatch z), fun _ z => (nomatch z)⟩))
      refine h _ d od _ ⟨lB, rfl, rfl, fun p hp o e => ?_, fun p hp b u e => ?_⟩ rfl rB hf f ((its_dct hk hi).mono lB)
      · show upd C.H d _ p = _
        rw [upd_ne fun z => rl.fzkp d hf (by rw [← z]; exact hp)]
        exact e
      · show upd C.H d _ p = _
        rw [upd_ne fun z => by rw [z, hr] at e; cases e]
        exact e
    · exact .inr (.inl ⟨od, ks, hr, fun f => h C d od _ (.refl _) rfl rl hf f (its_dct hk hi)⟩)
  | odd kvs =>
    unfold VR at hx
    obtain ⟨d, o, zs, ps, rfl, hf, hs, hp, ho, _, hpz, _, hr⟩ := hx
    have f : FzD C.H d o ps := ⟨hs, ⟨_, hp⟩, ode_odd ho hpz⟩
    exact ⟨d, rfl, .inl ⟨o, ps, f, h C d o ps (.refl _) rfl rl hf f (its_odd hr hi)⟩⟩
  | _ => cases hi
def ItO (its : Bool) (d : Addr) (o : Obj) (ps : List (V × V)) : It := if its then ItOi d o ps else ItOk d o ps
theorem od_walk {its : Bool} {B : Cf} {d : Addr} {o : Obj} {ps : List (V × V)} {items : List Val} (hr : ItsR its G B items ps) : ∃ Y, Walk (ItO its d o ps) items.length (fun H => FzD H d o ps) Y ∧
    (∀ i (C2 : Cf) H' x v s2 σ2, items[i]? = some x → Lv B C2 → Rel G C2 s2 σ2 → Y i C2.H v H' → ∃ C3, C3.H = H' ∧ Le C2 C3 ∧ Rel G C3 s2 σ2 ∧ VR G C3 x v) := by
  cases its with
  | true =>
    refine ⟨_, by rw [hr.1]; exact walk_oi, fun i C2 H' x v s2 σ2 hx l r y => ?_⟩
    obtain ⟨D, u, z, rfl, hD, rfl, h1, h2⟩ := y
    obtain ⟨⟨a1, b1⟩, g1, rfl⟩ := Option.map_eq_some_iff.mp h1
    have h2 : ps[i]?.map Prod.snd = some z := h2
    rw [g1] at h2
    cases h2
    obtain ⟨a, b, rfl, va, vb⟩ := hr.2 i x a1 b1 hx g1
    have f := r.fresh hD
    have r1 := r.new (o := .tup [a1, b1]) hD
    refine ⟨(C2.new D (.tup [a1, b1])).ice D, rfl, (Le.new hD).trans .ice, r1.ice ⟨f.fz, f.kp, f.ρ, f.rs⟩ (nt_upd fun ps z => nomatch z) fun i c h z => own_tr r h z hD, ?_⟩
    have l2 : Lv B ((C2.new D (.tup [a1, b1])).ice D) := lv_trans l ((Le.new hD).trans .ice).toLv
    show VR G _ (.tup _) _
    unfold VR
    exact ⟨D, _, rfl, .inl ⟨.inr rfl, upd_same⟩, VRs.cons (va.mono0 l2) (VRs.cons (vb.mono0 l2) VRs.nil)⟩
  | false =>
    refine ⟨_, by rw [hr.1]; exact walk_ok, fun i C2 H' x v s2 σ2 hx l r y => ?_⟩
    obtain ⟨rfl, b, g⟩ := y
    exact ⟨C2, rfl, .refl _, r, (show VR G B x v from hr.2 i x v b hx g).mono0 l⟩
theorem FzD.le {B C2 : Cf} {d : Addr} {o : Obj} {ps : List (V × V)} (f : FzD B.H d o ps) (hf : B.fz d) (h : ∀ p, B.fz p → ∀ b u, B.H p = some (.frz b u) → C2.H p = some (.frz b u)) : FzD C2.H d o ps :=
  let ⟨hs, ⟨u, hu⟩, r⟩ := f; ⟨hs, ⟨u, h d hf _ _ hu⟩, r⟩
theorem lci_of {p : Pat} {its : Bool} {a : IE} {conds : List IE} {elt : IE} {vs : List Nat} (hv : ∀ i ∈ pnames p, i ∈ vs) {H : Hp} {Q : VK} (h : EE G T F (.lci elt p its a conds vs) σ H Q) :
    EE G T F a σ H fun x H1 => ∃ d, x = .ref d ∧ OdR H1 d fun o ps H2 => tLc (fun _ H R => R (ItO its d o ps) H) (gP G p) (tBo G (evalTs T F conds)) (EE G T F elt) vs σ H2 Q := by
  obtain ⟨C, s, x, s', hH, rl, ev, kk⟩ := h
  unfold evalE at ev
  obtain ⟨y, s1, e1, ev⟩ := bind_ok ev
  refine EE_of_val hH rl e1 fun C1 v l1 r1 h1 => ?_
  cases hi : itemsI its y with
  | none => simp [hi] at ev
  | some items =>
    simp only [hi] at ev
    obtain ⟨acc, s2, e2, ev2⟩ := bind_ok ev
    simp only [R.ok.injEq] at ev2
    obtain ⟨rfl, rfl⟩ := ev2
    refine od_read r1 h1 hi fun B d o ps lB hrsB rB hf f hr => ?_
    obtain ⟨Y, w, hY⟩ := od_walk (d := d) (o := o) hr
    refine tLc_core (B := B) hv rB w (fun C2 l => FzD.le (B := B) f hf fun p h b u e => l.ff p h b u e) (fun i C2 H' x v s2 σ2 hx l r y => hY i C2 H' x v s2 σ2 hx ⟨l.ρ, l.fz, l.hf⟩ r y) e2 fun D Ci ys hD l hrs ri hDi va => ?_
    have r2 := rB.rest (C := Ci) ⟨l.ρ, l.fz, l.hf⟩ ri
    have kD : Ci.rs D := by rw [hrs]; exact .inr rfl
    have r4 : Rel G { Ci with rs := B.rs } { s2 with e := restE s1.e s2.e vs } σ := r2.unkeep fun p h => by show Ci.rs p; rw [hrs]; exact .inl h
    exact kk { Ci with rs := B.rs } (.ref D) ((l1.trans lB).trans l) r4 (new_out (E := Ci) hD ⟨_, rB⟩ l.kp r2 kD hDi va)
/-- [.. for x in d ..], d a dict that is a value -/
theorem se_lcik {elt : Expr} {ifs : List Expr} {scope : Scope} {own : List (Str × Nat)} {p : Pat} {conds : List IE} {c a : IE} (o : XO0 G k X) (hc : PE X e (EE G T F c)) (ok : BlkOk X.N X.env.scope scope own)
    (hg : ∀ (s : Shared) (H : Hp) (C : Addr) (cl : List (Str × Addr)) (fp : List Addr), PG (X.blk s H scope (compEnvC scope cl C X.env) fp) tg (gP G p)) (ht : ∀ (s : Shared) (H : Hp) (C : Addr) (cl : List (Str × Addr)) (fp : List Addr), PTs (X.blk s H scope (compEnvC scope cl C X.env) fp) ifs (tBo G (evalTs T F conds)))
    (he : ∀ (s : Shared) (H : Hp) (C : Addr) (cl : List (Str × Addr)) (fp : List Addr), PE (X.blk s H scope (compEnvC scope cl C X.env) fp) elt (EE G T F a)) (hv : ∀ i ∈ pnames p, i ∈ own.map (·.2)) (hs : ∀ y, foldedSetIterable e X.env y = pure y := by intro _; rfl) :
    PE X (.ListComp elt [⟨tg, e, ifs, 0⟩] scope pos) (EE G T F (.lci a p false c conds (own.map (·.2)))) :=
  PE.weak (pe_lc o.calm o.nd (pi_ok hc) ok hg ht he hs) fun σ H Q h => lci_of hv h
/-- y = [.. for x in d.items() ..] -/
theorem ss_setLcii {y : Str} {py : Pos} {elt : Expr} {ifs : List Expr} {scope : Scope} {own : List (Str × Nat)} {p : Pat} {conds : List IE} {c a : IE} {cpos spos : Pos} (o : XO0 G k X) (i : Nat) (hc : PE X e (EE G T F c)) (ok : BlkOk X.N X.env.scope scope own)
    (hg : ∀ (s : Shared) (H : Hp) (C : Addr) (cl : List (Str × Addr)) (fp : List Addr), PG (X.blk s H scope (compEnvC scope cl C X.env) fp) tg (gP G p)) (ht : ∀ (s : Shared) (H : Hp) (C : Addr) (cl : List (Str × Addr)) (fp : List Addr), PTs (X.blk s H scope (compEnvC scope cl C X.env) fp) ifs (tBo G (evalTs T F conds)))
    (he : ∀ (s : Shared) (H : Hp) (C : Addr) (cl : List (Str × Addr)) (fp : List Addr), PE (X.blk s H scope (compEnvC scope cl C X.env) fp) elt (EE G T F a)) (hv : ∀ i ∈ pnames p, i ∈ own.map (·.2))
    (hsw : swapsWith (.ListComp elt [⟨tg, .Call (.Attribute e "items" apos) [] [] cpos, ifs, 0⟩] scope pos) (some (.Name y py)) spos.line X.env = pure true)
    (hy : X.N[i]? = some y := by rfl) (hyl : X.env.scope.names.lookup y = some .local := by rfl)
    (hbase : attributeBase e "items" X.env (eval e X.env) = eval e X.env := by rfl) (hline : (apos.endLine == cpos.line) = true := by rfl) (hs : ∀ y, foldedSetIterable (.Call (.Attribute e "items" apos) [] [] cpos) X.env y = pure y := by intro _; rfl) :
    PS X (.Assign [.Name y py] (.ListComp elt [⟨tg, .Call (.Attribute e "items" apos) [] [] cpos, ifs, 0⟩] scope pos) spos) (SS G T F (.asg (.nm i) (.lci a p true c conds (own.map (·.2))))) :=
  PS.weak (ps_setLc o.calm o.nd hy hyl hsw (pi_oi hc hbase hline) ok hg ht he hs) fun D σ H h => lci_of hv (asg_nm h)
theorem fori_of {p : Pat} {its : Bool} {a : IE} {b : List IS} {H : Hp} {D : Ends} (h : SS G T F (.fori p its a b) D σ H) :
    EE G T F a σ H fun x H1 => ∃ d, x = .ref d ∧ OdR H1 d fun o ps H2 => tFor (fun _ H R => R (ItO its d o ps) H) (gP G p) (tS G (execSs T F b)) D σ H2 := by
  obtain ⟨C, s, fl, s', hH, rl, ev, kk⟩ := h
  unfold execS at ev
  obtain ⟨y, s1, e1, ev⟩ := bind_ok ev
  refine EE_of_val hH rl e1 fun C1 v l1 r1 h1 => ?_
  cases hi : itemsI its y with
  | none => simp [hi] at ev
  | some items =>
    simp only [hi] at ev
    refine od_read r1 h1 hi fun B d o ps lB hrsB rB hf f hr => ?_
    obtain ⟨Y, w, hY⟩ := od_walk (d := d) (o := o) hr
    exact for_core (B := B) rB w (fun C2 l => FzD.le (B := B) f hf fun p h b u e => l.ff p h b u e) (fun i C2 H' x v s2 σ2 hx l r y => hY i C2 H' x v s2 σ2 hx l.toLv r y) ev fun Ce σe l re => kk Ce σe ((l1.trans lB).trans l) re
theorem ss_forii {body : List Stmt} {p : Pat} {c : IE} {b : List IS} {cpos : Pos} (o : XO0 G k X) (hc : PE X e (EE G T F c)) (hg : PG X tg (gP G p)) (hb : PSs X body (tS G (execSs T F b)))
    (hp : PassesOwn (model X.prog X.w) X.A X.env X.xe) (hbase : attributeBase e "items" X.env (eval e X.env) = eval e X.env := by rfl) (hline : (apos.endLine == cpos.line) = true := by rfl)
    (hs : ∀ y, foldedSetIterable (.Call (.Attribute e "items" apos) [] [] cpos) X.env y = pure y := by intro _; rfl) : PS X (.For tg (.Call (.Attribute e "items" apos) [] [] cpos) body [] pos) (tS G (execS T F (.fori p true c b))) :=
  PS.weak (ps_for (pos := pos) hp o.calm (pi_oi hc hbase hline) hg hb hs) fun D σ H h => fori_of h
end
end Rs
end
section
set_option maxRecDepth 100000
set_option maxHeartbeats 4000000
/-! What is raised: statements beside the interpreter's excS. -/
namespace L2
open PySem PySem.Spec PyProof.Rows
section
variable {X : Cx}
theorem PA.nox {es : List Expr} {t : TA} (h : PA X.nox es t) : PA X es t := ⟨fun pos pins s σ H Q I hw =>
  wpAny_mono (h.run pos pins s σ H Q (I.wish _) hw) (fun _ _ ⟨v, H', I', r, q⟩ => ⟨v, H', I'.unwish, r, q⟩) fun _ _ z => False.elim z⟩
theorem PS.nox {st : Stmt} {t : TS} (h : PS X.nox st t) : PS X st t := ⟨fun pins s σ H D I hw =>
  wpAny_mono (h.run pins s σ H D (I.wish _) hw) (fun _ _ q => q.unwish) fun _ _ z => False.elim z⟩
end
end L2
namespace Rs
open PySem PySem.Spec PyProof.Rows L2
/-- an exception class of the program: its object, its attribute -/
structure XC where
  cls : Addr
  fld : Str
section
variable {G : Gl} {T : Tab} {F : Call} {xc : Nat → XC} {W : WX} {X : Cx}
/-- what is wished where v of class c is raised -/
def XW (G : Gl) (xc : Nat → XC) (W : WX) (c : Nat) (v : Val) (s' : S) (C : Cf) : Prop := ∀ C' σ' u d, Le C C' → Rel G C' s' σ' → VR G C' v u → C'.H d = some (.xd [((xc c).fld, u)]) → W (.ref (xc c).cls) (some d) σ' C'.H
theorem XW.mono {c : Nat} {v : Val} {s' : S} {C C1 : Cf} (h : XW G xc W c v s' C) (l : Le C C1) : XW G xc W c v s' C1 := fun C' σ' u d l2 r h1 h2 => h C' σ' u d (l.trans l2) r h1 h2
/-- a statement that may raise -/
def tX (G : Gl) (xc : Nat → XC) (f : S → R Fl) (g : S → Option (Nat × Val × S)) (W : WX) : TS := fun D σ H => ∃ C s, C.H = H ∧ Rel G C s σ ∧ ((∃ fl s', f s = .ok fl s' ∧ ∀ C' σ', Le C C' → Rel G C' s' σ' → endF G D fl C' σ') ∨ ∃ c v s', g s = some (c, v, s') ∧ XW G xc W c v s' C)
abbrev SX (G : Gl) (xc : Nat → XC) (T : Tab) (F : Call) (p : IS) (W : WX) : TS := tX G xc (execS T F p) (excS T F p) W
abbrev SXs (G : Gl) (xc : Nat → XC) (T : Tab) (F : Call) (ps : List IS) (W : WX) : TS := tX G xc (execSs T F ps) (excSs T F ps) W
variable {k : Nat} {e : Expr} {es : List Expr} {as : List IE} {a c : IE} {st : Stmt} {rest rest2 : List Stmt} {p : IS} {ps qs : List IS} {pos cpos np : Pos}
/-! ### calls that may raise -/
def spE (G : Gl) (xc : Nat → XC) (F : Call) (id np : Nat) : Sp := fun vs H Q E => vs.length = np ∧ ∃ C xs h, C.H = H ∧ Rel G C ⟨[], h⟩ [] ∧ VRs G C xs vs ∧
  ((∃ r s2, F id xs h = .ok r s2 ∧ ∀ C' v, Le C C' → Rel G C' ⟨[], s2.h⟩ [] → VR G C' r v → Q v C'.H) ∨
    ∃ c v s2, F id xs h = .exc c v s2 ∧ ∀ C' u d, Le C C' → Rel G C' ⟨[], s2.h⟩ [] → VR G C' v u → C'.H d = some (.xd [((xc c).fld, u)]) → E (.ref (xc c).cls) (some d) C'.H)
/-- a def that may raise, called where no repr is under way -/
structure FnE (P : Program) (w : World) (K : PySem.W.Frag) (mg : Str → Option Value) (base : Heap) (k : Nat) (f : Addr) (fd : FuncData) (ps : List Str) (sp : Sp) : Prop where
  len : ∀ vs H Q E, sp vs H Q E → vs.length = ps.length
  run : ∀ (A : Around) (outer : List Env) (s : Shared) (H : Hp) (args : Args) (us : List Value) (vs : List V) (Q : VK) (E : XK), A.guards = some [] → Room k A → Env0 P w K mg base A outer s H → BindsTo s fd args (ps.zip us) → Vals vs us → sp vs H Q E →
    codeAny (model P w) A (.call (.ref f) args) (L2.CR (L2.CX P w) outer P w H s Q E) s
section
variable {f : Addr} {fd : FuncData} {pz : List Str} {sp : Sp} {E : L2.St → XK} {x : Str} {t : TA}
end
structure HaveE (G : Gl) (xc : Nat → XC) (F : Call) (P : Program) (w : World) (K : PySem.W.Frag) (mg : Str → Option Value) (base : Heap) (k : Nat) (x : Str) (id np : Nat) : Prop where
  ex : ∃ f fd ps, FnE P w K mg base k f fd ps (spE G xc F id np) ∧ mg x = some (.ref f) ∧ PySem.W.keepIn K (.ref f) = true ∧ Binds K fd ps []
/-! ### raise -/
/-- the __init__ of an exception class: self.f = f -/
def spIni (C : Addr) (f : Str) : Sp := fun vs H Q _ => ∃ a y, vs = [.ref a, y] ∧ H a = some (exo a C none) ∧ ∀ dx, H dx = none → dx ≠ a → Q .non (upd (upd H dx (exd dx [(f, y)])) a (exo a C (some dx)))
structure HaveC (xc : Nat → XC) (P : Program) (w : World) (K : PySem.W.Frag) (mg : Str → Option Value) (base : Heap) (k : Nat) (x : Str) (c : Nat) : Prop where
  t : OexC K (xc c).cls
  m : mg x = some (.ref (xc c).cls)
  ex : ∃ fI fd ps, PySem.W.findIn K (.ref (xc c).cls) "__init__" = some (some (.ref fI)) ∧ PySem.W.typeIn K (.ref fI) = some (.type "function") ∧ FnOk P w K mg base CX0 k fI fd ps (spIni (xc c).cls (xc c).fld) ∧ Binds K fd ps []
end
end Rs
end
section
set_option maxRecDepth 100000
set_option maxHeartbeats 4000000
/-! Errors as values: an error object that stands at a place. -/
namespace Rs
open PySem PySem.Spec PyProof.Rows L2
theorem exv_ok {P : Program} {w : World} {H : Hp} {h : Heap} {a : Addr} {u : Obj} (e : h.get? a = some u) : L2.ObjOk P w H h a (exv u) := ⟨e, u, e⟩
end Rs
end
section
set_option maxRecDepth 100000
set_option maxHeartbeats 4000000
/-! isinstance asks an error that has a dict. -/
namespace Rs
open PySem PySem.W PySem.Spec PySem.Calls PyProof.Rows
section
variable {K : PySem.W.Frag} {D x : Addr} {u : Obj} {od : Option Obj}
end
end Rs
end
section
set_option maxRecDepth 100000
set_option maxHeartbeats 4000000
/-! An error's kinds and attribute, read where it stands. -/
namespace Rs
open PySem PySem.Spec PyProof.Rows L2
section
variable {X : Cx} {D : Addr}
end
end Rs
end
section
set_option maxRecDepth 100000
set_option maxHeartbeats 400000
/-! An error of a class without own __init__, made of nothing. -/
namespace Rs
open PySem PySem.Spec PyProof.Rows L2
end Rs
end
section
set_option maxRecDepth 100000
set_option maxHeartbeats 400000
/-! isinstance of the error that a suite has caught, one with a dict. -/
namespace Rs
open PySem PySem.Spec PyProof.Rows L2
end Rs
end
section
set_option maxRecDepth 100000
set_option maxHeartbeats 4000000
/-! Generator defs: if and for. -/
namespace Rs
open PySem PySem.Spec PyProof.Rows L2 GenW
section
variable {X : Cx}
def tGIf (c : TT) (ta tb : TGn) : TGn := fun D ys σ H => c σ H fun b H1 => if b = true then ta D ys σ H1 else tb D ys σ H1
def tGFor (wi : TI) (g : TG) (tb : TGn) : TGn := fun D ys σ H => wi σ H fun J H1 => ∃ W : Nat → Nat → List V → L2.St → Hp → Prop, (∃ m, W 0 m ys σ H1) ∧ ∀ i m ys σ H, W i m ys σ H →
  (J.stop i H ∧ D.nx ys σ H) ∨ (J.go i H ∧ ∃ N : List V → L2.St → Hp → Prop, (∀ ys' σ' H', N ys' σ' H' → ∃ m', m' < m ∧ W (i + 1) m' ys' σ' H') ∧ ∀ x H', J.yld i H x H' → g x σ H' fun σ2 H2 => tb { D with nx := N, ct := N, bk := D.nx } ys σ2 H2)
end
end Rs
end
section
set_option maxRecDepth 100000
set_option maxHeartbeats 4000000
/-! Generator defs: their statements beside the interpreter's; list(f(..)). -/
namespace Rs
open PySem PySem.Spec PyProof.Rows L2 GenW
section
variable {G : Gl} {T : Tab} {F : Call} {k : Nat} {X : Cx} {e : Expr} {es : List Expr} {a c : IE} {as : List IE} {st : Stmt} {rest rest2 : List Stmt} {p : IS} {ps qs : List IS} {pos yp pos2 p2 p3 : Pos}
/-- a generator's statement -/
def tGy (G : Gl) (f : List Val → S → R (List Val)) : TGn := fun D ys σ H => ∃ C s xs zs s', C.H = H ∧ Rel G C s σ ∧ VRs G C xs ys ∧ f xs s = .ok zs s' ∧ ∀ C' ys' σ', Le C C' → Rel G C' s' σ' → VRs G C' zs ys' → D.nx ys' σ' C'.H
abbrev GG (G : Gl) (T : Tab) (F : Call) (p : IS) : TGn := tGy G (execG T F p)
abbrev GGs (G : Gl) (T : Tab) (F : Call) (p : List IS) : TGn := tGy G (execGs T F p)
theorem GS.weak {t t' : TGn} (h : GS X st t) (w : ∀ D ys σ H, t' D ys σ H → t D ys σ H) : GS X st t' :=
  ⟨fun A S ip R n ys s₀ c fs K J gd lv s σ H D g hn k hI ht => h.run A S ip R n ys s₀ c fs K J gd lv s σ H D g hn k hI (w D ys σ H ht)⟩
theorem GSs.weak {t t' : TGn} (h : GSs X rest t) (w : ∀ D ys σ H, t' D ys σ H → t D ys σ H) : GSs X rest t' :=
  ⟨fun A S ip R n ys s₀ c fs K J gd lv s σ H D g hn k hI ht => h.run A S ip R n ys s₀ c fs K J gd lv s σ H D g hn k hI (w D ys σ H ht)⟩
/-! ### no exception leaves -/
theorem gi_nox {E : Value → Shared → Prop} {S : Addr} {ip : List (Addr × Obj)} {ys : List V} {σ : L2.St} {H : Hp} {s : Shared} : GI (X.wish E) S ip ys σ H s ↔ GI X S ip ys σ H s :=
  ⟨fun ⟨acc, c, r, I⟩ => ⟨acc, c, r, I.unwish⟩, fun ⟨acc, c, r, I⟩ => ⟨acc, c, r, I.wish _⟩⟩
theorem gy_nox {E : Value → Shared → Prop} {S : Addr} : GY (X.wish E) S = GY X S := by
  funext n s₀ v s kap
  apply propext
  exact ⟨fun ⟨ys, x, ip, σ, H, h1, h2, h3, h4⟩ => ⟨ys, x, ip, σ, H, h1, h2, gi_nox.mp h3, h4⟩, fun ⟨ys, x, ip, σ, H, h1, h2, h3, h4⟩ => ⟨ys, x, ip, σ, H, h1, h2, gi_nox.mpr h3, h4⟩⟩
theorem GSs.nox {t : TGn} (h : GSs X.nox rest t) : GSs X rest t := ⟨fun A S ip R n ys s₀ c fs K J gd lv s σ H D g hn k hI ht => by
  have q := h.run A S ip R n ys s₀ c fs K J gd lv s σ H D ⟨g.pn, g.ip, g.apart, g.over, g.split, g.guard, g.gd⟩ hn ⟨fun n' ys' s₀' s' f hn' hs => ?_, fun n' s₀' e s' hx => hx.elim⟩ (gi_nox.mpr hI) ht
  · rw [gy_nox] at q
    exact q
  · rw [gy_nox]
    refine k.ok n' ys' s₀' s' f hn' ?_
    cases f with
    | next => obtain ⟨σ', H', I, q⟩ := hs; exact ⟨σ', H', gi_nox.mp I, q⟩
    | brk => obtain ⟨σ', H', I, q⟩ := hs; exact ⟨σ', H', gi_nox.mp I, q⟩
    | cont => obtain ⟨σ', H', I, q⟩ := hs; exact ⟨σ', H', gi_nox.mp I, q⟩
    | ret u => obtain ⟨v, σ', H', I, r, q⟩ := hs; exact ⟨v, σ', H', gi_nox.mp I, r, q⟩⟩
/-! ### the def -/
def spG (G : Gl) (F : Call) (id np : Nat) : L2.SpG := fun vs H Q E => vs.length = np ∧ ∃ C xs h ys s2, C.H = H ∧ Rel G C ⟨[], h⟩ [] ∧ VRs G C xs vs ∧ F id xs h = .ok (.lst ys) s2 ∧
  ∀ C' zs, Le C C' → Rel G C' ⟨[], s2.h⟩ [] → VRs G C' ys zs → Q zs C'.H
/-- a generator def, as it is called by name -/
structure HaveG (G : Gl) (F : Call) (P : Program) (w : World) (K : PySem.W.Frag) (mg : Str → Option Value) (base : Heap) (k : Nat) (x : Str) (id np : Nat) : Prop where
  ex : ∃ f fd ps, GFn P w K mg base k f fd ps (spG G F id np) ∧ mg x = some (.ref f) ∧ PySem.W.keepIn K (.ref f) = true ∧ Binds K fd ps []
  gl : ∀ vs h r s, F id vs h = .ok r s → ∃ ys, r = .lst ys
/-- a def that wants nothing of its callers -/
structure HaveF (G : Gl) (F : Call) (P : Program) (w : World) (K : PySem.W.Frag) (mg : Str → Option Value) (base : Heap) (k : Nat) (x : Str) (id np : Nat) : Prop where
  ex : ∃ f fd ps, FnOk P w K mg base CX0 k f fd ps (fun vs H Q _ => spI G F id np vs H Q) ∧ mg x = some (.ref f) ∧ PySem.W.keepIn K (.ref f) = true ∧ Binds K fd ps []
end
/-! ### promises -/
section
variable {G : Gl} {T : Tab} {fs : List Fd} {n id k : Nat} {d : Fd} {P : Program} {w : World} {mg : Str → Option Value} {base : Heap} {f : Addr} {x qual : Str} {params : Arguments} {body : List Stmt} {scope : Scope} {dvs : List V} {kws : List (Str × V)} {fd : FuncData} {N ps : List Str}
end
end Rs
end
section
set_option maxRecDepth 100000
set_option maxHeartbeats 4000000
/-! Defs that may raise; try. -/
namespace Rs
open PySem PySem.Spec PyProof.Rows L2
section
variable {G : Gl} {xc : Nat → XC} {T : Tab} {fs : List Fd} {n id k : Nat} {d : Fd} {P : Program} {w : World} {mg : Str → Option Value} {base : Heap} {f : Addr} {x qual : Str} {params : Arguments} {body : List Stmt} {scope : Scope} {dvs : List V} {kws : List (Str × V)} {fd : FuncData} {N ps : List Str}
end
end Rs
end
section
set_option maxRecDepth 100000
set_option maxHeartbeats 4000000
/-! A loop that is left by what its body raises; try with one clause that has a name. -/
namespace L2
open PySem PySem.Spec PyProof.Rows
section
variable {X : Cx}
theorem PG.nox {tg : Expr} {t : TG} (h : PG X.nox tg t) : PG X tg t := ⟨fun pins s σ H v u Q I r hw =>
  wpAny_mono (h.run pins s σ H v u Q (I.wish _) r hw) (fun _ _ ⟨σ', H', I', q⟩ => ⟨σ', H', I'.unwish, q⟩) fun _ _ z => False.elim z⟩
theorem PI.nox {tg iter : Expr} {wi : TI} (h : PI X.nox tg iter wi) : PI X tg iter wi := ⟨fun pins s σ H R I hw =>
  wpAny_mono (h.run pins s σ H R (I.wish _) hw) (fun v s1 q => wpAny_mono q (fun itv s2 ⟨it, fp, tn, J, H', e, I', T, t0, f0, r⟩ => ⟨it, fp, tn, J, H', e, I'.unwish, T, t0, f0, r⟩) fun _ _ z => False.elim z) fun _ _ z => False.elim z⟩
end
end L2
namespace Rs
open PySem PySem.Spec PyProof.Rows L2
section
variable {G : Gl} {T : Tab} {F : Call} {k : Nat} {xc : Nat → XC} {W : WX} {X : Cx} {tg : Expr} {pos : Pos}
end
end Rs
end
section
set_option maxRecDepth 100000
set_option maxHeartbeats 4000000
/-! The head where there are classes: functions by paths. -/
namespace Rs
open PySem PySem.Spec PyProof.Rows L2
/-- a def that stands at a path -/
structure PathD where
  path : PySem.W.Frag → Addr
  d : He.DefD
def fnA (K : PySem.W.Frag) (a : Addr) : He.FnW := match K.lookup a with
  | some ⟨_, _, .func fd, _⟩ => some (fd.name, fd.qualname, fd.params, fd.body, fd.scope, fd.globals, fd.closure, fd.builtins)
  | _ => none
def PathD.ok (K : PySem.W.Frag) (p : PathD) : Bool := PySem.W.keepIn K (.ref (p.path K)) && (match K.lookup (p.path K) with
  | some ⟨_, _, .func fd, _⟩ => PySem.W.codeIn K fd.code p.d.qual && (He.dflB K fd.defaults (p.d.dvs K) && He.kwdB K fd.kwdefaults (p.d.kws K))
  | _ => false)
theorem PathD.funD {K : PySem.W.Frag} {p : PathD} (e : fnA K (p.path K) = p.d.val) (c : p.ok K = true) : ∃ fd, FunD K p.d.name p.d.qual p.d.params p.d.body p.d.scope (p.d.dvs K) (p.d.kws K) (p.path K) fd := by
  obtain ⟨kp, c2⟩ := He.ba c
  unfold fnA at e
  cases q : K.lookup (p.path K) with
  | none =>
    rw [q] at c2
    cases c2
  | some o =>
    obtain ⟨oc, od, dt, osl⟩ := o
    rw [q] at c2 e
    cases dt with
    | func fd =>
      obtain ⟨n1, n2, n3, n4, n5, n6, n7, n8, n9, n10, n11, n12, n13, n14, n15⟩ := fd
      have e2 : (some (n1, n2, n3, n4, n5, n6, n7, n15) : He.FnW) = some (p.d.name, p.d.qual, p.d.params, .stmts p.d.body, p.d.scope, mainGlobals, [], builtinsNs) := e
      simp only [Option.some.injEq, Prod.mk.injEq] at e2
      obtain ⟨h1, h2, h3, h4, h5, h6, h7, h8⟩ := e2
      subst h1 h2 h3 h4 h5 h6 h7 h8
      have c3 : (PySem.W.codeIn K n13 p.d.qual && (He.dflB K n8 (p.d.dvs K) && He.kwdB K n9 (p.d.kws K))) = true := c2
      obtain ⟨k1, k2⟩ := He.ba c3
      obtain ⟨k3, k4⟩ := He.ba k2
      exact ⟨_, ⟨oc, od, n8, n9, n10, n11, n12, n13, n14, osl, rfl, q, k1, He.dflB_ok k3, He.kwdB_ok k4⟩, kp⟩
    | _ => cases c2
abbrev AlQ : Type := Bool × List He.FnW
def obsQ (n : Nat) (ow : PySem.W.Frag → Bool) (fa : List He.Fa) (fn : List PathD) (g : Addr → Option Obj) : AlQ :=
  ((sysB (He.frG g (asR g n)) && ow (He.frG g (asR g n))) && ((fa.all fun f => f.ok (He.frG g (asR g n))) && fn.all fun p => p.ok (He.frG g (asR g n))), fn.map fun p => fnA (He.frG g (asR g n)) (p.path (He.frG g (asR g n))))
structure SaysQ (ow : PySem.W.Frag → Bool) (fa : List He.Fa) (fn : List PathD) (K : PySem.W.Frag) : Prop where
  b : ((sysB K && ow K) && ((fa.all fun f => f.ok K) && fn.all fun p => p.ok K)) = true
  v : (fn.map fun p => fnA K (p.path K)) = fn.map fun p => p.d.val
def valQ (fn : List PathD) : AlQ := (true, fn.map fun p => p.d.val)
def hookQ (n : Nat) (ow : PySem.W.Frag → Bool) (fa : List He.Fa) (fn : List PathD) : PySem.W.Hook where
  α := AlQ
  obs := fun s => obsQ n ow fa fn s.heap.get?
  val := fun _ => valQ fn
  says := fun _ h => ∃ K : PySem.W.Frag, K.In h ∧ SaysQ ow fa fn K
  of := fun _ _ e => ⟨_, He.frG_in, congrArg (fun z : AlQ => z.1) e, congrArg (fun z : AlQ => z.2) e⟩
  keeps := fun _ _ _ ⟨K, hK, c⟩ k => ⟨K, PySem.W.Frag.In.keeps hK k, c⟩
section
variable {ow : PySem.W.Frag → Bool} {fa : List He.Fa} {fn : List PathD} {K : PySem.W.Frag}
theorem SaysQ.sys (c : SaysQ ow fa fn K) : sysB K = true := (He.ba (He.ba c.b).1).1
theorem SaysQ.own (c : SaysQ ow fa fn K) : ow K = true := (He.ba (He.ba c.b).1).2
theorem SaysQ.fact (c : SaysQ ow fa fn K) (i : Nat) {f : He.Fa} (h : fa[i]? = some f := by rfl) : f.ok K = true :=
  List.all_eq_true.mp (He.ba (He.ba c.b).2).1 f (List.mem_of_getElem? h)
theorem SaysQ.def_ (c : SaysQ ow fa fn K) (i : Nat) {p : PathD} (h : fn[i]? = some p := by rfl) : ∃ fd, FunD K p.d.name p.d.qual p.d.params p.d.body p.d.scope (p.d.dvs K) (p.d.kws K) (p.path K) fd := by
  have e2 : (fn.map fun p => fnA K (p.path K))[i]? = (fn.map fun p => p.d.val)[i]? := by rw [c.v]
  rw [List.getElem?_map, List.getElem?_map, h] at e2
  exact PathD.funD (Option.some.inj e2) (List.all_eq_true.mp (He.ba (He.ba c.b).2).2 p (List.mem_of_getElem? h))
end
/-! ### facts of one's own -/
def prA (K : PySem.W.Frag) (C f : Str) : Addr := He.ma K (He.ga K C) f
def prG (K : PySem.W.Frag) (C f : Str) : Addr := match PySem.W.recIn K (prA K C f) "property" with
  | some (.ref g :: _) => g
  | _ => 0
def prB (K : PySem.W.Frag) (C f : Str) : Bool := He.eqO (PySem.W.findIn K (.ref (He.ga K C)) f) (some (some (.ref (prA K C f)))) && (He.eqO (PySem.W.specialIn K (.ref (prA K C f)) "__get__") (some (some (.builtin "property.__get__"))) &&
  (decide (PySem.W.takesIn K (.ref (prA K C f)) = some true) && (match PySem.W.recIn K (prA K C f) "property" with
  | some (.ref _ :: _) => true
  | _ => false)))
/-- a keyword's default that is an object -/
def kwA (K : PySem.W.Frag) (f : Str × Option Str) (x : Str) : Addr := match K.lookup (He.fAd K f) with
  | some ⟨_, _, .func fd, _⟩ => (match fd.kwdefaults with
    | .ref D => (match PySem.W.nsIn K D x with
      | some (some (.ref a)) => a
      | _ => 0)
    | _ => 0)
  | _ => 0
def tup0 (K : PySem.W.Frag) (a : Addr) : Bool := match K.lookup a with
  | some ⟨.type c, _, .seq its _, _⟩ => decide (c = "tuple") && decide (its.size = 0)
  | _ => false
end Rs
end
section
set_option maxRecDepth 100000
set_option maxHeartbeats 1000000
/-! Calls of methods with keywords: how they bind. -/
namespace Rs
open PySem PySem.Spec PyProof.Rows L2
section
variable {G : Gl} {T : Tab} {F : Call} {k : Nat} {X : Cx} {e : Expr} {kpos : Pos} {a : IE} {bs : List IE} {kws : List Keyword} {nm : Option Str}
theorem PK.weak {t t' : TA} (h : PK X kws t) (w : ∀ σ H Q, t' σ H Q → t σ H Q) : PK X kws t' := ⟨fun pos pins s σ H Q I q => h.run pos pins s σ H Q I (w σ H Q q)⟩
end
theorem VR.tup0 {G : Gl} {C : Cf} {p : Addr} (h : KTup G.K p []) : VR G C (.tup []) (.ref p) := by
  unfold VR
  exact ⟨p, [], rfl, .inr h, VRs.nil⟩
/-! ### what each parameter is given -/
def pmSel {α : Type} (z : α) (l mv : List α) : Nat ⊕ Nat → α
  | .inl i => l.getD i z
  | .inr j => mv.getD j z
def pmAll {α : Type} (z : α) (pm : List (Nat ⊕ Nat)) (mv : List α) : List α → List α
  | [] => []
  | x :: l => x :: pm.map (pmSel z l mv)
def pmDv (dv : List Val) : Nat ⊕ Nat → Nat ⊕ Val
  | .inl i => .inl i
  | .inr j => .inr (dv.getD j .non)
end Rs
end
section
set_option maxRecDepth 100000
set_option maxHeartbeats 1000000
/-! Calls by keywords alone. -/
namespace Rs
open PySem PySem.Spec PyProof.Rows L2
def selI {α : Type} (z : α) (pm : List Nat) (l : List α) : List α := pm.map fun i => l.getD i z
section
variable {G : Gl} {x qual : Str} {params : Arguments} {body : List Stmt} {scope : Scope} {kws : List (Str × V)} {f : Addr} {fd : FuncData} {ps : List Str}
end
/-- a def of the text, called by keywords alone -/
structure HaveK (G : Gl) (F : Call) (P : Program) (w : World) (K : PySem.W.Frag) (mg : Str → Option Value) (base : Heap) (k : Nat) (x : Str) (id np : Nat) (ks : List Str) (pm : List (Nat ⊕ Val)) : Prop where
  ex : ∃ f fd ps, FnG P w K mg base k f fd ps (spI G F id np) ∧ mg x = some (.ref f) ∧ PySem.W.keepIn K (.ref f) = true ∧ Bd G fd ps 0 ks pm
  ln : pm.length = np ∧ pm ≠ []
structure HaveGK (G : Gl) (F : Call) (P : Program) (w : World) (K : PySem.W.Frag) (mg : Str → Option Value) (base : Heap) (k : Nat) (x : Str) (id np : Nat) (ks : List Str) (pm : List (Nat ⊕ Val)) : Prop where
  ex : ∃ f fd ps, GFn P w K mg base k f fd ps (spG G F id np) ∧ mg x = some (.ref f) ∧ PySem.W.keepIn K (.ref f) = true ∧ Bd G fd ps 0 ks pm
  ln : pm.length = np ∧ pm ≠ []
  gl : ∀ vs h r s, F id vs h = .ok r s → ∃ ys, r = .lst ys
section
variable {G : Gl} {T : Tab} {F : Call} {k : Nat} {X : Cx} {e eo : Expr} {p p2 p3 pos pos2 apos cpos : Pos} {a o : IE} {as bs : List IE} {kws : List Keyword} {ks : List Str} {pm : List (Nat ⊕ Val)} {tk : TA} {ta : TE}
def tKw (sp : SpG) (m : Nat) (gv : List V → List V) (tk : TA) : TE := fun σ H Q => tk σ H fun zs H2 => zs.length = m ∧ sp (gv zs) H2 Q
end
end Rs
end
section
set_option maxRecDepth 100000
set_option maxHeartbeats 4000000
/-! Methods that may raise. -/
namespace L2
open PySem PySem.Spec PyProof.Rows
theorem PK.nox {X : Cx} {kws : List Keyword} {t : TA} (h : PK X.nox kws t) : PK X kws t := ⟨fun pos pins s σ H Q I hw =>
  wpAny_mono (h.run pos pins s σ H Q (I.wish _) hw) (fun _ _ ⟨v, H', I', r, q⟩ => ⟨v, H', I'.unwish, r, q⟩) fun _ _ z => False.elim z⟩
end L2
namespace Rs
open PySem PySem.Spec PyProof.Rows L2
structure HaveX (G : Gl) (xc : Nat → XC) (T : Tab) (F : Call) (P : Program) (w : World) (mg : Str → Option Value) (base : Heap) (k : Nat) (cs : List Nat) (m n : Nat) (ks : List Str) (pm : List (Nat ⊕ Val)) : Prop where
  ok : G.okf (m % 1000) ∧ G.nm (m % 1000) = G.nm m
  at_ : ∀ c id, c ∈ cs → T.mth c m = some id → Cls G.K (G.ca c) ∧ ∃ g fd ps np, Meth G.K (G.ca c) (G.nm m) g ∧ FnE P w G.K mg base k g fd ps (spE G xc F id np) ∧ BdM G fd ps np n ks pm
section
variable {G : Gl} {T : Tab} {F : Call} {k : Nat} {xc : Nat → XC} {W : WX} {X : Cx} {e eo : Expr} {es : List Expr} {pos apos cpos : Pos} {a o : IE} {as bs : List IE}
/-- o.m(..), o of a class of the text; it may raise -/
def tMX (X : Cx) (G : Gl) (m : Str) (n : Nat) (ks : List Str) (E : L2.St → XK) (ta : TE) (t tk : TA) : TE := fun σ H Q => ta σ H fun x H1 => ∃ (a C dx : Addr) (fs : List (Str × V)) (g : Addr) (fd : FuncData) (ps : List Str) (sp : Sp) (k : Nat) (gu : List Value → List Value) (gv : List V → List V),
  x = .ref a ∧ H1 a = some (.ins C dx fs) ∧ Cls X.K C ∧ Meth X.K C m g ∧ fs.lookup m = none ∧ FnE X.prog X.w X.K X.mg X.base k g fd ps sp ∧ Room k X.A ∧
  (∀ (s : Shared) (us ws : List Value), X.K.In s.heap → us.length = n + 1 → ws.length = ks.length → BindsTo s fd ⟨us, ks.zip ws⟩ (ps.zip (gu (us ++ ws)))) ∧ (∀ (vs : List V) (us : List Value), Vals vs us → Vals (gv vs) (gu us)) ∧
  t σ H1 fun vs H2 => tk σ H2 fun zs H3 => vs.length = n ∧ zs.length = ks.length ∧ sp (gv (.ref a :: vs ++ zs)) H3 Q (E σ)
theorem FnE.goK {f : Addr} {fd : FuncData} {ps ks : List Str} {sp : Sp} {k : Nat} {pins : List (Addr × Obj)} {σ : L2.St} {H : Hp} {s : Shared} {Q : VK} {E : L2.St → XK} {us ws gus : List Value} {vs : List V} (Fn : FnE X.prog X.w X.K X.mg X.base k f fd ps sp) (gd : X.A.guards = some []) (hr : Room k X.A) (hx : PassesAt (L2.CX X.prog X.w) X σ (E σ))
    (hb : BindsTo s fd ⟨us, ks.zip ws⟩ (ps.zip gus)) (I : Inv X pins σ H s) (r : Vals vs gus) (h : sp vs H Q (E σ)) : wpAny (model X.prog X.w) X.A (call (.ref f) us (ks.zip ws)) (EP X pins σ Q) X.xe s := by
  refine wpAny_call (codeAny_mono (Fn.run X.A X.stack s H ⟨us, ks.zip ws⟩ _ _ Q (E σ) gd hr I.env0 hb r h) fun r s' hq => ?_)
  cases r with
  | error e => exact hx pins H s e s' I hq
  | ok fl =>
    cases fl with
    | ret u => exact I.after hq
    | next => exact False.elim hq
    | brk => exact False.elim hq
    | cont => exact False.elim hq
/-- an expression that may raise, as it stands alone in a statement -/
structure SRx (G : Gl) (xc : Nat → XC) (T : Tab) (F : Call) (W : WX) (X : Cx) (e : Expr) (a : IE) : Prop where
  v : ∀ s x s', evalE T F a s = .ok x s' → ∃ r, x = .v r
  ex : ∃ t, PE X e t ∧ ∀ σ C s Q, Rel G C s σ → ((∃ x s', evalE T F a s = .ok (.v x) s' ∧ ∀ C' v, Le C C' → Rel G C' s' σ → VR G C' x v → Q v C'.H) ∨ ∃ c v s', excE T F a s = some (c, v, s') ∧ XW G xc W c v s' C) → t σ C.H Q
/-! ### statements -/
end
end Rs
end
section
set_option maxRecDepth 100000
set_option maxHeartbeats 4000000
/-! try: clauses that have names. -/
namespace L2
open PySem PySem.Spec PyProof.Rows
/-- what the clauses 'except x as n' wish of an exception of the body, one after the other -/
def wManyAs (K : PySem.W.Frag) (i : Nat) (Wout : WX) (D : Ends) : List (Value × (Addr → Value → Option Addr → TS)) → WX
  | [] => Wout
  | (c, ts) :: r => fun cls d σ H => ∃ b, PySem.W.exmOne K cls c = some b ∧ (b = true → ∀ a, H a = none → ts a cls d { nx := fun σ' H' => D.nx (σ'.set i none) H', rt := D.rt, bk := fun σ' H' => D.bk (σ'.set i none) H', ct := fun σ' H' => D.ct (σ'.set i none) H' } (σ.set i (some (.ref a))) H) ∧ (b = false → wManyAs K i Wout D r cls d σ H)
inductive HdsAs (X : Cx) (n : Str) : List ExceptHandler → List (Value × (Addr → Value → Option Addr → TS)) → Prop
  | nil : HdsAs X n [] []
  | cons {x : Str} {c : Value} {ts : Addr → Value → Option Addr → TS} {b₀ : Stmt} {suite : List Stmt} {np pos' : Pos} {hds : List ExceptHandler} {l : List (Value × (Addr → Value → Option Addr → TS))} (hc : Names X x c)
      (hsu : ∀ (a : Addr) (oe : Obj) (cls : Value) (d : Option Addr) (pn : List (Addr × Obj)), Zc cls d oe → (∃ vs, oe.data = .fields vs) → PSs (X.suite a ((a, oe) :: pn)) (b₀ :: suite) (ts a cls d)) (r : HdsAs X n hds l) :
      HdsAs X n (.ExceptHandler (some (.Name x np)) (some n) (b₀ :: suite) pos' :: hds) ((c, ts) :: l)
section
variable {X : Cx} {n : Str} {i : Nat} {body : List Stmt} {h₀ : ExceptHandler} {hds : List ExceptHandler} {l : List (Value × (Addr → Value → Option Addr → TS))} {pos : Pos} {tb : WX → TS} {Wout : WX}
end
end L2
namespace Rs
open PySem PySem.Spec PyProof.Rows L2
section
variable {G : Gl} {T : Tab} {F : Call} {k : Nat} {xc : Nat → XC} {X : Cx} {body : List Stmt} {b : List IS} {x y : Str} {p1 p2 p3 p4 p5 p6 rp pos pos' : Pos} {c i : Nat}
/-- the class's facts for a clause -/
structure HaveKl (xc : Nat → XC) (K : PySem.W.Frag) (mg : Str → Option Value) (x : Str) (c : Nat) : Prop where
  m : mg x = some (.ref (xc c).cls)
  ex : PySem.W.exmOne K (.ref (xc c).cls) (.ref (xc c).cls) = some true
  xf : XfC K (xc c).cls
  no : PySem.W.findIn K (.ref (xc c).cls) (xc c).fld = some none
/-- an exception of class c is none of class d -/
abbrev HaveNe (xc : Nat → XC) (K : PySem.W.Frag) (c d : Nat) : Prop := PySem.W.exmOne K (.ref (xc c).cls) (.ref (xc d).cls) = some false
/-- what a suite's text does is what Su says -/
def SuW (G : Gl) (xc : Nat → XC) (T : Tab) (F : Call) (i c : Nat) (u : Su) (ts : Addr → Value → Option Addr → TS) : Prop := ∀ (D : Ends) (σ : L2.St) (C : Cf) (v : Val) (s1 s' : S) (fl : Fl) (a d : Addr) (uu : V), Rel G C s1 σ → i < σ.length → VR G C v uu → C.H d = some (.xd [((xc c).fld, uu)]) → C.H a = none →
  suX T F u v s1 = .ok fl s' → (∀ C' σ', Le C C' → Rel G C' s' σ' → endF G D fl C' σ') → ts a (.ref (xc c).cls) (some d) { nx := fun σ' H' => D.nx (σ'.set i none) H', rt := D.rt, bk := fun σ' H' => D.bk (σ'.set i none) H', ct := fun σ' H' => D.ct (σ'.set i none) H' } (σ.set i (some (.ref a))) C.H
inductive Hdl (G : Gl) (xc : Nat → XC) (T : Tab) (F : Call) (X : Cx) (i : Nat) (n : Str) : List ExceptHandler → List (Nat × Su) → List (Value × (Addr → Value → Option Addr → TS)) → Prop
  | nil : Hdl G xc T F X i n [] [] []
  | cons {x : Str} {c : Nat} {u : Su} {ts : Addr → Value → Option Addr → TS} {b₀ : Stmt} {suite : List Stmt} {np pos' : Pos} {hds : List ExceptHandler} {cl : List (Nat × Su)} {l : List (Value × (Addr → Value → Option Addr → TS))} (hk : HaveKl xc X.K X.mg x c) (hgx : L2.Gl X x)
      (hsu : ∀ (a : Addr) (oe : Obj) (cls : Value) (d : Option Addr) (pn : List (Addr × Obj)), Zc cls d oe → (∃ vs, oe.data = .fields vs) → PSs (X.suite a ((a, oe) :: pn)) (b₀ :: suite) (ts a cls d)) (hw : SuW G xc T F i c u ts) (hne : ∀ c2 ∈ cl.map Prod.fst, HaveNe xc X.K c2 c)
      (r : Hdl G xc T F X i n hds cl l) (hdx : (x == ("__debug__" : Str)) = false := by decide) : Hdl G xc T F X i n (.ExceptHandler (some (.Name x np)) (some n) (b₀ :: suite) pos' :: hds) ((c, u) :: cl) ((.ref (xc c).cls, ts) :: l)
theorem lookup_memS : ∀ {l : List (Nat × Su)} {c : Nat} {u : Su}, l.lookup c = some u → c ∈ l.map Prod.fst
  | [], c, u, z => by cases z
  | p :: r, c, u, z => by
    rw [List.lookup_cons] at z
    by_cases e : c = p.1
    · subst e; simp
    · have e2 : (c == p.1) = false := by simpa using e
      rw [e2] at z
      exact List.mem_cons_of_mem _ (lookup_memS z)
theorem Hdl.as {hds : List ExceptHandler} {cl : List (Nat × Su)} {l : List (Value × (Addr → Value → Option Addr → TS))} (h : Hdl G xc T F X i y hds cl l) : HdsAs X y hds l := by
  induction h with
  | nil => exact .nil
  | cons hk hgx hsu hw hne r hdx ih => exact .cons ⟨hgx, hdx, .inl hk.m⟩ hsu ih
theorem Hdl.wish {hds : List ExceptHandler} {cl : List (Nat × Su)} {l : List (Value × (Addr → Value → Option Addr → TS))} (h : Hdl G xc T F X i y hds cl l) {Wout : WX} {D : Ends} {c : Nat} {u : Su} {v : Val} {s1 s' : S} {fl : Fl} {σ : L2.St} {C : Cf} {d : Addr} {uu : V} (hl : cl.lookup c = some u)
    (rl : Rel G C s1 σ) (hi : i < σ.length) (hu : VR G C v uu) (hd : C.H d = some (.xd [((xc c).fld, uu)])) (ev : suX T F u v s1 = .ok fl s') (kk : ∀ C' σ', Le C C' → Rel G C' s' σ' → endF G D fl C' σ') : wManyAs X.K i Wout D l (.ref (xc c).cls) (some d) σ C.H := by
  induction h with
  | nil => cases hl
  | @cons x2 c2 u2 ts b₀ suite np pos' hds2 cl2 l2 hk hgx hsu hw hne r hdx ih =>
    rw [List.lookup_cons] at hl
    by_cases e : c = c2
    · subst e
      simp only [beq_self_eq_true, Option.some.injEq] at hl
      subst hl
      exact ⟨true, hk.ex, fun _ a ha => hw D σ C v s1 s' fl a d uu rl hi hu hd ha ev kk, fun z => by cases z⟩
    · have e2 : (c == c2) = false := by simpa using e
      rw [e2] at hl
      refine ⟨false, hne c ?_, (fun z => by cases z), fun _ => ih hl⟩
      exact lookup_memS hl
/-! ### suites -/
def rRepr (G : Gl) : List V → Hp → VK → Prop := fun vs H Q => ∃ C v x d, C.H = H ∧ vs = [v] ∧ NR G C x v ∧ toD x = some d ∧ showOk d = true ∧ Q (.str d.shown) H
/-- [x, repr(error.attr)] -/
def tShw (G : Gl) (i : Nat) (t fld : Str) (Cl a : Addr) (cls : Value) (d : Option Addr) : TE := tLst (tCons (tC (.str t)) (tCons (tCB (rRepr G) (tCons (tXf a cls d Cl fld (tVar i)) tNil)) tNil))
abbrev tSuR (G : Gl) (i : Nat) (t fld : Str) (Cl : Addr) : Addr → Value → Option Addr → TS := fun a cls d => tSeq (tRet (tShw G i t fld Cl a cls d)) tNext
abbrev tSuS (G : Gl) (i j : Nat) (t fld : Str) (Cl : Addr) : Addr → Value → Option Addr → TS := fun a cls d => tSeq (tAsg (tShw G i t fld Cl a cls d) (gName j)) tNext
end
end Rs
end
section
set_option maxRecDepth 100000
set_option maxHeartbeats 4000000
/-! sorted(e, key=lambda x: x[0]). -/
namespace Rs
open PySem PySem.Spec PyProof.Rows L2
/-- what the making of a lambda asks of the def around -/
def LamOk (G : Gl) (X : Cx) : Prop := ∃ c P, X.env.code = .ref c ∧ LamX.TabB X.base X.mg c P ∧ (P, X.env.qual ++ "<lambda>") ∈ G.T ∧ ∀ p ∈ G.T, p.1 = P → p.2 = X.env.qual ++ "<lambda>"
abbrev parOne (x : Str) (pos : Pos) : Arguments := { posonlyargs := [], args := [{ arg := x, annotation := none, pos := pos }], vararg := none, kwonlyargs := [], kw_defaults := [], kwarg := none, defaults := [] }
abbrev scOne (x : Str) : Scope := { kind := .function, names := [(x, .local)], isGenerator := false, isCoroutine := false, more := [] }
abbrev bodyOne (x : Str) (p1 p2 p3 : Pos) (j : Nat) : Expr := .Subscript (.Name x p1) (.Constant (.int 0) j p2) p3
section
variable {prog : Program} {w : World} {A : Around} {s : Shared}
end
def keyOf : Val → Int
  | .tup (.int i :: _) => i
  | _ => 0
section
variable {G : Gl} {T : Tab} {F : Call} {k : Nat} {X : Cx} {e : Expr} {a : IE} {p pp p1 p2 p3 lpos kpos pos : Pos} {j : Nat}
/-- tables grow, all else stays -/
theorem le_ext {C : Cf} {H' : Hp} {s : S} {σ : L2.St} (r : Rel G C s σ) (x : LamX.ExtN C.H H') : Le C { C with H := H' } :=
  have nt : ∀ {p : Addr}, NT (C.H p) → ∀ u, C.H p = some u → H' p = some u := fun {p} h u e => x p u e fun ps z => by
    obtain ⟨v, e2, n⟩ := h
    rw [e] at e2; cases e2
    exact n ps z
  .of rfl (fun _ h => h) rfl rfl fun q hq u e => by
    rcases hq with h | h
    · exact nt (r.fztr q h) u e
    · exact nt (r.kptr q h) u e
theorem Rel.ext {C : Cf} {H' : Hp} {s : S} {σ : L2.St} (r : Rel G C s σ) (x : LamX.ExtN C.H H') (t : LamX.Tabs G.T H') : Rel G { C with H := H' } s σ :=
  have nt : ∀ {p : Addr}, NT (C.H p) → H' p = C.H p := fun {p} ⟨u, e, n⟩ => (x p u e n).trans e.symm
  r.le (le_ext r x) rfl (fun i c p h a => by
    obtain ⟨q, a', b, _⟩ := r.own i c h
    rw [a] at a'
    cases a'
    exact nt b.nt) (fun p z => .inl z) (fun p h => by
    obtain ⟨n, hn, e⟩ := List.getElem_of_mem h
    have h1 : n < s.h.length := by rw [r.hlen]; exact hn
    exact nt (r.cell n s.h[n] p (by simp [h1]) (by rw [List.getElem?_eq_getElem hn, e])).1.nt) t
def one1 (W : V → Hp → Prop) : List V → Hp → Prop
  | [v], H => W v H
  | _, _ => False
def wSk (G : Gl) (σ : L2.St) (Q : VK) (v : V) (H1 : Hp) : Prop := ∃ C s xs ys ks d, C.H = H1 ∧ Rel G C s σ ∧ v = .ref d ∧ H1 d = some (.lst ys) ∧ VRs G C xs ys ∧ keysI xs = some ks ∧ xs.length ≤ sizeLine ∧
        ∀ H2 l zs, LamX.ExtN H1 H2 → LamX.Tabs G.T H2 → H2 l = none → VRs G { C with H := H2 } (xs.mergeSort (PySem.W.dataLe false fun x => .int (keyOf x))) zs → Q (.ref l) (upd H2 l (.lst zs))
end
end Rs
end
section
set_option maxRecDepth 100000
set_option maxHeartbeats 4000000
/-! The head where a method holds a lambda: its code's table. -/
namespace Rs
open PySem PySem.Spec PyProof.Rows L2
/-- a method that makes a lambda: its class, its name, its full name -/
structure LamD where
  C : Str
  m : Str
  q : Str
def lamA (K : PySem.W.Frag) (l : LamD) : Addr := He.fAd K (l.C, some l.m)
def lamC (K : PySem.W.Frag) (l : LamD) : Addr := match K.lookup (lamA K l) with
  | some ⟨_, _, .func fd, _⟩ => (match fd.code with
    | .ref c => c
    | _ => 0)
  | _ => 0
def lamP (K : PySem.W.Frag) (l : LamD) : Addr := match K.lookup (lamC K l) with
  | some ⟨_, _, .fields vs, _⟩ => (match (vs[11]? : Option Value) with
    | some (.ref P) => P
    | _ => 0)
  | _ => 0
def lamQ (l : LamD) : Str := (l.q ++ ".<locals>.") ++ "<lambda>"
def isStr : Value → Bool
  | .str _ _ => true
  | _ => false
def isInt : Value → Bool
  | .int _ _ => true
  | _ => false
def isBl : Value → Bool
  | .bool _ => true
  | _ => false
def isR : Value → Addr → Bool
  | .ref a, b => decide (a = b)
  | _, _ => false
def isRo : Option Value → Addr → Bool
  | some (.ref a), b => decide (a = b)
  | _, _ => false
def hdB (K : PySem.W.Frag) (l : LamD) : Bool := match K.lookup (lamA K l) with
  | some ⟨_, _, .func fd, _⟩ => isR fd.code (lamC K l) && (match K.lookup (lamC K l) with
    | some ⟨.type c, _, .fields vs, _⟩ => decide (c = "code") && (isRo (vs[11]?) (lamP K l) && (isR (vs.getD 11 .none) (lamP K l) && (isStr (vs.getD 18 .none) && (isInt (vs.getD 7 .none) && (isBl (vs.getD 9 .none) && (isInt (vs.getD 10 .none) && decide (lamC K l ≠ lamP K l)))))))
    | _ => false)
  | _ => false
theorem isR_ok {v : Value} {a : Addr} (h : isR v a = true) : v = .ref a := by
  cases v with
  | ref b => rw [of_decide_eq_true (show decide (b = a) = true from h)]
  | _ => cases h
theorem isRo_ok {v : Option Value} {a : Addr} (h : isRo v a = true) : v = some (.ref a) := by
  cases v with
  | none => cases h
  | some v => cases v with
    | ref b => rw [of_decide_eq_true (show decide (b = a) = true from h)]
    | _ => cases h
theorem hdB_ok {K : PySem.W.Frag} {l : LamD} (h : hdB K l = true) : (∃ o fd, K.lookup (lamA K l) = some o ∧ o.data = .func fd ∧ fd.code = .ref (lamC K l)) ∧ ∀ b : Heap, K.In b → PySem.W.CodeHd b (lamC K l) (lamP K l) := by
  unfold hdB at h
  cases q : K.lookup (lamA K l) with
  | none => rw [q] at h; cases h
  | some o =>
    obtain ⟨oc, od, dt, osl⟩ := o
    rw [q] at h
    cases dt with
    | func fd =>
      obtain ⟨h1, h2⟩ := He.ba (show (isR fd.code (lamC K l) && _) = true from h)
      refine ⟨⟨_, fd, rfl, rfl, isR_ok h1⟩, fun b X => ?_⟩
      cases q2 : K.lookup (lamC K l) with
      | none => rw [q2] at h2; cases h2
      | some o2 =>
        obtain ⟨oc2, od2, dt2, osl2⟩ := o2
        rw [q2] at h2
        cases oc2 with
        | type c =>
          cases dt2 with
          | fields vs =>
            obtain ⟨a1, h2⟩ := He.ba h2
            obtain ⟨a2, h2⟩ := He.ba h2
            obtain ⟨a3, h2⟩ := He.ba h2
            obtain ⟨a4, h2⟩ := He.ba h2
            obtain ⟨a5, h2⟩ := He.ba h2
            obtain ⟨a6, h2⟩ := He.ba h2
            obtain ⟨a7, a8⟩ := He.ba h2
            have s1 : ∃ x t, vs.getD 18 .none = .str x t := by
              revert a4; generalize vs.getD 18 .none = v; intro a4; cases v <;> first | exact ⟨_, _, rfl⟩ | cases a4
            have s2 : ∃ x t, vs.getD 7 .none = .int x t := by
              revert a5; generalize vs.getD 7 .none = v; intro a4; cases v <;> first | exact ⟨_, _, rfl⟩ | cases a4
            have s3 : ∃ x, vs.getD 9 .none = .bool x := by
              revert a6; generalize vs.getD 9 .none = v; intro a4; cases v <;> first | exact ⟨_, rfl⟩ | cases a4
            have s4 : ∃ x t, vs.getD 10 .none = .int x t := by
              revert a7; generalize vs.getD 10 .none = v; intro a4; cases v <;> first | exact ⟨_, _, rfl⟩ | cases a4
            obtain ⟨file, tf, s1⟩ := s1
            obtain ⟨flags, tg, s2⟩ := s2
            obtain ⟨inF, s3⟩ := s3
            obtain ⟨text, tt, s4⟩ := s4
            exact ⟨_, vs, file, tf, flags, tg, inF, text, tt, X _ _ q2, congrArg Value.type (of_decide_eq_true a1), rfl, isRo_ok a2, isR_ok a3, s1, s2, s3, s4, of_decide_eq_true a8⟩
          | _ => cases h2
        | _ => cases h2
    | _ => cases h
/-- a table that is empty yet -/
def tabB : Option Obj → Bool
  | some ⟨.none, none, .fields vs, sl⟩ => decide (vs.size = 0) && decide (sl.size = 0)
  | _ => false
theorem tabB_ok {o : Option Obj} (h : tabB o = true) : o = some { cls := .none, data := .fields #[] } := by
  unfold tabB at h
  split at h
  · rename_i vs sl
    obtain ⟨h1, h2⟩ := He.ba h
    rw [Array.eq_empty_of_size_eq_zero (of_decide_eq_true h1), Array.eq_empty_of_size_eq_zero (of_decide_eq_true h2)]
  · cases h
def frT (g : Addr → Option Obj) (n : Nat) (ls : List LamD) : PySem.W.Frag :=
  let K0 := He.frG g (asR g n)
  let Ps := ls.map (lamP K0)
  He.frG g ((asR g n).filter fun a => Ps.all fun p => decide (a ≠ p))
def lamB (ls : List LamD) (g : Addr → Option Obj) (K : PySem.W.Frag) : Bool := ls.all fun l => hdB K l && ((K.lookup (lamP K l)).isNone && tabB (g (lamP K l)))
def obsT (n : Nat) (ow : PySem.W.Frag → Bool) (fa : List He.Fa) (fn : List PathD) (ls : List LamD) (g : Addr → Option Obj) : AlQ :=
  let K := frT g n ls
  (lamB ls g K && ((sysB K && ow K) && ((fa.all fun f => f.ok K) && fn.all fun p => p.ok K)), fn.map fun p => fnA K (p.path K))
structure SaysT (ow : PySem.W.Frag → Bool) (fa : List He.Fa) (fn : List PathD) (ls : List LamD) (K : PySem.W.Frag) (h : Heap) : Prop where
  q : SaysQ ow fa fn K
  t : ∀ l ∈ ls, hdB K l = true ∧ K.lookup (lamP K l) = none ∧ h.get? (lamP K l) = some { cls := .none, data := .fields #[] }
def hookT (n : Nat) (ow : PySem.W.Frag → Bool) (fa : List He.Fa) (fn : List PathD) (ls : List LamD) : PySem.W.Hook where
  α := AlQ
  obs := fun s => obsT n ow fa fn ls s.heap.get?
  val := fun _ => valQ fn
  says := fun _ h => ∃ K : PySem.W.Frag, K.In h ∧ SaysT ow fa fn ls K h
  of := fun _ _ e => ⟨_, He.frG_in, by
    obtain ⟨e1, e2⟩ := He.ba (congrArg (fun z : AlQ => z.1) e)
    refine ⟨⟨e2, congrArg (fun z : AlQ => z.2) e⟩, fun l hl => ?_⟩
    have := List.all_eq_true.mp e1 l hl
    obtain ⟨a, b⟩ := He.ba this
    obtain ⟨b, c⟩ := He.ba b
    exact ⟨a, Option.isNone_iff_eq_none.mp b, tabB_ok c⟩⟩
  keeps := fun _ _ _ ⟨K, hK, c⟩ k => ⟨K, PySem.W.Frag.In.keeps hK k, c.q, fun l hl => let ⟨a, b, d⟩ := c.t l hl; ⟨a, b, k _ _ d⟩⟩
/-! ### a law's end, with tables -/
theorem SaysT.cs {ow : PySem.W.Frag → Bool} {fa : List He.Fa} {fn : List PathD} {l : LamD} {K : PySem.W.Frag} {h : Heap} (c : SaysT ow fa fn [l] K h) (X : K.In h) : (∀ p ∈ [(lamC K l, lamP K l)], h.get? p.2 = some { cls := .none, data := .fields #[] }) ∧ (∀ p ∈ [(lamC K l, lamP K l)], K.lookup p.2 = none) ∧ (∀ p ∈ [(lamC K l, lamP K l)], PySem.W.CodeHd h p.1 p.2) := by
  obtain ⟨a, b, d⟩ := c.t l (List.mem_singleton.mpr rfl)
  exact ⟨fun p hp => by rw [List.mem_singleton.mp hp]; exact d, fun p hp => by rw [List.mem_singleton.mp hp]; exact b, fun p hp => by rw [List.mem_singleton.mp hp]; exact (hdB_ok a).2 h X⟩
end Rs
end
section
set_option maxRecDepth 100000
set_option maxHeartbeats 4000000
/-! What is looked at of an exception class. -/
namespace Rs
open PySem PySem.Spec PyProof.Rows L2
def isBu : Option Value → String → Bool
  | some (.builtin x), y => decide (x = y)
  | _, _ => false
def oexO (C : Addr) : Option Obj → Bool
  | some ⟨.type t, _, .cls ⟨_, _, m :: bm, _, _, hd, _, _, _, _, hdel⟩, ⟨[_, _, _, _, k4, _]⟩⟩ => decide (t = "type") && (isR m C && (PySem.HandSPX.refsVE bm && (hd && ((!hdel) && isBu k4 "ValueError.__new__"))))
  | _ => false
def excB (K : PySem.W.Frag) (x fld : Str) : Bool :=
  oexO (He.ga K x) (K.lookup (He.ga K x)) && (He.eqO (PySem.W.findIn K (.ref (He.ga K x)) "__setattr__") (some (some (.builtin "object.__setattr__"))) &&
    (decide (PySem.W.typeIn K (.ref (He.ga K x)) = some (.type "type")) && (PySem.W.keepIn K (.ref (He.ga K x)) && (xfB K (He.ga K x) && (He.eqO (PySem.W.findIn K (.ref (He.ga K x)) fld) (some none) &&
    (decide (PySem.W.exmOne K (.ref (He.ga K x)) (.ref (He.ga K x)) = some true) && (He.eqO (PySem.W.findIn K (.ref (He.ga K x)) "__init__") (some (some (.ref (He.fAd K (x, some "__init__"))))) &&
    decide (PySem.W.typeIn K (.ref (He.fAd K (x, some "__init__"))) = some (.type "function")))))))))
def excN (K : PySem.W.Frag) (x y : Str) : Bool := decide (PySem.W.exmOne K (.ref (He.ga K x)) (.ref (He.ga K y)) = some false)
end Rs
end
section
set_option maxRecDepth 100000
set_option maxHeartbeats 4000000
/-! What the written part says of an exception class. -/
namespace Rs
open PySem PySem.Spec PyProof.Rows L2
structure ExcF (K : PySem.W.Frag) (x fld : Str) : Prop where
  t : OexC K (He.ga K x)
  xf : XfC K (He.ga K x)
  no : PySem.W.findIn K (.ref (He.ga K x)) fld = some none
  ex : PySem.W.exmOne K (.ref (He.ga K x)) (.ref (He.ga K x)) = some true
  ini : PySem.W.findIn K (.ref (He.ga K x)) "__init__" = some (some (.ref (He.fAd K (x, some "__init__"))))
  fn : PySem.W.typeIn K (.ref (He.fAd K (x, some "__init__"))) = some (.type "function")
/-- the classes by their numbers -/
def xcL (K : PySem.W.Frag) : Nat → XC := fun c => ([⟨He.ga K "UnknownThing", "name"⟩, ⟨He.ga K "BadOut", "out"⟩, ⟨He.ga K "BadGiven", "given"⟩, ⟨He.ga K "UnknownMark", "number"⟩, ⟨He.ga K "InvalidText", "line"⟩] : List XC).getD c ⟨0, ""⟩
end Rs
end
section
set_option maxRecDepth 100000
set_option maxHeartbeats 4000000
/-! Errors as values of the interpreter: made, asked. -/
namespace Rs
open PySem PySem.Spec PyProof.Rows L2
section
variable {G : Gl} {T : Tab} {F : Call} {xc : Nat → XC} {X : Cx} {k : Nat} {e : Expr} {es : List Expr} {a o : IE} {p p2 pos cpos np : Pos}
/-- what the written part says of a class beside error classes -/
def IsTab (G : Gl) (tb : List (Nat × Bool)) (cv : Value) : Prop := ∀ c b, tb.lookup c = some b → ExcC G.K (G.ca c) ∧ PySem.W.kitOne G.K (.ref (G.ca c)) cv = some b
end
end Rs
end
section
set_option maxRecDepth 100000
set_option maxHeartbeats 4000000
/-! An error made by its attribute's name. -/
namespace PySem
namespace Ekw
open Builtin Builtin.ObjectAttr PySem.W PySem.Calls PyProof.Rows PySem.HandSPX
section
variable {M : Model} {P : Program} {w : World} {A : Around} {E : Value → Shared → Prop} {R : Result → Shared → Prop} {hh : Heap} {g : Array GenState} {dr : Drawn} {tk : Nat} {os : OsState}
variable {nm qn : Str} {C N : Addr} {bs bm bmB : List Value} {hdct : Bool} {sn : List Str} {sub : List Value} {ab : Bool} {col : Option Bool} {dd : Option Addr} {c0 c1 c2 c3 c5 : Option Value} {B nid iid : String}
end
end Ekw
end PySem
namespace Rs
open PySem PySem.Spec PyProof.Rows L2
/-- the class with its __init__, called by the attribute's name -/
structure HaveCK (xc : Nat → XC) (P : Program) (w : World) (K : PySem.W.Frag) (mg : Str → Option Value) (base : Heap) (k : Nat) (x : Str) (c : Nat) : Prop where
  t : OexC K (xc c).cls
  m : mg x = some (.ref (xc c).cls)
  ex : ∃ fI fd ps, PySem.W.findIn K (.ref (xc c).cls) "__init__" = some (some (.ref fI)) ∧ PySem.W.typeIn K (.ref fI) = some (.type "function") ∧ FnOk P w K mg base CX0 k fI fd ps (spIni (xc c).cls (xc c).fld) ∧ ∀ s a u, K.In s.heap → BindsTo s fd ⟨[a], [((xc c).fld, u)]⟩ (ps.zip [a, u])
section
variable {G : Gl} {T : Tab} {F : Call} {xc : Nat → XC} {X : Cx} {k : Nat} {e : Expr} {a o : IE} {p pos : Pos} {kws : List Keyword} {x ks : Str} {tkw : TA}
end
end Rs
end
section
set_option maxRecDepth 100000
set_option maxHeartbeats 4000000
/-! try: clauses with names and without, beside each other. -/
namespace L2
open PySem PySem.Spec PyProof.Rows
/-- what the clauses wish of an exception; the Bool tells whether the clause has the name of slot i -/
def wMix (K : PySem.W.Frag) (i : Nat) (Wout : WX) (D : Ends) : List (Bool × Value × (Addr → Value → Option Addr → TS)) → WX
  | [] => Wout
  | (nb, c, ts) :: r => fun cls d σ H => ∃ b, PySem.W.exmOne K cls c = some b ∧
      (b = true → ∀ a, H a = none → (match nb with
        | true => ts a cls d { nx := fun σ' H' => D.nx (σ'.set i none) H', rt := D.rt, bk := fun σ' H' => D.bk (σ'.set i none) H', ct := fun σ' H' => D.ct (σ'.set i none) H' } (σ.set i (some (.ref a))) H
        | false => ts a cls d D σ H)) ∧ (b = false → wMix K i Wout D r cls d σ H)
inductive HdsMix (X : Cx) (n : Str) : List ExceptHandler → List (Bool × Value × (Addr → Value → Option Addr → TS)) → Prop
  | nil : HdsMix X n [] []
  | cons {nb : Bool} {x : Str} {c : Value} {ts : Addr → Value → Option Addr → TS} {b₀ : Stmt} {suite : List Stmt} {np pos' : Pos} {hds : List ExceptHandler} {l : List (Bool × Value × (Addr → Value → Option Addr → TS))} (hc : Names X x c)
      (hsu : ∀ (a : Addr) (oe : Obj) (cls : Value) (d : Option Addr) (pn : List (Addr × Obj)), Zc cls d oe → (∃ vs, oe.data = .fields vs) → PSs (X.suite a ((a, oe) :: pn)) (b₀ :: suite) (ts a cls d)) (r : HdsMix X n hds l) :
      HdsMix X n (.ExceptHandler (some (.Name x np)) (if nb then some n else none) (b₀ :: suite) pos' :: hds) ((nb, c, ts) :: l)
section
variable {X : Cx} {n : Str} {i : Nat} {body : List Stmt} {h₀ : ExceptHandler} {hds : List ExceptHandler} {l : List (Bool × Value × (Addr → Value → Option Addr → TS))} {pos : Pos} {tb : WX → TS} {Wout : WX}
end
end L2
namespace Rs
open PySem PySem.Spec PyProof.Rows L2
section
variable {G : Gl} {T : Tab} {F : Call} {xc : Nat → XC} {X : Cx} {k i : Nat} {y : Str} {body : List Stmt} {b : List IS} {pos p1 p2 p3 p4 p5 p6 p7 p8 p9 : Pos}
/-- return n -/
abbrev tRk (n : Int) : Addr → Value → Option Addr → TS := fun _ _ _ => tSeq (tRet (tC (.int n))) tNext
/-- return 4 if isinstance(e, c) else 5 -/
def tRis (K : PySem.W.Frag) (i : Nat) (C : Addr) (n : Int) : Addr → Value → Option Addr → TS := fun a cls d D σ H => ∃ (E dd : Addr) (fs : List (Str × V)), σ[i]? = some (some (.ref a)) ∧ cls = .ref E ∧ d = some dd ∧ ExcC K E ∧ H dd = some (.xd fs) ∧ PySem.W.kitOne K (.ref E) (.ref C) = some true ∧ D.rt (.int n) H
/-- the tests of an error's class -/
structure KindsX (xc : Nat → XC) (K : PySem.W.Frag) (CS : Addr) : Prop where
  e0 : PySem.W.exmOne K (.ref (xc 0).cls) (.ref (xc 0).cls) = some true
  e1 : PySem.W.exmOne K (.ref (xc 1).cls) (.ref (xc 1).cls) = some true
  e2 : PySem.W.exmOne K (.ref (xc 2).cls) (.ref (xc 2).cls) = some true
  e3 : PySem.W.exmOne K (.ref (xc 3).cls) (.ref (xc 3).cls) = some true
  n10 : PySem.W.exmOne K (.ref (xc 1).cls) (.ref (xc 0).cls) = some false
  n20 : PySem.W.exmOne K (.ref (xc 2).cls) (.ref (xc 0).cls) = some false
  n21 : PySem.W.exmOne K (.ref (xc 2).cls) (.ref (xc 1).cls) = some false
  n30 : PySem.W.exmOne K (.ref (xc 3).cls) (.ref (xc 0).cls) = some false
  n31 : PySem.W.exmOne K (.ref (xc 3).cls) (.ref (xc 1).cls) = some false
  n32 : PySem.W.exmOne K (.ref (xc 3).cls) (.ref (xc 2).cls) = some false
  n40 : PySem.W.exmOne K (.ref (xc 4).cls) (.ref (xc 0).cls) = some false
  n41 : PySem.W.exmOne K (.ref (xc 4).cls) (.ref (xc 1).cls) = some false
  n42 : PySem.W.exmOne K (.ref (xc 4).cls) (.ref (xc 2).cls) = some false
  n43 : PySem.W.exmOne K (.ref (xc 4).cls) (.ref (xc 3).cls) = some false
  e4 : PySem.W.exmOne K (.ref (xc 4).cls) (.ref CS) = some true
  x4 : ExcC K (xc 4).cls
  k4 : PySem.W.kitOne K (.ref (xc 4).cls) (.ref (xc 4).cls) = some true
abbrev clsM (xc : Nat → XC) (K : PySem.W.Frag) (i : Nat) (CS : Addr) : List (Bool × Value × (Addr → Value → Option Addr → TS)) :=
  [(false, .ref (xc 0).cls, tRk 0), (false, .ref (xc 1).cls, tRk 1), (false, .ref (xc 2).cls, tRk 2), (false, .ref (xc 3).cls, tRk 3), (true, .ref CS, tRis K i (xc 4).cls 4)]
end
end Rs
end
section
set_option maxRecDepth 100000
set_option maxHeartbeats 4000000
/-! What is looked at of the error classes, all at once. -/
namespace Rs
open PySem PySem.Spec PyProof.Rows L2
def excCB (K : PySem.W.Frag) (D : Addr) : Bool :=
  He.eqO (PySem.W.findIn K (.ref D) "__getattribute__") (some (some (.builtin "BaseException.__getattribute__"))) && (He.eqO (PySem.W.findIn K (.ref D) "__getattr__") (some none) && (decide (PySem.W.subIn K (.ref D) (.type "BaseException") = some true) && (PySem.W.hasDictIn K D &&
    (He.eqO (PySem.W.findIn K (.ref D) "__class__") (some (some (.builtin "object.__class__"))) && (He.eqO (PySem.W.specialIn K (.builtin "object.__class__") "__get__") (some (some (.builtin "getset_descriptor.__get__"))) &&
    (decide (PySem.W.takesIn K (.builtin "object.__class__") = some true) && decide (PySem.W.mroIn K D (.type "object") = some true)))))))
/-- of every class of errors, what isinstance tells beside cv -/
def isTB (K : PySem.W.Frag) (cv : Value) : List (Addr × Bool) → Bool
  | [] => true
  | (D, b) :: r => decide (PySem.W.kitOne K (.ref D) cv = some b) && isTB K cv r
def eAd (K : PySem.W.Frag) (n : Nat) : Addr := (xcL K n).cls
def eTab (K : PySem.W.Frag) (bs : List Bool) : List (Addr × Bool) := [(eAd K 0, bs.getD 0 false), (eAd K 1, bs.getD 1 false), (eAd K 2, bs.getD 2 false), (eAd K 3, bs.getD 3 false), (eAd K 4, bs.getD 4 false)]
def exT (K : PySem.W.Frag) (a b : Addr) (r : Bool) : Bool := decide (PySem.W.exmOne K (.ref a) (.ref b) = some r)
abbrev veMro : List Value := [.type "ValueError", .type "Exception", .type "BaseException", .type "object"]
def errB1 (K : PySem.W.Frag) : Bool := excCB K (eAd K 0) && (excCB K (eAd K 1) && (excCB K (eAd K 2) && (excCB K (eAd K 3) && excCB K (eAd K 4))))
def errB2 (K : PySem.W.Frag) : Bool := isTB K (.ref (eAd K 0)) (eTab K [true]) && (isTB K (.ref (eAd K 1)) (eTab K [false, true]) && (isTB K (.ref (eAd K 2)) (eTab K [false, false, true]) && (isTB K (.ref (eAd K 3)) (eTab K [false, false, false, true]) && (isTB K (.ref (eAd K 4)) (eTab K [false, false, false, false, true]) &&
    (isTB K (.ref (He.ga K "ShelfError")) (eTab K [true, true, true, true, true]) && isTB K (.type "ValueError") (eTab K [true, true, true, true, true]))))))
def errB3 (K : PySem.W.Frag) : Bool := exT K (eAd K 1) (eAd K 0) false && (exT K (eAd K 2) (eAd K 0) false && (exT K (eAd K 2) (eAd K 1) false && (exT K (eAd K 3) (eAd K 0) false && (exT K (eAd K 3) (eAd K 1) false && (exT K (eAd K 3) (eAd K 2) false &&
    (exT K (eAd K 4) (eAd K 0) false && (exT K (eAd K 4) (eAd K 1) false && (exT K (eAd K 4) (eAd K 2) false && (exT K (eAd K 4) (eAd K 3) false && exT K (eAd K 4) (He.ga K "ShelfError") true)))))))))
def errB4 (K : PySem.W.Frag) : Bool := PySem.W.excIn K (He.ga K "ShelfError") veMro "ValueError.__new__" && (PySem.W.keepIn K (.ref (He.ga K "ShelfError")) && (excCB K (He.ga K "ShelfError") && decide (PySem.W.kitOne K (.ref (He.ga K "ShelfError")) (.type "ValueError") = some true)))
def errB (K : PySem.W.Frag) : Bool := errB1 K && (errB2 K && (errB3 K && errB4 K))
/-- the tables of isinstance -/
abbrev tbE (bs : List Bool) : List (Nat × Bool) := [(5, bs.getD 0 false), (6, bs.getD 1 false), (7, bs.getD 2 false), (8, bs.getD 3 false), (9, bs.getD 4 false)]
/-- all that the law asks of the errors -/
structure ErrF (G : Gl) (mg : Str → Option Value) : Prop where
  mS : mg "ShelfError" = some (.ref (He.ga G.K "ShelfError"))
  x : ∀ n, n < 5 → ExcC G.K (eAd G.K n)
  i0 : IsTab G (tbE [true]) (.ref (eAd G.K 0))
  i1 : IsTab G (tbE [false, true]) (.ref (eAd G.K 1))
  i2 : IsTab G (tbE [false, false, true]) (.ref (eAd G.K 2))
  i3 : IsTab G (tbE [false, false, false, true]) (.ref (eAd G.K 3))
  i4 : IsTab G (tbE [false, false, false, false, true]) (.ref (eAd G.K 4))
  iS : IsTab G (tbE [true, true, true, true, true]) (.ref (He.ga G.K "ShelfError"))
  iV : IsTab G (tbE [true, true, true, true, true]) (.type "ValueError")
  kx : (∀ n, n < 4 → PySem.W.exmOne G.K (.ref (eAd G.K n)) (.ref (eAd G.K n)) = some true) → KindsX (xcL G.K) G.K (He.ga G.K "ShelfError")
  e0 : PySem.W.excIn G.K (He.ga G.K "ShelfError") veMro "ValueError.__new__" = true
  k0 : PySem.W.keepIn G.K (.ref (He.ga G.K "ShelfError")) = true
  c0 : ExcC G.K (He.ga G.K "ShelfError")
  v0 : PySem.W.kitOne G.K (.ref (He.ga G.K "ShelfError")) (.type "ValueError") = some true
section
variable {G : Gl} {T : Tab} {F : Call} {X : Cx} {k : Nat} {p p2 p3 p4 pos : Pos}
end
end Rs
end
section
set_option maxRecDepth 100000
set_option maxHeartbeats 4000000
/-! dict(list of pairs), the keys of any kind, all unlike. -/
namespace Rs
open PySem PySem.Spec PyProof.Rows L2
section
variable {G : Gl} {T : Tab} {F : Call} {k : Nat} {X : Cx} {C : Cf} {s : S} {σ : L2.St}
theorem oddV_key : ∀ {xs : List Val} {kvs : List (Val × Val)}, oddV xs = some kvs → ∃ ks : List NestedKey, (kvs.map fun kv => nkV kv.1) = ks.map some
  | [], kvs, e => by unfold oddV at e; cases e; exact ⟨[], rfl⟩
  | x :: xs, kvs, e => by
    unfold oddV at e
    split at e
    · rename_i heq; cases heq
    · rename_i kx vx rr heq
      cases heq
      split at e
      · rename_i kk r2 h1 h2
        cases e
        obtain ⟨ks, hk⟩ := oddV_key h2
        exact ⟨kk :: ks, by simp [h1, hk]⟩
      · cases e
    · cases e
theorem pairs_odd : ∀ {xs : List Val} {ys : List V} {kvs : List (Val × Val)}, VRs G C xs ys → oddV xs = some kvs → ∃ (Ts : List Addr) (ps : List (V × V)), ys = Ts.map V.ref ∧ VRo G C kvs ps ∧ Paired (fun p (q : V × V) => SqT G.K C.H p [q.1, q.2]) Ts ps
  | [], ys, kvs, h, e => by
    unfold VRs at h; unfold oddV at e; cases e; subst h
    exact ⟨[], [], rfl, by unfold VRo; rfl, .nil⟩
  | x :: xs, ys, kvs, h, e => by
    unfold VRs at h
    obtain ⟨y, r, e1, a, b⟩ := h
    subst e1
    unfold oddV at e
    split at e
    · rename_i heq; cases heq
    · rename_i kx vx rr heq
      cases heq
      split at e
      · rename_i kk r2 h1 h2
        cases e
        obtain ⟨Ts, ps, rfl, h3, h4⟩ := pairs_odd b h2
        obtain ⟨p, zs, rfl, hp, hz⟩ := (show NR G C (.tup [kx, vx]) y from a).tup
        unfold VRs at hz
        obtain ⟨z1, zr, rfl, g1, hz⟩ := hz
        unfold VRs at hz
        obtain ⟨z2, zr2, rfl, g2, hz⟩ := hz
        unfold VRs at hz
        subst hz
        refine ⟨p :: Ts, (z1, z2) :: ps, rfl, ?_, .cons hp h4⟩
        unfold VRo
        exact ⟨z1, z2, ps, rfl, g1, g2, h3⟩
      · cases e
    · cases e
/-- the pairs, as they lie on the heap -/
theorem pairs_us {pins : List (Addr × Obj)} {H : Hp} {sh : Shared} (I : Inv X pins σ H sh) : ∀ {Ts : List Addr} {ps : List (V × V)}, Paired (fun p (q : V × V) => SqT X.K H p [q.1, q.2]) Ts ps →
    ∃ us : List (Value × Value), Paired (fun (a : V × V) (b : Value × Value) => RelV a.1 b.1 ∧ RelV a.2 b.2) ps us ∧ Paired (fun p (q : Value × Value) => PySem.PairAt sh.heap p q.1 q.2) Ts us
  | _, _, .nil => ⟨[], .nil, .nil⟩
  | _, _, .cons a t => by
    obtain ⟨us, h1, h2⟩ := pairs_us I t
    obtain ⟨its, rv, pt, _⟩ := I.tuple a
    obtain ⟨u, w, rfl, r1, r2⟩ := vals2 rv
    exact ⟨(u, w) :: us, .cons ⟨r1, r2⟩ h1, .cons (.inl pt) h2⟩
theorem refs_of : ∀ {Ts : List Addr} {its : List Value}, Vals (Ts.map V.ref) its → its = Ts.map Value.ref
  | [], its, h => by cases h; rfl
  | t :: Ts, its, h => by
    cases h with
    | cons r rr => cases r; rw [refs_of rr]; rfl
theorem odP_of : ∀ {ps : List (V × V)} {us : List (Value × Value)} {ks : List NestedKey}, Paired (fun (a : V × V) (b : Value × Value) => RelV a.1 b.1 ∧ RelV a.2 b.2) ps us → ks.length = us.length → OdP ps ((ks.zip us).map fun z => (z.1, z.2.1, z.2.2)) ∧ ((ks.zip us).map fun z => (z.1, z.2.1, z.2.2)).map (·.1) = ks
  | _, _, ks, .nil, h => by
    have : ks = [] := List.length_eq_zero_iff.mp h
    subst this
    exact ⟨.nil, rfl⟩
  | _, _, ks, .cons a t, h => by
    cases ks with
    | nil => cases h
    | cons c ks =>
      obtain ⟨h1, h2⟩ := odP_of (ks := ks) t (by simpa using h)
      exact ⟨.cons a h1, by simp only [List.zip_cons_cons, List.map_cons]; rw [h2]⟩
theorem nks_at {pins : List (Addr × Obj)} {sh : Shared} (I : Inv X pins σ C.H sh) (hK : X.K = G.K) : ∀ {kvs : List (Val × Val)} {ps : List (V × V)} {us : List (Value × Value)} {ks : List NestedKey}, VRo G C kvs ps → Paired (fun (a : V × V) (b : Value × Value) => RelV a.1 b.1 ∧ RelV a.2 b.2) ps us → (kvs.map fun kv => nkV kv.1) = ks.map some →
    ∀ (i : Nat) c u v, ks[i]? = some c → us[i]? = some (u, v) → NestedIs sh.heap c u ∧ c.depth ≤ 8
  | [], _, us, ks, h, p, e, i, c, u, v, h1, h2 => by
    have : ks = [] := by cases ks with
      | nil => rfl
      | cons _ _ => cases e
    subst this
    cases h1
  | (a, x) :: kvs, _, us, ks, h, p, e, i, c, u, v, h1, h2 => by
    unfold VRo at h
    obtain ⟨z, y, r, e1, g1, g2, g3⟩ := h
    subst e1
    cases p with
    | cons r1 rr =>
      cases ks with
      | nil => cases e
      | cons d ks =>
        simp only [List.map_cons, List.cons.injEq] at e
        cases i with
        | zero =>
          cases h1
          cases h2
          exact nk_is I hK g1 r1.1 e.1
        | succ j => exact nks_at I hK g3 rr e.2 j c u v h1 h2
theorem mk_odd (o : XO0 G k X) : CallR X (.type "dict") (fun xs H Q => ∃ (C : Cf) (ys : List Val) (v : V) (kvs : List (Val × Val)), xs = [v] ∧ C.H = H ∧ NR G C (.lst ys) v ∧ oddV ys = some kvs ∧ (kvs.map fun kv => nkV kv.1).Nodup ∧ kvs.length ≤ sizeLine ∧
    ∀ D od zs ps, H D = none → (D == sysModules) = false → OdObj G.w od zs → zs.length ≤ sizeLine → OdP ps zs → (kvs.map fun kv => nkV kv.1) = zs.map (fun z => some z.1) → VRo G C kvs ps → Q (.ref D) (upd H D (.frz od (.own 0)))) := by
  intro pins s σ H xs us Q I r h
  obtain ⟨C, ys, v, kvs, rfl, rfl, hx, ho, hn, hl, q⟩ := h
  obtain ⟨p, y0, rfl, hp, hr⟩ := hx
  obtain ⟨ks, hk⟩ := oddV_key ho
  obtain ⟨Ts, ps, rfl, h3, h4⟩ := pairs_odd hr ho
  obtain ⟨u, rfl, rx⟩ := vals1 r
  cases rx
  obtain ⟨its, rv, pl, hz⟩ := I.list (SqL.of hp)
  obtain rfl := refs_of rv
  obtain ⟨us, h5, h6⟩ := pairs_us I (by rw [o.K]; exact h4)
  have lk : ks.length = kvs.length := by simpa using (congrArg List.length hk).symm
  have lp : kvs.length = ps.length := VRo.length h3
  have lu : ps.length = us.length := Paired.length h5
  have lt : Ts.length = us.length := Paired.length h6
  obtain ⟨g1, g2⟩ := odP_of (ks := ks) h5 (by omega)
  have hnd : ks.Nodup := by
    rw [hk] at hn
    exact (List.pairwise_map.mp hn).imp fun h e => h (congrArg some e)
  have h5u := o.room.un
  refine PySem.Od.of_pairs (items := (Ts.map Value.ref).toArray) (Ts := fun j => Ts.getD j 0) (ps := us) (ks := ks) (I.ok.hd o.calm) (by omega) ⟨pl, by simp [lt], fun j a b hj => ?_⟩ (by omega) hnd (nks_at I o.K h3 h5 hk) (by omega) fun h' tk hT kk => ?_
  · have hj2 : j < Ts.length := by
      have := (List.getElem?_eq_some_iff.mp hj).1
      omega
    obtain ⟨w, hw, pw⟩ := paired_get h6 (List.getElem?_eq_getElem hj2)
    rw [hj] at hw
    cases hw
    have e : Ts.getD j 0 = Ts[j] := by rw [List.getD_eq_getElem?_getD, List.getElem?_eq_getElem hj2]; rfl
    show (Ts.map Value.ref).toArray[j]? = some (.ref (Ts.getD j 0)) ∧ PairAt s.heap (Ts.getD j 0) a b
    rw [e]
    exact ⟨by simp [hj2], pw⟩
  · generalize hzs : ((ks.zip us).map fun z => (z.1, z.2.1, z.2.2)) = zs at hT g1 g2
    obtain ⟨od, es, ep, ho2, hc2, hd2, he2, hn2⟩ := hT
    have hm : (s.heap.objs.size == sysModules) = false := beq_eq_false_iff_ne.mpr (Nat.ne_of_gt I.big)
    have lz : zs.length = kvs.length := by rw [← lk, ← g2, List.length_map]
    refine ⟨.ref s.heap.objs.size, _, I.laid (t' := tk) kk (Nat.le_refl _) (exv_ok ho2), rfl, q s.heap.objs.size od zs ps (I.hok.fresh (Nat.le_refl _)) hm ⟨hc2, es, ep, hd2, by rw [← o.w]; exact he2, hn2⟩ (by omega) g1 ?_ h3⟩
    rw [hk, ← g2, List.map_map]
    rfl
theorem mkod_of (o : XO0 G k X) {a : IE} {H : Hp} {Q : VK} (h : EE G T F (.mkod a) σ H Q) : tCB (fun xs H Q => ∃ r : List V → Hp → VK → Prop, CallR X (.type "dict") r ∧ r xs H Q) (tOs G (evalOs T F [a])) σ H Q := by
  obtain ⟨C, s, x, s', hH, rl, ev, kk⟩ := h
  unfold evalE at ev
  obtain ⟨y, s1, e1, ev⟩ := bind_ok ev
  have e2 : evalOs T F [a] s = .ok [opnd y] s1 := by
    unfold evalOs
    rw [e1]
    rfl
  cases hd : deref s1 (opnd y) with
  | lst xs =>
    rw [hd] at ev
    have hb : (([opnd y].map (deref s1)).all okV) = true := by simp [hd, okV]
    cases hp : pairsV xs with
    | some kvs =>
      simp only [hp, R.ok.injEq] at ev
      obtain ⟨rfl, rfl⟩ := ev
      refine ⟨C, s, _, _, hH, rl, e2, fun C1 vs l1 r1 h1 => ?_⟩
      have hx := h1.nr r1 hb
      rw [List.map_cons, List.map_nil, hd] at hx
      exact bi_dict o C1 _ σ _ vs _ Q r1 hx (show (pairsV xs).map (fun kvs => Rv.f (.dct (dmerge [] kvs) false)) = _ by rw [hp]; rfl) fun C2 z l2 r2 h2 => kk C2 z (l1.trans l2) r2 h2
    | none =>
      cases ho : oddV xs with
      | none => simp [hp, ho] at ev
      | some kvs =>
        simp only [hp, ho] at ev
        split at ev
        · rename_i hc
          simp only [R.ok.injEq] at ev
          obtain ⟨rfl, rfl⟩ := ev
          refine ⟨C, s, _, _, hH, rl, e2, fun C1 vs l1 r1 h1 => ?_⟩
          have hx := h1.nr r1 hb
          rw [List.map_cons, List.map_nil, hd] at hx
          obtain ⟨v, rfl, hv⟩ := hx.one
          refine ⟨_, mk_odd o, C1, xs, v, kvs, rfl, rfl, hv, ho, hc.1, hc.2, fun D od zs ps hD hs hob hl hpz hk hr => ?_⟩
          have f := r1.fresh hD
          have rn := r1.new (o := .frz od (.own 0)) hD
          have lD : Le C1 ((C1.new D (.frz od (.own 0))).ice D) := (Le.new hD).trans .ice
          refine kk ((C1.new D (.frz od (.own 0))).ice D) (.ref D) (l1.trans lD) (rn.ice ⟨f.fz, f.kp, f.ρ, f.rs⟩ (nt_upd fun ps z => nomatch z) fun i c h z => own_tr r1 h z hD) ?_
          show VR G _ (.odd kvs) _
          unfold VR
          exact ⟨D, od, zs, ps, rfl, .inr rfl, hs, upd_same, hob, hl, hpz, hk, hr.mono0 lD.toLv⟩
        · cases ev
  | _ => rw [hd] at ev; cases ev
theorem se_mkod {e : Expr} {a : IE} {p pos : Pos} (o : XO0 G k X) (hg : L2.Gl X "dict") (hm : X.mg "dict" = none) (hv : bootBuiltins "dict" = some (.type "dict")) (ha : PA X [e] (tOs G (evalOs T F [a])))
    (he : starEach [e] X.env = (false, eval e X.env) :: starEach [] X.env := by rfl) (hpl : (backTo pos (starEach [] X.env)).any (·.1) = false := by rfl) :
    PE X (.Call (.Name "dict" p) [e] [] pos) (EE G T F (.mkod a)) := PE.weak (pe_callTy CallR.any hg hm hv ha (by decide) (by decide) he hpl) fun σ H Q h => mkod_of o h
end
end Rs
end
section
set_option maxRecDepth 100000
set_option maxHeartbeats 4000000
namespace Rs
open PySem PySem.Spec PyProof.Rows L2
def top (i : Nat) : Stmt := PySem.Challenge.pw_rentshelf_k01_values_that_are_things.main.body.getD i (.Pass ⟨0, 0, 0, 0⟩)
def nn_is_integer : List Str := ["value", "low", "high"]
def nn_is_name : List Str := ["value", "letter"]
def is_is_things_k01 : List IS := [(.ite (.or (.not (.bi .isDct [(.var 0)])) (.not (.chn .le .le (.cst (.int 1)) (.bi .len [(.var 0)]) (.glb 0 (.int 20))))) [(.ret (.cst (.bl false)))] []), (.ret (.bi .all [(.lci (.and (.fn 26 [(.var 1)] []) (.fn 25 [(.sub (.var 0) (.var 1)), (.cst (.int 1)), (.glb 0 (.int 1000000))] [])) (.nm 1) false (.var 0) [] [1])]))]
abbrev fd_is_things_k01 : Fd := ⟨1, 2, is_is_things_k01⟩ -- 317
def nn_is_things_k01 : List Str := ["value", "name"]
def nn__law_feed : List Str := ["_law_script", "_law_k", "_law_seed", "_law_digits"]
def nn__law_take : List Str := ["_law_feed_here", "_law_size", "_law_digit"]
def nn__law_pick : List Str := ["_law_feed_here", "_law_choices"]
def nn__law_names : List Str := ["_law_feed_here", "_law_many_here", "_law_some", "_law_at"]
def nn__law_things : List Str := ["_law_feed_here", "_law_many_here", "_law_menu", "_law_name"]
def is__law_are_things : List IS := [(.ite (.or (.not (.bi .isDct [(.var 0)])) (.not (.chn .le .le (.cst (.int 1)) (.bi .len [(.var 0)]) (.cst (.int 20))))) [(.ret (.cst (.bl false)))] []), (.fori (.tp [(.nm 1), (.nm 2)]) true (.var 0) [(.ite (.or (.not (.bi .isStr [(.var 1)])) (.not (.chn .le .le (.cst (.int 1)) (.bi .len [(.var 1)]) (.cst (.int 8))))) [(.ret (.cst (.bl false)))] []), (.ite (.cmp .ne (.lc (.var 3) (.nm 3) .it [(.var 1)] [(.cmp .notin (.var 3) (.cst (.str "abcdefghijklmnopqrstuvwxyz")))] [3]) (.lst [])) [(.ret (.cst (.bl false)))] []), (.ite (.or (.not (.bi .isInt [(.var 2)])) (.or (.bi .isBool [(.var 2)]) (.not (.chn .le .le (.cst (.int 1)) (.var 2) (.bin .pow (.cst (.int 10)) (.cst (.int 6))))))) [(.ret (.cst (.bl false)))] [])]), (.ret (.cst (.bl true)))]
abbrev fd__law_are_things : Fd := ⟨1, 4, is__law_are_things⟩ -- 318
def nn__law_are_things : List Str := ["_law_value", "_law_name", "_law_price", "_law_sign"]
def is__law_many : List IS := [(.asg (.nm 2) (.cst (.str "abcdefghijklmnopqrstuvwxyz"))), (.asg (.nm 3) (.fn 1 [(.var 0), (.bin .sub (.cst (.int 27)) (.var 1))] [])), (.ret (.bi .dict [(.lc (.tup [(.bin .mul (.sub (.var 2) (.bin .add (.var 3) (.var 4))) (.bin .add (.cst (.int 1)) (.fn 1 [(.var 0), (.cst (.int 8))] []))), (.bin .add (.cst (.int 1)) (.fn 1 [(.var 0), (.bin .pow (.cst (.int 10)) (.cst (.int 6)))] []))]) (.nm 4) .rng [(.var 1)] [] [4])]))]
abbrev fd__law_many : Fd := ⟨2, 5, is__law_many⟩ -- 35
def nn__law_many : List Str := ["_law_feed_here", "_law_many_here", "_law_letters", "_law_first", "_law_at"]
def is__law_word : List IS := [(.asg (.nm 1) (.cst (.str "abcdefghijklmnopqrstuvwxyz"))), (.ret (.mt .join (.cst (.str "")) [(.lc (.fn 2 [(.var 0), (.var 1)] []) (.nm 2) .rng [(.bin .add (.cst (.int 1)) (.fn 1 [(.var 0), (.cst (.int 9))] []))] [] [2])]))]
abbrev fd__law_word : Fd := ⟨1, 3, is__law_word⟩ -- 36
def nn__law_word : List Str := ["_law_feed_here", "_law_letters", "_law_turn"]
def is__law_signed : List IS := [(.asg (.nm 2) (.cst (.str " !\"#$&'()*+,-./0123456789:;<=>?@ABCDEFGHIJKLMNOPQRSTUVWXYZ[\\]^_`{|}~\n"))), (.par 3 4 false false (.fn 1 [(.var 0), (.bin .add (.bi .len [(.var 1)]) (.cst (.int 1)))] []) (.fn 2 [(.var 0), (.var 2)] [])), (.ret (.bin .add (.bin .add (.slc (.var 1) [] [(.var 3)]) (.var 4)) (.slc (.var 1) [(.bin .add (.var 3) (.fn 1 [(.var 0), (.cst (.int 2))] []))] [])))]
abbrev fd__law_signed : Fd := ⟨2, 5, is__law_signed⟩ -- 37
def nn__law_signed : List Str := ["_law_feed_here", "_law_name", "_law_signs", "_law_at", "_law_sign"]
def is__law_laid : List IS := [(.asg (.nm 4) (.lci (.var 6) (.nm 6) true (.var 1) [(.cmp .ne (.sub (.var 6) (.cst (.int 0))) (.var 2))] [6])), (.asg (.nm 5) (.fn 1 [(.var 0), (.bin .add (.bi .len [(.var 4)]) (.cst (.int 1)))] [])), (.ret (.mkod (.bin .add (.bin .add (.slc (.var 4) [] [(.var 5)]) (.lst [(.tup [(.var 2), (.var 3)])])) (.slc (.var 4) [(.var 5)] []))))]
abbrev fd__law_laid : Fd := ⟨4, 7, is__law_laid⟩ -- 319
def nn__law_laid : List Str := ["_law_feed_here", "_law_things_here", "_law_name", "_law_price", "_law_pairs", "_law_at", "_law_pair"]
def is__law_near_k01 : List IS := [(.par 4 5 true false (.bi .dict [(.var 1)]) (.fn 1 [(.var 0), (.cst (.int 9))] [])), (.asg (.nm 2) (.lst [(.cst (.str "")), (.cst (.str "A")), (.cst (.str "abcdefghi")), (.cst (.str "a1")), (.cst (.str "a b")), (.cst (.str "jug ")), (.cst (.str "-")), (.cst (.str "\n")), (.bin .mul (.cst (.str "z")) (.cst (.int 8))), (.bin .mul (.cst (.str "z")) (.cst (.int 9))), (.cst (.int 5)), (.cst .non), (.tup [(.cst (.str "a"))]), (.cst (.bl true)), (.cst (.str "aZ")), (.cst (.str "a."))])), (.asg (.nm 3) (.lst [(.cst (.int 0)), (.bin .add (.bin .pow (.cst (.int 10)) (.cst (.int 6))) (.cst (.int 1))), (.cst (.bl true)), (.cst (.bl false)), (.cst (.str "3")), (.cst .non), (.neg (.cst (.int 1))), (.bin .pow (.cst (.int 10)) (.cst (.int 6))), (.cst (.int 1)), (.bin .pow (.cst (.int 10)) (.cst (.int 30))), (.tup []), (.lst [(.cst (.int 5))]), (.neg (.bin .pow (.cst (.int 10)) (.cst (.int 6))))])), (.ite (.cmp .eq (.var 5) (.cst (.int 0))) [(.ret (.fn 319 [(.var 0), (.var 1), (.fn 2 [(.var 0), (.var 2)] []), (.bin .add (.cst (.int 1)) (.fn 1 [(.var 0), (.cst (.int 9))] []))] []))] []), (.ite (.cmp .eq (.var 5) (.cst (.int 1))) [(.asg (.sub (.var 4) (.fn 2 [(.var 0), (.bi .sorted [(.var 1)])] [])) (.fn 2 [(.var 0), (.var 3)] []))] []), (.ite (.cmp .eq (.var 5) (.cst (.int 2))) [(.ret (.fn 319 [(.var 0), (.var 1), (.fn 2 [(.var 0), (.var 2)] []), (.fn 2 [(.var 0), (.var 3)] [])] []))] []), (.ite (.cmp .eq (.var 5) (.cst (.int 5))) [(.ret (.fn 319 [(.var 0), (.var 1), (.fn 36 [(.var 0)] []), (.bin .add (.cst (.int 1)) (.fn 1 [(.var 0), (.cst (.int 9))] []))] []))] []), (.ite (.cmp .eq (.var 5) (.cst (.int 6))) [(.asg (.nm 6) (.fn 37 [(.var 0), (.fn 2 [(.var 0), (.bi .sorted [(.var 1)])] [])] [])), (.ret (.fn 319 [(.var 0), (.fn 2 [(.var 0), (.lst [(.dsp []), (.var 1)])] []), (.var 6), (.bin .add (.cst (.int 1)) (.fn 1 [(.var 0), (.cst (.int 9))] []))] []))] []), (.ite (.cmp .gt (.var 5) (.cst (.int 6))) [(.asg (.nm 4) (.fn 35 [(.var 0), (.fn 2 [(.var 0), (.lst [(.cst (.int 14)), (.cst (.int 18)), (.cst (.int 19))])] [])] [])), (.asg (.nm 7) (.bi .sorted [(.var 4)])), (.for_ (.nm 8) .rng [(.bin .sub (.var 5) (.cst (.int 6)))] [(.asg (.nm 9) (.fn 2 [(.var 0), (.lst [(.fn 2 [(.var 0), (.var 2)] []), (.fn 2 [(.var 0), (.var 7)] [])])] [])), (.asg (.nm 4) (.fn 319 [(.var 0), (.frz 4), (.var 9), (.fn 2 [(.var 0), (.bin .add (.var 3) (.lst [(.cst (.int 3)), (.cst (.int 3))]))] [])] []))])] []), (.ite (.cmp .eq (.var 5) (.cst (.int 3))) [(.ret (.fn 35 [(.var 0), (.fn 2 [(.var 0), (.lst [(.cst (.int 0)), (.cst (.int 1)), (.cst (.int 19)), (.cst (.int 20)), (.cst (.int 21)), (.cst (.int 22)), (.cst (.int 26))])] [])] []))] []), (.ite (.cmp .eq (.var 5) (.cst (.int 4))) [(.asg (.nm 6) (.lst [(.cst .non), (.lst []), (.tup []), (.dsp []), (.bi .list [(.var 4)]), (.bi .litems [(.var 4)]), (.bi .tuple [(.var 4)]), (.cst (.str "a")), (.cst (.int 5)), (.cst (.bl true)), (.lst [(.frz 4)])])), (.ret (.fn 2 [(.var 0), (.var 6)] []))] []), (.ret (.frz 4))]
abbrev fd__law_near_k01 : Fd := ⟨2, 10, is__law_near_k01⟩ -- 39
def nn__law_near_k01 : List Str := ["_law_feed_here", "_law_things_here", "_law_names_here", "_law_prices", "_law_found", "_law_way", "_law_some", "_law_good", "_law_turn", "_law_name"]
def is_law_k01 : List IS := [(.for_ (.nm 1) .rng [(.bi .max [(.cst (.int 1)), (.bi .min [(.cst (.int 3)), (.bi .len [(.var 0)])])])] [(.asg (.nm 2) (.fn 0 [(.var 0), (.var 1)] [])), (.asg (.nm 3) (.fn 4 [(.var 2), (.bin .add (.cst (.int 1)) (.fn 1 [(.var 2), (.cst (.int 12))] []))] [])), (.ite (.cmp .isnot (.fn 317 [(.var 3)] []) (.cst (.bl true))) [(.ret (.cst (.bl false)))] []), (.for_ (.nm 4) .rng [(.cst (.int 9))] [(.asg (.nm 5) (.fn 39 [(.var 2), (.var 3)] [])), (.asg (.nm 6) (.bi .repr [(.var 5)])), (.ite (.or (.cmp .ne (.bi .repr [(.fn 317 [(.var 5)] [])]) (.bi .repr [(.fn 318 [(.var 5)] [])])) (.cmp .ne (.bi .repr [(.var 5)]) (.var 6))) [(.ret (.cst (.bl false)))] [])])]), (.ret (.cst (.bl true)))]
abbrev fd_law_k01 : Fd := ⟨1, 7, is_law_k01⟩ -- 40
def nn_law_k01 : List Str := ["_law_script", "_law_k", "_law_feed_here", "_law_things_here", "_law_turn", "_law_value", "_law_before"]
def fds : List Fd := [fd__law_feed, fd__law_take, fd__law_pick, fd__law_names, fd__law_things, ⟨0, 0, []⟩, ⟨0, 0, []⟩, ⟨0, 0, []⟩, ⟨0, 0, []⟩, ⟨0, 0, []⟩, ⟨0, 0, []⟩, ⟨0, 0, []⟩, ⟨0, 0, []⟩, ⟨0, 0, []⟩, ⟨0, 0, []⟩, ⟨0, 0, []⟩, ⟨0, 0, []⟩, ⟨0, 0, []⟩, ⟨0, 0, []⟩, ⟨0, 0, []⟩, ⟨0, 0, []⟩, ⟨0, 0, []⟩, ⟨0, 0, []⟩, ⟨0, 0, []⟩, ⟨0, 0, []⟩, fd_is_integer, fd_is_name, ⟨0, 0, []⟩, ⟨0, 0, []⟩, ⟨0, 0, []⟩, ⟨0, 0, []⟩, ⟨0, 0, []⟩, ⟨0, 0, []⟩, ⟨0, 0, []⟩, ⟨0, 0, []⟩, fd__law_many, fd__law_word, fd__law_signed, ⟨0, 0, []⟩, fd__law_near_k01] ++ [fd_law_k01, ⟨0, 0, []⟩, ⟨0, 0, []⟩, ⟨0, 0, []⟩, ⟨0, 0, []⟩, ⟨0, 0, []⟩, ⟨0, 0, []⟩, ⟨0, 0, []⟩, ⟨0, 0, []⟩, ⟨0, 0, []⟩, ⟨0, 0, []⟩, ⟨0, 0, []⟩, ⟨0, 0, []⟩, ⟨0, 0, []⟩, ⟨0, 0, []⟩, ⟨0, 0, []⟩, ⟨0, 0, []⟩, ⟨0, 0, []⟩, ⟨0, 0, []⟩, ⟨0, 0, []⟩, ⟨0, 0, []⟩, ⟨0, 0, []⟩, ⟨0, 0, []⟩, ⟨0, 0, []⟩, ⟨0, 0, []⟩, ⟨0, 0, []⟩, ⟨0, 0, []⟩, ⟨0, 0, []⟩, ⟨0, 0, []⟩, ⟨0, 0, []⟩, ⟨0, 0, []⟩, ⟨0, 0, []⟩, ⟨0, 0, []⟩, ⟨0, 0, []⟩, ⟨0, 0, []⟩, ⟨0, 0, []⟩, ⟨0, 0, []⟩, ⟨0, 0, []⟩, ⟨0, 0, []⟩, ⟨0, 0, []⟩] ++ [⟨0, 0, []⟩, ⟨0, 0, []⟩, ⟨0, 0, []⟩, ⟨0, 0, []⟩, ⟨0, 0, []⟩, ⟨0, 0, []⟩, ⟨0, 0, []⟩, ⟨0, 0, []⟩, ⟨0, 0, []⟩, ⟨0, 0, []⟩, ⟨0, 0, []⟩, ⟨0, 0, []⟩, ⟨0, 0, []⟩, ⟨0, 0, []⟩, ⟨0, 0, []⟩, ⟨0, 0, []⟩, ⟨0, 0, []⟩, ⟨0, 0, []⟩, ⟨0, 0, []⟩, ⟨0, 0, []⟩, ⟨0, 0, []⟩, ⟨0, 0, []⟩, ⟨0, 0, []⟩, ⟨0, 0, []⟩, ⟨0, 0, []⟩, ⟨0, 0, []⟩, ⟨0, 0, []⟩, ⟨0, 0, []⟩, ⟨0, 0, []⟩, ⟨0, 0, []⟩, ⟨0, 0, []⟩, ⟨0, 0, []⟩, ⟨0, 0, []⟩, ⟨0, 0, []⟩, ⟨0, 0, []⟩, ⟨0, 0, []⟩, ⟨0, 0, []⟩, ⟨0, 0, []⟩, ⟨0, 0, []⟩, ⟨0, 0, []⟩] ++ [⟨0, 0, []⟩, ⟨0, 0, []⟩, ⟨0, 0, []⟩, ⟨0, 0, []⟩, ⟨0, 0, []⟩, ⟨0, 0, []⟩, ⟨0, 0, []⟩, ⟨0, 0, []⟩, ⟨0, 0, []⟩, ⟨0, 0, []⟩, ⟨0, 0, []⟩, ⟨0, 0, []⟩, ⟨0, 0, []⟩, ⟨0, 0, []⟩, ⟨0, 0, []⟩, ⟨0, 0, []⟩, ⟨0, 0, []⟩, ⟨0, 0, []⟩, ⟨0, 0, []⟩, ⟨0, 0, []⟩, ⟨0, 0, []⟩, ⟨0, 0, []⟩, ⟨0, 0, []⟩, ⟨0, 0, []⟩, ⟨0, 0, []⟩, ⟨0, 0, []⟩, ⟨0, 0, []⟩, ⟨0, 0, []⟩, ⟨0, 0, []⟩, ⟨0, 0, []⟩, ⟨0, 0, []⟩, ⟨0, 0, []⟩, ⟨0, 0, []⟩, ⟨0, 0, []⟩, ⟨0, 0, []⟩, ⟨0, 0, []⟩, ⟨0, 0, []⟩, ⟨0, 0, []⟩, ⟨0, 0, []⟩, ⟨0, 0, []⟩] ++ [⟨0, 0, []⟩, ⟨0, 0, []⟩, ⟨0, 0, []⟩, ⟨0, 0, []⟩, ⟨0, 0, []⟩, ⟨0, 0, []⟩, ⟨0, 0, []⟩, ⟨0, 0, []⟩, ⟨0, 0, []⟩, ⟨0, 0, []⟩, ⟨0, 0, []⟩, ⟨0, 0, []⟩, ⟨0, 0, []⟩, ⟨0, 0, []⟩, ⟨0, 0, []⟩, ⟨0, 0, []⟩, ⟨0, 0, []⟩, ⟨0, 0, []⟩, ⟨0, 0, []⟩, ⟨0, 0, []⟩, ⟨0, 0, []⟩, ⟨0, 0, []⟩, ⟨0, 0, []⟩, ⟨0, 0, []⟩, ⟨0, 0, []⟩, ⟨0, 0, []⟩, ⟨0, 0, []⟩, ⟨0, 0, []⟩, ⟨0, 0, []⟩, ⟨0, 0, []⟩, ⟨0, 0, []⟩, ⟨0, 0, []⟩, ⟨0, 0, []⟩, ⟨0, 0, []⟩, ⟨0, 0, []⟩, ⟨0, 0, []⟩, ⟨0, 0, []⟩, ⟨0, 0, []⟩, ⟨0, 0, []⟩, ⟨0, 0, []⟩] ++ [⟨0, 0, []⟩, ⟨0, 0, []⟩, ⟨0, 0, []⟩, ⟨0, 0, []⟩, ⟨0, 0, []⟩, ⟨0, 0, []⟩, ⟨0, 0, []⟩, ⟨0, 0, []⟩, ⟨0, 0, []⟩, ⟨0, 0, []⟩, ⟨0, 0, []⟩, ⟨0, 0, []⟩, ⟨0, 0, []⟩, ⟨0, 0, []⟩, ⟨0, 0, []⟩, ⟨0, 0, []⟩, ⟨0, 0, []⟩, ⟨0, 0, []⟩, ⟨0, 0, []⟩, ⟨0, 0, []⟩, ⟨0, 0, []⟩, ⟨0, 0, []⟩, ⟨0, 0, []⟩, ⟨0, 0, []⟩, ⟨0, 0, []⟩, ⟨0, 0, []⟩, ⟨0, 0, []⟩, ⟨0, 0, []⟩, ⟨0, 0, []⟩, ⟨0, 0, []⟩, ⟨0, 0, []⟩, ⟨0, 0, []⟩, ⟨0, 0, []⟩, ⟨0, 0, []⟩, ⟨0, 0, []⟩, ⟨0, 0, []⟩, ⟨0, 0, []⟩, ⟨0, 0, []⟩, ⟨0, 0, []⟩, ⟨0, 0, []⟩] ++ [⟨0, 0, []⟩, ⟨0, 0, []⟩, ⟨0, 0, []⟩, ⟨0, 0, []⟩, ⟨0, 0, []⟩, ⟨0, 0, []⟩, ⟨0, 0, []⟩, ⟨0, 0, []⟩, ⟨0, 0, []⟩, ⟨0, 0, []⟩, ⟨0, 0, []⟩, ⟨0, 0, []⟩, ⟨0, 0, []⟩, ⟨0, 0, []⟩, ⟨0, 0, []⟩, ⟨0, 0, []⟩, ⟨0, 0, []⟩, ⟨0, 0, []⟩, ⟨0, 0, []⟩, ⟨0, 0, []⟩, ⟨0, 0, []⟩, ⟨0, 0, []⟩, ⟨0, 0, []⟩, ⟨0, 0, []⟩, ⟨0, 0, []⟩, ⟨0, 0, []⟩, ⟨0, 0, []⟩, ⟨0, 0, []⟩, ⟨0, 0, []⟩, ⟨0, 0, []⟩, ⟨0, 0, []⟩, ⟨0, 0, []⟩, ⟨0, 0, []⟩, ⟨0, 0, []⟩, ⟨0, 0, []⟩, ⟨0, 0, []⟩, ⟨0, 0, []⟩, ⟨0, 0, []⟩, ⟨0, 0, []⟩, ⟨0, 0, []⟩] ++ [⟨0, 0, []⟩, ⟨0, 0, []⟩, ⟨0, 0, []⟩, ⟨0, 0, []⟩, ⟨0, 0, []⟩, ⟨0, 0, []⟩, ⟨0, 0, []⟩, ⟨0, 0, []⟩, ⟨0, 0, []⟩, ⟨0, 0, []⟩, ⟨0, 0, []⟩, ⟨0, 0, []⟩, ⟨0, 0, []⟩, ⟨0, 0, []⟩, ⟨0, 0, []⟩, ⟨0, 0, []⟩, ⟨0, 0, []⟩, ⟨0, 0, []⟩, ⟨0, 0, []⟩, ⟨0, 0, []⟩, ⟨0, 0, []⟩, ⟨0, 0, []⟩, ⟨0, 0, []⟩, ⟨0, 0, []⟩, ⟨0, 0, []⟩, ⟨0, 0, []⟩, ⟨0, 0, []⟩, ⟨0, 0, []⟩, ⟨0, 0, []⟩, ⟨0, 0, []⟩, ⟨0, 0, []⟩, ⟨0, 0, []⟩, ⟨0, 0, []⟩, ⟨0, 0, []⟩, ⟨0, 0, []⟩, ⟨0, 0, []⟩, ⟨0, 0, []⟩, fd_is_things_k01, fd__law_are_things, fd__law_laid]
instance : HasD fds 25 fd_is_integer := ⟨rfl⟩
instance : HasD fds 26 fd_is_name := ⟨rfl⟩
instance : HasD fds 317 fd_is_things_k01 := ⟨rfl⟩
instance : HasD fds 0 fd__law_feed := ⟨rfl⟩
instance : HasD fds 1 fd__law_take := ⟨rfl⟩
instance : HasD fds 2 fd__law_pick := ⟨rfl⟩
instance : HasD fds 3 fd__law_names := ⟨rfl⟩
instance : HasD fds 4 fd__law_things := ⟨rfl⟩
instance : HasD fds 318 fd__law_are_things := ⟨rfl⟩
instance : HasD fds 35 fd__law_many := ⟨rfl⟩
instance : HasD fds 36 fd__law_word := ⟨rfl⟩
instance : HasD fds 37 fd__law_signed := ⟨rfl⟩
instance : HasD fds 319 fd__law_laid := ⟨rfl⟩
instance : HasD fds 39 fd__law_near_k01 := ⟨rfl⟩
instance : HasD fds 40 fd_law_k01 := ⟨rfl⟩
def tabL : Tab := ⟨fun _ _ => none, fun _ => none, fun _ _ => none, fun _ _ => false, 1000000000000⟩
def glL (K : PySem.W.Frag) (w : World) : Gl := ⟨K, fun _ => "", fun _ => False, fun _ _ h => h.elim, fun _ => 0, [], w⟩
theorem b_abs : bootBuiltins "abs" = some (.builtin "abs") := by decide +kernel
theorem b_all : bootBuiltins "all" = some (.builtin "all") := by decide +kernel
theorem b_bool : bootBuiltins "bool" = some (.type "bool") := by decide +kernel
theorem b_dict : bootBuiltins "dict" = some (.type "dict") := by decide +kernel
theorem b_int : bootBuiltins "int" = some (.type "int") := by decide +kernel
theorem b_len : bootBuiltins "len" = some (.builtin "len") := by decide +kernel
theorem b_list : bootBuiltins "list" = some (.type "list") := by decide +kernel
theorem b_max : bootBuiltins "max" = some (.builtin "max") := by decide +kernel
theorem b_min : bootBuiltins "min" = some (.builtin "min") := by decide +kernel
theorem b_repr : bootBuiltins "repr" = some (.builtin "repr") := by decide +kernel
theorem b_sorted : bootBuiltins "sorted" = some (.builtin "sorted") := by decide +kernel
theorem b_str : bootBuiltins "str" = some (.type "str") := by decide +kernel
theorem b_tuple : bootBuiltins "tuple" = some (.type "tuple") := by decide +kernel
section
variable {P : Program} {w : World} {mg : Str → Option Value} {base : Heap} {f : Addr} {cdv : Value} {A : Around} {outer : List Env} {s : Shared} {H : Hp} {F : Call} {k : Nat}
variable {K : PySem.W.Frag}
theorem b_def_is_integer (o : XO (glL K w) k (cxOf CX0 P w (glL K w).K mg base nn_is_integer "is_integer" (defScope (top 5)) f cdv A outer s H E0).nox) (m_bool : mg "bool" = none) (m_int : mg "int" = none) (m_isinstance : mg "isinstance" = none) : PSs (cxOf CX0 P w (glL K w).K mg base nn_is_integer "is_integer" (defScope (top 5)) f cdv A outer s H E0).nox (defBody (top 5)) (SSs (glL K w) tabL F is_is_integer) :=
  (ss_cons (ss_ret (se_and (se_isi o.toXO0 (f := .isInt) (tn := "int") rfl (by rfl) m_isinstance (by rfl) m_int b_int (se_var 0)) (se_and (se_not (se_isi o.toXO0 (f := .isBool) (tn := "bool") rfl (by rfl) m_isinstance (by rfl) m_bool b_bool (se_var 0))) (se_and1 (se_chn o.toXO0 .le .le (se_var 1) (se_var 0) (se_var 2)))))) ss_nil)
theorem b_def_is_name (o : XO (glL K w) k (cxOf CX0 P w (glL K w).K mg base nn_is_name "is_name" (defScope (top 6)) f cdv A outer s H E0).nox) (m_all : mg "all" = none) (m_isinstance : mg "isinstance" = none) (m_len : mg "len" = none) (m_str : mg "str" = none) (g_MAX_NAME :  ∃ t, mg "MAX_NAME" = some (.int 8 t)) (g_LETTERS :  ∃ t, mg "LETTERS" = some (.str "abcdefghijklmnopqrstuvwxyz" t)) : PSs (cxOf CX0 P w (glL K w).K mg base nn_is_name "is_name" (defScope (top 6)) f cdv A outer s H E0).nox (defBody (top 6)) (SSs (glL K w) tabL F is_is_name) :=
  (ss_cons (ss_if (PW.pt (st_or (st_not (st_val (se_isi o.toXO0 (f := .isStr) (tn := "str") rfl (by rfl) m_isinstance (by rfl) m_str b_str (se_var 0)))) (st_or1 (st_not (st_chn o.toXO0 .le .le se_int (se_bi (x := "len") (bi_len o.toXO0) (by rfl) m_len b_len (so_cons (se_var 0) so_nil)) (se_glbI 0 8 (by rfl) g_MAX_NAME)))))) (ss_cons (ss_ret se_bl) ss_nil) ss_nil) (ss_cons (ss_ret (se_bi (x := "all") (bi_all o.toXO0) (by rfl) m_all b_all (so_cons (se_lc o.toXO0 (pw_it o.toXO0 (se_var 0)) (own := [("letter", 1)]) (blkOk_by (N := nn_is_name) (sc := defScope (top 6)) (by decide +kernel)) (fun _ _ _ _ _ => (sp_nm (XO.blk o _ _ _ _ _).toXO0 1)) (fun _ _ _ _ _ => sts_nil) (fun _ _ _ _ _ => (se_cmp (XO.blk o _ _ _ _ _).toXO0 .isin (se_var 1) (se_glbS 0 "abcdefghijklmnopqrstuvwxyz" (by rfl) g_LETTERS))) (by decide)) so_nil))) ss_nil))
theorem b_def_is_things_k01 (o : XO (glL K w) k (cxOf CX0 P w (glL K w).K mg base nn_is_things_k01 "is_things" (defScope (top 7)) f cdv A outer s H E0).nox) (m_all : mg "all" = none) (m_dict : mg "dict" = none) (m_isinstance : mg "isinstance" = none) (m_len : mg "len" = none) (g_MAX_THINGS :  ∃ t, mg "MAX_THINGS" = some (.int 20 t)) {k_hv_is_name : Nat} (hv_is_name : Have (glL K w) F P w (glL K w).K mg base k_hv_is_name "is_name" 26 1) (hk_is_name : k_hv_is_name ≤ k) {k_hv_is_integer : Nat} (hv_is_integer : Have (glL K w) F P w (glL K w).K mg base k_hv_is_integer "is_integer" 25 3) (hk_is_integer : k_hv_is_integer ≤ k) (g_MAX_PRICE :  ∃ t, mg "MAX_PRICE" = some (.int 1000000 t)) : PSs (cxOf CX0 P w (glL K w).K mg base nn_is_things_k01 "is_things" (defScope (top 7)) f cdv A outer s H E0).nox (defBody (top 7)) (SSs (glL K w) tabL F is_is_things_k01) :=
  (ss_cons (ss_if (PW.pt (st_or (st_not (st_val (se_isi o.toXO0 (f := .isDct) (tn := "dict") rfl (by rfl) m_isinstance (by rfl) m_dict b_dict (se_var 0)))) (st_or1 (st_not (st_chn o.toXO0 .le .le se_int (se_bi (x := "len") (bi_len o.toXO0) (by rfl) m_len b_len (so_cons (se_var 0) so_nil)) (se_glbI 0 20 (by rfl) g_MAX_THINGS)))))) (ss_cons (ss_ret se_bl) ss_nil) ss_nil) (ss_cons (ss_ret (se_bi (x := "all") (bi_all o.toXO0) (by rfl) m_all b_all (so_cons (se_lcik o.toXO0 (se_var 0) (own := [("name", 1)]) (blkOk_by (N := nn_is_things_k01) (sc := defScope (top 7)) (by decide +kernel)) (fun _ _ _ _ _ => (sp_nm (XO.blk o _ _ _ _ _).toXO0 1)) (fun _ _ _ _ _ => sts_nil) (fun _ _ _ _ _ => (se_and (se_fn (XO.blk o _ _ _ _ _) hv_is_name hk_is_name (by rfl) (sa_cons (se_var 1) sa_nil)) (se_and1 (se_fn (XO.blk o _ _ _ _ _) hv_is_integer hk_is_integer (by rfl) (sa_cons (se_sub (XO.blk o _ _ _ _ _).toXO0 (se_var 0) (se_var 1)) (sa_cons se_int (sa_cons (se_glbI 0 1000000 (by rfl) g_MAX_PRICE) sa_nil))))))) (by decide)) so_nil))) ss_nil))
theorem b_def__law_feed (o : XO (glL K w) k (cxOf CX0 P w (glL K w).K mg base nn__law_feed "_law_feed" (defScope (top 9)) f cdv A outer s H E0).nox) (m_abs : mg "abs" = none) (m_int : mg "int" = none) (m_list : mg "list" = none) (m_max : mg "max" = none) : PSs (cxOf CX0 P w (glL K w).K mg base nn__law_feed "_law_feed" (defScope (top 9)) f cdv A outer s H E0).nox (defBody (top 9)) (SSs (glL K w) tabL F is__law_feed) :=
  (ss_cons (ss_set o.toXO0 2 (se_sub o.toXO0 (se_bin o.toXO0 .add (se_bt (x := "list") (bi_list o.toXO0) (by rfl) m_list b_list (so_cons (se_slc o.toXO0 (se_var 0) (po_so (se_var 1)) (po_so (se_bin o.toXO0 .add (se_var 1) se_int))) so_nil)) (se_lst (sa_cons (se_bin o.toXO0 .add (se_bin o.toXO0 .mul se_int (se_var 1)) se_int) sa_nil))) se_int)) (ss_cons (ss_set o.toXO0 3 (se_bi (x := "max") (bi_max o.toXO0) (by rfl) m_max b_max (so_cons se_int (so_cons (se_bin o.toXO0 .sub (se_bi (x := "abs") bi_abs (by rfl) m_abs b_abs (so_cons (se_var 2) so_nil)) (se_bin o.toXO0 .pow se_int se_int)) so_nil)))) (ss_cons (ss_ret (se_heap (se_lst (sa_cons (se_var 3) (sa_cons (se_bin o.toXO0 .mod (se_bt (x := "int") bi_int (by rfl) m_int b_int (so_cons (se_bin o.toXO0 .add (se_bin o.toXO0 .add (se_bin o.toXO0 .mul (se_bin o.toXO0 .mod (se_bt (x := "int") bi_int (by rfl) m_int b_int (so_cons (se_bi (x := "abs") bi_abs (by rfl) m_abs b_abs (so_cons (se_var 2) so_nil)) so_nil)) se_int) se_int) (se_bin o.toXO0 .mul se_int (se_var 1))) se_int) so_nil)) se_int) sa_nil))))) ss_nil)))
theorem b_def__law_take (o : XO (glL K w) k (cxOf CX0 P w (glL K w).K mg base nn__law_take "_law_take" (defScope (top 10)) f cdv A outer s H E0).nox) (m_int : mg "int" = none) : PSs (cxOf CX0 P w (glL K w).K mg base nn__law_take "_law_take" (defScope (top 10)) f cdv A outer s H E0).nox (defBody (top 10)) (SSs (glL K w) tabL F is__law_take) :=
  (ss_cons (ss_if (st_cmp o.toXO0 .gt (se_sub o.toXO0 (se_var 0) se_int) se_int) (ss_cons (ss_set o.toXO0 2 (se_bin o.toXO0 .mod (se_bt (x := "int") bi_int (by rfl) m_int b_int (so_cons (se_sub o.toXO0 (se_var 0) se_int) so_nil)) (se_var 1))) (ss_cons (ss_asg (se_bin o.toXO0 .fdiv (se_sub o.toXO0 (se_var 0) se_int) (se_var 1)) (gt_sub o.toXO0 (se_var 0) se_int)) (ss_cons (ss_ret (se_var 2)) ss_nil))) ss_nil) (ss_cons (ss_asg (se_bin o.toXO0 .mod (se_bt (x := "int") bi_int (by rfl) m_int b_int (so_cons (se_bin o.toXO0 .add (se_bin o.toXO0 .mul (se_sub o.toXO0 (se_var 0) se_int) se_int) se_int) so_nil)) se_int) (gt_sub o.toXO0 (se_var 0) se_int)) (ss_cons (ss_ret (se_bin o.toXO0 .mod (se_bt (x := "int") bi_int (by rfl) m_int b_int (so_cons (se_bin o.toXO0 .fdiv (se_sub o.toXO0 (se_var 0) se_int) se_int) so_nil)) (se_var 1))) ss_nil)))
theorem b_def__law_pick (o : XO (glL K w) k (cxOf CX0 P w (glL K w).K mg base nn__law_pick "_law_pick" (defScope (top 11)) f cdv A outer s H E0).nox) (m_len : mg "len" = none) {k_hv__law_take : Nat} (hv__law_take : Have (glL K w) F P w (glL K w).K mg base k_hv__law_take "_law_take" 1 2) (hk__law_take : k_hv__law_take ≤ k) : PSs (cxOf CX0 P w (glL K w).K mg base nn__law_pick "_law_pick" (defScope (top 11)) f cdv A outer s H E0).nox (defBody (top 11)) (SSs (glL K w) tabL F is__law_pick) :=
  (ss_cons (ss_ret (se_sub o.toXO0 (se_var 1) (se_fn o hv__law_take hk__law_take (by rfl) (sa_cons (se_var 0) (sa_cons (se_bi (x := "len") (bi_len o.toXO0) (by rfl) m_len b_len (so_cons (se_var 1) so_nil)) sa_nil))))) ss_nil)
theorem b_def__law_names (o : XO (glL K w) k (cxOf CX0 P w (glL K w).K mg base nn__law_names "_law_names" (defScope (top 12)) f cdv A outer s H E0).nox) {k_hv__law_take : Nat} (hv__law_take : Have (glL K w) F P w (glL K w).K mg base k_hv__law_take "_law_take" 1 2) (hk__law_take : k_hv__law_take ≤ k) {k_hv__law_pick : Nat} (hv__law_pick : Have (glL K w) F P w (glL K w).K mg base k_hv__law_pick "_law_pick" 2 2) (hk__law_pick : k_hv__law_pick ≤ k) : PSs (cxOf CX0 P w (glL K w).K mg base nn__law_names "_law_names" (defScope (top 12)) f cdv A outer s H E0).nox (defBody (top 12)) (SSs (glL K w) tabL F is__law_names) :=
  (ss_cons (ss_set o.toXO0 2 (se_lst (sa_cons se_str (sa_cons se_str (sa_cons se_str (sa_cons se_str (sa_cons se_str (sa_cons se_str (sa_cons se_str (sa_cons se_str (sa_cons se_str (sa_cons se_str (sa_cons se_str sa_nil))))))))))))) (ss_cons (ss_set o.toXO0 2 (se_bin o.toXO0 .add (se_var 2) (se_lst (sa_cons se_str (sa_cons se_str (sa_cons se_str (sa_cons se_str (sa_cons se_str (sa_cons se_str (sa_cons se_str (sa_cons se_str (sa_cons se_str sa_nil)))))))))))) (ss_cons (ss_set o.toXO0 3 (se_fn o hv__law_take hk__law_take (by rfl) (sa_cons (se_var 0) (sa_cons se_int sa_nil)))) (ss_cons (ss_ret (se_slc o.toXO0 (se_sls o.toXO0 (se_bin o.toXO0 .add (se_slc o.toXO0 (se_var 2) (po_so (se_var 3)) po_no) (se_slc o.toXO0 (se_var 2) po_no (po_so (se_var 3)))) (se_fn o hv__law_pick hk__law_pick (by rfl) (sa_cons (se_var 0) (sa_cons (se_lst (sa_cons se_int (sa_cons (se_neg o.toXO0 se_int) sa_nil))) sa_nil)))) po_no (po_so (se_var 1)))) ss_nil))))
theorem b_def__law_things (o : XO (glL K w) k (cxOf CX0 P w (glL K w).K mg base nn__law_things "_law_things" (defScope (top 13)) f cdv A outer s H E0).nox) (m_dict : mg "dict" = none) {k_hv__law_pick : Nat} (hv__law_pick : Have (glL K w) F P w (glL K w).K mg base k_hv__law_pick "_law_pick" 2 2) (hk__law_pick : k_hv__law_pick ≤ k) {k_hv__law_names : Nat} (hv__law_names : Have (glL K w) F P w (glL K w).K mg base k_hv__law_names "_law_names" 3 2) (hk__law_names : k_hv__law_names ≤ k) : PSs (cxOf CX0 P w (glL K w).K mg base nn__law_things "_law_things" (defScope (top 13)) f cdv A outer s H E0).nox (defBody (top 13)) (SSs (glL K w) tabL F is__law_things) :=
  (ss_cons (ss_set o.toXO0 2 (se_fn o hv__law_pick hk__law_pick (by rfl) (sa_cons (se_var 0) (sa_cons (se_lst (sa_cons (se_lst (sa_cons se_int sa_nil)) (sa_cons (se_lst (sa_cons se_int sa_nil)) (sa_cons (se_lst (sa_cons se_int (sa_cons se_int (sa_cons se_int sa_nil)))) (sa_cons (se_lst (sa_cons se_int (sa_cons se_int (sa_cons se_int (sa_cons se_int (sa_cons se_int sa_nil)))))) (sa_cons (se_lst (sa_cons se_int (sa_cons se_int (sa_cons se_int sa_nil)))) (sa_cons (se_lst (sa_cons se_int (sa_cons (se_bin o.toXO0 .pow se_int se_int) sa_nil))) (sa_cons (se_lst (sa_cons se_int (sa_cons (se_bin o.toXO0 .pow se_int se_int) (sa_cons se_int (sa_cons se_int sa_nil))))) sa_nil)))))))) sa_nil)))) (ss_cons (ss_ret (se_bt (x := "dict") (bi_dict o.toXO0) (by rfl) m_dict b_dict (so_cons (se_lc o.toXO0 (pw_it o.toXO0 (se_fn o hv__law_names hk__law_names (by rfl) (sa_cons (se_var 0) (sa_cons (se_var 1) sa_nil)))) (own := [("_law_name", 3)]) (blkOk_by (N := nn__law_things) (sc := defScope (top 13)) (by decide +kernel)) (fun _ _ _ _ _ => (sp_nm (XO.blk o _ _ _ _ _).toXO0 3)) (fun _ _ _ _ _ => sts_nil) (fun _ _ _ _ _ => (se_tup (sa_cons (se_var 3) (sa_cons (se_fn (XO.blk o _ _ _ _ _) hv__law_pick hk__law_pick (by rfl) (sa_cons (se_var 0) (sa_cons (se_var 2) sa_nil))) sa_nil)))) (by decide)) so_nil))) ss_nil))
theorem b_def__law_are_things (o : XO (glL K w) k (cxOf CX0 P w (glL K w).K mg base nn__law_are_things "_law_are_things" (defScope (top 14)) f cdv A outer s H E0).nox) (m_bool : mg "bool" = none) (m_dict : mg "dict" = none) (m_int : mg "int" = none) (m_isinstance : mg "isinstance" = none) (m_len : mg "len" = none) (m_str : mg "str" = none) : PSs (cxOf CX0 P w (glL K w).K mg base nn__law_are_things "_law_are_things" (defScope (top 14)) f cdv A outer s H E0).nox (defBody (top 14)) (SSs (glL K w) tabL F is__law_are_things) :=
  (ss_cons (ss_if (PW.pt (st_or (st_not (st_val (se_isi o.toXO0 (f := .isDct) (tn := "dict") rfl (by rfl) m_isinstance (by rfl) m_dict b_dict (se_var 0)))) (st_or1 (st_not (st_chn o.toXO0 .le .le se_int (se_bi (x := "len") (bi_len o.toXO0) (by rfl) m_len b_len (so_cons (se_var 0) so_nil)) se_int))))) (ss_cons (ss_ret se_bl) ss_nil) ss_nil) (ss_cons (ss_forii o.toXO0 (se_var 0) (sp_tp o.toXO0 (sps_cons (sp_nm o.toXO0 1) (sps_cons (sp_nm o.toXO0 2) sps_nil))) (ss_cons (ss_if (PW.pt (st_or (st_not (st_val (se_isi o.toXO0 (f := .isStr) (tn := "str") rfl (by rfl) m_isinstance (by rfl) m_str b_str (se_var 1)))) (st_or1 (st_not (st_chn o.toXO0 .le .le se_int (se_bi (x := "len") (bi_len o.toXO0) (by rfl) m_len b_len (so_cons (se_var 1) so_nil)) se_int))))) (ss_cons (ss_ret se_bl) ss_nil) ss_nil) (ss_cons (ss_if (st_cmp o.toXO0 .ne (se_lc o.toXO0 (pw_it o.toXO0 (se_var 1)) (own := [("_law_sign", 3)]) (blkOk_by (N := nn__law_are_things) (sc := defScope (top 14)) (by decide +kernel)) (fun _ _ _ _ _ => (sp_nm (XO.blk o _ _ _ _ _).toXO0 3)) (fun _ _ _ _ _ => (sts_one (st_cmp (XO.blk o _ _ _ _ _).toXO0 .notin (se_var 3) se_str))) (fun _ _ _ _ _ => (se_var 3)) (by decide)) (se_lst sa_nil)) (ss_cons (ss_ret se_bl) ss_nil) ss_nil) (ss_cons (ss_if (PW.pt (st_or (st_not (st_val (se_isi o.toXO0 (f := .isInt) (tn := "int") rfl (by rfl) m_isinstance (by rfl) m_int b_int (se_var 2)))) (st_or (st_val (se_isi o.toXO0 (f := .isBool) (tn := "bool") rfl (by rfl) m_isinstance (by rfl) m_bool b_bool (se_var 2))) (st_or1 (st_not (st_chn o.toXO0 .le .le se_int (se_var 2) (se_bin o.toXO0 .pow se_int se_int))))))) (ss_cons (ss_ret se_bl) ss_nil) ss_nil) ss_nil))) PassesOwn.never) (ss_cons (ss_ret se_bl) ss_nil)))
theorem b_def__law_many (o : XO (glL K w) k (cxOf CX0 P w (glL K w).K mg base nn__law_many "_law_many" (defScope (top 15)) f cdv A outer s H E0).nox) (m_dict : mg "dict" = none) (m_range : mg "range" = none) {k_hv__law_take : Nat} (hv__law_take : Have (glL K w) F P w (glL K w).K mg base k_hv__law_take "_law_take" 1 2) (hk__law_take : k_hv__law_take ≤ k) : PSs (cxOf CX0 P w (glL K w).K mg base nn__law_many "_law_many" (defScope (top 15)) f cdv A outer s H E0).nox (defBody (top 15)) (SSs (glL K w) tabL F is__law_many) :=
  (ss_cons (ss_set o.toXO0 2 se_str) (ss_cons (ss_set o.toXO0 3 (se_fn o hv__law_take hk__law_take (by rfl) (sa_cons (se_var 0) (sa_cons (se_bin o.toXO0 .sub se_int (se_var 1)) sa_nil)))) (ss_cons (ss_ret (se_bt (x := "dict") (bi_dict o.toXO0) (by rfl) m_dict b_dict (so_cons (se_lc o.toXO0 (pw_rng1 o.toXO0 (by rfl) m_range (so_cons (se_var 1) so_nil)) (own := [("_law_at", 4)]) (blkOk_by (N := nn__law_many) (sc := defScope (top 15)) (by decide +kernel)) (fun _ _ _ _ _ => (sp_nm (XO.blk o _ _ _ _ _).toXO0 4)) (fun _ _ _ _ _ => sts_nil) (fun _ _ _ _ _ => (se_tup (sa_cons (se_bin (XO.blk o _ _ _ _ _).toXO0 .mul (se_sub (XO.blk o _ _ _ _ _).toXO0 (se_var 2) (se_bin (XO.blk o _ _ _ _ _).toXO0 .add (se_var 3) (se_var 4))) (se_bin (XO.blk o _ _ _ _ _).toXO0 .add se_int (se_fn (XO.blk o _ _ _ _ _) hv__law_take hk__law_take (by rfl) (sa_cons (se_var 0) (sa_cons se_int sa_nil))))) (sa_cons (se_bin (XO.blk o _ _ _ _ _).toXO0 .add se_int (se_fn (XO.blk o _ _ _ _ _) hv__law_take hk__law_take (by rfl) (sa_cons (se_var 0) (sa_cons (se_bin (XO.blk o _ _ _ _ _).toXO0 .pow se_int se_int) sa_nil)))) sa_nil)))) (by decide)) so_nil))) ss_nil)))
theorem b_def__law_word (o : XO (glL K w) k (cxOf CX0 P w (glL K w).K mg base nn__law_word "_law_word" (defScope (top 16)) f cdv A outer s H E0).nox) (m_range : mg "range" = none) {k_hv__law_pick : Nat} (hv__law_pick : Have (glL K w) F P w (glL K w).K mg base k_hv__law_pick "_law_pick" 2 2) (hk__law_pick : k_hv__law_pick ≤ k) {k_hv__law_take : Nat} (hv__law_take : Have (glL K w) F P w (glL K w).K mg base k_hv__law_take "_law_take" 1 2) (hk__law_take : k_hv__law_take ≤ k) : PSs (cxOf CX0 P w (glL K w).K mg base nn__law_word "_law_word" (defScope (top 16)) f cdv A outer s H E0).nox (defBody (top 16)) (SSs (glL K w) tabL F is__law_word) :=
  (ss_cons (ss_set o.toXO0 1 se_str) (ss_cons (ss_ret (se_join o.toXO0 se_str (sa_cons (se_lc o.toXO0 (pw_rng1 o.toXO0 (by rfl) m_range (so_cons (se_bin o.toXO0 .add se_int (se_fn o hv__law_take hk__law_take (by rfl) (sa_cons (se_var 0) (sa_cons se_int sa_nil)))) so_nil)) (own := [("_law_turn", 2)]) (blkOk_by (N := nn__law_word) (sc := defScope (top 16)) (by decide +kernel)) (fun _ _ _ _ _ => (sp_nm (XO.blk o _ _ _ _ _).toXO0 2)) (fun _ _ _ _ _ => sts_nil) (fun _ _ _ _ _ => (se_fn (XO.blk o _ _ _ _ _) hv__law_pick hk__law_pick (by rfl) (sa_cons (se_var 0) (sa_cons (se_var 1) sa_nil)))) (by decide)) sa_nil))) ss_nil))
theorem b_def__law_signed (o : XO (glL K w) k (cxOf CX0 P w (glL K w).K mg base nn__law_signed "_law_signed" (defScope (top 17)) f cdv A outer s H E0).nox) (m_len : mg "len" = none) {k_hv__law_take : Nat} (hv__law_take : Have (glL K w) F P w (glL K w).K mg base k_hv__law_take "_law_take" 1 2) (hk__law_take : k_hv__law_take ≤ k) {k_hv__law_pick : Nat} (hv__law_pick : Have (glL K w) F P w (glL K w).K mg base k_hv__law_pick "_law_pick" 2 2) (hk__law_pick : k_hv__law_pick ≤ k) : PSs (cxOf CX0 P w (glL K w).K mg base nn__law_signed "_law_signed" (defScope (top 17)) f cdv A outer s H E0).nox (defBody (top 17)) (SSs (glL K w) tabL F is__law_signed) :=
  (ss_cons (ss_set o.toXO0 2 se_str) (ss_cons (ss_par o.toXO0 3 4 false false (se_fn o hv__law_take hk__law_take (by rfl) (sa_cons (se_var 0) (sa_cons (se_bin o.toXO0 .add (se_bi (x := "len") (bi_len o.toXO0) (by rfl) m_len b_len (so_cons (se_var 1) so_nil)) se_int) sa_nil))) (se_fn o hv__law_pick hk__law_pick (by rfl) (sa_cons (se_var 0) (sa_cons (se_var 2) sa_nil))) (by with_unfolding_all rfl)) (ss_cons (ss_ret (se_bin o.toXO0 .add (se_bin o.toXO0 .add (se_slc o.toXO0 (se_var 1) po_no (po_so (se_var 3))) (se_var 4)) (se_slc o.toXO0 (se_var 1) (po_so (se_bin o.toXO0 .add (se_var 3) (se_fn o hv__law_take hk__law_take (by rfl) (sa_cons (se_var 0) (sa_cons se_int sa_nil))))) po_no))) ss_nil)))
theorem b_def__law_laid (o : XO (glL K w) k (cxOf CX0 P w (glL K w).K mg base nn__law_laid "_law_laid" (defScope (top 18)) f cdv A outer s H E0).nox) (m_dict : mg "dict" = none) (m_len : mg "len" = none) {k_hv__law_take : Nat} (hv__law_take : Have (glL K w) F P w (glL K w).K mg base k_hv__law_take "_law_take" 1 2) (hk__law_take : k_hv__law_take ≤ k) : PSs (cxOf CX0 P w (glL K w).K mg base nn__law_laid "_law_laid" (defScope (top 18)) f cdv A outer s H E0).nox (defBody (top 18)) (SSs (glL K w) tabL F is__law_laid) :=
  (ss_cons (ss_setLcii o.toXO0 4 (se_var 1) (own := [("_law_pair", 6)]) (blkOk_by (N := nn__law_laid) (sc := defScope (top 18)) (by decide +kernel)) (fun _ _ _ _ _ => (sp_nm (XO.blk o _ _ _ _ _).toXO0 6)) (fun _ _ _ _ _ => (sts_one (st_cmp (XO.blk o _ _ _ _ _).toXO0 .ne (se_sub (XO.blk o _ _ _ _ _).toXO0 (se_var 6) se_int) (se_var 2)))) (fun _ _ _ _ _ => (se_var 6)) (by decide) (sw_true rfl rfl rfl rfl)) (ss_cons (ss_set o.toXO0 5 (se_fn o hv__law_take hk__law_take (by rfl) (sa_cons (se_var 0) (sa_cons (se_bin o.toXO0 .add (se_bi (x := "len") (bi_len o.toXO0) (by rfl) m_len b_len (so_cons (se_var 4) so_nil)) se_int) sa_nil)))) (ss_cons (ss_ret (se_mkod o.toXO0 (by rfl) m_dict b_dict (so_cons (se_bin o.toXO0 .add (se_bin o.toXO0 .add (se_slc o.toXO0 (se_var 4) po_no (po_so (se_var 5))) (se_lst (sa_cons (se_tup (sa_cons (se_var 2) (sa_cons (se_var 3) sa_nil))) sa_nil))) (se_slc o.toXO0 (se_var 4) (po_so (se_var 5)) po_no)) so_nil))) ss_nil)))
theorem b_def__law_near_k01 (o : XO (glL K w) k (cxOf CX0 P w (glL K w).K mg base nn__law_near_k01 "_law_near" (defScope (top 19)) f cdv A outer s H E0).nox) (m_dict : mg "dict" = none) (m_list : mg "list" = none) (m_range : mg "range" = none) (m_sorted : mg "sorted" = none) (m_tuple : mg "tuple" = none) {k_hv__law_take : Nat} (hv__law_take : Have (glL K w) F P w (glL K w).K mg base k_hv__law_take "_law_take" 1 2) (hk__law_take : k_hv__law_take ≤ k) {k_hv__law_laid : Nat} (hv__law_laid : Have (glL K w) F P w (glL K w).K mg base k_hv__law_laid "_law_laid" 319 4) (hk__law_laid : k_hv__law_laid ≤ k) {k_hv__law_pick : Nat} (hv__law_pick : Have (glL K w) F P w (glL K w).K mg base k_hv__law_pick "_law_pick" 2 2) (hk__law_pick : k_hv__law_pick ≤ k) {k_hv__law_word : Nat} (hv__law_word : Have (glL K w) F P w (glL K w).K mg base k_hv__law_word "_law_word" 36 1) (hk__law_word : k_hv__law_word ≤ k) {k_hv__law_signed : Nat} (hv__law_signed : Have (glL K w) F P w (glL K w).K mg base k_hv__law_signed "_law_signed" 37 2) (hk__law_signed : k_hv__law_signed ≤ k) {k_hv__law_many : Nat} (hv__law_many : Have (glL K w) F P w (glL K w).K mg base k_hv__law_many "_law_many" 35 2) (hk__law_many : k_hv__law_many ≤ k) : PSs (cxOf CX0 P w (glL K w).K mg base nn__law_near_k01 "_law_near" (defScope (top 19)) f cdv A outer s H E0).nox (defBody (top 19)) (SSs (glL K w) tabL F is__law_near_k01) :=
  (ss_cons (ss_par o.toXO0 4 5 true false (se_bt (x := "dict") (bi_dict o.toXO0) (by rfl) m_dict b_dict (so_cons (se_var 1) so_nil)) (se_fn o hv__law_take hk__law_take (by rfl) (sa_cons (se_var 0) (sa_cons se_int sa_nil))) (by with_unfolding_all rfl)) (ss_cons (ss_set o.toXO0 2 (se_lst (sa_cons se_str (sa_cons se_str (sa_cons se_str (sa_cons se_str (sa_cons se_str (sa_cons se_str (sa_cons se_str (sa_cons se_str (sa_cons (se_bin o.toXO0 .mul se_str se_int) (sa_cons (se_bin o.toXO0 .mul se_str se_int) (sa_cons se_int (sa_cons se_non (sa_cons (se_tup (sa_cons se_str sa_nil)) (sa_cons se_bl (sa_cons se_str (sa_cons se_str sa_nil)))))))))))))))))) (ss_cons (ss_set o.toXO0 3 (se_lst (sa_cons se_int (sa_cons (se_bin o.toXO0 .add (se_bin o.toXO0 .pow se_int se_int) se_int) (sa_cons se_bl (sa_cons se_bl (sa_cons se_str (sa_cons se_non (sa_cons (se_neg o.toXO0 se_int) (sa_cons (se_bin o.toXO0 .pow se_int se_int) (sa_cons se_int (sa_cons (se_bin o.toXO0 .pow se_int se_int) (sa_cons (se_tup sa_nil) (sa_cons (se_lst (sa_cons se_int sa_nil)) (sa_cons (se_neg o.toXO0 (se_bin o.toXO0 .pow se_int se_int)) sa_nil))))))))))))))) (ss_cons (ss_if (st_cmp o.toXO0 .eq (se_var 5) se_int) (ss_cons (ss_ret (se_fn o hv__law_laid hk__law_laid (by rfl) (sa_cons (se_var 0) (sa_cons (se_var 1) (sa_cons (se_fn o hv__law_pick hk__law_pick (by rfl) (sa_cons (se_var 0) (sa_cons (se_var 2) sa_nil))) (sa_cons (se_bin o.toXO0 .add se_int (se_fn o hv__law_take hk__law_take (by rfl) (sa_cons (se_var 0) (sa_cons se_int sa_nil)))) sa_nil)))))) ss_nil) ss_nil) (ss_cons (ss_if (st_cmp o.toXO0 .eq (se_var 5) se_int) (ss_cons (ss_asg (se_fn o hv__law_pick hk__law_pick (by rfl) (sa_cons (se_var 0) (sa_cons (se_var 3) sa_nil))) (gt_sub o.toXO0 (se_var 4) (se_fn o hv__law_pick hk__law_pick (by rfl) (sa_cons (se_var 0) (sa_cons (se_bi (x := "sorted") (bi_sorted o.toXO0) (by rfl) m_sorted b_sorted (so_cons (se_var 1) so_nil)) sa_nil))))) ss_nil) ss_nil) (ss_cons (ss_if (st_cmp o.toXO0 .eq (se_var 5) se_int) (ss_cons (ss_ret (se_fn o hv__law_laid hk__law_laid (by rfl) (sa_cons (se_var 0) (sa_cons (se_var 1) (sa_cons (se_fn o hv__law_pick hk__law_pick (by rfl) (sa_cons (se_var 0) (sa_cons (se_var 2) sa_nil))) (sa_cons (se_fn o hv__law_pick hk__law_pick (by rfl) (sa_cons (se_var 0) (sa_cons (se_var 3) sa_nil))) sa_nil)))))) ss_nil) ss_nil) (ss_cons (ss_if (st_cmp o.toXO0 .eq (se_var 5) se_int) (ss_cons (ss_ret (se_fn o hv__law_laid hk__law_laid (by rfl) (sa_cons (se_var 0) (sa_cons (se_var 1) (sa_cons (se_fn o hv__law_word hk__law_word (by rfl) (sa_cons (se_var 0) sa_nil)) (sa_cons (se_bin o.toXO0 .add se_int (se_fn o hv__law_take hk__law_take (by rfl) (sa_cons (se_var 0) (sa_cons se_int sa_nil)))) sa_nil)))))) ss_nil) ss_nil) (ss_cons (ss_if (st_cmp o.toXO0 .eq (se_var 5) se_int) (ss_cons (ss_set o.toXO0 6 (se_fn o hv__law_signed hk__law_signed (by rfl) (sa_cons (se_var 0) (sa_cons (se_fn o hv__law_pick hk__law_pick (by rfl) (sa_cons (se_var 0) (sa_cons (se_bi (x := "sorted") (bi_sorted o.toXO0) (by rfl) m_sorted b_sorted (so_cons (se_var 1) so_nil)) sa_nil))) sa_nil)))) (ss_cons (ss_ret (se_fn o hv__law_laid hk__law_laid (by rfl) (sa_cons (se_var 0) (sa_cons (se_fn o hv__law_pick hk__law_pick (by rfl) (sa_cons (se_var 0) (sa_cons (se_lst (sa_cons se_dsp0 (sa_cons (se_var 1) sa_nil))) sa_nil))) (sa_cons (se_var 6) (sa_cons (se_bin o.toXO0 .add se_int (se_fn o hv__law_take hk__law_take (by rfl) (sa_cons (se_var 0) (sa_cons se_int sa_nil)))) sa_nil)))))) ss_nil)) ss_nil) (ss_cons (ss_if (st_cmp o.toXO0 .gt (se_var 5) se_int) (ss_cons (ss_set o.toXO0 4 (se_fn o hv__law_many hk__law_many (by rfl) (sa_cons (se_var 0) (sa_cons (se_fn o hv__law_pick hk__law_pick (by rfl) (sa_cons (se_var 0) (sa_cons (se_lst (sa_cons se_int (sa_cons se_int (sa_cons se_int sa_nil)))) sa_nil))) sa_nil)))) (ss_cons (ss_set o.toXO0 7 (se_bi (x := "sorted") (bi_sorted o.toXO0) (by rfl) m_sorted b_sorted (so_cons (se_var 4) so_nil))) (ss_cons (ss_for o.toXO0 (pw_rng1 o.toXO0 (by rfl) m_range (so_cons (se_bin o.toXO0 .sub (se_var 5) se_int) so_nil)) (sp_nm o.toXO0 8) (ss_cons (ss_set o.toXO0 9 (se_fn o hv__law_pick hk__law_pick (by rfl) (sa_cons (se_var 0) (sa_cons (se_lst (sa_cons (se_fn o hv__law_pick hk__law_pick (by rfl) (sa_cons (se_var 0) (sa_cons (se_var 2) sa_nil))) (sa_cons (se_fn o hv__law_pick hk__law_pick (by rfl) (sa_cons (se_var 0) (sa_cons (se_var 7) sa_nil))) sa_nil))) sa_nil)))) (ss_cons (ss_set o.toXO0 4 (se_fn o hv__law_laid hk__law_laid (by rfl) (sa_cons (se_var 0) (sa_cons (se_frz 4) (sa_cons (se_var 9) (sa_cons (se_fn o hv__law_pick hk__law_pick (by rfl) (sa_cons (se_var 0) (sa_cons (se_bin o.toXO0 .add (se_var 3) (se_lst (sa_cons se_int (sa_cons se_int sa_nil)))) sa_nil))) sa_nil)))))) ss_nil)) PassesOwn.never) ss_nil))) ss_nil) (ss_cons (ss_if (st_cmp o.toXO0 .eq (se_var 5) se_int) (ss_cons (ss_ret (se_fn o hv__law_many hk__law_many (by rfl) (sa_cons (se_var 0) (sa_cons (se_fn o hv__law_pick hk__law_pick (by rfl) (sa_cons (se_var 0) (sa_cons (se_lst (sa_cons se_int (sa_cons se_int (sa_cons se_int (sa_cons se_int (sa_cons se_int (sa_cons se_int (sa_cons se_int sa_nil)))))))) sa_nil))) sa_nil)))) ss_nil) ss_nil) (ss_cons (ss_if (st_cmp o.toXO0 .eq (se_var 5) se_int) (ss_cons (ss_set o.toXO0 6 (se_lst (sa_cons se_non (sa_cons (se_lst sa_nil) (sa_cons (se_tup sa_nil) (sa_cons se_dsp0 (sa_cons (se_bt (x := "list") (bi_list o.toXO0) (by rfl) m_list b_list (so_cons (se_var 4) so_nil)) (sa_cons (se_litems o.toXO0 (by rfl) m_list b_list (se_var 4)) (sa_cons (se_bt (x := "tuple") (bi_tuple o.toXO0) (by rfl) m_tuple b_tuple (so_cons (se_var 4) so_nil)) (sa_cons se_str (sa_cons se_int (sa_cons se_bl (sa_cons (se_lst (sa_cons (se_frz 4) sa_nil)) sa_nil))))))))))))) (ss_cons (ss_ret (se_fn o hv__law_pick hk__law_pick (by rfl) (sa_cons (se_var 0) (sa_cons (se_var 6) sa_nil)))) ss_nil)) ss_nil) (ss_cons (ss_ret (se_frz 4)) ss_nil))))))))))))
theorem b_def_law_k01 (o : XO (glL K w) k (cxOf CX0 P w (glL K w).K mg base nn_law_k01 "law" (defScope (top 20)) f cdv A outer s H E0).nox) (m_len : mg "len" = none) (m_max : mg "max" = none) (m_min : mg "min" = none) (m_range : mg "range" = none) (m_repr : mg "repr" = none) {k_hv__law_feed : Nat} (hv__law_feed : Have (glL K w) F P w (glL K w).K mg base k_hv__law_feed "_law_feed" 0 2) (hk__law_feed : k_hv__law_feed ≤ k) {k_hv__law_things : Nat} (hv__law_things : Have (glL K w) F P w (glL K w).K mg base k_hv__law_things "_law_things" 4 2) (hk__law_things : k_hv__law_things ≤ k) {k_hv__law_take : Nat} (hv__law_take : Have (glL K w) F P w (glL K w).K mg base k_hv__law_take "_law_take" 1 2) (hk__law_take : k_hv__law_take ≤ k) {k_hv_is_things : Nat} (hv_is_things : Have (glL K w) F P w (glL K w).K mg base k_hv_is_things "is_things" 317 1) (hk_is_things : k_hv_is_things ≤ k) {k_hv__law_near : Nat} (hv__law_near : Have (glL K w) F P w (glL K w).K mg base k_hv__law_near "_law_near" 39 2) (hk__law_near : k_hv__law_near ≤ k) {k_hv__law_are_things : Nat} (hv__law_are_things : Have (glL K w) F P w (glL K w).K mg base k_hv__law_are_things "_law_are_things" 318 1) (hk__law_are_things : k_hv__law_are_things ≤ k) : PSs (cxOf CX0 P w (glL K w).K mg base nn_law_k01 "law" (defScope (top 20)) f cdv A outer s H E0).nox (defBody (top 20)) (SSs (glL K w) tabL F is_law_k01) :=
  (ss_cons (ss_for o.toXO0 (pw_rng1 o.toXO0 (by rfl) m_range (so_cons (se_bi (x := "max") (bi_max o.toXO0) (by rfl) m_max b_max (so_cons se_int (so_cons (se_bi (x := "min") (bi_min o.toXO0) (by rfl) m_min b_min (so_cons se_int (so_cons (se_bi (x := "len") (bi_len o.toXO0) (by rfl) m_len b_len (so_cons (se_var 0) so_nil)) so_nil))) so_nil))) so_nil)) (sp_nm o.toXO0 1) (ss_cons (ss_set o.toXO0 2 (se_fn o hv__law_feed hk__law_feed (by rfl) (sa_cons (se_var 0) (sa_cons (se_var 1) sa_nil)))) (ss_cons (ss_set o.toXO0 3 (se_fn o hv__law_things hk__law_things (by rfl) (sa_cons (se_var 2) (sa_cons (se_bin o.toXO0 .add se_int (se_fn o hv__law_take hk__law_take (by rfl) (sa_cons (se_var 2) (sa_cons se_int sa_nil)))) sa_nil)))) (ss_cons (ss_if (st_cmp o.toXO0 .isnot (se_fn o hv_is_things hk_is_things (by rfl) (sa_cons (se_var 3) sa_nil)) se_bl) (ss_cons (ss_ret se_bl) ss_nil) ss_nil) (ss_cons (ss_for o.toXO0 (pw_rng1 o.toXO0 (by rfl) m_range (so_cons se_int so_nil)) (sp_nm o.toXO0 4) (ss_cons (ss_set o.toXO0 5 (se_fn o hv__law_near hk__law_near (by rfl) (sa_cons (se_var 2) (sa_cons (se_var 3) sa_nil)))) (ss_cons (ss_set o.toXO0 6 (se_bi (x := "repr") (bi_repr o) (by rfl) m_repr b_repr (so_cons (se_var 5) so_nil))) (ss_cons (ss_if (PW.pt (st_or (st_cmp o.toXO0 .ne (se_bi (x := "repr") (bi_repr o) (by rfl) m_repr b_repr (so_cons (se_fn o hv_is_things hk_is_things (by rfl) (sa_cons (se_var 5) sa_nil)) so_nil)) (se_bi (x := "repr") (bi_repr o) (by rfl) m_repr b_repr (so_cons (se_fn o hv__law_are_things hk__law_are_things (by rfl) (sa_cons (se_var 5) sa_nil)) so_nil))) (st_or1 (st_cmp o.toXO0 .ne (se_bi (x := "repr") (bi_repr o) (by rfl) m_repr b_repr (so_cons (se_var 5) so_nil)) (se_var 6))))) (ss_cons (ss_ret se_bl) ss_nil) ss_nil) ss_nil))) PassesOwn.never) ss_nil)))) PassesOwn.never) (ss_cons (ss_ret se_bl) ss_nil))
end
def fnD : List He.DefD := [⟨("is_integer", none), "is_integer", "is_integer", defArgs (top 5), defBody (top 5), defScope (top 5), [], []⟩, ⟨("is_name", none), "is_name", "is_name", defArgs (top 6), defBody (top 6), defScope (top 6), [], []⟩, ⟨("is_things", none), "is_things", "is_things", defArgs (top 7), defBody (top 7), defScope (top 7), [], []⟩, ⟨("_law_feed", none), "_law_feed", "_law_feed", defArgs (top 9), defBody (top 9), defScope (top 9), [], []⟩, ⟨("_law_take", none), "_law_take", "_law_take", defArgs (top 10), defBody (top 10), defScope (top 10), [], []⟩, ⟨("_law_pick", none), "_law_pick", "_law_pick", defArgs (top 11), defBody (top 11), defScope (top 11), [], []⟩, ⟨("_law_names", none), "_law_names", "_law_names", defArgs (top 12), defBody (top 12), defScope (top 12), [], []⟩, ⟨("_law_things", none), "_law_things", "_law_things", defArgs (top 13), defBody (top 13), defScope (top 13), [], []⟩, ⟨("_law_are_things", none), "_law_are_things", "_law_are_things", defArgs (top 14), defBody (top 14), defScope (top 14), [], []⟩, ⟨("_law_many", none), "_law_many", "_law_many", defArgs (top 15), defBody (top 15), defScope (top 15), [], []⟩, ⟨("_law_word", none), "_law_word", "_law_word", defArgs (top 16), defBody (top 16), defScope (top 16), [], []⟩, ⟨("_law_signed", none), "_law_signed", "_law_signed", defArgs (top 17), defBody (top 17), defScope (top 17), [], []⟩, ⟨("_law_laid", none), "_law_laid", "_law_laid", defArgs (top 18), defBody (top 18), defScope (top 18), [], []⟩, ⟨("_law_near", none), "_law_near", "_law_near", defArgs (top 19), defBody (top 19), defScope (top 19), [], []⟩, ⟨("law", none), "law", "law", defArgs (top 20), defBody (top 20), defScope (top 20), [], []⟩]
def faD : List He.Fa := [.glo "is_integer", .glo "is_name", .glo "is_things", .glo "_law_feed", .glo "_law_take", .glo "_law_pick", .glo "_law_names", .glo "_law_things", .glo "_law_are_things", .glo "_law_many", .glo "_law_word", .glo "_law_signed", .glo "_law_laid", .glo "_law_near", .glo "law", .free "abs", .free "all", .free "bool", .free "dict", .free "int", .free "isinstance", .free "len", .free "list", .free "max", .free "min", .free "range", .free "repr", .free "sorted", .free "str", .free "tuple", .int "MAX_NAME" 8, .str "LETTERS" "abcdefghijklmnopqrstuvwxyz", .int "MAX_THINGS" 20, .int "MAX_PRICE" 1000000]
theorem sc_is_integer : FnScope nn_is_integer ["value", "low", "high"] (defScope (top 5)) := ⟨rfl, rfl, rfl, by decide +kernel, rfl, by decide +kernel, by decide +kernel⟩
theorem sc_is_name : FnScope nn_is_name ["value"] (defScope (top 6)) := ⟨rfl, rfl, rfl, by decide +kernel, rfl, by decide +kernel, by decide +kernel⟩
theorem sc_is_things_k01 : FnScope nn_is_things_k01 ["value"] (defScope (top 7)) := ⟨rfl, rfl, rfl, by decide +kernel, rfl, by decide +kernel, by decide +kernel⟩
theorem sc__law_feed : FnScope nn__law_feed ["_law_script", "_law_k"] (defScope (top 9)) := ⟨rfl, rfl, rfl, by decide +kernel, rfl, by decide +kernel, by decide +kernel⟩
theorem sc__law_take : FnScope nn__law_take ["_law_feed_here", "_law_size"] (defScope (top 10)) := ⟨rfl, rfl, rfl, by decide +kernel, rfl, by decide +kernel, by decide +kernel⟩
theorem sc__law_pick : FnScope nn__law_pick ["_law_feed_here", "_law_choices"] (defScope (top 11)) := ⟨rfl, rfl, rfl, by decide +kernel, rfl, by decide +kernel, by decide +kernel⟩
theorem sc__law_names : FnScope nn__law_names ["_law_feed_here", "_law_many_here"] (defScope (top 12)) := ⟨rfl, rfl, rfl, by decide +kernel, rfl, by decide +kernel, by decide +kernel⟩
theorem sc__law_things : FnScope nn__law_things ["_law_feed_here", "_law_many_here"] (defScope (top 13)) := ⟨rfl, rfl, rfl, by decide +kernel, rfl, by decide +kernel, by decide +kernel⟩
theorem sc__law_are_things : FnScope nn__law_are_things ["_law_value"] (defScope (top 14)) := ⟨rfl, rfl, rfl, by decide +kernel, rfl, by decide +kernel, by decide +kernel⟩
theorem sc__law_many : FnScope nn__law_many ["_law_feed_here", "_law_many_here"] (defScope (top 15)) := ⟨rfl, rfl, rfl, by decide +kernel, rfl, by decide +kernel, by decide +kernel⟩
theorem sc__law_word : FnScope nn__law_word ["_law_feed_here"] (defScope (top 16)) := ⟨rfl, rfl, rfl, by decide +kernel, rfl, by decide +kernel, by decide +kernel⟩
theorem sc__law_signed : FnScope nn__law_signed ["_law_feed_here", "_law_name"] (defScope (top 17)) := ⟨rfl, rfl, rfl, by decide +kernel, rfl, by decide +kernel, by decide +kernel⟩
theorem sc__law_laid : FnScope nn__law_laid ["_law_feed_here", "_law_things_here", "_law_name", "_law_price"] (defScope (top 18)) := ⟨rfl, rfl, rfl, by decide +kernel, rfl, by decide +kernel, by decide +kernel⟩
theorem sc__law_near_k01 : FnScope nn__law_near_k01 ["_law_feed_here", "_law_things_here"] (defScope (top 19)) := ⟨rfl, rfl, rfl, by decide +kernel, rfl, by decide +kernel, by decide +kernel⟩
theorem sc_law_k01 : FnScope nn_law_k01 ["_law_script"] (defScope (top 20)) := ⟨rfl, rfl, rfl, by decide +kernel, rfl, by decide +kernel, by decide +kernel⟩
structure Haves (K : PySem.W.Frag) (F : Call) (P : Program) (w : World) (mg : Str → Option Value) (base : Heap) (k : Nat) : Prop where
  v_is_name : Have (glL K w) F P w (glL K w).K mg base k "is_name" 26 1
  v_is_integer : Have (glL K w) F P w (glL K w).K mg base k "is_integer" 25 3
  v__law_take : Have (glL K w) F P w (glL K w).K mg base k "_law_take" 1 2
  v__law_pick : Have (glL K w) F P w (glL K w).K mg base k "_law_pick" 2 2
  v__law_names : Have (glL K w) F P w (glL K w).K mg base k "_law_names" 3 2
  v__law_laid : Have (glL K w) F P w (glL K w).K mg base k "_law_laid" 319 4
  v__law_word : Have (glL K w) F P w (glL K w).K mg base k "_law_word" 36 1
  v__law_signed : Have (glL K w) F P w (glL K w).K mg base k "_law_signed" 37 2
  v__law_many : Have (glL K w) F P w (glL K w).K mg base k "_law_many" 35 2
  v__law_feed : Have (glL K w) F P w (glL K w).K mg base k "_law_feed" 0 2
  v__law_things : Have (glL K w) F P w (glL K w).K mg base k "_law_things" 4 2
  v_is_things : Have (glL K w) F P w (glL K w).K mg base k "is_things" 317 1
  v__law_near : Have (glL K w) F P w (glL K w).K mg base k "_law_near" 39 2
  v__law_are_things : Have (glL K w) F P w (glL K w).K mg base k "_law_are_things" 318 1
theorem haves_of {K : PySem.W.Frag} {F : Call} {P : Program} {w : World} {mg : Str → Option Value} {base h : Heap} {k : Nat} (X : K.In h) (N : h.Ns mainGlobals mg) (c : He.SaysD faD fnD K) {fx_is_integer : FuncData} {fx_is_name : FuncData} {fx_is_things_k01 : FuncData} {fx__law_feed : FuncData} {fx__law_take : FuncData} {fx__law_pick : FuncData} {fx__law_names : FuncData} {fx__law_things : FuncData} {fx__law_are_things : FuncData} {fx__law_many : FuncData} {fx__law_word : FuncData} {fx__law_signed : FuncData} {fx__law_laid : FuncData} {fx__law_near_k01 : FuncData} {fx_law_k01 : FuncData}
  (F_is_integer : FunD K "is_integer" "is_integer" (defArgs (top 5)) (defBody (top 5)) (defScope (top 5)) [] [] (He.fAd K ("is_integer", none)) fx_is_integer) (g_is_integer : FnG P w (glL K w).K mg base k (He.fAd K ("is_integer", none)) fx_is_integer ["value", "low", "high"] (spI (glL K w) F 25 3))
  (F_is_name : FunD K "is_name" "is_name" (defArgs (top 6)) (defBody (top 6)) (defScope (top 6)) [] [] (He.fAd K ("is_name", none)) fx_is_name) (g_is_name : FnG P w (glL K w).K mg base k (He.fAd K ("is_name", none)) fx_is_name ["value"] (spI (glL K w) F 26 1))
  (F_is_things_k01 : FunD K "is_things" "is_things" (defArgs (top 7)) (defBody (top 7)) (defScope (top 7)) [] [] (He.fAd K ("is_things", none)) fx_is_things_k01) (g_is_things_k01 : FnG P w (glL K w).K mg base k (He.fAd K ("is_things", none)) fx_is_things_k01 ["value"] (spI (glL K w) F 317 1))
  (F__law_feed : FunD K "_law_feed" "_law_feed" (defArgs (top 9)) (defBody (top 9)) (defScope (top 9)) [] [] (He.fAd K ("_law_feed", none)) fx__law_feed) (g__law_feed : FnG P w (glL K w).K mg base k (He.fAd K ("_law_feed", none)) fx__law_feed ["_law_script", "_law_k"] (spI (glL K w) F 0 2))
  (F__law_take : FunD K "_law_take" "_law_take" (defArgs (top 10)) (defBody (top 10)) (defScope (top 10)) [] [] (He.fAd K ("_law_take", none)) fx__law_take) (g__law_take : FnG P w (glL K w).K mg base k (He.fAd K ("_law_take", none)) fx__law_take ["_law_feed_here", "_law_size"] (spI (glL K w) F 1 2))
  (F__law_pick : FunD K "_law_pick" "_law_pick" (defArgs (top 11)) (defBody (top 11)) (defScope (top 11)) [] [] (He.fAd K ("_law_pick", none)) fx__law_pick) (g__law_pick : FnG P w (glL K w).K mg base k (He.fAd K ("_law_pick", none)) fx__law_pick ["_law_feed_here", "_law_choices"] (spI (glL K w) F 2 2))
  (F__law_names : FunD K "_law_names" "_law_names" (defArgs (top 12)) (defBody (top 12)) (defScope (top 12)) [] [] (He.fAd K ("_law_names", none)) fx__law_names) (g__law_names : FnG P w (glL K w).K mg base k (He.fAd K ("_law_names", none)) fx__law_names ["_law_feed_here", "_law_many_here"] (spI (glL K w) F 3 2))
  (F__law_things : FunD K "_law_things" "_law_things" (defArgs (top 13)) (defBody (top 13)) (defScope (top 13)) [] [] (He.fAd K ("_law_things", none)) fx__law_things) (g__law_things : FnG P w (glL K w).K mg base k (He.fAd K ("_law_things", none)) fx__law_things ["_law_feed_here", "_law_many_here"] (spI (glL K w) F 4 2))
  (F__law_are_things : FunD K "_law_are_things" "_law_are_things" (defArgs (top 14)) (defBody (top 14)) (defScope (top 14)) [] [] (He.fAd K ("_law_are_things", none)) fx__law_are_things) (g__law_are_things : FnG P w (glL K w).K mg base k (He.fAd K ("_law_are_things", none)) fx__law_are_things ["_law_value"] (spI (glL K w) F 318 1))
  (F__law_many : FunD K "_law_many" "_law_many" (defArgs (top 15)) (defBody (top 15)) (defScope (top 15)) [] [] (He.fAd K ("_law_many", none)) fx__law_many) (g__law_many : FnG P w (glL K w).K mg base k (He.fAd K ("_law_many", none)) fx__law_many ["_law_feed_here", "_law_many_here"] (spI (glL K w) F 35 2))
  (F__law_word : FunD K "_law_word" "_law_word" (defArgs (top 16)) (defBody (top 16)) (defScope (top 16)) [] [] (He.fAd K ("_law_word", none)) fx__law_word) (g__law_word : FnG P w (glL K w).K mg base k (He.fAd K ("_law_word", none)) fx__law_word ["_law_feed_here"] (spI (glL K w) F 36 1))
  (F__law_signed : FunD K "_law_signed" "_law_signed" (defArgs (top 17)) (defBody (top 17)) (defScope (top 17)) [] [] (He.fAd K ("_law_signed", none)) fx__law_signed) (g__law_signed : FnG P w (glL K w).K mg base k (He.fAd K ("_law_signed", none)) fx__law_signed ["_law_feed_here", "_law_name"] (spI (glL K w) F 37 2))
  (F__law_laid : FunD K "_law_laid" "_law_laid" (defArgs (top 18)) (defBody (top 18)) (defScope (top 18)) [] [] (He.fAd K ("_law_laid", none)) fx__law_laid) (g__law_laid : FnG P w (glL K w).K mg base k (He.fAd K ("_law_laid", none)) fx__law_laid ["_law_feed_here", "_law_things_here", "_law_name", "_law_price"] (spI (glL K w) F 319 4))
  (F__law_near_k01 : FunD K "_law_near" "_law_near" (defArgs (top 19)) (defBody (top 19)) (defScope (top 19)) [] [] (He.fAd K ("_law_near", none)) fx__law_near_k01) (g__law_near_k01 : FnG P w (glL K w).K mg base k (He.fAd K ("_law_near", none)) fx__law_near_k01 ["_law_feed_here", "_law_things_here"] (spI (glL K w) F 39 2))
  (F_law_k01 : FunD K "law" "law" (defArgs (top 20)) (defBody (top 20)) (defScope (top 20)) [] [] (He.fAd K ("law", none)) fx_law_k01) (g_law_k01 : FnG P w (glL K w).K mg base k (He.fAd K ("law", none)) fx_law_k01 ["_law_script"] (spI (glL K w) F 40 1)) : Haves K F P w mg base k := by
  constructor
  · exact ⟨_, _, ["value"], g_is_name, He.glo_ok X N (c.fact 1 rfl), F_is_name.kp, (F_is_name.bindsN fun _ _ _ _ _ _ us hl => match us, hl with | [_], _ => rfl)⟩
  · exact ⟨_, _, ["value", "low", "high"], g_is_integer, He.glo_ok X N (c.fact 0 rfl), F_is_integer.kp, (F_is_integer.bindsN fun _ _ _ _ _ _ us hl => match us, hl with | [_, _, _], _ => rfl)⟩
  · exact ⟨_, _, ["_law_feed_here", "_law_size"], g__law_take, He.glo_ok X N (c.fact 4 rfl), F__law_take.kp, (F__law_take.bindsN fun _ _ _ _ _ _ us hl => match us, hl with | [_, _], _ => rfl)⟩
  · exact ⟨_, _, ["_law_feed_here", "_law_choices"], g__law_pick, He.glo_ok X N (c.fact 5 rfl), F__law_pick.kp, (F__law_pick.bindsN fun _ _ _ _ _ _ us hl => match us, hl with | [_, _], _ => rfl)⟩
  · exact ⟨_, _, ["_law_feed_here", "_law_many_here"], g__law_names, He.glo_ok X N (c.fact 6 rfl), F__law_names.kp, (F__law_names.bindsN fun _ _ _ _ _ _ us hl => match us, hl with | [_, _], _ => rfl)⟩
  · exact ⟨_, _, ["_law_feed_here", "_law_things_here", "_law_name", "_law_price"], g__law_laid, He.glo_ok X N (c.fact 12 rfl), F__law_laid.kp, (F__law_laid.bindsN fun _ _ _ _ _ _ us hl => match us, hl with | [_, _, _, _], _ => rfl)⟩
  · exact ⟨_, _, ["_law_feed_here"], g__law_word, He.glo_ok X N (c.fact 10 rfl), F__law_word.kp, (F__law_word.bindsN fun _ _ _ _ _ _ us hl => match us, hl with | [_], _ => rfl)⟩
  · exact ⟨_, _, ["_law_feed_here", "_law_name"], g__law_signed, He.glo_ok X N (c.fact 11 rfl), F__law_signed.kp, (F__law_signed.bindsN fun _ _ _ _ _ _ us hl => match us, hl with | [_, _], _ => rfl)⟩
  · exact ⟨_, _, ["_law_feed_here", "_law_many_here"], g__law_many, He.glo_ok X N (c.fact 9 rfl), F__law_many.kp, (F__law_many.bindsN fun _ _ _ _ _ _ us hl => match us, hl with | [_, _], _ => rfl)⟩
  · exact ⟨_, _, ["_law_script", "_law_k"], g__law_feed, He.glo_ok X N (c.fact 3 rfl), F__law_feed.kp, (F__law_feed.bindsN fun _ _ _ _ _ _ us hl => match us, hl with | [_, _], _ => rfl)⟩
  · exact ⟨_, _, ["_law_feed_here", "_law_many_here"], g__law_things, He.glo_ok X N (c.fact 7 rfl), F__law_things.kp, (F__law_things.bindsN fun _ _ _ _ _ _ us hl => match us, hl with | [_, _], _ => rfl)⟩
  · exact ⟨_, _, ["value"], g_is_things_k01, He.glo_ok X N (c.fact 2 rfl), F_is_things_k01.kp, (F_is_things_k01.bindsN fun _ _ _ _ _ _ us hl => match us, hl with | [_], _ => rfl)⟩
  · exact ⟨_, _, ["_law_feed_here", "_law_things_here"], g__law_near_k01, He.glo_ok X N (c.fact 13 rfl), F__law_near_k01.kp, (F__law_near_k01.bindsN fun _ _ _ _ _ _ us hl => match us, hl with | [_, _], _ => rfl)⟩
  · exact ⟨_, _, ["_law_value"], g__law_are_things, He.glo_ok X N (c.fact 8 rfl), F__law_are_things.kp, (F__law_are_things.bindsN fun _ _ _ _ _ _ us hl => match us, hl with | [_], _ => rfl)⟩
theorem haves {K : PySem.W.Frag} {P : Program} {w : World} {mg : Str → Option Value} {base h : Heap} (hs : (glL K w).Sys) (X : K.In h) (N : h.Ns mainGlobals mg) (c : He.SaysD faD fnD K) : ∀ n, Haves K (callI tabL fds n) P w mg base (2 * n)
  | 0 => by
    obtain ⟨fx_is_integer, F_is_integer⟩ := c.def_ 0 rfl
    obtain ⟨fx_is_name, F_is_name⟩ := c.def_ 1 rfl
    obtain ⟨fx_is_things_k01, F_is_things_k01⟩ := c.def_ 2 rfl
    obtain ⟨fx__law_feed, F__law_feed⟩ := c.def_ 3 rfl
    obtain ⟨fx__law_take, F__law_take⟩ := c.def_ 4 rfl
    obtain ⟨fx__law_pick, F__law_pick⟩ := c.def_ 5 rfl
    obtain ⟨fx__law_names, F__law_names⟩ := c.def_ 6 rfl
    obtain ⟨fx__law_things, F__law_things⟩ := c.def_ 7 rfl
    obtain ⟨fx__law_are_things, F__law_are_things⟩ := c.def_ 8 rfl
    obtain ⟨fx__law_many, F__law_many⟩ := c.def_ 9 rfl
    obtain ⟨fx__law_word, F__law_word⟩ := c.def_ 10 rfl
    obtain ⟨fx__law_signed, F__law_signed⟩ := c.def_ 11 rfl
    obtain ⟨fx__law_laid, F__law_laid⟩ := c.def_ 12 rfl
    obtain ⟨fx__law_near_k01, F__law_near_k01⟩ := c.def_ 13 rfl
    obtain ⟨fx_law_k01, F_law_k01⟩ := c.def_ 14 rfl
    exact haves_of X N c F_is_integer fn_0 F_is_name fn_0 F_is_things_k01 fn_0 F__law_feed fn_0 F__law_take fn_0 F__law_pick fn_0 F__law_names fn_0 F__law_things fn_0 F__law_are_things fn_0 F__law_many fn_0 F__law_word fn_0 F__law_signed fn_0 F__law_laid fn_0 F__law_near_k01 fn_0 F_law_k01 fn_0
  | n + 1 => by
    have v := haves (base := base) (P := P) (w := w) hs X N c n
    obtain ⟨fx_is_integer, F_is_integer⟩ := c.def_ 0 rfl
    obtain ⟨fx_is_name, F_is_name⟩ := c.def_ 1 rfl
    obtain ⟨fx_is_things_k01, F_is_things_k01⟩ := c.def_ 2 rfl
    obtain ⟨fx__law_feed, F__law_feed⟩ := c.def_ 3 rfl
    obtain ⟨fx__law_take, F__law_take⟩ := c.def_ 4 rfl
    obtain ⟨fx__law_pick, F__law_pick⟩ := c.def_ 5 rfl
    obtain ⟨fx__law_names, F__law_names⟩ := c.def_ 6 rfl
    obtain ⟨fx__law_things, F__law_things⟩ := c.def_ 7 rfl
    obtain ⟨fx__law_are_things, F__law_are_things⟩ := c.def_ 8 rfl
    obtain ⟨fx__law_many, F__law_many⟩ := c.def_ 9 rfl
    obtain ⟨fx__law_word, F__law_word⟩ := c.def_ 10 rfl
    obtain ⟨fx__law_signed, F__law_signed⟩ := c.def_ 11 rfl
    obtain ⟨fx__law_laid, F__law_laid⟩ := c.def_ 12 rfl
    obtain ⟨fx__law_near_k01, F__law_near_k01⟩ := c.def_ 13 rfl
    obtain ⟨fx_law_k01, F_law_k01⟩ := c.def_ 14 rfl
    refine haves_of X N c F_is_integer ?_ F_is_name ?_ F_is_things_k01 ?_ F__law_feed ?_ F__law_take ?_ F__law_pick ?_ F__law_names ?_ F__law_things ?_ F__law_are_things ?_ F__law_many ?_ F__law_word ?_ F__law_signed ?_ F__law_laid ?_ F__law_near_k01 ?_ F_law_k01 ?_
    · exact fn_R (G := glL K w) (d := fd_is_integer) (k := 2 * n + 1) hs F_is_integer sc_is_integer rfl rfl (by decide) rfl (fun _ _ _ _ _ o => b_def_is_integer o (He.free_ok X N (c.fact 17 rfl)) (He.free_ok X N (c.fact 19 rfl)) (He.free_ok X N (c.fact 20 rfl)))
    · exact fn_R (G := glL K w) (d := fd_is_name) (k := 2 * n + 1) hs F_is_name sc_is_name rfl rfl (by decide) rfl (fun _ _ _ _ _ o => b_def_is_name o (He.free_ok X N (c.fact 16 rfl)) (He.free_ok X N (c.fact 20 rfl)) (He.free_ok X N (c.fact 21 rfl)) (He.free_ok X N (c.fact 28 rfl)) (He.int_ok X N (c.fact 30 rfl)) (He.str_ok X N (c.fact 31 rfl)))
    · exact fn_R (G := glL K w) (d := fd_is_things_k01) (k := 2 * n + 1) hs F_is_things_k01 sc_is_things_k01 rfl rfl (by decide) rfl (fun _ _ _ _ _ o => b_def_is_things_k01 o (He.free_ok X N (c.fact 16 rfl)) (He.free_ok X N (c.fact 18 rfl)) (He.free_ok X N (c.fact 20 rfl)) (He.free_ok X N (c.fact 21 rfl)) (He.int_ok X N (c.fact 32 rfl)) v.v_is_name (by omega) v.v_is_integer (by omega) (He.int_ok X N (c.fact 33 rfl)))
    · exact fn_R (G := glL K w) (d := fd__law_feed) (k := 2 * n + 1) hs F__law_feed sc__law_feed rfl rfl (by decide) rfl (fun _ _ _ _ _ o => b_def__law_feed o (He.free_ok X N (c.fact 15 rfl)) (He.free_ok X N (c.fact 19 rfl)) (He.free_ok X N (c.fact 22 rfl)) (He.free_ok X N (c.fact 23 rfl)))
    · exact fn_R (G := glL K w) (d := fd__law_take) (k := 2 * n + 1) hs F__law_take sc__law_take rfl rfl (by decide) rfl (fun _ _ _ _ _ o => b_def__law_take o (He.free_ok X N (c.fact 19 rfl)))
    · exact fn_R (G := glL K w) (d := fd__law_pick) (k := 2 * n + 1) hs F__law_pick sc__law_pick rfl rfl (by decide) rfl (fun _ _ _ _ _ o => b_def__law_pick o (He.free_ok X N (c.fact 21 rfl)) v.v__law_take (by omega))
    · exact fn_R (G := glL K w) (d := fd__law_names) (k := 2 * n + 1) hs F__law_names sc__law_names rfl rfl (by decide) rfl (fun _ _ _ _ _ o => b_def__law_names o v.v__law_take (by omega) v.v__law_pick (by omega))
    · exact fn_R (G := glL K w) (d := fd__law_things) (k := 2 * n + 1) hs F__law_things sc__law_things rfl rfl (by decide) rfl (fun _ _ _ _ _ o => b_def__law_things o (He.free_ok X N (c.fact 18 rfl)) v.v__law_pick (by omega) v.v__law_names (by omega))
    · exact fn_R (G := glL K w) (d := fd__law_are_things) (k := 2 * n + 1) hs F__law_are_things sc__law_are_things rfl rfl (by decide) rfl (fun _ _ _ _ _ o => b_def__law_are_things o (He.free_ok X N (c.fact 17 rfl)) (He.free_ok X N (c.fact 18 rfl)) (He.free_ok X N (c.fact 19 rfl)) (He.free_ok X N (c.fact 20 rfl)) (He.free_ok X N (c.fact 21 rfl)) (He.free_ok X N (c.fact 28 rfl)))
    · exact fn_R (G := glL K w) (d := fd__law_many) (k := 2 * n + 1) hs F__law_many sc__law_many rfl rfl (by decide) rfl (fun _ _ _ _ _ o => b_def__law_many o (He.free_ok X N (c.fact 18 rfl)) (He.free_ok X N (c.fact 25 rfl)) v.v__law_take (by omega))
    · exact fn_R (G := glL K w) (d := fd__law_word) (k := 2 * n + 1) hs F__law_word sc__law_word rfl rfl (by decide) rfl (fun _ _ _ _ _ o => b_def__law_word o (He.free_ok X N (c.fact 25 rfl)) v.v__law_pick (by omega) v.v__law_take (by omega))
    · exact fn_R (G := glL K w) (d := fd__law_signed) (k := 2 * n + 1) hs F__law_signed sc__law_signed rfl rfl (by decide) rfl (fun _ _ _ _ _ o => b_def__law_signed o (He.free_ok X N (c.fact 21 rfl)) v.v__law_take (by omega) v.v__law_pick (by omega))
    · exact fn_R (G := glL K w) (d := fd__law_laid) (k := 2 * n + 1) hs F__law_laid sc__law_laid rfl rfl (by decide) rfl (fun _ _ _ _ _ o => b_def__law_laid o (He.free_ok X N (c.fact 18 rfl)) (He.free_ok X N (c.fact 21 rfl)) v.v__law_take (by omega))
    · exact fn_R (G := glL K w) (d := fd__law_near_k01) (k := 2 * n + 1) hs F__law_near_k01 sc__law_near_k01 rfl rfl (by decide) rfl (fun _ _ _ _ _ o => b_def__law_near_k01 o (He.free_ok X N (c.fact 18 rfl)) (He.free_ok X N (c.fact 22 rfl)) (He.free_ok X N (c.fact 25 rfl)) (He.free_ok X N (c.fact 27 rfl)) (He.free_ok X N (c.fact 29 rfl)) v.v__law_take (by omega) v.v__law_laid (by omega) v.v__law_pick (by omega) v.v__law_word (by omega) v.v__law_signed (by omega) v.v__law_many (by omega))
    · exact fn_R (G := glL K w) (d := fd_law_k01) (k := 2 * n + 1) hs F_law_k01 sc_law_k01 rfl rfl (by decide) rfl (fun _ _ _ _ _ o => b_def_law_k01 o (He.free_ok X N (c.fact 21 rfl)) (He.free_ok X N (c.fact 23 rfl)) (He.free_ok X N (c.fact 24 rfl)) (He.free_ok X N (c.fact 25 rfl)) (He.free_ok X N (c.fact 26 rfl)) v.v__law_feed (by omega) v.v__law_things (by omega) v.v__law_take (by omega) v.v_is_things (by omega) v.v__law_near (by omega) v.v__law_are_things (by omega))
end Rs
end
section
set_option maxRecDepth 100000
set_option maxHeartbeats 0
namespace Rs
open PySem PySem.Spec PyProof.Rows L2
abbrev rowL : PySem.W.OpenRow := PySem.W.OpenLaw.row PySem.Challenge.rw_rentshelf_k01_values_that_are_things
abbrev hkL : PySem.W.Hook := hookR 4 faD fnD
def obL (s : PySem.W.SharedT) : AlR := obsR 4 faD fnD (HandSHeadRun.getT s)
theorem obL_eq (s : PySem.W.SharedT) : obL s = hkL.obs s.abs := obsR_eq (HandSHeadRun.getT_eq s)
theorem runL (w : World) : HandSHeadRun.RunEq rowL (PySem.W.view rowL.prog [20]) hkL obL 40000 ["MAX_THINGS", "MAX_NAME", "MAX_PRICE", "LETTERS", "is_integer", "is_name", "is_things", "_law_feed", "_law_take", "_law_pick", "_law_names", "_law_things", "_law_are_things", "_law_many", "_law_word", "_law_signed", "_law_laid", "_law_near"] w := by
  intro os
  kernel_rfl
end Rs
open PySem PySem.W PySem.Calls PyProof.Rows
theorem law_of (plain : ∀ ns : List Int, ns.length ≤ 63 → ∃ s2, Rs.callI Rs.tabL Rs.fds 12 40 [.scr ns] [] = .ok (.bl true) s2) : PySem.Challenge.rw_rentshelf_k01_values_that_are_things.Holds := by
  w_on; o_law
  refine HandSHeadRun.head_any (r := Rs.rowL) (q := view Rs.rowL.prog [20]) (H := Rs.hkL) (ob := Rs.obL) (M := 40000) (loose := ["MAX_THINGS", "MAX_NAME", "MAX_PRICE", "LETTERS", "is_integer", "is_name", "is_things", "_law_feed", "_law_take", "_law_pick", "_law_names", "_law_things", "_law_are_things", "_law_many", "_law_word", "_law_signed", "_law_laid", "_law_near"]) (d := HandSHeadRun.topDef Rs.rowL.prog 20) (kwd := []) Rs.obL_eq
    (by kernel_rfl) (fun s => by kernel_rfl) Rs.runL (by kernel_rfl) (by kernel_rfl) (by kernel_rfl) (by rfl) (by first | assumption | decide +kernel) (by decide +kernel) ⟨rfl, rfl, rfl, rfl, rfl, by decide +kernel⟩ ?hw ?hc
  case hw => w_witness2
  case hc =>
    refine Rs.walk_R (l := PySem.Challenge.rw_rentshelf_k01_values_that_are_things) (n := 63) (k := 24) (x := "_law_script") rfl (by decide) (by kernel_rfl) ⟨rfl, by decide, by decide⟩ ?F
    intro w mg fa h Y N hm0
    obtain ⟨K, KX, hsys, c⟩ := Y
    have hm : mg ("law" : PySem.Str) = some (.ref fa) := by
      have e : (HandSHeadRun.topDef Rs.rowL.prog 20).name = ("law" : PySem.Str) := by kernel_rfl
      rw [← e]
      exact hm0
    obtain ⟨fd, FL⟩ := c.def_ 14 rfl
    have e2 := hm.symm.trans (He.glo_ok KX N (c.fact 14 (f := .glo "law") rfl))
    cases e2
    refine ⟨K, fd, Rs.spI (Rs.glL K w) (Rs.callI Rs.tabL Rs.fds 12) 40 1, KX, fun s u => L2.FunD.bindsA (ps := ["_law_script"]) FL (fun _ _ _ _ _ _ us hl => match us, hl with | [_], _ => rfl) s [u] rfl, fun H a ns hl only seq => ?_, fun base inB nsB => ?_⟩
    · obtain ⟨s2, e⟩ := plain ns hl
      exact Rs.law_end (G := Rs.glL K w) e seq
    · have hs : (Rs.glL K w).Sys := Rs.sys_ok hsys
      have v := Rs.haves (K := K) (P := PySem.Challenge.rw_rentshelf_k01_values_that_are_things.prog) (w := w) (mg := mg) (base := base) hs inB nsB c 11
      exact Rs.fn_R (G := Rs.glL K w) (k := 23) (d := Rs.fd_law_k01) hs FL Rs.sc_law_k01 rfl rfl (by decide) rfl (fun _ _ _ _ _ o => Rs.b_def_law_k01 o (He.free_ok inB nsB (c.fact 21 rfl)) (He.free_ok inB nsB (c.fact 23 rfl)) (He.free_ok inB nsB (c.fact 24 rfl)) (He.free_ok inB nsB (c.fact 25 rfl)) (He.free_ok inB nsB (c.fact 26 rfl)) v.v__law_feed (by omega) v.v__law_things (by omega) v.v__law_take (by omega) v.v_is_things (by omega) v.v__law_near (by omega) v.v__law_are_things (by omega))
end
section
set_option maxRecDepth 100000
set_option maxHeartbeats 4000000
/-! The interpreter's equations, for simp: they go forward at states that are written out. -/
namespace Rs
open PySem L2
section
set_option autoImplicit true
def R.bnd {α β : Type} (r : R α) (k : α → S → R β) : R β := r.bind k
def R.vl (r : R Rv) : R Val := r.val
def R.op {α : Type} (o : Option α) (s : S) : R α := R.opt o s
def R.bck (r : R Val) (e : List Slot) : R Rv := r.back e
/-- a branch -/
def R.two {α : Type} (b : Bool) (x y : R α) : R α := match b with
  | true => x
  | false => y
@[simp] theorem two_t {α : Type} {x y : R α} : R.two true x y = x := rfl
@[simp] theorem two_f {α : Type} {x y : R α} : R.two false x y = y := rfl
@[simp] theorem bnd_ok {α β : Type} (a : α) (s : S) (k : α → S → R β) : (R.ok a s).bnd k = k a s := rfl
@[simp] theorem bnd_bad {α β : Type} (k : α → S → R β) : (R.bad : R α).bnd k = .bad := rfl
@[simp] theorem bnd_exc {α β : Type} (c : Nat) (v : Val) (s : S) (k : α → S → R β) : (R.exc c v s : R α).bnd k = .exc c v s := rfl
@[simp] theorem vl_v (x : Val) (s : S) : (R.ok (.v x) s).vl = .ok x s := rfl
@[simp] theorem vl_f (c : Cell) (s : S) : (R.ok (.f c) s).vl = .ok (imm c) s := rfl
@[simp] theorem vl_exc (c : Nat) (v : Val) (s : S) : (R.exc c v s).vl = .exc c v s := rfl
@[simp] theorem vl_bad : (R.bad : R Rv).vl = .bad := rfl
@[simp] theorem op_some {α : Type} (a : α) (s : S) : R.op (some a) s = .ok a s := rfl
@[simp] theorem op_none {α : Type} (s : S) : R.op (none : Option α) s = .bad := rfl
@[simp] theorem bck_ok (v : Val) (e2 : List Slot) (h2 : List Cell) (e : List Slot) : (R.ok v ⟨e2, h2⟩).bck e = .ok (.v v) ⟨e, h2⟩ := rfl
@[simp] theorem bck_exc (c : Nat) (v : Val) (e2 : List Slot) (h2 : List Cell) (e : List Slot) : (R.exc c v ⟨e2, h2⟩).bck e = .exc c v ⟨e, h2⟩ := rfl
@[simp] theorem bck_bad (e : List Slot) : (R.bad).bck e = .bad := rfl
@[simp] theorem imm_lst (xs : List Val) (l : Bool) : imm (.lst xs l) = .lst xs := rfl
@[simp] theorem imm_dct (xs : List (Key × Val)) (l : Bool) : imm (.dct xs l) = .dct xs := rfl
@[simp] theorem opnd_v (x : Val) : opnd (.v x) = .v x := rfl
@[simp] theorem opnd_f (c : Cell) : opnd (.f c) = .v (imm c) := rfl
@[simp] theorem opnd_sl (i : Nat) : opnd (.sl i) = .sl i := rfl
@[simp] theorem freeze_v (x : Val) : freeze (.v x) = some x := rfl
@[simp] theorem freeze_f (c : Cell) : freeze (.f c) = some (imm c) := rfl
@[simp] theorem permV_nil (vs : List Val) : permV vs [] = vs := rfl
@[simp] theorem asB_bl (b : Bool) : asB (.bl b) = some b := rfl
@[simp] theorem veqX_non {w : Val} : veqX .non w = veq .non w := by cases w <;> rfl
@[simp] theorem veqX_bl {w : Val} : veqX (.bl b) w = veq (.bl b) w := by cases w <;> rfl
@[simp] theorem veqX_int {w : Val} : veqX (.int b) w = veq (.int b) w := by cases w <;> rfl
@[simp] theorem veqX_str {w : Val} : veqX (.str b) w = veq (.str b) w := by cases w <;> rfl
@[simp] theorem veqX_ll {b c : List Val} : veqX (.lst b) (.lst c) = (veq (.lst b) (.lst c)).elim (if b.length = c.length then eqL (veqT 2) b c else some false) some := by simp only [veqX]; cases veq (.lst b) (.lst c) <;> rfl
@[simp] theorem veqX_tt {b c : List Val} : veqX (.tup b) (.tup c) = (veq (.tup b) (.tup c)).elim (if c.length = 0 ∧ b.length ≠ 0 then some false else none) some := by simp only [veqX]; cases veq (.tup b) (.tup c) <;> rfl
@[simp] theorem veqX_tnon {b : List Val} : veqX (.tup b) .non = veq (.tup b) .non := rfl
@[simp] theorem veqX_tbl {b : List Val} {c : Bool} : veqX (.tup b) (.bl c) = veq (.tup b) (.bl c) := rfl
@[simp] theorem veqX_tint {b : List Val} {c : Int} : veqX (.tup b) (.int c) = veq (.tup b) (.int c) := rfl
@[simp] theorem veqX_tstr {b : List Val} {c : Str} : veqX (.tup b) (.str c) = veq (.tup b) (.str c) := rfl
@[simp] theorem veqX_tlst {b : List Val} {c : List Val} : veqX (.tup b) (.lst c) = veq (.tup b) (.lst c) := rfl
@[simp] theorem veqX_tdct {b : List Val} {c : List (Key × Val)} : veqX (.tup b) (.dct c) = veq (.tup b) (.dct c) := rfl
variable {T : Tab} {C : Call} {s : S} {e0 : List Slot} {h0 : List Cell}
@[simp] theorem deref_non : deref s (.v .non) = .non := rfl
@[simp] theorem deref_bl : deref s (.v (.bl b)) = .bl b := rfl
@[simp] theorem deref_int : deref s (.v (.int b)) = .int b := rfl
@[simp] theorem deref_str : deref s (.v (.str b)) = .str b := rfl
@[simp] theorem deref_lst : deref s (.v (.lst b)) = .lst b := rfl
@[simp] theorem deref_tup : deref s (.v (.tup b)) = .tup b := rfl
@[simp] theorem deref_dct : deref s (.v (.dct b)) = .dct b := rfl
@[simp] theorem deref_scr : deref s (.v (.scr b)) = .scr b := rfl
@[simp] theorem deref_ref : deref ⟨e0, h0⟩ (.v (.ref i)) = (match h0[i]? with
    | some (.lst xs _) => .lst xs
    | some (.dct kvs _) => .dct kvs
    | _ => .ref i) := rfl
@[simp] theorem deref_sl : deref ⟨e0, h0⟩ (.sl i) = (match e0[i]? with
    | some (.own c) => imm c
    | _ => .bad) := rfl
@[simp] theorem slotOf_mk : slotOf ⟨e0, h0⟩ i = e0.getD i .no := rfl
@[simp] theorem rdVar_mk : rdVar ⟨e0, h0⟩ i = (match e0.getD i .no with
  | .val v => .ok (.v v) ⟨e0, h0⟩
  | .own _ => .ok (.sl i) ⟨e0, h0⟩
  | .no => .bad) := rfl
@[simp] theorem frzVar_mk : frzVar ⟨e0, h0⟩ i = (match e0.getD i .no with
  | .val v => .ok (.v v) ⟨e0, h0⟩
  | .own c => if unlocked c then .ok (.v (imm c)) ⟨e0.set i (.val (imm c)), h0⟩ else .bad
  | .no => .bad) := rfl
@[simp] theorem mvVar_mk : mvVar ⟨e0, h0⟩ i = (match e0.getD i .no with
  | .own c => if unlocked c then .ok (.v (.ref h0.length)) ⟨e0.set i (.val (.ref h0.length)), h0 ++ [c]⟩ else .bad
  | _ => .bad) := rfl
@[simp] theorem toHeap_mk (c : Cell) : toHeap c ⟨e0, h0⟩ = .ok (.v (.ref h0.length)) ⟨e0, h0 ++ [c]⟩ := rfl
@[simp] theorem setLoc_sl : setLoc ⟨e0, h0⟩ (.sl i) c = (match e0.getD i .no with
    | .own d => if unlocked d then some ⟨e0.set i (.own c), h0⟩ else none
    | _ => none) := rfl
@[simp] theorem setLoc_ref : setLoc ⟨e0, h0⟩ (.v (.ref n)) c = (match h0[n]? with
    | some d => if unlocked d then some ⟨e0, h0.set n c⟩ else none
    | none => none) := rfl
@[simp] theorem putLoc_none : putLoc s o none = some s := rfl
@[simp] theorem putLoc_some : putLoc s o (some c) = setLoc s o c := rfl
@[simp] theorem unlocked_l : unlocked (.lst xs lk) = !lk := rfl
@[simp] theorem unlocked_d : unlocked (.dct kvs lk) = !lk := rfl
@[simp] theorem evalB_mk : evalB T C e ⟨e0, h0⟩ = (evalE T C e ⟨e0, h0⟩).vl.bnd fun x s => R.op (asB x) s := rfl
@[simp] theorem put1_t : put1 true (.f c) = some (.own c) := rfl
@[simp] theorem put1_fv : put1 false (.v x) = some (.val x) := rfl
@[simp] theorem put1_ff : put1 false (.f c) = some (.val (imm c)) := rfl
@[simp] theorem evalE_1 : evalE T C (.var i) ⟨e0, h0⟩ = (fun s : S => (rdVar s i)) ⟨e0, h0⟩ := by first | (rw [evalE]; done) | (rw [evalE]; rfl) | (cases v <;> simp [evalE])
@[simp] theorem evalE_2 : evalE T C (.frz i) ⟨e0, h0⟩ = (fun s : S => (frzVar s i)) ⟨e0, h0⟩ := by first | (rw [evalE]; done) | (rw [evalE]; rfl) | (cases v <;> simp [evalE])
@[simp] theorem evalE_3 : evalE T C (.mv i) ⟨e0, h0⟩ = (fun s : S => (mvVar s i)) ⟨e0, h0⟩ := by first | (rw [evalE]; done) | (rw [evalE]; rfl) | (cases v <;> simp [evalE])
@[simp] theorem evalE_4 : evalE T C (.cst v) ⟨e0, h0⟩ = (fun s : S => (.ok (.v v) s)) ⟨e0, h0⟩ := by first | (rw [evalE]; done) | (rw [evalE]; rfl) | (cases v <;> simp [evalE])
@[simp] theorem evalE_5 : evalE T C (.glb y v) ⟨e0, h0⟩ = (fun s : S => (.ok (.v v) s)) ⟨e0, h0⟩ := by first | (rw [evalE]; done) | (rw [evalE]; rfl) | (cases v <;> simp [evalE])
@[simp] theorem evalE_6 : evalE T C (.bin op a b) ⟨e0, h0⟩ = (fun s : S => ((evalE T C a s).bnd fun x s => (evalE T C b s).bnd fun y s => R.op (binop op (deref s (opnd x)) (deref s (opnd y))) s)) ⟨e0, h0⟩ := by first | (rw [evalE]; done) | (rw [evalE]; rfl) | (cases v <;> simp [evalE])
@[simp] theorem evalE_7 : evalE T C (.neg a) ⟨e0, h0⟩ = (fun s : S => ((evalE T C a s).bnd fun x s => match deref s x with
    | .int i => .ok (.v (.int (-i))) s
    | _ => .bad)) ⟨e0, h0⟩ := by first | (rw [evalE]; done) | (rw [evalE]; rfl) | (cases v <;> simp [evalE])
@[simp] theorem evalE_8 : evalE T C (.cmp op a b) ⟨e0, h0⟩ = (fun s : S => ((evalE T C a s).bnd fun x s => (evalE T C b s).bnd fun y s => R.op ((cmpop op (deref s (opnd x)) (deref s (opnd y))).map fun b => .v (.bl b)) s)) ⟨e0, h0⟩ := by first | (rw [evalE]; done) | (rw [evalE]; rfl) | (cases v <;> simp [evalE])
@[simp] theorem evalE_9 : evalE T C (.deq ne a b) ⟨e0, h0⟩ = (fun s : S => ((evalE T C a s).bnd fun x s => (evalE T C b s).bnd fun y s => R.op ((veq (dp 3 s.h (deref s (opnd x))) (dp 3 s.h (deref s (opnd y)))).map fun k => .v (.bl (k != ne))) s)) ⟨e0, h0⟩ := by first | (rw [evalE]; done) | (rw [evalE]; rfl) | (cases v <;> simp [evalE])
@[simp] theorem evalE_10 : evalE T C (.chn o1 o2 a b c) ⟨e0, h0⟩ = (fun s : S => ((evalE T C a s).bnd fun x s => (evalE T C b s).bnd fun y s => (R.op (cmpop o1 (deref s (opnd x)) (deref s (opnd y))) s).bnd fun k s => R.two k ((evalE T C c s).bnd fun z s => R.op ((cmpop o2 (deref s (opnd y)) (deref s (opnd z))).map fun b => .v (.bl b)) s) (.ok (.v (.bl false)) s))) ⟨e0, h0⟩ := by first | (rw [evalE]; done) | (rw [evalE]; rfl) | (cases v <;> simp [evalE])
@[simp] theorem evalE_11 : evalE T C (.and a b) ⟨e0, h0⟩ = (fun s : S => ((evalE T C a s).vl.bnd fun x s => (R.op (asB x) s).bnd fun k s => R.two k (evalE T C b s) (.ok (.v (.bl false)) s))) ⟨e0, h0⟩ := by first | (rw [evalE]; done) | (rw [evalE]; rfl) | (cases v <;> simp [evalE])
@[simp] theorem evalE_12 : evalE T C (.or a b) ⟨e0, h0⟩ = (fun s : S => ((evalE T C a s).vl.bnd fun x s => (R.op (asB x) s).bnd fun k s => R.two k (.ok (.v (.bl true)) s) (evalE T C b s))) ⟨e0, h0⟩ := by first | (rw [evalE]; done) | (rw [evalE]; rfl) | (cases v <;> simp [evalE])
@[simp] theorem evalE_13 : evalE T C (.not a) ⟨e0, h0⟩ = (fun s : S => ((evalE T C a s).vl.bnd fun x s => (R.op (asB x) s).bnd fun k s => .ok (.v (.bl (!k))) s)) ⟨e0, h0⟩ := by first | (rw [evalE]; done) | (rw [evalE]; rfl) | (cases v <;> simp [evalE])
@[simp] theorem evalE_14 : evalE T C (.ite c a b) ⟨e0, h0⟩ = (fun s : S => ((evalE T C c s).vl.bnd fun x s => (R.op (asB x) s).bnd fun k s => R.two k ((evalE T C a s).vl.bnd fun x s => .ok (.v x) s) ((evalE T C b s).vl.bnd fun x s => .ok (.v x) s))) ⟨e0, h0⟩ := by first | (rw [evalE]; done) | (rw [evalE]; rfl) | (cases v <;> simp [evalE])
@[simp] theorem evalE_15 : evalE T C (.sub a b) ⟨e0, h0⟩ = (fun s : S => ((evalE T C a s).bnd fun x s => (evalE T C b s).vl.bnd fun y s => R.op ((vsub (deref s (opnd x)) y).map .v) s)) ⟨e0, h0⟩ := by first | (rw [evalE]; done) | (rw [evalE]; rfl) | (cases v <;> simp [evalE])
@[simp] theorem evalE_16 : evalE T C (.slc a lo hi) ⟨e0, h0⟩ = (fun s : S => ((evalE T C a s).bnd fun x s => (evalVs T C lo s).bnd fun l s => (evalVs T C hi s).bnd fun h s => match partV l, partV h with
    | some l, some h => R.op (vslice (deref s (opnd x)) l h) s
    | _, _ => .bad)) ⟨e0, h0⟩ := by first | (rw [evalE]; done) | (rw [evalE]; rfl) | (cases v <;> simp [evalE])
@[simp] theorem evalE_17 : evalE T C (.sls a st) ⟨e0, h0⟩ = (fun s : S => ((evalE T C a s).bnd fun x s => (evalE T C st s).vl.bnd fun k s => match k with
    | .int k => R.op (vstep (deref s (opnd x)) k) s
    | _ => .bad)) ⟨e0, h0⟩ := by first | (rw [evalE]; done) | (rw [evalE]; rfl) | (cases v <;> simp [evalE])
@[simp] theorem evalE_18 : evalE T C (.lst es) ⟨e0, h0⟩ = (fun s : S => ((evalVs T C es s).bnd fun vs s => .ok (.f (.lst vs false)) s)) ⟨e0, h0⟩ := by first | (rw [evalE]; done) | (rw [evalE]; rfl) | (cases v <;> simp [evalE])
@[simp] theorem evalE_19 : evalE T C (.tup es) ⟨e0, h0⟩ = (fun s : S => ((evalVs T C es s).bnd fun vs s => .ok (.v (.tup vs)) s)) ⟨e0, h0⟩ := by first | (rw [evalE]; done) | (rw [evalE]; rfl) | (cases v <;> simp [evalE])
theorem evalE_20 : evalE T C (.dsp es) ⟨e0, h0⟩ = (fun s : S => ((evalVs T C es s).bnd fun vs s => match kvsOf vs with
    | some kvs => .ok (.f (.dct (dmerge [] kvs) false)) s
    | none => .bad)) ⟨e0, h0⟩ := by first | (rw [evalE]; done) | (rw [evalE]; rfl) | (cases v <;> simp [evalE])
theorem evalE_21 : evalE T C (.lc elt p k src conds vs) (s) = ((evalOs T C src s).bind fun os s => match srcItems k (os.map (deref s)) with
    | none => .bad
    | some items => (compL (patSet p) (evalTs T C conds) (fun s => (evalE T C elt s).val) vs putL items { lockAll s os with e := wipeE (lockAll s os).e vs } []).bind fun acc s2 => .ok (.f (.lst acc false)) (unlockAll s { s2 with e := restE s.e s2.e vs } os)) := by first | (rw [evalE]; done) | (rw [evalE]; rfl)
theorem evalE_22 : evalE T C (.dc key elt p k src conds vs) (s) = ((evalOs T C src s).bind fun os s => match srcItems k (os.map (deref s)) with
    | none => .bad
    | some items => (compL (patSet p) (evalTs T C conds) (fun s => (evalE T C key s).val.bind fun kv s => (evalE T C elt s).val.bind fun x s => match keyV kv with | some k => .ok (k, x) s | none => .bad) vs putD items { lockAll s os with e := wipeE (lockAll s os).e vs } []).bind fun acc s2 => .ok (.f (.dct acc false)) (unlockAll s { s2 with e := restE s.e s2.e vs } os)) := by first | (rw [evalE]; done) | (rw [evalE]; rfl)
theorem evalE_23 : evalE T C (.lck elt p its i conds vs) (s) = (match slotOf s i with
    | .val (.dct kvs) => (compL (patSet p) (evalTs T C conds) (fun s => (evalE T C elt s).val) vs putL (keysV its kvs) { s with e := wipeE s.e vs } []).bind fun acc s2 => .ok (.f (.lst acc false)) { s2 with e := restE s.e s2.e vs }
    | .own (.dct kvs false) => (compL (patSet p) (evalTs T C conds) (fun s => (evalE T C elt s).val) vs putL (keysV its kvs) { s with e := wipeE (s.e.set i (.own (.dct kvs true))) vs } []).bind fun acc s2 => match slotOf { s2 with e := restE s.e s2.e vs } i with
      | .own (.dct kvs2 true) => .ok (.f (.lst acc false)) { s2 with e := (restE s.e s2.e vs).set i (.own (.dct kvs2 false)) }
      | _ => .bad
    | _ => .bad) := by first | (rw [evalE]; done) | (rw [evalE]; rfl)
@[simp] theorem evalE_24 : evalE T C (.bi f es) ⟨e0, h0⟩ = (fun s : S => ((evalOs T C es s).bnd fun os s => if (os.map (deref s)).all okV then R.op (biop f (os.map (deref s))) s else .bad)) ⟨e0, h0⟩ := by first | (rw [evalE]; done) | (rw [evalE]; rfl) | (cases v <;> simp [evalE])
theorem evalE_25 : evalE T C (.mt m o es) ⟨e0, h0⟩ = (fun s : S => ((evalE T C o s).bnd fun x s => match mkind m (deref s (opnd x)) with
    | false => .bad
    | true => (evalVs T C es s).bnd fun vs s => match mtop m (deref s (opnd x)) vs with
      | none => .bad
      | some (r, oc) => match putLoc s (opnd x) oc with
        | some s => .ok r s
        | none => .bad)) ⟨e0, h0⟩ := by first | (rw [evalE]; done) | (rw [evalE]; rfl) | (cases v <;> simp [evalE])
@[simp] theorem evalE_26 : evalE T C (.fn f es pm) ⟨e0, h0⟩ = (fun s : S => ((evalVs T C es s).bnd fun vs s => (C f (permV vs pm) s.h).bck s.e)) ⟨e0, h0⟩ := by first | (rw [evalE]; done) | (rw [evalE]; rfl) | (cases v <;> simp [evalE])
theorem evalE_27 : evalE T C (.me cs m o es pm) ⟨e0, h0⟩ = (fun s : S => ((evalE T C o s).vl.bnd fun x s => match insAt s x with
    | none => .bad
    | some (_, c, fs) => match decide (c ∈ cs), fs.lookup (m % 1000), T.mth c m with
      | true, none, some f => (evalVs T C es s).bnd fun vs s => (C f (x :: permV vs pm) s.h).bck s.e
      | _, _, _ => .bad)) ⟨e0, h0⟩ := by first | (rw [evalE]; done) | (rw [evalE]; rfl) | (cases v <;> simp [evalE])
theorem evalE_28 : evalE T C (.new c es pm) ⟨e0, h0⟩ = (fun s : S => ((evalVs T C es s).bnd fun vs s => match T.ini c with
    | none => .bad
    | some f => match C f (.ref s.h.length :: permV vs pm) (s.h ++ [.ins c []]) with
      | .ok .non s2 => .ok (.v (.ref s.h.length)) { s2 with e := s.e }
      | .exc c p s2 => .exc c p { s2 with e := s.e }
      | _ => .bad)) ⟨e0, h0⟩ := by first | (rw [evalE]; done) | (rw [evalE]; rfl) | (cases v <;> simp [evalE])
theorem evalE_29 : evalE T C (.att o f) ⟨e0, h0⟩ = (fun s : S => ((evalE T C o s).vl.bnd fun x s => match insAt s x with
    | none => .bad
    | some (_, c, fs) => if T.fld c f then R.op ((fs.lookup f).map .v) s else .bad)) ⟨e0, h0⟩ := by first | (rw [evalE]; done) | (rw [evalE]; rfl) | (cases v <;> simp [evalE])
theorem evalE_30 : evalE T C (.prp o p) ⟨e0, h0⟩ = (fun s : S => ((evalE T C o s).vl.bnd fun x s => match insAt s x with
    | none => .bad
    | some (_, c, fs) => match T.prp c p with
      | some f => (C f [x] s.h).bck s.e
      | none => .bad)) ⟨e0, h0⟩ := by first | (rw [evalE]; done) | (rw [evalE]; rfl) | (cases v <;> simp [evalE])
theorem evalE_31 : evalE T C (.inown ng m a o) ⟨e0, h0⟩ = (fun s : S => ((evalE T C a s).vl.bnd fun x s => (evalE T C o s).vl.bnd fun y s => match insAt s y with
    | none => .bad
    | some (_, c, fs) => match T.mth c m with
      | none => .bad
      | some f => match (C f [y, x] s.h).bck s.e with
        | .ok (.v (.bl b)) s2 => .ok (.v (.bl (b != ng))) s2
        | .exc c p s2 => .exc c p s2
        | _ => .bad)) ⟨e0, h0⟩ := by first | (rw [evalE]; done) | (rw [evalE]; rfl) | (cases v <;> simp [evalE])
theorem evalE_32 : evalE T C (.lenown m o) ⟨e0, h0⟩ = (fun s : S => ((evalE T C o s).vl.bnd fun y s => match insAt s y with
    | none => .bad
    | some (_, c, fs) => match T.mth c m with
      | none => .bad
      | some f => match (C f [y] s.h).bck s.e with
        | .ok (.v (.int i)) s2 => if decide (0 ≤ i) && decide (i < 2 ^ 63) then .ok (.v (.int i)) s2 else .bad
        | .exc c p s2 => .exc c p s2
        | _ => .bad)) ⟨e0, h0⟩ := by first | (rw [evalE]; done) | (rw [evalE]; rfl) | (cases v <;> simp [evalE])
theorem evalE_33 : evalE T C (.heap a) ⟨e0, h0⟩ = (fun s : S => ((evalE T C a s).bnd fun x s => match x with
    | .f c => toHeap c s
    | _ => .bad)) ⟨e0, h0⟩ := by first | (rw [evalE]; done) | (rw [evalE]; rfl) | (cases v <;> simp [evalE])
theorem evalE_34 : evalE T C (.lcr elt p a conds vs) (s) = ((evalE T C a s).bind fun x s => match x with
    | .v (.ref n) => match s.h[n]? with
      | some (.dct kvs _) => (compL (patSet p) (evalTs T C conds) (fun s => (evalE T C elt s).val) vs putL (keysV false kvs) { s with h := s.h.set n (.dct kvs true), e := wipeE s.e vs } []).bind fun acc s2 => .ok (.f (.lst acc false)) (unlockAll s { s2 with e := restE s.e s2.e vs } [.v (.ref n)])
      | _ => .bad
    | _ => .bad) := by first | (rw [evalE]; done) | (rw [evalE]; rfl)
theorem evalE_35 : evalE T C (.dcr key elt p a conds vs) (s) = ((evalE T C a s).bind fun x s => match x with
    | .v (.ref n) => match s.h[n]? with
      | some (.dct kvs _) => (compL (patSet p) (evalTs T C conds) (fun s => (evalE T C key s).val.bind fun kv s => (evalE T C elt s).val.bind fun x s => match keyV kv with | some k => .ok (k, x) s | none => .bad) vs putD (keysV false kvs) { s with h := s.h.set n (.dct kvs true), e := wipeE s.e vs } []).bind fun acc s2 => .ok (.f (.dct acc false)) (unlockAll s { s2 with e := restE s.e s2.e vs } [.v (.ref n)])
      | _ => .bad
    | _ => .bad) := by first | (rw [evalE]; done) | (rw [evalE]; rfl)
@[simp] theorem evalE_36 : evalE T C (.drep a) ⟨e0, h0⟩ = (fun s : S => ((evalE T C a s).bnd fun x s => R.op (biop .repr [dp 3 s.h (deref s (opnd x))]) s)) ⟨e0, h0⟩ := by first | (rw [evalE]; done) | (rw [evalE]; rfl) | (cases v <;> simp [evalE])
theorem evalE_37 : evalE T C (.mkod a) (s) = ((evalE T C a s).bind fun x s => match deref s (opnd x) with
    | .lst xs => match pairsV xs, oddV xs with
      | some kvs, _ => .ok (.f (.dct (dmerge [] kvs) false)) s
      | none, some kvs => if (kvs.map fun kv => nkV kv.1).Nodup ∧ kvs.length ≤ sizeLine then .ok (.v (.odd kvs)) s else .bad
      | _, _ => .bad
    | _ => .bad) := by first | (rw [evalE]; done) | (rw [evalE]; rfl)
theorem evalE_38 : evalE T C (.lci elt p its a conds vs) (s) = ((evalE T C a s).val.bind fun x s => match itemsI its x with
    | none => .bad
    | some items => (compL (patSet p) (evalTs T C conds) (fun s => (evalE T C elt s).val) vs putL items { s with e := wipeE s.e vs } []).bind fun acc s2 => .ok (.f (.lst acc false)) { s2 with e := restE s.e s2.e vs }) := by first | (rw [evalE]; done) | (rw [evalE]; rfl)
@[simp] theorem evalVs_1 : evalVs T C ([]) ⟨e0, h0⟩ = (fun s : S => (.ok [] s)) ⟨e0, h0⟩ := by first | (rw [evalVs]; done) | (rw [evalVs]; rfl) | (cases v <;> simp [evalVs])
@[simp] theorem evalVs_2 : evalVs T C (e :: es) ⟨e0, h0⟩ = (fun s : S => ((evalE T C e s).vl.bnd fun v s => (evalVs T C es s).bnd fun vs s => .ok (v :: vs) s)) ⟨e0, h0⟩ := by first | (rw [evalVs]; done) | (rw [evalVs]; rfl) | (cases v <;> simp [evalVs])
@[simp] theorem evalOs_1 : evalOs T C ([]) ⟨e0, h0⟩ = (fun s : S => (.ok [] s)) ⟨e0, h0⟩ := by first | (rw [evalOs]; done) | (rw [evalOs]; rfl) | (cases v <;> simp [evalOs])
@[simp] theorem evalOs_2 : evalOs T C (e :: es) ⟨e0, h0⟩ = (fun s : S => ((evalE T C e s).bnd fun v s => (evalOs T C es s).bnd fun vs s => .ok (opnd v :: vs) s)) ⟨e0, h0⟩ := by first | (rw [evalOs]; done) | (rw [evalOs]; rfl) | (cases v <;> simp [evalOs])
@[simp] theorem evalTs_1 : evalTs T C ([]) ⟨e0, h0⟩ = (fun s : S => (.ok true s)) ⟨e0, h0⟩ := by first | (rw [evalTs]; done) | (rw [evalTs]; rfl) | (cases v <;> simp [evalTs])
@[simp] theorem evalTs_2 : evalTs T C (e :: es) ⟨e0, h0⟩ = (fun s : S => ((evalE T C e s).vl.bnd fun x s => (R.op (asB x) s).bnd fun k s => R.two k (evalTs T C es s) (.ok false s))) ⟨e0, h0⟩ := by first | (rw [evalTs]; done) | (rw [evalTs]; rfl) | (cases v <;> simp [evalTs])
@[simp] theorem tgtSet_1 : tgtSet T C (.nm i) (v) ⟨e0, h0⟩ = (fun s : S => (.ok () { s with e := s.e.set i (.val v) })) ⟨e0, h0⟩ := by first | (rw [tgtSet]; done) | (rw [tgtSet]; rfl) | (cases v <;> simp [tgtSet])
theorem tgtSet_2 : tgtSet T C (.tp ts) (v) ⟨e0, h0⟩ = (fun s : S => (match v with
    | .tup vs => tgtSets T C ts vs s
    | .lst vs => tgtSets T C ts vs s
    | _ => .bad)) ⟨e0, h0⟩ := by first | (rw [tgtSet]; done) | (rw [tgtSet]; rfl) | (cases v <;> simp [tgtSet])
theorem tgtSet_3 : tgtSet T C (.sub o k) (v) ⟨e0, h0⟩ = (fun s : S => ((evalE T C o s).bnd fun x s => (evalE T C k s).vl.bnd fun i s => match deref s (opnd x) with
    | .lst xs => match i with
      | .int i => match ixN xs.length i with
        | some j => R.op (setLoc s (opnd x) (.lst (xs.set j v) false)) s |>.bnd fun s _ => .ok () s
        | none => .bad
      | _ => .bad
    | .dct kvs => match keyV i with
      | some k => if kvs.length < sizeLine then R.op (setLoc s (opnd x) (.dct (dput kvs k v) false)) s |>.bnd fun s _ => .ok () s else .bad
      | none => .bad
    | _ => .bad)) ⟨e0, h0⟩ := by first | (rw [tgtSet]; done) | (rw [tgtSet]; rfl) | (cases v <;> simp [tgtSet])
theorem tgtSet_4 : tgtSet T C (.att o f) (v) ⟨e0, h0⟩ = (fun s : S => ((evalE T C o s).vl.bnd fun x s => match insAt s x with
    | none => .bad
    | some (n, c, fs) => if T.fld c f && decide (fs.length < 900) then .ok () { s with h := s.h.set n (.ins c (putFs f v fs)) } else .bad)) ⟨e0, h0⟩ := by first | (rw [tgtSet]; done) | (rw [tgtSet]; rfl) | (cases v <;> simp [tgtSet])
@[simp] theorem tgtSet_5 : tgtSet T C (.sla o) (v) ⟨e0, h0⟩ = (fun s : S => ((evalE T C o s).bnd fun x s => match deref s (opnd x), v with
    | .lst xs, .lst ys => if xs.length + ys.length ≤ sizeLine then R.op (setLoc s (opnd x) (.lst ys false)) s |>.bnd fun s _ => .ok () s else .bad
    | _, _ => .bad)) ⟨e0, h0⟩ := by first | (rw [tgtSet]; done) | (rw [tgtSet]; rfl) | (cases v <;> simp [tgtSet])
@[simp] theorem tgtSets_1 : tgtSets T C ([]) ([]) ⟨e0, h0⟩ = (fun s : S => (.ok () s)) ⟨e0, h0⟩ := by first | (rw [tgtSets]; done) | (rw [tgtSets]; rfl) | (cases v <;> simp [tgtSets])
@[simp] theorem tgtSets_2 : tgtSets T C (t :: ts) (v :: vs) ⟨e0, h0⟩ = (fun s : S => ((tgtSet T C t v s).bnd fun _ s => tgtSets T C ts vs s)) ⟨e0, h0⟩ := by first | (rw [tgtSets]; done) | (rw [tgtSets]; rfl) | (cases v <;> simp [tgtSets])
@[simp] theorem execS_1 : execS T C (.ex e) ⟨e0, h0⟩ = (fun s : S => ((evalE T C e s).bnd fun _ s => .ok .nx s)) ⟨e0, h0⟩ := by first | (rw [execS]; done) | (rw [execS]; rfl) | (cases v <;> simp [execS])
@[simp] theorem execS_2 : execS T C (.asg t e) ⟨e0, h0⟩ = (fun s : S => ((evalE T C e s).vl.bnd fun v s => (tgtSet T C t v s).bnd fun _ s => .ok .nx s)) ⟨e0, h0⟩ := by first | (rw [execS]; done) | (rw [execS]; rfl) | (cases v <;> simp [execS])
theorem execS_3 : execS T C (.own i e) ⟨e0, h0⟩ = (fun s : S => ((evalE T C e s).bnd fun x s => match x with
    | .f c => .ok .nx { s with e := s.e.set i (.own c) }
    | _ => .bad)) ⟨e0, h0⟩ := by first | (rw [execS]; done) | (rw [execS]; rfl) | (cases v <;> simp [execS])
theorem execS_4 : execS T C (.par i j oi oj a b) ⟨e0, h0⟩ = (fun s : S => ((evalE T C a s).bnd fun x s => (evalE T C b s).bnd fun y s => match put1 oi x, put1 oj y with
    | some u, some v => .ok .nx { s with e := (s.e.set i u).set j v }
    | _, _ => .bad)) ⟨e0, h0⟩ := by first | (rw [execS]; done) | (rw [execS]; rfl) | (cases v <;> simp [execS])
theorem execS_5 : execS T C (.par3 i j l oi oj ol a b c) ⟨e0, h0⟩ = (fun s : S => ((evalE T C a s).bnd fun x s => (evalE T C b s).bnd fun y s => (evalE T C c s).bnd fun z s => match put1 oi x, put1 oj y, put1 ol z with
    | some u, some v, some w => .ok .nx { s with e := ((s.e.set i u).set j v).set l w }
    | _, _, _ => .bad)) ⟨e0, h0⟩ := by first | (rw [execS]; done) | (rw [execS]; rfl) | (cases v <;> simp [execS])
theorem execS_6 : execS T C (.aug i op e) ⟨e0, h0⟩ = (fun s : S => (match slotOf s i with
    | .val x => (evalE T C e s).bnd fun y s => (R.op (iop op x (deref s (opnd y))) s).vl.bnd fun z s => .ok .nx { s with e := s.e.set i (.val z) }
    | _ => .bad)) ⟨e0, h0⟩ := by first | (rw [execS]; done) | (rw [execS]; rfl) | (cases v <;> simp [execS])
theorem execS_7 : execS T C (.augS o k op e) ⟨e0, h0⟩ = (fun s : S => ((evalE T C o s).bnd fun x s => (evalE T C k s).vl.bnd fun i s => match vsubL (deref s (opnd x)) i with
    | none => .bad
    | some old => (evalE T C e s).vl.bnd fun y s => (R.op (iop op old y) s).vl.bnd fun z s => match deref s (opnd x), i with
      | .lst xs, .int i => match ixN xs.length i with
        | some j => R.op (setLoc s (opnd x) (.lst (xs.set j z) false)) s |>.bnd fun s _ => .ok .nx s
        | none => .bad
      | _, _ => .bad)) ⟨e0, h0⟩ := by first | (rw [execS]; done) | (rw [execS]; rfl) | (cases v <;> simp [execS])
theorem execS_8 : execS T C (.augA o f op e) ⟨e0, h0⟩ = (fun s : S => ((evalE T C o s).vl.bnd fun x s => match insAt s x with
    | none => .bad
    | some (_, c, fs) => match T.fld c f, fs.lookup f with
      | true, some old => (evalE T C e s).vl.bnd fun y s => (R.op (iop op old y) s).vl.bnd fun z s => match insAt s x with
        | some (n, c2, fs) => if decide (c2 = c) && decide (fs.length < 900) then .ok .nx { s with h := s.h.set n (.ins c (putFs f z fs)) } else .bad
        | none => .bad
      | _, _ => .bad)) ⟨e0, h0⟩ := by first | (rw [execS]; done) | (rw [execS]; rfl) | (cases v <;> simp [execS])
theorem execS_9 : execS T C (.del o k) ⟨e0, h0⟩ = (fun s : S => ((evalE T C o s).bnd fun x s => (evalE T C k s).vl.bnd fun i s => match deref s (opnd x), keyV i with
    | .dct kvs, some k => if (dget kvs k).isSome then R.op (setLoc s (opnd x) (.dct (ddrop kvs k) false)) s |>.bnd fun s _ => .ok .nx s else .bad
    | _, _ => .bad)) ⟨e0, h0⟩ := by first | (rw [execS]; done) | (rw [execS]; rfl) | (cases v <;> simp [execS])
theorem execS_10 : execS T C (.ite c a b) ⟨e0, h0⟩ = (fun s : S => ((evalB T C c s).bnd fun k s => R.two k (execSs T C a s) (execSs T C b s))) ⟨e0, h0⟩ := by first | (rw [execS]; done) | (rw [execS]; rfl) | (cases v <;> simp [execS])
theorem execS_11 : execS T C (.whl c b) (s) = (whileL (evalB T C c) (execSs T C b) T.fuel s) := by first | (rw [execS]; done) | (rw [execS]; rfl)
theorem execS_12 : execS T C (.for_ p k src b) (s) = ((evalOs T C src s).bind fun os s => match noSl os, srcItems k (os.map (deref s)) with
    | true, some items => (forL (patSet p) (execSs T C b) items (lockAll s os)).bind fun fl s2 => .ok fl (unlockAll s s2 os)
    | _, _ => .bad) := by first | (rw [execS]; done) | (rw [execS]; rfl)
@[simp] theorem execS_13 : execS T C (.ret e) ⟨e0, h0⟩ = (fun s : S => ((evalE T C e s).vl.bnd fun x s => .ok (.rt x) s)) ⟨e0, h0⟩ := by first | (rw [execS]; done) | (rw [execS]; rfl) | (cases v <;> simp [execS])
@[simp] theorem execS_14 : execS T C (.retN) ⟨e0, h0⟩ = (fun s : S => (.ok (.rt .non) s)) ⟨e0, h0⟩ := by first | (rw [execS]; done) | (rw [execS]; rfl) | (cases v <;> simp [execS])
@[simp] theorem execS_15 : execS T C (.pas) ⟨e0, h0⟩ = (fun s : S => (.ok .nx s)) ⟨e0, h0⟩ := by first | (rw [execS]; done) | (rw [execS]; rfl) | (cases v <;> simp [execS])
@[simp] theorem execS_16 : execS T C (.bk) ⟨e0, h0⟩ = (fun s : S => (.ok .bk s)) ⟨e0, h0⟩ := by first | (rw [execS]; done) | (rw [execS]; rfl) | (cases v <;> simp [execS])
@[simp] theorem execS_17 : execS T C (.ct) ⟨e0, h0⟩ = (fun s : S => (.ok .ct s)) ⟨e0, h0⟩ := by first | (rw [execS]; done) | (rw [execS]; rfl) | (cases v <;> simp [execS])
theorem execS_19 : execS T C (.forr p a b) (s) = ((evalE T C a s).bind fun x s => match x with
    | .v (.ref n) => match s.h[n]? with
      | some (.dct kvs _) => (forL (patSet p) (execSs T C b) (keysV false kvs) { s with h := s.h.set n (.dct kvs true) }).bind fun fl s2 => .ok fl (unlockAll s s2 [.v (.ref n)])
      | _ => .bad
    | _ => .bad) := by first | (rw [execS]; done) | (rw [execS]; rfl)
theorem execS_20 : execS T C (.fori p its a b) (s) = ((evalE T C a s).val.bind fun x s => match itemsI its x with
    | none => .bad
    | some items => forL (patSet p) (execSs T C b) items s) := by first | (rw [execS]; done) | (rw [execS]; rfl)
@[simp] theorem execS_24 : execS T C (.rais c e) ⟨e0, h0⟩ = (fun s : S => (.bad)) ⟨e0, h0⟩ := by first | (rw [execS]; done) | (rw [execS]; rfl) | (cases v <;> simp [execS])
@[simp] theorem execSs_1 : execSs T C ([]) ⟨e0, h0⟩ = (fun s : S => (.ok .nx s)) ⟨e0, h0⟩ := by first | (rw [execSs]; done) | (rw [execSs]; rfl) | (cases v <;> simp [execSs])
theorem execSs_2 : execSs T C (st :: r) ⟨e0, h0⟩ = (fun s : S => (match execS T C st s with
    | .ok .nx s => execSs T C r s
    | x => x)) ⟨e0, h0⟩ := by first | (rw [execSs]; done) | (rw [execSs]; rfl) | (cases v <;> simp [execSs])
end
end Rs
end
section
set_option maxRecDepth 100000
set_option maxHeartbeats 4000000
/-! The laws' own draws: what they give, whatever the script. -/
namespace Rs
open PySem L2
def fc (d x : Int) : Cell := .lst [.int d, .int x] false
def IsFeed (h : List Cell) (i : Nat) : Prop := ∃ d x, h[i]? = some (fc d x)
theorem IsFeed.lt {h : List Cell} {i : Nat} (f : IsFeed h i) : i < h.length := by
  obtain ⟨d, x, e⟩ := f
  exact (List.getElem?_eq_some_iff.mp e).1
theorem IsFeed.set {h : List Cell} {i : Nat} (f : IsFeed h i) (d x : Int) : IsFeed (h.set i (fc d x)) i := ⟨d, x, List.getElem?_set_self f.lt⟩
theorem isFeed_app (h : List Cell) (d x : Int) : IsFeed (h ++ [fc d x]) h.length := ⟨d, x, by simp⟩
theorem set_app (h : List Cell) (c c' : Cell) : (h ++ [c]).set h.length c' = h ++ [c'] := by
  rw [List.set_append_right _ _ (Nat.le_refl _), Nat.sub_self]
  rfl
/-- two lists, item by item -/
def All2 {α β : Type} (P : α → β → Prop) : List α → List β → Prop
  | [], [] => True
  | a :: as, b :: bs => P a b ∧ All2 P as bs
  | _, _ => False
theorem All2.len {α β : Type} {P : α → β → Prop} : ∀ {as : List α} {bs : List β}, All2 P as bs → bs.length = as.length
  | [], [], _ => rfl
  | _ :: _, [], h => h.elim
  | [], _ :: _, h => h.elim
  | _ :: as, _ :: bs, h => by simp [execSs_2, execS_10, evalE_20, evalE_25, evalE_27, evalE_28, evalE_29, evalE_30, evalE_31, evalE_32, evalE_33, tgtSet_2, tgtSet_3, tgtSet_4, execS_3, execS_4, execS_5, execS_6, execS_7, execS_8, execS_9, All2.len h.2]
theorem All2.mem {α β : Type} {P : α → β → Prop} : ∀ {as : List α} {bs : List β}, All2 P as bs → ∀ b ∈ bs, ∃ a ∈ as, P a b
  | [], [], _, b, hb => by simp at hb
  | _ :: _, [], h, _, _ => h.elim
  | [], _ :: _, h, _, _ => h.elim
  | a :: as, c :: bs, h, b, hb => by
    rcases List.mem_cons.mp hb with rfl | hb
    · exact ⟨a, by simp, h.1⟩
    · obtain ⟨a', h1, h2⟩ := All2.mem h.2 b hb
      exact ⟨a', by simp [execSs_2, execS_10, evalE_20, evalE_25, evalE_27, evalE_28, evalE_29, evalE_30, evalE_31, evalE_32, evalE_33, tgtSet_2, tgtSet_3, tgtSet_4, execS_3, execS_4, execS_5, execS_6, execS_7, execS_8, execS_9, h1], h2⟩
section
variable {T : Tab}
theorem call_eq {fs : List Fd} {n i : Nat} {d : Fd} (vs : List Val) (h : List Cell) (e : fs[i]? = some d) (l : vs.length = d.np) : callI T fs (n + 1) i vs h = match execSs T (callI T fs n) d.body ⟨vs.map .val ++ List.replicate (d.nn - d.np) .no, h⟩ with
    | .ok .nx s => .ok .non ⟨[], s.h⟩
    | .ok (.rt v) s => .ok v ⟨[], s.h⟩
    | .ok _ _ => .bad
    | _ => exOut (excSs T (callI T fs n) d.body ⟨vs.map .val ++ List.replicate (d.nn - d.np) .no, h⟩) := by
  show (match fs[i]? with
    | some d => runFd T (callI T fs n) d vs h
    | none => .bad) = _
  rw [e]
  show runFd T (callI T fs n) d vs h = _
  generalize callI T fs n = Fc
  unfold runFd
  rw [if_pos l] <;> rfl
theorem call_rt {fs : List Fd} {n i : Nat} {d : Fd} {vs : List Val} {h : List Cell} {env : List Slot} {v : Val} {s2 : S} (e : fs[i]? = some d) (l : vs.length = d.np) (he : vs.map .val ++ List.replicate (d.nn - d.np) .no = env) (hb : execSs T (callI T fs n) d.body ⟨env, h⟩ = .ok (.rt v) s2) : callI T fs (n + 1) i vs h = .ok v ⟨[], s2.h⟩ := by
  rw [call_eq vs h e l, he, hb]
theorem call_nx {fs : List Fd} {n i : Nat} {d : Fd} {vs : List Val} {h : List Cell} {env : List Slot} {s2 : S} (e : fs[i]? = some d) (l : vs.length = d.np) (he : vs.map .val ++ List.replicate (d.nn - d.np) .no = env) (hb : execSs T (callI T fs n) d.body ⟨env, h⟩ = .ok .nx s2) : callI T fs (n + 1) i vs h = .ok .non ⟨[], s2.h⟩ := by
  rw [call_eq vs h e l, he, hb]
theorem seq_nx {C : Call} {st : IS} {r : List IS} {s s1 : S} (h : execS T C st s = .ok .nx s1) : execSs T C (st :: r) s = execSs T C r s1 := by
  cases s; rw [execSs_2]; simp only [h]
theorem seq_rt {C : Call} {st : IS} {r : List IS} {s s1 : S} {v : Val} (h : execS T C st s = .ok (.rt v) s1) : execSs T C (st :: r) s = .ok (.rt v) s1 := by
  cases s; rw [execSs_2]; simp only [h]
/-! ### loops -/
theorem comp_feed {st : Val → List Slot → Option (List Slot)} {tst : S → R Bool} {elt : S → R Val} {vs : List Nat} {e0 : List Slot} {i : Nat} {h0 : List Cell} (P : Val → Val → Prop) :
    ∀ (items acc : List Val) (d x : Int), (∀ it ∈ items, ∀ d x, ∃ e1 y d' x', st it e0 = some e1 ∧ tst ⟨e1, h0.set i (fc d x)⟩ = .ok true ⟨e1, h0.set i (fc d x)⟩ ∧ elt ⟨e1, h0.set i (fc d x)⟩ = .ok y ⟨e1, h0.set i (fc d' x')⟩ ∧ wipeE e1 vs = e0 ∧ P it y) →
      acc.length + items.length ≤ sizeLine → ∃ ys d' x', compL st tst elt vs putL items ⟨e0, h0.set i (fc d x)⟩ acc = .ok (acc ++ ys) ⟨e0, h0.set i (fc d' x')⟩ ∧ All2 P items ys
  | [], acc, d, x, _, _ => ⟨[], d, x, by simp [execSs_2, execS_10, evalE_20, evalE_25, evalE_27, evalE_28, evalE_29, evalE_30, evalE_31, evalE_32, evalE_33, tgtSet_2, tgtSet_3, tgtSet_4, execS_3, execS_4, execS_5, execS_6, execS_7, execS_8, execS_9, compL], trivial⟩
  | it :: items, acc, d, x, h, hl => by
    obtain ⟨e1, y, d1, x1, h1, h2, h3, h4, h5⟩ := h it (by simp) d x
    simp only [List.length_cons] at hl
    obtain ⟨ys, d2, x2, k1, k2⟩ := comp_feed P items (acc ++ [y]) d1 x1 (fun it hit => h it (by simp [execSs_2, execS_10, evalE_20, evalE_25, evalE_27, evalE_28, evalE_29, evalE_30, evalE_31, evalE_32, evalE_33, tgtSet_2, tgtSet_3, tgtSet_4, execS_3, execS_4, execS_5, execS_6, execS_7, execS_8, execS_9, hit])) (by simp; omega)
    refine ⟨y :: ys, d2, x2, ?_, h5, k2⟩
    unfold compL
    have hp : putL acc y = some (acc ++ [y]) := by unfold putL; rw [if_pos (by omega)]
    simp only [h1, h2, R.bind, h3, hp, h4]
    rw [k1]
    simp
theorem lc_eq {C : Call} {elt : IE} {p : Pat} {k : Sk} {src conds : List IE} {vs : List Nat} {s s1 s2 : S} {os : List Rv} {items acc : List Val} (h1 : evalOs T C src s = .ok os s1) (h2 : srcItems k (os.map (deref s1)) = some items)
    (h3 : compL (patSet p) (evalTs T C conds) (fun s => (evalE T C elt s).val) vs putL items { lockAll s1 os with e := wipeE (lockAll s1 os).e vs } [] = .ok acc s2) : evalE T C (.lc elt p k src conds vs) s = .ok (.f (.lst acc false)) (unlockAll s1 { s2 with e := restE s1.e s2.e vs } os) := by
  rw [evalE]
  rw [h1]
  simp only [R.bind, h2, h3]
end
section
variable {T : Tab}
end
/-! ### texts in order -/
def strLe (a b : Str) : Bool := PySem.W.dataLe false dD (.str a) (.str b)
def sortS (xs : List Str) : List Str := xs.mergeSort strLe
theorem toDs_str : ∀ xs : List Str, toDs (xs.map Val.str) = some (xs.map PyData.str)
  | [] => by simp [execSs_2, execS_10, evalE_20, evalE_25, evalE_27, evalE_28, evalE_29, evalE_30, evalE_31, evalE_32, evalE_33, tgtSet_2, tgtSet_3, tgtSet_4, execS_3, execS_4, execS_5, execS_6, execS_7, execS_8, execS_9, toDs]
  | x :: xs => by
    rw [List.map_cons]
    unfold toDs
    rw [toDs_str xs]
    simp [execSs_2, execS_10, evalE_20, evalE_25, evalE_27, evalE_28, evalE_29, evalE_30, evalE_31, evalE_32, evalE_33, tgtSet_2, tgtSet_3, tgtSet_4, execS_3, execS_4, execS_5, execS_6, execS_7, execS_8, execS_9, toD]
theorem vsort_str (xs : List Str) (h : xs.length ≤ sizeLine) : vsort (xs.map Val.str) = some ((sortS xs).map Val.str) := by
  unfold vsort
  rw [isort_data]
  rw [toDs_str]
  have h1 : allAlike (xs.map PyData.str) = true := by simp [execSs_2, execS_10, evalE_20, evalE_25, evalE_27, evalE_28, evalE_29, evalE_30, evalE_31, evalE_32, evalE_33, tgtSet_2, tgtSet_3, tgtSet_4, execS_3, execS_4, execS_5, execS_6, execS_7, execS_8, execS_9, allAlike, PySem.W.alike]
  have h2 : sortable (xs.map PyData.str) = true := by unfold sortable; rw [Bool.or_eq_true]; right; simp
  have h3 : ((xs.map PyData.str).all okD) = true := by simp [execSs_2, execS_10, evalE_20, evalE_25, evalE_27, evalE_28, evalE_29, evalE_30, evalE_31, evalE_32, evalE_33, tgtSet_2, tgtSet_3, tgtSet_4, execS_3, execS_4, execS_5, execS_6, execS_7, execS_8, execS_9, okD, PyData.plain, PyData.depth]
  simp only [h1, h2, h3, Bool.true_and, List.length_map]
  rw [if_pos (by simpa using h)]
  congr 1
  exact (List.map_mergeSort (f := Val.str) (r := strLe) (s := PySem.W.dataLe false dD) (l := xs) fun a _ b _ => rfl).symm
theorem sortS_perm (xs : List Str) : (sortS xs).Perm xs := List.mergeSort_perm _ _
/-! ### the draws -/
structure HasGen (fs : List Fd) : Prop where
  f0 : fs[0]? = some fd__law_feed
  f1 : fs[1]? = some fd__law_take
  f2 : fs[2]? = some fd__law_pick
  f3 : fs[3]? = some fd__law_names
  f4 : fs[4]? = some fd__law_things
  f5 : fs[5]? = some fd__law_event
  f6 : fs[6]? = some fd__law_row
/-- those of a law without rows -/
structure HasThg (fs : List Fd) : Prop where
  f1 : fs[1]? = some fd__law_take
  f2 : fs[2]? = some fd__law_pick
  f3 : fs[3]? = some fd__law_names
  f4 : fs[4]? = some fd__law_things
section
variable {T : Tab} {fs : List Fd}
theorem take_ok (f1 : fs[1]? = some fd__law_take) (n : Nat) (h : List Cell) (i : Nat) (size : Int) (hc : IsFeed h i) (h0 : 0 < size) (h1 : size < 1073741824) :
    ∃ r d' x' e2, callI T fs (n + 1) 1 [.ref i, .int size] h = .ok (.int r) ⟨e2, h.set i (fc d' x')⟩ ∧ 0 ≤ r ∧ r < size := by
  obtain ⟨d, x, hc⟩ := hc
  unfold fc at hc
  have hi : i < h.length := (List.getElem?_eq_some_iff.mp hc).1
  have c1 : (h.set i (.lst [.int d, .int ((x * 69069 + 12345) % 4294967311)] false))[i]? = some (.lst [.int d, .int ((x * 69069 + 12345) % 4294967311)] false) := List.getElem?_set_self hi
  suffices ∃ r d' x' s2, callI T fs (n + 1) 1 [.ref i, .int size] h = .ok (.int r) s2 ∧ s2.h = h.set i (.lst [.int d', .int x'] false) ∧ 0 ≤ r ∧ r < size by
    obtain ⟨r, d', x', ⟨e2, h2⟩, a, b, c⟩ := this
    cases b
    exact ⟨r, d', x', e2, a, c⟩
  rw [call_eq _ _ f1 rfl]
  by_cases hd : 0 < d
  · refine ⟨d % size, d / size, x, ?_⟩
    simp [execSs_2, execS_10, evalE_20, evalE_25, evalE_27, evalE_28, evalE_29, evalE_30, evalE_31, evalE_32, evalE_33, tgtSet_2, tgtSet_3, tgtSet_4, execS_3, execS_4, execS_5, execS_6, execS_7, execS_8, execS_9, is__law_take, hc, cmpop, vlt, vsub, atI, ixN, binop, biop, okV, h0, h1, hd]
    exact ⟨Int.emod_nonneg _ (by omega), Int.emod_lt_of_pos _ h0⟩
  · refine ⟨((x * 69069 + 12345) % 4294967311 / 65536) % size, d, (x * 69069 + 12345) % 4294967311, ?_⟩
    simp [execSs_2, execS_10, evalE_20, evalE_25, evalE_27, evalE_28, evalE_29, evalE_30, evalE_31, evalE_32, evalE_33, tgtSet_2, tgtSet_3, tgtSet_4, execS_3, execS_4, execS_5, execS_6, execS_7, execS_8, execS_9, is__law_take, hc, c1, cmpop, vlt, vsub, atI, ixN, binop, biop, okV, okMul, h0, h1, hd]
    exact ⟨Int.emod_nonneg _ (by omega), Int.emod_lt_of_pos _ h0⟩
theorem feed_ok (f0 : fs[0]? = some fd__law_feed) (n : Nat) (h : List Cell) (ns : List Int) (k : Int) (hl : ns.length ≤ 63) : ∃ d x e2, callI T fs (n + 1) 0 [.scr ns, .int k] h = .ok (.ref h.length) ⟨e2, h ++ [fc d x]⟩ := by
  suffices ∃ d x s2, callI T fs (n + 1) 0 [.scr ns, .int k] h = .ok (.ref h.length) s2 ∧ s2.h = h ++ [.lst [.int d, .int x] false] by
    obtain ⟨d', x', ⟨e2, h2⟩, a, b⟩ := this
    cases b
    exact ⟨d', x', e2, a⟩
  rw [call_eq _ _ f0 rfl]
  have hc : ((cut ns (some k) (some (k + 1))).map Val.int).length + 1 ≤ sizeLine := by
    have : (cut ns (some k) (some (k + 1))).length ≤ ns.length := by unfold cut; simp; omega
    simp only [List.length_map]
    have h2 : (64 : Nat) ≤ sizeLine := by decide
    omega
  have hc2 : (cut ns (some k) (some (k + 1))).length < sizeLine := by simp only [List.length_map] at hc; omega
  have hc3 : (cut ns (some k) (some (k + 1))).length + 1 ≤ sizeLine := hc2
  obtain ⟨v, hv⟩ : ∃ v : Int, ∃ r, (cut ns (some k) (some (k + 1))).map Val.int ++ [.int (71 * k + 23)] = .int v :: r := by
    cases cut ns (some k) (some (k + 1)) with
    | nil => exact ⟨_, [], rfl⟩
    | cons a b => exact ⟨a, _, rfl⟩
  obtain ⟨r, hv⟩ := hv
  refine ⟨if (if v < 0 then -v else v) - 10 ^ 18 > 0 then (if v < 0 then -v else v) - 10 ^ 18 else 0, ((if v < 0 then -v else v) % 1000003 * 7919 + 31 * k + 17) % 1000033, ?_⟩
  simp [execSs_2, execS_10, evalE_20, evalE_25, evalE_27, evalE_28, evalE_29, evalE_30, evalE_31, evalE_32, evalE_33, tgtSet_2, tgtSet_3, tgtSet_4, execS_3, execS_4, execS_5, execS_6, execS_7, execS_8, execS_9, is__law_feed, hc, hc2, hc3, hv, cmpop, vlt, vsub, atI, ixN, binop, biop, okV, okMul, vslice, partV, itemsV]
theorem pick_ok (f1 : fs[1]? = some fd__law_take) (f2 : fs[2]? = some fd__law_pick) (n : Nat) (h : List Cell) (i : Nat) (cs : List Val) (hc : IsFeed h i) (h0 : cs ≠ []) (h1 : cs.length < 1073741824) :
    ∃ r d' x' e2, callI T fs (n + 2) 2 [.ref i, .lst cs] h = .ok r ⟨e2, h.set i (fc d' x')⟩ ∧ r ∈ cs := by
  have h2 : 0 < cs.length := List.length_pos_iff.mpr h0
  obtain ⟨r, d', x', e2, e, g1, g2⟩ := take_ok (T := T) f1 n h i cs.length hc (by omega) (by omega)
  have hr : r.toNat < cs.length := by omega
  suffices ∃ s2, callI T fs (n + 2) 2 [.ref i, .lst cs] h = .ok cs[r.toNat] s2 ∧ s2.h = h.set i (fc d' x') by
    obtain ⟨⟨e2, h2⟩, a, b⟩ := this
    cases b
    exact ⟨_, d', x', e2, a, by simp⟩
  rw [call_eq _ _ f2 rfl]
  simp [execSs_2, execS_10, evalE_20, evalE_25, evalE_27, evalE_28, evalE_29, evalE_30, evalE_31, evalE_32, evalE_33, tgtSet_2, tgtSet_3, tgtSet_4, execS_3, execS_4, execS_5, execS_6, execS_7, execS_8, execS_9, is__law_pick, cmpop, vlt, vsub, atI, ixN, binop, biop, okV, e, g1, g2, hr]
end
end Rs
end
section
set_option maxRecDepth 100000
set_option maxHeartbeats 400000
/-! Steps of the interpreter, forwards: what stands after. -/
namespace Rs
open PySem L2
/-- r ends well, and Q stands then -/
def Wp {α : Type} (r : R α) (Q : α → S → Prop) : Prop := ∃ a s, r = .ok a s ∧ Q a s
def Vl (Q : Val → S → Prop) (x : Rv) (s : S) : Prop := ∃ v, freeze x = some v ∧ Q v s
def Op {α : Type} (o : Option α) (K : α → Prop) : Prop := ∃ a, o = some a ∧ K a
section
variable {α β : Type}
@[simp] theorem wp_ok {a : α} {s : S} {Q : α → S → Prop} : Wp (.ok a s) Q = Q a s := propext ⟨fun ⟨_, _, e, q⟩ => by cases e; exact q, fun q => ⟨a, s, rfl, q⟩⟩
@[simp] theorem wp_bad {Q : α → S → Prop} : Wp (.bad : R α) Q = False := propext ⟨fun ⟨_, _, e, _⟩ => (nomatch e), False.elim⟩
@[simp] theorem wp_exc {c : Nat} {p : Val} {s : S} {Q : α → S → Prop} : Wp (.exc c p s : R α) Q = False := propext ⟨fun ⟨_, _, e, _⟩ => (nomatch e), False.elim⟩
@[simp] theorem wp_bnd {r : R α} {k : α → S → R β} {Q : β → S → Prop} : Wp (r.bnd k) Q = Wp r (fun a s => Wp (k a s) Q) := by
  cases r with
  | ok a s => rw [wp_ok]; rfl
  | exc c p s => rw [wp_exc]; exact wp_exc
  | bad => rw [wp_bad]; exact wp_bad
@[simp] theorem wp_vl {r : R Rv} {Q : Val → S → Prop} : Wp r.vl Q = Wp r (Vl Q) := by
  cases r with
  | ok a s =>
    rw [wp_ok]
    show Wp (R.opt (freeze a) s) Q = Vl Q a s
    unfold Vl
    cases freeze a with
    | none => exact propext ⟨fun ⟨_, _, e, _⟩ => (nomatch e), fun ⟨_, e, _⟩ => nomatch e⟩
    | some v => exact wp_ok.trans (propext ⟨fun q => ⟨v, rfl, q⟩, fun ⟨_, e, q⟩ => by cases e; exact q⟩)
  | exc c p s => rw [wp_exc]; exact wp_exc
  | bad => rw [wp_bad]; exact wp_bad
@[simp] theorem wp_bck {r : R Val} {e : List Slot} {Q : Rv → S → Prop} : Wp (r.bck e) Q = Wp r (fun v s => Q (.v v) ⟨e, s.h⟩) := by
  cases r with
  | ok a s => rw [wp_ok]; exact wp_ok
  | exc c p s => rw [wp_exc]; exact wp_exc
  | bad => rw [wp_bad]; exact wp_bad
@[simp] theorem vl_kv {Q : Val → S → Prop} {x : Val} {s : S} : Vl Q (.v x) s = Q x s := propext ⟨fun ⟨_, e, q⟩ => (Option.some.inj e) ▸ q, fun q => ⟨x, rfl, q⟩⟩
@[simp] theorem vl_kf {Q : Val → S → Prop} {c : Cell} {s : S} : Vl Q (.f c) s = Q (imm c) s := propext ⟨fun ⟨_, e, q⟩ => (Option.some.inj e) ▸ q, fun q => ⟨_, rfl, q⟩⟩
@[simp] theorem wp_op {o : Option α} {s : S} {Q : α → S → Prop} : Wp (R.op o s) Q = Op o fun a => Q a s := by
  unfold Op
  cases o with
  | none => exact propext ⟨fun ⟨_, _, e, _⟩ => (nomatch e), fun ⟨_, e, _⟩ => nomatch e⟩
  | some v => exact wp_ok.trans (propext ⟨fun q => ⟨v, rfl, q⟩, fun ⟨_, e, q⟩ => by cases e; exact q⟩)
@[simp] theorem op_s {a : α} {K : α → Prop} : Op (some a) K = K a := propext ⟨fun ⟨_, e, q⟩ => (Option.some.inj e) ▸ q, fun q => ⟨a, rfl, q⟩⟩
@[simp] theorem op_n {K : α → Prop} : Op (none : Option α) K = False := propext ⟨fun ⟨_, e, _⟩ => (nomatch e), False.elim⟩
@[simp] theorem op_map {o : Option α} {f : α → β} {K : β → Prop} : Op (o.map f) K = Op o fun a => K (f a) := by
  cases o with
  | none => rw [op_n]; exact op_n
  | some v => rw [op_s]; exact op_s
@[simp] theorem op_if {c : Prop} [Decidable c] {a : α} {K : α → Prop} : Op (if c then some a else none) K = (c ∧ K a) := by
  by_cases h : c
  · rw [if_pos h, op_s]; exact propext ⟨fun q => ⟨h, q⟩, fun q => q.2⟩
  · rw [if_neg h, op_n]; exact propext ⟨False.elim, fun q => h q.1⟩
theorem wp_mono {r : R α} {Q Q' : α → S → Prop} (h : Wp r Q) (k : ∀ a s, Q a s → Q' a s) : Wp r Q' := let ⟨a, s, e, q⟩ := h; ⟨a, s, e, k a s q⟩
theorem wp_eq {r : R α} {a : α} {s : S} (h : Wp r fun b t => b = a ∧ t = s) : r = .ok a s := by
  obtain ⟨b, t, e, rfl, rfl⟩ := h
  exact e
theorem wp_of {r : R α} {a : α} {s : S} {Q : α → S → Prop} (e : r = .ok a s) (q : Q a s) : Wp r Q := ⟨a, s, e, q⟩
end
section
variable {T : Tab} {C : Call} {fs : List Fd} {n : Nat}
/-- what is left -/
def Sq (T : Tab) (C : Call) (r : List IS) (Q : Fl → S → Prop) (fl : Fl) (s : S) : Prop := match fl with
  | .nx => Wp (execSs T C r s) Q
  | fl => Q fl s
@[simp] theorem sq_nx {r : List IS} {Q : Fl → S → Prop} {s : S} : Sq T C r Q .nx s = Wp (execSs T C r s) Q := rfl
@[simp] theorem sq_rt {r : List IS} {Q : Fl → S → Prop} {s : S} {v : Val} : Sq T C r Q (.rt v) s = Q (.rt v) s := rfl
@[simp] theorem sq_bk {r : List IS} {Q : Fl → S → Prop} {s : S} : Sq T C r Q .bk s = Q .bk s := rfl
@[simp] theorem sq_ct {r : List IS} {Q : Fl → S → Prop} {s : S} : Sq T C r Q .ct s = Q .ct s := rfl
@[simp] theorem wp_ss {st : IS} {r : List IS} {e : List Slot} {h : List Cell} {Q : Fl → S → Prop} : Wp (execSs T C (st :: r) ⟨e, h⟩) Q = Wp (execS T C st ⟨e, h⟩) (Sq T C r Q) := by
  rw [execSs_2]
  show Wp (match execS T C st ⟨e, h⟩ with
    | .ok .nx s => execSs T C r s
    | x => x) Q = _
  cases execS T C st ⟨e, h⟩ with
  | ok fl s => cases fl <;> first | exact wp_ok.symm ▸ rfl | (rw [wp_ok, wp_ok]; rfl)
  | exc c p s => rw [wp_exc, wp_exc]
  | bad => rw [wp_bad, wp_bad]
@[simp] theorem wp_s0 {e : List Slot} {h : List Cell} {Q : Fl → S → Prop} : Wp (execSs T C [] ⟨e, h⟩) Q = Q .nx ⟨e, h⟩ := by
  rw [execSs_1]; exact wp_ok
@[simp] theorem execS_if {c : IE} {a b : List IS} {e0 : List Slot} {h0 : List Cell} : execS T C (.ite c a b) ⟨e0, h0⟩ = (evalB T C c ⟨e0, h0⟩).bnd fun k s => R.two k (execSs T C a s) (execSs T C b s) := by
  exact execS_10
def RetK (Q : Val → S → Prop) : Fl → S → Prop
  | .nx, s => Q .non ⟨[], s.h⟩
  | .rt v, s => Q v ⟨[], s.h⟩
  | _, _ => False
@[simp] theorem retK_nx {Q : Val → S → Prop} {e : List Slot} {h : List Cell} : RetK Q .nx ⟨e, h⟩ = Q .non ⟨[], h⟩ := rfl
@[simp] theorem retK_rt {Q : Val → S → Prop} {v : Val} {e : List Slot} {h : List Cell} : RetK Q (.rt v) ⟨e, h⟩ = Q v ⟨[], h⟩ := rfl
theorem wp_def {i : Nat} {d : Fd} {vs : List Val} {h : List Cell} {env : List Slot} {Q : Val → S → Prop} (e : fs[i]? = some d) (l : vs.length = d.np) (he : vs.map .val ++ List.replicate (d.nn - d.np) .no = env) (hb : Wp (execSs T (callI T fs n) d.body ⟨env, h⟩) (RetK Q)) : Wp (callI T fs (n + 1) i vs h) Q := by
  obtain ⟨fl, s, e2, q⟩ := hb
  cases fl with
  | nx => exact wp_of (call_nx e l he e2) q
  | rt v => exact wp_of (call_rt e l he e2) q
  | bk => exact q.elim
  | ct => exact q.elim
end
/-! ### loops -/
/-- some slots are changed -/
def Up : List Slot → List Nat → List Slot → List Slot
  | e, i :: is, a :: as => Up (e.set i a) is as
  | e, _, _ => e
@[simp] theorem up_0 {e : List Slot} {as : List Slot} : Up e [] as = e := by cases as <;> rfl
@[simp] theorem up_s {e : List Slot} {i : Nat} {is : List Nat} {a : Slot} {as : List Slot} : Up e (i :: is) (a :: as) = Up (e.set i a) is as := rfl
@[simp] theorem wipe_0 {e : List Slot} : wipeE e [] = e := rfl
@[simp] theorem wipe_s {e : List Slot} {v : Nat} {vs : List Nat} : wipeE e (v :: vs) = (wipeE e vs).set v .no := rfl
@[simp] theorem pat_nm {i : Nat} {v : Val} {e : List Slot} : patSet (.nm i) v e = some (e.set i (.val v)) := rfl
@[simp] theorem pat_tp {ps : List Pat} {vs : List Val} {e : List Slot} : patSet (.tp ps) (.tup vs) e = patSets ps vs e := rfl
@[simp] theorem pats_0 {e : List Slot} : patSets [] [] e = some e := rfl
@[simp] theorem pats_s {i : Nat} {ps : List Pat} {v : Val} {vs : List Val} {e : List Slot} : patSets (.nm i :: ps) (v :: vs) e = patSets ps vs (e.set i (.val v)) := rfl
@[simp] theorem filt_t {α : Type} {l : List α} : l.filter (fun _ => true) = l := by simp
section
variable {T : Tab} {C : Call}
theorem wp_forL {st : Val → List Slot → Option (List Slot)} {body : S → R Fl} {Q : Fl → S → Prop} (I : List Val → S → Prop) : ∀ (xs done : List Val) (s : S), I done s →
    (∀ pre x post s, done ++ xs = pre ++ x :: post → I pre s → ∃ e, st x s.e = some e ∧ Wp (body ⟨e, s.h⟩) fun fl s' => match fl with
      | .nx => I (pre ++ [x]) s'
      | .ct => I (pre ++ [x]) s'
      | .bk => Q .nx s'
      | .rt v => Q (.rt v) s') → (∀ s, I (done ++ xs) s → Q .nx s) → Wp (forL st body xs s) Q
  | [], done, s, h, _, f => wp_of (by simp [forL]) (f s (by simpa using h))
  | x :: xs, done, s, h, k, f => by
    obtain ⟨e, h1, fl, s1, h2, h3⟩ := k done x xs s rfl h
    have go : I (done ++ [x]) s1 → Wp (forL st body xs s1) Q := fun h3 => wp_forL I xs (done ++ [x]) s1 h3 (fun pre y post s hp hi => k pre y post s (by rw [← hp]; simp) hi) (fun s hs => f s (by simpa using hs))
    unfold forL
    have h2 : body { s with e := e } = .ok fl s1 := h2
    simp only [h1, h2]
    cases fl with
    | nx => exact go h3
    | ct => exact go h3
    | bk => exact wp_of rfl h3
    | rt v => exact wp_of rfl h3
/-! the source is walked, then the loop stands -/
def ForK (T : Tab) (C : Call) (p : Pat) (k : Sk) (b : List IS) (Q : Fl → S → Prop) (os : List Rv) (s : S) : Prop :=
  ∃ items, noSl os = true ∧ srcItems k (os.map (deref s)) = some items ∧ Wp (forL (patSet p) (execSs T C b) items (lockAll s os)) fun fl s2 => Q fl (unlockAll s s2 os)
@[simp] theorem wp_for {p : Pat} {k : Sk} {src : List IE} {b : List IS} {e : List Slot} {h : List Cell} {Q : Fl → S → Prop} : Wp (execS T C (.for_ p k src b) ⟨e, h⟩) Q = Wp (evalOs T C src ⟨e, h⟩) (ForK T C p k b Q) := by
  rw [execS_12]
  cases evalOs T C src ⟨e, h⟩ with
  | ok os s =>
    rw [wp_ok]
    show Wp (match noSl os, srcItems k (os.map (deref s)) with
      | true, some items => (forL (patSet p) (execSs T C b) items (lockAll s os)).bnd fun fl s2 => .ok fl (unlockAll s s2 os)
      | _, _ => .bad) Q = _
    unfold ForK
    cases noSl os with
    | false =>
      show Wp .bad Q = _
      rw [wp_bad]
      exact propext ⟨False.elim, fun ⟨_, z, _⟩ => nomatch z⟩
    | true =>
      cases srcItems k (os.map (deref s)) with
      | none =>
        show Wp .bad Q = _
        rw [wp_bad]
        exact propext ⟨False.elim, fun ⟨_, _, z, _⟩ => nomatch z⟩
      | some items =>
        show Wp ((forL (patSet p) (execSs T C b) items (lockAll s os)).bnd fun fl s2 => .ok fl (unlockAll s s2 os)) Q = _
        rw [wp_bnd]
        conv => lhs; simp only [wp_ok]
        exact propext ⟨fun z => ⟨items, rfl, rfl, z⟩, fun ⟨_, _, y, z⟩ => by cases y; exact z⟩
  | exc c v s => exact wp_exc.trans wp_exc.symm
  | bad => exact wp_bad.trans wp_bad.symm
/-- the end of a turn -/
def TurnK (e : List Slot) (ix : List Nat) (I : Nat → List Slot → List Cell → Prop) (Q : Fl → S → Prop) (i : Nat) (fl : Fl) (s : S) : Prop := match fl with
  | .nx => ∃ as, Up e ix as = s.e ∧ I i as s.h
  | .ct => ∃ as, Up e ix as = s.e ∧ I i as s.h
  | .bk => Q .nx s
  | .rt v => Q (.rt v) s
section
variable {e e0 : List Slot} {ix : List Nat} {I : Nat → List Slot → List Cell → Prop} {Q : Fl → S → Prop} {i : Nat} {h : List Cell}
@[simp] theorem turn_rt {v : Val} {s : S} : TurnK e ix I Q i (.rt v) s = Q (.rt v) s := rfl
@[simp] theorem turn_bk {s : S} : TurnK e ix I Q i .bk s = Q .nx s := rfl
end
/-- a for over what stays; the slots that its turns change are told -/
theorem forK_at {p : Pat} {k : Sk} {b : List IS} {e : List Slot} {h : List Cell} {os : List Rv} {items : List Val} {Q : Fl → S → Prop} (ix : List Nat) (I : Nat → List Slot → List Cell → Prop) (as0 : List Slot)
    (q2 : srcItems k (os.map (deref ⟨e, h⟩)) = some items) (he : Up e ix as0 = e) (h0 : I 0 as0 h)
    (hb : ∀ i x as g, items[i]? = some x → I i as g → ∀ K : Fl → S → Prop, (∀ as' g', I (i + 1) as' g' → K .nx ⟨Up e ix as', g'⟩) → (∀ v s, Q (.rt v) s → K (.rt v) s) → (∀ as' g', I (i + 1) as' g' → K .ct ⟨Up e ix as', g'⟩) → (∀ s, Q .nx s → K .bk s) → ∃ e', patSet p x (Up e ix as) = some e' ∧ Wp (execSs T C b ⟨e', g⟩) K)
    (hf : ∀ as g, I items.length as g → Q .nx ⟨Up e ix as, g⟩) (q0 : noSl os = true) (hl : lockAll ⟨e, h⟩ os = ⟨e, h⟩) (hu : ∀ s2, unlockAll ⟨e, h⟩ s2 os = s2) : ForK T C p k b Q os ⟨e, h⟩ := by
  refine ⟨items, q0, q2, ?_⟩
  rw [hl]
  simp only [hu]
  refine wp_forL (fun pre s => ∃ as, s.e = Up e ix as ∧ I pre.length as s.h) items [] ⟨e, h⟩ ⟨as0, he.symm, h0⟩ (fun pre x post s hp ⟨as, h2, h3⟩ => ?_) fun s ⟨as, h2, h3⟩ => ?_
  · rw [List.nil_append] at hp
    obtain ⟨e', h4, fl, s1, h5, h6⟩ := hb pre.length x as s.h (by rw [hp]; simp) h3 (TurnK e ix I Q (pre.length + 1)) (fun as' g' z => ⟨as', rfl, z⟩) (fun v s z => z) (fun as' g' z => ⟨as', rfl, z⟩) fun s z => z
    refine ⟨e', by rw [h2]; exact h4, fl, s1, h5, ?_⟩
    cases fl with
    | nx => obtain ⟨as', z1, z2⟩ := h6; exact ⟨as', z1.symm, by rw [List.length_append]; exact z2⟩
    | ct => obtain ⟨as', z1, z2⟩ := h6; exact ⟨as', z1.symm, by rw [List.length_append]; exact z2⟩
    | bk => exact h6
    | rt v => exact h6
  · have := hf as s.h h3
    rw [← h2] at this
    exact this
theorem forK_rng {p : Pat} {b : List IS} {e : List Slot} {h : List Cell} {os : List Rv} {Q : Fl → S → Prop} (ix : List Nat) (I : Nat → List Slot → List Cell → Prop) (as0 : List Slot) (lo : Int) (n : Nat)
    (q2 : srcItems .rng (os.map (deref ⟨e, h⟩)) = some (rangeV lo n)) (he : Up e ix as0 = e) (h0 : I 0 as0 h)
    (hb : ∀ i as g, i < n → I i as g → ∀ K : Fl → S → Prop, (∀ as' g', I (i + 1) as' g' → K .nx ⟨Up e ix as', g'⟩) → (∀ v s, Q (.rt v) s → K (.rt v) s) → (∀ as' g', I (i + 1) as' g' → K .ct ⟨Up e ix as', g'⟩) → (∀ s, Q .nx s → K .bk s) → ∃ e', patSet p (.int (lo + (i : Nat))) (Up e ix as) = some e' ∧ Wp (execSs T C b ⟨e', g⟩) K)
    (hf : ∀ as g, I n as g → Q .nx ⟨Up e ix as, g⟩) (q0 : noSl os = true := by rfl) (hl : lockAll ⟨e, h⟩ os = ⟨e, h⟩ := by rfl) (hu : ∀ s2, unlockAll ⟨e, h⟩ s2 os = s2 := by intro s2; rfl) : ForK T C p .rng b Q os ⟨e, h⟩ :=
  forK_at (items := rangeV lo n) ix I as0 q2 he h0 (fun i x as g hx hi => by
    unfold rangeV at hx
    rw [List.getElem?_map] at hx
    by_cases hn : i < n
    · rw [List.getElem?_range hn] at hx
      simp only [Option.map_some, Option.some.injEq] at hx
      rw [← hx]
      exact hb i as g hn hi
    · rw [List.getElem?_eq_none (by simpa using hn)] at hx
      cases hx) (fun as g hi => hf as g (by simpa [rangeV] using hi)) q0 hl hu
theorem small_ok {j : Int} (h0 : -1000000 ≤ j) (h : j < 1000000000) : smallI j = true := by unfold smallI; simp; omega
theorem rng1 {j : Int} (h0 : -1000000 ≤ j) (h : j < 1000000000) : srcItems .rng [.int j] = some (rangeV 0 j.toNat) := by
  simp only [srcItems]
  rw [if_pos (small_ok h0 h)]
/-! comprehensions -/
def LcK (T : Tab) (C : Call) (elt : IE) (p : Pat) (k : Sk) (conds : List IE) (vs : List Nat) (Q : Rv → S → Prop) (os : List Rv) (s : S) : Prop :=
  ∃ items, srcItems k (os.map (deref s)) = some items ∧ Wp (compL (patSet p) (evalTs T C conds) (fun s => (evalE T C elt s).val) vs putL items { lockAll s os with e := wipeE (lockAll s os).e vs } []) fun acc s2 => Q (.f (.lst acc false)) (unlockAll s { s2 with e := restE s.e s2.e vs } os)
@[simp] theorem wp_lc {elt : IE} {p : Pat} {k : Sk} {src conds : List IE} {vs : List Nat} {e : List Slot} {h : List Cell} {Q : Rv → S → Prop} : Wp (evalE T C (.lc elt p k src conds vs) ⟨e, h⟩) Q = Wp (evalOs T C src ⟨e, h⟩) (LcK T C elt p k conds vs Q) := by
  rw [evalE_21]
  cases evalOs T C src ⟨e, h⟩ with
  | ok os s =>
    rw [wp_ok]
    show Wp (match srcItems k (os.map (deref s)) with
      | none => .bad
      | some items => (compL (patSet p) (evalTs T C conds) (fun s => (evalE T C elt s).val) vs putL items { lockAll s os with e := wipeE (lockAll s os).e vs } []).bnd fun acc s2 => .ok (.f (.lst acc false)) (unlockAll s { s2 with e := restE s.e s2.e vs } os)) Q = _
    unfold LcK
    cases srcItems k (os.map (deref s)) with
    | none =>
      show Wp .bad Q = _
      rw [wp_bad]
      exact propext ⟨False.elim, fun ⟨_, z, _⟩ => nomatch z⟩
    | some items =>
      show Wp (R.bnd _ _) Q = _
      rw [wp_bnd]
      conv => lhs; simp only [wp_ok]
      exact propext ⟨fun z => ⟨items, rfl, z⟩, fun ⟨_, y, z⟩ => by cases y; exact z⟩
  | exc c v s => exact wp_exc.trans wp_exc.symm
  | bad => exact wp_bad.trans wp_bad.symm
/-- a comprehension that changes nothing: c tells what is taken, y what is made of it -/
theorem comp_map {α : Type} {st : Val → List Slot → Option (List Slot)} {tst : S → R Bool} {elt : S → R Val} {vs : List Nat} {ew : List Slot} {h : List Cell} (f : α → Val) (c : α → Bool) (y : α → Val) : ∀ (l : List α) (acc : List Val),
    (∀ a ∈ l, ∃ e1, st (f a) ew = some e1 ∧ wipeE e1 vs = ew ∧ tst ⟨e1, h⟩ = .ok (c a) ⟨e1, h⟩ ∧ (c a = true → elt ⟨e1, h⟩ = .ok (y a) ⟨e1, h⟩)) → acc.length + l.length ≤ sizeLine →
      compL st tst elt vs putL (l.map f) ⟨ew, h⟩ acc = .ok (acc ++ (l.filter c).map y) ⟨ew, h⟩
  | [], acc, _, _ => by simp [compL]
  | a :: l, acc, k, hl => by
    obtain ⟨e1, h1, h2, h3, h4⟩ := k a (by simp)
    simp only [List.length_cons] at hl
    rw [List.map_cons]
    unfold compL
    cases q : c a with
    | false =>
      rw [q] at h3
      simp only [h1, h3, R.bind, h2]
      rw [comp_map f c y l acc (fun b hb => k b (by simp [hb])) (by omega), List.filter_cons_of_neg (by simp [q])]
    | true =>
      rw [q] at h3
      have hp : putL acc (y a) = some (acc ++ [y a]) := by unfold putL; rw [if_pos (by omega)]
      simp only [h1, h3, R.bind, h4 q, hp, h2]
      rw [comp_map f c y l (acc ++ [y a]) (fun b hb => k b (by simp [hb])) (by simp; omega), List.filter_cons_of_pos (by simp [q])]
      simp
theorem lcK_map {α : Type} {elt : IE} {p : Pat} {k : Sk} {conds : List IE} {vs : List Nat} {e : List Slot} {h : List Cell} {os : List Rv} {Q : Rv → S → Prop} (l : List α) (f : α → Val) (c : α → Bool) (y : α → Val)
    (q2 : srcItems k (os.map (deref ⟨e, h⟩)) = some (l.map f)) (hs : l.length ≤ sizeLine)
    (hb : ∀ a ∈ l, ∃ e1, patSet p (f a) (wipeE e vs) = some e1 ∧ wipeE e1 vs = wipeE e vs ∧ (∀ K : Bool → S → Prop, K (c a) ⟨e1, h⟩ → Wp (evalTs T C conds ⟨e1, h⟩) K) ∧ (c a = true → ∀ K : Val → S → Prop, K (y a) ⟨e1, h⟩ → Wp (evalE T C elt ⟨e1, h⟩).vl K))
    (hq : Q (.f (.lst ((l.filter c).map y) false)) ⟨e, h⟩) (hr : restE e (wipeE e vs) vs = e := by rfl) (hl : lockAll ⟨e, h⟩ os = ⟨e, h⟩ := by rfl) (hu : unlockAll ⟨e, h⟩ ⟨e, h⟩ os = ⟨e, h⟩ := by rfl) : LcK T C elt p k conds vs Q os ⟨e, h⟩ := by
  refine ⟨_, q2, ?_⟩
  rw [hl]
  have := comp_map (st := patSet p) (tst := evalTs T C conds) (elt := fun s => (evalE T C elt s).val) (vs := vs) (ew := wipeE e vs) (h := h) f c y l [] (fun a ha => by
    obtain ⟨e1, h1, h2, h3, h4⟩ := hb a ha
    exact ⟨e1, h1, h2, wp_eq (h3 _ ⟨rfl, rfl⟩), fun hc => wp_eq (h4 hc _ ⟨rfl, rfl⟩)⟩) (by simpa using hs)
  refine wp_of this ?_
  simp only [hr, hu]
  exact hq
/-- a comprehension whose parts may change cells -/
theorem comp_I {α : Type} {st : Val → List Slot → Option (List Slot)} {tst : S → R Bool} {elt : S → R Val} {vs : List Nat} {ew : List Slot} (f : α → Val) (I : Nat → List Val → List Cell → Prop) (L : List α)
    (hb : ∀ i a acc h, L[i]? = some a → I i acc h → acc.length ≤ i → ∃ e1, st (f a) ew = some e1 ∧ Wp (tst ⟨e1, h⟩) fun b s => (b = false → wipeE s.e vs = ew ∧ I (i + 1) acc s.h) ∧ (b = true → Wp (elt s) fun v s => wipeE s.e vs = ew ∧ I (i + 1) (acc ++ [v]) s.h)) :
    ∀ (l : List α) (k : Nat) (acc : List Val) (h : List Cell), (∀ i, l[i]? = L[k + i]?) → I k acc h → acc.length ≤ k → k + l.length ≤ sizeLine →
      Wp (compL st tst elt vs putL (l.map f) ⟨ew, h⟩ acc) fun acc s => s.e = ew ∧ acc.length ≤ k + l.length ∧ I (k + l.length) acc s.h
  | [], k, acc, h, _, hi, ha, _ => wp_of (by unfold compL; rfl) ⟨rfl, by simpa using ha, by simpa using hi⟩
  | a :: l, k, acc, h, hL, hi, ha, hs => by
    obtain ⟨e1, h1, b, s1, h2, h3, h4⟩ := hb k a acc h (by have := hL 0; simpa using this.symm) hi ha
    have hL' : ∀ i, l[i]? = L[k + 1 + i]? := fun i => by have := hL (i + 1); rw [show k + 1 + i = k + (i + 1) by omega]; simpa using this
    simp only [List.length_cons] at hs
    rw [List.map_cons]
    unfold compL
    cases b with
    | false =>
      obtain ⟨z1, z2⟩ := h3 rfl
      have := comp_I f I L hb l (k + 1) acc s1.h hL' z2 (by omega) (by omega)
      simp only [h1, h2, R.bind, z1]
      rw [List.length_cons, show k + (l.length + 1) = k + 1 + l.length by omega]
      exact this
    | true =>
      obtain ⟨v, s2, h5, z1, z2⟩ := h4 rfl
      have hp : putL acc v = some (acc ++ [v]) := by unfold putL; rw [if_pos (by omega)]
      have := comp_I f I L hb l (k + 1) (acc ++ [v]) s2.h hL' z2 (by simp; omega) (by omega)
      simp only [h1, h2, R.bind, h5, hp, z1]
      rw [List.length_cons, show k + (l.length + 1) = k + 1 + l.length by omega]
      exact this
theorem lcK_I {α : Type} {elt : IE} {p : Pat} {k : Sk} {conds : List IE} {vs : List Nat} {e : List Slot} {h : List Cell} {os : List Rv} {Q : Rv → S → Prop} (l : List α) (f : α → Val) (I : Nat → List Val → List Cell → Prop)
    (q2 : srcItems k (os.map (deref ⟨e, h⟩)) = some (l.map f)) (hs : l.length ≤ sizeLine) (h0 : I 0 [] h)
    (hb : ∀ i a acc g, l[i]? = some a → I i acc g → acc.length ≤ i → ∃ e1 c, patSet p (f a) (wipeE e vs) = some e1 ∧ wipeE e1 vs = wipeE e vs ∧ (∀ K : Bool → S → Prop, K c ⟨e1, g⟩ → Wp (evalTs T C conds ⟨e1, g⟩) K) ∧ (c = false → I (i + 1) acc g) ∧ (c = true → ∀ K : Val → S → Prop, (∀ v g', I (i + 1) (acc ++ [v]) g' → K v ⟨e1, g'⟩) → Wp (evalE T C elt ⟨e1, g⟩).vl K))
    (hq : ∀ acc g, acc.length ≤ l.length → I l.length acc g → Q (.f (.lst acc false)) ⟨e, g⟩) (hr : restE e (wipeE e vs) vs = e := by rfl) (hl : lockAll ⟨e, h⟩ os = ⟨e, h⟩ := by rfl) (hu : ∀ g, unlockAll ⟨e, h⟩ ⟨e, g⟩ os = ⟨e, g⟩ := by intro g; rfl) : LcK T C elt p k conds vs Q os ⟨e, h⟩ := by
  refine ⟨_, q2, ?_⟩
  rw [hl]
  have := comp_I (st := patSet p) (tst := evalTs T C conds) (elt := fun s => (evalE T C elt s).val) (vs := vs) (ew := wipeE e vs) f I l (fun i a acc g h1 h2 h3 => by
    obtain ⟨e1, c, z1, z2, z3, z4, z5⟩ := hb i a acc g h1 h2 h3
    refine ⟨e1, z1, wp_mono (z3 (fun b s => b = c ∧ s = ⟨e1, g⟩) ⟨rfl, rfl⟩) fun b s hbs => ?_⟩
    obtain ⟨rfl, rfl⟩ := hbs
    exact ⟨fun hc => ⟨z2, z4 hc⟩, fun hc => z5 hc _ fun v g' hi => ⟨z2, hi⟩⟩) l 0 [] h (fun i => by rw [Nat.zero_add]) h0 (Nat.le_refl _) (by simpa using hs)
  refine wp_mono this fun acc s ⟨z1, z2, z3⟩ => ?_
  obtain ⟨se, sh⟩ := s
  cases z1
  simp only [hr, hu]
  rw [Nat.zero_add] at z2 z3
  exact hq acc sh z2 z3
/-! while -/
@[simp] theorem wp_whl {c : IE} {b : List IS} {e : List Slot} {h : List Cell} {Q : Fl → S → Prop} : Wp (execS T C (.whl c b) ⟨e, h⟩) Q = Wp (whileL (evalB T C c) (execSs T C b) T.fuel ⟨e, h⟩) Q := by
  rw [execS_11]
end
end Rs
end
section
set_option maxRecDepth 100000
set_option maxHeartbeats 400000
/-! Forward steps of the larger parts. -/
namespace Rs
open PySem L2
section
variable {T : Tab} {C : Call} {e : List Slot} {h : List Cell}
theorem pr_ext {α : Type} {r : R α} {P Q : α → S → Prop} (h : ∀ a s, P a s = Q a s) : Wp r P = Wp r Q := by rw [show P = Q from funext fun a => funext fun s => h a s]
@[simp] theorem wp_mt {m : Mt} {o : IE} {es : List IE} {Q : Rv → S → Prop} : Wp (evalE T C (.mt m o es) ⟨e, h⟩) Q = Wp (evalE T C o ⟨e, h⟩) fun x s => mkind m (deref s (opnd x)) = true ∧ Wp (evalVs T C es s) fun vs s => Op (mtop m (deref s (opnd x)) vs) fun ro => Op (putLoc s (opnd x) ro.2) fun s2 => Q ro.1 s2 := by
  rw [evalE_25, wp_bnd]
  refine pr_ext fun x s => ?_
  cases mkind m (deref s (opnd x)) with
  | false => simp
  | true =>
    simp only [wp_bnd, true_and]
    refine pr_ext fun vs s => ?_
    cases mtop m (deref s (opnd x)) vs with
    | none => simp
    | some ro =>
      obtain ⟨r, oc⟩ := ro
      simp only [op_s]
      cases putLoc s (opnd x) oc <;> simp
/-- a method's call, once the receiver stands -/
def MeK (T : Tab) (C : Call) (cs : List Nat) (m : Nat) (es : List IE) (pm : List (Nat ⊕ Val)) (Q : Rv → S → Prop) (x : Val) (s : S) : Prop :=
  Op (insAt s x) fun t => t.2.1 ∈ cs ∧ t.2.2.lookup (m % 1000) = none ∧ Op (T.mth t.2.1 m) fun f => Wp (evalVs T C es s) fun vs s => Wp (C f (x :: permV vs pm) s.h) fun v s2 => Q (.v v) ⟨s.e, s2.h⟩
@[simp] theorem wp_me {cs : List Nat} {m : Nat} {o : IE} {es : List IE} {pm : List (Nat ⊕ Val)} {Q : Rv → S → Prop} : Wp (evalE T C (.me cs m o es pm) ⟨e, h⟩) Q = Wp (evalE T C o ⟨e, h⟩) (Vl (MeK T C cs m es pm Q)) := by
  rw [evalE_27, wp_bnd, wp_vl]
  refine pr_ext fun x s => ?_
  unfold Vl
  refine propext ⟨fun ⟨v, h1, h2⟩ => ⟨v, h1, ?_⟩, fun ⟨v, h1, h2⟩ => ⟨v, h1, ?_⟩⟩
  · unfold MeK
    cases q : insAt s v with
    | none => simp [q] at h2
    | some t =>
      obtain ⟨n, c, fs⟩ := t
      simp only [q] at h2
      by_cases hc : c ∈ cs
      · cases q1 : fs.lookup (m % 1000) with
        | some _ => simp [q1, hc] at h2
        | none =>
          cases q2 : T.mth c m with
          | none => simp [q1, q2, hc] at h2
          | some f =>
            rw [q1, q2, decide_eq_true hc] at h2
            rw [op_s]
            refine ⟨hc, q1, ?_⟩
            show Op (T.mth c m) _
            rw [q2, op_s]
            simpa using h2
      · simp [hc] at h2
  · unfold MeK at h2
    cases q : insAt s v with
    | none => simp [q] at h2
    | some t =>
      obtain ⟨n, c, fs⟩ := t
      simp only [q, op_s] at h2
      obtain ⟨hc, q1, h2⟩ := h2
      cases q2 : T.mth c m with
      | none => simp [q2] at h2
      | some f =>
        have q1 : fs.lookup (m % 1000) = none := q1
        have hc : c ∈ cs := hc
        simp only [q, q1, q2, decide_eq_true hc]
        rw [q2, op_s] at h2
        simpa using h2
def NewK (T : Tab) (C : Call) (c : Nat) (pm : List (Nat ⊕ Val)) (Q : Rv → S → Prop) (vs : List Val) (s : S) : Prop :=
  Op (T.ini c) fun f => Wp (C f (.ref s.h.length :: permV vs pm) (s.h ++ [.ins c []])) fun v s2 => v = .non ∧ Q (.v (.ref s.h.length)) ⟨s.e, s2.h⟩
@[simp] theorem wp_new {c : Nat} {es : List IE} {pm : List (Nat ⊕ Val)} {Q : Rv → S → Prop} : Wp (evalE T C (.new c es pm) ⟨e, h⟩) Q = Wp (evalVs T C es ⟨e, h⟩) (NewK T C c pm Q) := by
  rw [evalE_28, wp_bnd]
  refine pr_ext fun vs s => ?_
  unfold NewK
  cases T.ini c with
  | none => simp
  | some f =>
    simp only [op_s]
    cases C f (.ref s.h.length :: permV vs pm) (s.h ++ [.ins c []]) with
    | ok v s2 => cases v <;> simp
    | exc c p s2 => simp
    | bad => simp
def AttK (T : Tab) (f : Nat) (Q : Rv → S → Prop) (x : Val) (s : S) : Prop := Op (insAt s x) fun t => T.fld t.2.1 f = true ∧ Op (t.2.2.lookup f) fun v => Q (.v v) s
@[simp] theorem wp_att {o : IE} {f : Nat} {Q : Rv → S → Prop} : Wp (evalE T C (.att o f) ⟨e, h⟩) Q = Wp (evalE T C o ⟨e, h⟩) (Vl (AttK T f Q)) := by
  rw [evalE_29, wp_bnd, wp_vl]
  refine pr_ext fun x s => ?_
  unfold Vl
  refine propext ⟨fun ⟨v, h1, h2⟩ => ⟨v, h1, ?_⟩, fun ⟨v, h1, h2⟩ => ⟨v, h1, ?_⟩⟩
  · unfold AttK
    cases q : insAt s v with
    | none => simp [q] at h2
    | some t =>
      obtain ⟨n, c, fs⟩ := t
      simp only [q] at h2
      cases q1 : T.fld c f with
      | false => simp [q1] at h2
      | true => simpa [q1] using h2
  · unfold AttK at h2
    cases q : insAt s v with
    | none => simp [q] at h2
    | some t =>
      obtain ⟨n, c, fs⟩ := t
      simp only [q, op_s] at h2
      simp only [q, h2.1, if_true]
      simpa using h2.2
def PrpK (T : Tab) (C : Call) (p : Nat) (Q : Rv → S → Prop) (x : Val) (s : S) : Prop := Op (insAt s x) fun t => Op (T.prp t.2.1 p) fun f => Wp (C f [x] s.h) fun v s2 => Q (.v v) ⟨s.e, s2.h⟩
@[simp] theorem wp_prp {o : IE} {p : Nat} {Q : Rv → S → Prop} : Wp (evalE T C (.prp o p) ⟨e, h⟩) Q = Wp (evalE T C o ⟨e, h⟩) (Vl (PrpK T C p Q)) := by
  rw [evalE_30, wp_bnd, wp_vl]
  refine pr_ext fun x s => ?_
  unfold Vl
  refine propext ⟨fun ⟨v, h1, h2⟩ => ⟨v, h1, ?_⟩, fun ⟨v, h1, h2⟩ => ⟨v, h1, ?_⟩⟩
  · unfold PrpK
    cases q : insAt s v with
    | none => simp [q] at h2
    | some t =>
      obtain ⟨n, c, fs⟩ := t
      simp only [q] at h2
      cases q1 : T.prp c p with
      | none => simp [q1] at h2
      | some f => simpa [q1] using h2
  · unfold PrpK at h2
    cases q : insAt s v with
    | none => simp [q] at h2
    | some t =>
      obtain ⟨n, c, fs⟩ := t
      simp only [q, op_s] at h2
      cases q1 : T.prp c p with
      | none => simp [q1] at h2
      | some f =>
        simp only [q, q1]
        rw [q1, op_s] at h2
        simpa using h2
def InK (T : Tab) (C : Call) (ng : Bool) (m : Nat) (Q : Rv → S → Prop) (x y : Val) (s : S) : Prop := Op (insAt s y) fun t => Op (T.mth t.2.1 m) fun f => Wp (C f [y, x] s.h) fun v s2 => Op (asB v) fun b => Q (.v (.bl (b != ng))) ⟨s.e, s2.h⟩
@[simp] theorem wp_in {ng : Bool} {m : Nat} {a o : IE} {Q : Rv → S → Prop} : Wp (evalE T C (.inown ng m a o) ⟨e, h⟩) Q = Wp (evalE T C a ⟨e, h⟩) (Vl fun x s => Wp (evalE T C o s) (Vl (InK T C ng m Q x))) := by
  rw [evalE_31, wp_bnd, wp_vl]
  refine congrArg (fun k => Wp (evalE T C a ⟨e, h⟩) (Vl k)) (funext fun x => funext fun s => ?_)
  rw [wp_bnd, wp_vl]
  refine congrArg (fun k => Wp (evalE T C o s) (Vl k)) (funext fun y => funext fun s => ?_)
  unfold InK
  cases insAt s y with
  | none => simp
  | some t =>
    obtain ⟨n, c, fs⟩ := t
    simp only [op_s]
    cases T.mth c m with
    | none => simp
    | some f =>
      simp only [op_s]
      cases C f [y, x] s.h with
      | ok v s2 =>
        obtain ⟨e2, h2⟩ := s2
        cases v <;> simp [asB]
      | exc c p s2 => obtain ⟨e2, h2⟩ := s2; simp
      | bad => simp
def LenK (T : Tab) (C : Call) (m : Nat) (Q : Rv → S → Prop) (y : Val) (s : S) : Prop := Op (insAt s y) fun t => Op (T.mth t.2.1 m) fun f => Wp (C f [y] s.h) fun v s2 => ∃ i : Int, v = .int i ∧ 0 ≤ i ∧ i < 2 ^ 63 ∧ Q (.v (.int i)) ⟨s.e, s2.h⟩
@[simp] theorem wp_len {m : Nat} {o : IE} {Q : Rv → S → Prop} : Wp (evalE T C (.lenown m o) ⟨e, h⟩) Q = Wp (evalE T C o ⟨e, h⟩) (Vl (LenK T C m Q)) := by
  rw [evalE_32, wp_bnd, wp_vl]
  refine congrArg (fun k => Wp (evalE T C o ⟨e, h⟩) (Vl k)) (funext fun y => funext fun s => ?_)
  unfold LenK
  cases insAt s y with
  | none => simp
  | some t =>
    obtain ⟨n, c, fs⟩ := t
    simp only [op_s]
    cases T.mth c m with
    | none => simp
    | some f =>
      simp only [op_s]
      cases C f [y] s.h with
      | ok v s2 =>
        obtain ⟨e2, h2⟩ := s2
        cases v with
        | int i =>
          simp only [bck_ok, wp_ok]
          by_cases hc : (decide (0 ≤ i) && decide (i < 2 ^ 63)) = true
          · rw [if_pos hc, wp_ok]
            simp only [Bool.and_eq_true, decide_eq_true_eq] at hc
            exact propext ⟨fun q => ⟨i, rfl, hc.1, hc.2, q⟩, fun ⟨j, z, _, _, q⟩ => by cases z; exact q⟩
          · rw [if_neg hc, wp_bad]
            simp only [Bool.and_eq_true, decide_eq_true_eq] at hc
            exact propext ⟨False.elim, fun ⟨j, z, a, b, q⟩ => by cases z; exact hc ⟨a, b⟩⟩
        | _ => simp
      | exc c p s2 => obtain ⟨e2, h2⟩ := s2; simp
      | bad => simp
def HeapK (Q : Rv → S → Prop) (x : Rv) (s : S) : Prop := match x with
  | .f c => Q (.v (.ref s.h.length)) { s with h := s.h ++ [c] }
  | _ => False
@[simp] theorem heapK_f {Q : Rv → S → Prop} {c : Cell} : HeapK Q (.f c) ⟨e, h⟩ = Q (.v (.ref h.length)) ⟨e, h ++ [c]⟩ := rfl
@[simp] theorem wp_heap {a : IE} {Q : Rv → S → Prop} : Wp (evalE T C (.heap a) ⟨e, h⟩) Q = Wp (evalE T C a ⟨e, h⟩) (HeapK Q) := by
  rw [evalE_33, wp_bnd]
  refine pr_ext fun x s => ?_
  cases x with
  | f c => exact wp_ok
  | v x => exact wp_bad
  | sl i => exact wp_bad
@[simp] theorem wp_dsp {es : List IE} {Q : Rv → S → Prop} : Wp (evalE T C (.dsp es) ⟨e, h⟩) Q = Wp (evalVs T C es ⟨e, h⟩) fun vs s => Op (kvsOf vs) fun kvs => Q (.f (.dct (dmerge [] kvs) false)) s := by
  rw [evalE_20, wp_bnd]
  refine pr_ext fun vs s => ?_
  cases kvsOf vs <;> simp
/-! targets -/
def TpK (T : Tab) (C : Call) (ts : List Tgt) (Q : Unit → S → Prop) (v : Val) (s : S) : Prop := ∃ vs, (v = .tup vs ∨ v = .lst vs) ∧ Wp (tgtSets T C ts vs s) Q
@[simp] theorem tpK_t {ts : List Tgt} {vs : List Val} {Q : Unit → S → Prop} {s : S} : TpK T C ts Q (.tup vs) s = Wp (tgtSets T C ts vs s) Q := propext ⟨fun ⟨_, z, q⟩ => by rcases z with z | z <;> cases z; exact q, fun q => ⟨_, .inl rfl, q⟩⟩
@[simp] theorem tpK_l {ts : List Tgt} {vs : List Val} {Q : Unit → S → Prop} {s : S} : TpK T C ts Q (.lst vs) s = Wp (tgtSets T C ts vs s) Q := propext ⟨fun ⟨_, z, q⟩ => by rcases z with z | z <;> cases z; exact q, fun q => ⟨_, .inr rfl, q⟩⟩
@[simp] theorem wp_tp {ts : List Tgt} {v : Val} {Q : Unit → S → Prop} : Wp (tgtSet T C (.tp ts) v ⟨e, h⟩) Q = TpK T C ts Q v ⟨e, h⟩ := by
  rw [tgtSet_2]
  cases v with
  | tup vs => exact tpK_t.symm
  | lst vs => exact tpK_l.symm
  | _ => exact wp_bad.trans (propext ⟨False.elim, fun ⟨_, z, _⟩ => by rcases z with z | z <;> cases z⟩)
/-- a store at a place of a list or a dict -/
def subV (o k v : Val) : Option Cell := match o with
  | .lst xs => match k with
    | .int i => (ixN xs.length i).map fun j => .lst (xs.set j v) false
    | _ => none
  | .dct kvs => match keyV k with
    | some k => if kvs.length < sizeLine then some (.dct (dput kvs k v) false) else none
    | none => none
  | _ => none
@[simp] theorem wp_sub {o k : IE} {v : Val} {Q : Unit → S → Prop} : Wp (tgtSet T C (.sub o k) v ⟨e, h⟩) Q = Wp (evalE T C o ⟨e, h⟩) fun x s => Wp (evalE T C k s) (Vl fun i s => Op (subV (deref s (opnd x)) i v) fun c => Op (setLoc s (opnd x) c) fun s => Q () s) := by
  rw [tgtSet_3, wp_bnd]
  refine pr_ext fun x s => ?_
  rw [wp_bnd, wp_vl]
  refine congrArg (fun k' => Wp (evalE T C k s) (Vl k')) (funext fun y => funext fun s => ?_)
  unfold subV
  cases deref s (opnd x) with
  | lst xs =>
    cases y with
    | int i =>
      cases q0 : ixN xs.length i with
      | none => simp [q0]
      | some j => cases q : setLoc s (opnd x) (.lst (xs.set j v) false) <;> simp [q0, q]
    | _ => simp
  | dct kvs =>
    simp only []
    cases keyV y with
    | none => simp
    | some k =>
      simp only []
      by_cases hl : kvs.length < sizeLine
      · rw [if_pos hl, if_pos hl]
        cases q : setLoc s (opnd x) (.dct (dput kvs k v) false) <;> simp [q]
      · rw [if_neg hl, if_neg hl]; simp
  | _ => simp
def SetAK (T : Tab) (f : Nat) (v : Val) (Q : Unit → S → Prop) (x : Val) (s : S) : Prop := Op (insAt s x) fun t => T.fld t.2.1 f = true ∧ t.2.2.length < 900 ∧ Q () { s with h := s.h.set t.1 (.ins t.2.1 (putFs f v t.2.2)) }
@[simp] theorem wp_setA {o : IE} {f : Nat} {v : Val} {Q : Unit → S → Prop} : Wp (tgtSet T C (.att o f) v ⟨e, h⟩) Q = Wp (evalE T C o ⟨e, h⟩) (Vl (SetAK T f v Q)) := by
  rw [tgtSet_4, wp_bnd, wp_vl]
  refine congrArg (fun k => Wp (evalE T C o ⟨e, h⟩) (Vl k)) (funext fun x => funext fun s => ?_)
  unfold SetAK
  cases insAt s x with
  | none => simp
  | some t =>
    obtain ⟨n, c, fs⟩ := t
    simp only [op_s]
    by_cases hc : (T.fld c f && decide (fs.length < 900)) = true
    · rw [if_pos hc, wp_ok]
      simp only [Bool.and_eq_true, decide_eq_true_eq] at hc
      simp [hc]
    · rw [if_neg hc, wp_bad]
      simp only [Bool.and_eq_true, decide_eq_true_eq] at hc
      exact propext ⟨False.elim, fun ⟨a, b, _⟩ => hc ⟨a, b⟩⟩
/-! statements -/
def OwnK (i : Nat) (Q : Fl → S → Prop) (x : Rv) (s : S) : Prop := match x with
  | .f c => Q .nx { s with e := s.e.set i (.own c) }
  | _ => False
@[simp] theorem ownK_f {i : Nat} {Q : Fl → S → Prop} {c : Cell} : OwnK i Q (.f c) ⟨e, h⟩ = Q .nx ⟨e.set i (.own c), h⟩ := rfl
@[simp] theorem wp_own {i : Nat} {a : IE} {Q : Fl → S → Prop} : Wp (execS T C (.own i a) ⟨e, h⟩) Q = Wp (evalE T C a ⟨e, h⟩) (OwnK i Q) := by
  rw [execS_3, wp_bnd]
  refine pr_ext fun x s => ?_
  cases x with
  | f c => exact wp_ok
  | v x => exact wp_bad
  | sl i => exact wp_bad
@[simp] theorem wp_par {i j : Nat} {oi oj : Bool} {a b : IE} {Q : Fl → S → Prop} : Wp (execS T C (.par i j oi oj a b) ⟨e, h⟩) Q = Wp (evalE T C a ⟨e, h⟩) fun x s => Wp (evalE T C b s) fun y s => Op (put1 oi x) fun u => Op (put1 oj y) fun v => Q .nx ⟨(s.e.set i u).set j v, s.h⟩ := by
  rw [execS_4, wp_bnd]
  refine pr_ext fun x s => ?_
  rw [wp_bnd]
  refine pr_ext fun y s => ?_
  cases put1 oi x with
  | none => simp
  | some u => cases put1 oj y <;> simp
@[simp] theorem wp_par3 {i j l : Nat} {oi oj ol : Bool} {a b c : IE} {Q : Fl → S → Prop} : Wp (execS T C (.par3 i j l oi oj ol a b c) ⟨e, h⟩) Q = Wp (evalE T C a ⟨e, h⟩) fun x s => Wp (evalE T C b s) fun y s => Wp (evalE T C c s) fun z s => Op (put1 oi x) fun u => Op (put1 oj y) fun v => Op (put1 ol z) fun w => Q .nx ⟨((s.e.set i u).set j v).set l w, s.h⟩ := by
  rw [execS_5, wp_bnd]
  refine pr_ext fun x s => ?_
  rw [wp_bnd]
  refine pr_ext fun y s => ?_
  rw [wp_bnd]
  refine pr_ext fun z s => ?_
  cases put1 oi x with
  | none => simp
  | some u =>
    cases put1 oj y with
    | none => simp
    | some v => cases put1 ol z <;> simp
def AugK (T : Tab) (C : Call) (i : Nat) (op : Bop) (a : IE) (Q : Fl → S → Prop) (x : Slot) (s : S) : Prop := match x with
  | .val x => Wp (evalE T C a s) fun y s => Op (iop op x (deref s (opnd y))) fun r => Op (freeze r) fun z => Q .nx { s with e := s.e.set i (.val z) }
  | _ => False
@[simp] theorem augK_v {i : Nat} {op : Bop} {a : IE} {Q : Fl → S → Prop} {x : Val} {s : S} : AugK T C i op a Q (.val x) s = Wp (evalE T C a s) fun y s => Op (iop op x (deref s (opnd y))) fun r => Op (freeze r) fun z => Q .nx { s with e := s.e.set i (.val z) } := rfl
@[simp] theorem wp_aug {i : Nat} {op : Bop} {a : IE} {Q : Fl → S → Prop} : Wp (execS T C (.aug i op a) ⟨e, h⟩) Q = AugK T C i op a Q (e.getD i .no) ⟨e, h⟩ := by
  rw [execS_6]
  show Wp (match slotOf ⟨e, h⟩ i with
    | .val x => (evalE T C a ⟨e, h⟩).bnd fun y s => (R.op (iop op x (deref s (opnd y))) s).vl.bnd fun z s => .ok .nx { s with e := s.e.set i (.val z) }
    | _ => .bad) Q = _
  rw [slotOf_mk]
  cases e.getD i .no with
  | val x =>
    simp only [wp_bnd, augK_v]
    refine pr_ext fun y s => ?_
    rw [wp_vl]
    cases iop op x (deref s (opnd y)) with
    | none => simp
    | some r =>
      simp only [wp_op, op_s, wp_ok]
      unfold Vl Op
      rfl
  | own c => exact wp_bad
  | no => exact wp_bad
def AugAK (T : Tab) (C : Call) (f : Nat) (op : Bop) (a : IE) (Q : Fl → S → Prop) (x : Val) (s : S) : Prop :=
  Op (insAt s x) fun t => T.fld t.2.1 f = true ∧ Op (t.2.2.lookup f) fun old => Wp (evalE T C a s) (Vl fun y s => Op (iop op old y) fun r => Op (freeze r) fun z => Op (insAt s x) fun t2 => t2.2.1 = t.2.1 ∧ t2.2.2.length < 900 ∧ Q .nx { s with h := s.h.set t2.1 (.ins t2.2.1 (putFs f z t2.2.2)) })
@[simp] theorem wp_augA {o : IE} {f : Nat} {op : Bop} {a : IE} {Q : Fl → S → Prop} : Wp (execS T C (.augA o f op a) ⟨e, h⟩) Q = Wp (evalE T C o ⟨e, h⟩) (Vl (AugAK T C f op a Q)) := by
  rw [execS_8, wp_bnd, wp_vl]
  refine congrArg (fun k => Wp (evalE T C o ⟨e, h⟩) (Vl k)) (funext fun x => funext fun s => ?_)
  unfold AugAK
  cases insAt s x with
  | none => simp
  | some t =>
    obtain ⟨n, c, fs⟩ := t
    simp only [op_s]
    cases T.fld c f with
    | false => cases fs.lookup f <;> simp
    | true =>
      simp only [true_and]
      cases fs.lookup f with
      | none => simp
      | some old =>
        simp only [op_s, wp_bnd, wp_vl]
        refine congrArg (fun k => Wp (evalE T C a s) (Vl k)) (funext fun y => funext fun s => ?_)
        cases iop op old y with
        | none => simp
        | some r =>
          simp only [wp_op, op_s]
          unfold Vl
          show (∃ v, freeze r = some v ∧ _) = Op (freeze r) _
          unfold Op
          refine propext ⟨fun ⟨z, h1, h2⟩ => ⟨z, h1, ?_⟩, fun ⟨z, h1, h2⟩ => ⟨z, h1, ?_⟩⟩
          · cases q : insAt s x with
            | none => simp [q] at h2
            | some t2 =>
              obtain ⟨n2, c2, fs2⟩ := t2
              simp only [q] at h2
              refine ⟨_, rfl, ?_⟩
              by_cases hc : (decide (c2 = c) && decide (fs2.length < 900)) = true
              · rw [if_pos hc, wp_ok] at h2
                simp only [Bool.and_eq_true, decide_eq_true_eq] at hc
                exact ⟨hc.1, hc.2, by have := hc.1; subst this; exact h2⟩
              · rw [if_neg hc, wp_bad] at h2; exact h2.elim
          · obtain ⟨⟨n2, c2, fs2⟩, q, h3, h4, h5⟩ := h2
            simp only [q]
            have h3 : c2 = c := h3
            have h4 : fs2.length < 900 := h4
            subst h3
            rw [if_pos (by simp; exact h4), wp_ok]
            exact h5
@[simp] theorem vsubL_l {xs : List Val} {i : Val} : vsubL (.lst xs) i = vsub (.lst xs) i := if_pos (by simp only [kindV])
@[simp] theorem wp_augS {o k : IE} {op : Bop} {a : IE} {Q : Fl → S → Prop} : Wp (execS T C (.augS o k op a) ⟨e, h⟩) Q = Wp (evalE T C o ⟨e, h⟩) fun x s => Wp (evalE T C k s) (Vl fun i s => Op (vsubL (deref s (opnd x)) i) fun old => Wp (evalE T C a s) (Vl fun y s => Op (iop op old y) fun r => Op (freeze r) fun z => ∃ xs j, deref s (opnd x) = .lst xs ∧ i = .int j ∧ Op (ixN xs.length j) fun q => Op (setLoc s (opnd x) (.lst (xs.set q z) false)) fun s => Q .nx s)) := by
  rw [execS_7, wp_bnd]
  refine pr_ext fun x s => ?_
  rw [wp_bnd, wp_vl]
  refine congrArg (fun k' => Wp (evalE T C k s) (Vl k')) (funext fun i => funext fun s => ?_)
  generalize vsubL (deref s (opnd x)) i = oo
  cases oo with
  | none => simp
  | some old =>
    simp only [op_s, wp_bnd, wp_vl]
    refine congrArg (fun k => Wp (evalE T C a s) (Vl k)) (funext fun y => funext fun s => ?_)
    cases iop op old y with
    | none => simp
    | some r =>
      simp only [wp_op, op_s]
      show (∃ v, freeze r = some v ∧ _) = Op (freeze r) _
      unfold Op
      refine propext ⟨fun ⟨z, h1, h2⟩ => ⟨z, h1, ?_⟩, fun ⟨z, h1, h2⟩ => ⟨z, h1, ?_⟩⟩
      · simp only [] at h2
        cases hd : deref s (opnd x) with
        | lst xs =>
          cases i with
          | int j =>
            refine ⟨xs, j, rfl, rfl, ?_⟩
            simp only [hd] at h2
            cases q : ixN xs.length j with
            | none => simp [q] at h2
            | some p =>
              refine ⟨p, rfl, ?_⟩
              simp only [q] at h2
              cases q2 : setLoc s (opnd x) (.lst (xs.set p z) false) with
              | none => simp [q2] at h2
              | some s2 => exact ⟨s2, q2, by simpa [q2] using h2⟩
          | _ => simp [hd] at h2
        | _ => simp [hd] at h2
      · obtain ⟨xs, j, h3, rfl, p, h4, s2, h5, h6⟩ := h2
        simp only [h3, h4, h5, bnd_ok, op_some, wp_ok]
        exact h6
@[simp] theorem wp_del {o k : IE} {Q : Fl → S → Prop} : Wp (execS T C (.del o k) ⟨e, h⟩) Q = Wp (evalE T C o ⟨e, h⟩) fun x s => Wp (evalE T C k s) (Vl fun i s => ∃ kvs k, deref s (opnd x) = .dct kvs ∧ keyV i = some k ∧ (dget kvs k).isSome = true ∧ Op (setLoc s (opnd x) (.dct (ddrop kvs k) false)) fun s => Q .nx s) := by
  rw [execS_9, wp_bnd]
  refine pr_ext fun x s => ?_
  rw [wp_bnd, wp_vl]
  refine congrArg (fun k' => Wp (evalE T C k s) (Vl k')) (funext fun i => funext fun s => ?_)
  refine propext ⟨fun h2 => ?_, fun ⟨kvs, k, h1, h2, h3, h4⟩ => ?_⟩
  · split at h2
    · rename_i kvs k h3 h4
      refine ⟨kvs, k, h3, h4, ?_⟩
      by_cases hc : (dget kvs k).isSome = true
      · rw [if_pos hc] at h2
        refine ⟨hc, ?_⟩
        simpa using h2
      · rw [if_neg hc] at h2; simp at h2
    · simp at h2
  · simp only [h1, h2, h3, if_true]
    simpa using h4
/-! values stored by op= -/
@[simp] theorem iop_add {i j : Int} : iop .add (.int i) (.int j) = some (.v (.int (i + j))) := rfl
@[simp] theorem iop_sub {i j : Int} : iop .sub (.int i) (.int j) = some (.v (.int (i - j))) := rfl
end
end Rs
end
section
set_option maxRecDepth 100000
set_option maxHeartbeats 4000000
/-! Names, things, events, rows that are drawn. -/
namespace Rs
open PySem L2
def base1 : List Str := ["a", "b", "c", "d", "e", "f", "g", "h", "jug", "lamp", "map"]
def base2 : List Str := ["call", "void", "zz", "quilts", "abcdefgh", "n", "m", "rook", "waxy"]
def baseN : List Str := base1 ++ base2
theorem baseN_nodup : baseN.Nodup := by decide +kernel
theorem baseN_len : baseN.length = 20 := rfl
def arr (k : Nat) (rev : Bool) : List Str := if rev then (baseN.drop k ++ baseN.take k).reverse else baseN.drop k ++ baseN.take k
theorem arr_perm (k : Nat) (rev : Bool) : (arr k rev).Perm baseN := by
  have h : (baseN.drop k ++ baseN.take k).Perm baseN := List.perm_append_comm.trans (by rw [List.take_append_drop])
  unfold arr
  cases rev with
  | false => simpa using h
  | true => simpa using (List.reverse_perm _).trans h
structure NamesOK (ns : List Str) (m : Int) : Prop where
  nd : ns.Nodup
  sub : ∀ x ∈ ns, x ∈ baseN
  len : ns.length = min m.toNat 20
theorem cut_map_str (xs : List Str) (m : Int) (h : 0 ≤ m) : cut (xs.map Val.str) none (some m) = (xs.take m.toNat).map Val.str := by
  unfold cut
  have h1 : ∀ n d : Nat, HT.sIx n d (some m) = min m.toNat n := fun n d => by
    show (if m < 0 then (m + (n : Int)).toNat else min m.toNat n) = _
    rw [if_neg (by omega)]
  rw [HT.sIx_none, h1]
  simp
theorem drop_cut (xs : List Val) (k : Nat) (h : k ≤ xs.length) : cut xs (some (k : Int)) none = xs.drop k := by
  unfold cut
  rw [HT.sIx_none, HT.sIx_nat, Nat.min_eq_left h]
  simp [execSs_2, execS_10, evalE_20, evalE_25, evalE_27, evalE_28, evalE_29, evalE_30, evalE_31, evalE_32, evalE_33, tgtSet_2, tgtSet_3, tgtSet_4, execS_3, execS_4, execS_5, execS_6, execS_7, execS_8, execS_9, List.take_of_length_le]
theorem take_cut (xs : List Val) (k : Nat) (h : k ≤ xs.length) : cut xs none (some (k : Int)) = xs.take k := by
  unfold cut
  rw [HT.sIx_none, HT.sIx_nat, Nat.min_eq_left h]
  simp
section
variable {T : Tab} {fs : List Fd}
theorem names_ok (g : HasThg fs) (n : Nat) (h : List Cell) (i : Nat) (m : Int) (hc : IsFeed h i) (h0 : 0 ≤ m) :
    ∃ ns d' x' e2, callI T fs (n + 3) 3 [.ref i, .int m] h = .ok (.lst (ns.map Val.str)) ⟨e2, h.set i (fc d' x')⟩ ∧ NamesOK ns m := by
  obtain ⟨r, d1, x1, e1, k1, g1, g2⟩ := take_ok (T := T) g.f1 (n + 1) h i 4 hc (by omega) (by omega)
  obtain ⟨y, d2, x2, e2, k2, g3⟩ := pick_ok (T := T) g.f1 g.f2 n _ i [.int 1, .int (-1)] (hc.set d1 x1) (by simp) (by simp)
  rw [List.set_set] at k2
  obtain ⟨k, rfl⟩ := Int.eq_ofNat_of_zero_le g1
  have hk : k ≤ (baseN.map Val.str).length := by simp [execSs_2, execS_10, evalE_20, evalE_25, evalE_27, evalE_28, evalE_29, evalE_30, evalE_31, evalE_32, evalE_33, tgtSet_2, tgtSet_3, tgtSet_4, execS_3, execS_4, execS_5, execS_6, execS_7, execS_8, execS_9, baseN_len]; omega
  obtain ⟨rev, hr⟩ : ∃ rev : Bool, y = .int (if rev then -1 else 1) := by
    rcases List.mem_cons.mp g3 with rfl | g3
    · exact ⟨false, rfl⟩
    · exact ⟨true, by simpa using g3⟩
  subst hr
  refine ⟨(arr k rev).take m.toNat, d2, x2, ?_⟩
  refine ⟨_, call_rt (env := [.val (.ref i), .val (.int m), .no, .no]) (s2 := ⟨[.val (.ref i), .val (.int m), .val (.lst (baseN.map Val.str)), .val (.int (k : Int))], h.set i (fc d2 x2)⟩) g.f3 rfl rfl ?_, ⟨((arr_perm k rev).nodup_iff.mpr baseN_nodup).sublist (List.take_sublist _ _), fun x hx => (arr_perm k rev).mem_iff.mp (List.mem_of_mem_take hx), ?_⟩⟩
  case refine_2 => rw [List.length_take, (arr_perm k rev).length_eq, baseN_len]
  show execSs T (callI T fs (n + 2)) is__law_names _ = _
  unfold is__law_names
  rw [seq_nx (s1 := ⟨[.val (.ref i), .val (.int m), .val (.lst (base1.map Val.str)), .no], h⟩) (by rfl)]
  rw [seq_nx (s1 := ⟨[.val (.ref i), .val (.int m), .val (.lst (baseN.map Val.str)), .no], h⟩) (by rfl)]
  rw [seq_nx (s1 := ⟨[.val (.ref i), .val (.int m), .val (.lst (baseN.map Val.str)), .val (.int (k : Int))], h.set i (fc d1 x1)⟩) (by
    simp [execSs_2, execS_10, evalE_20, evalE_25, evalE_27, evalE_28, evalE_29, evalE_30, evalE_31, evalE_32, evalE_33, tgtSet_2, tgtSet_3, tgtSet_4, execS_3, execS_4, execS_5, execS_6, execS_7, execS_8, execS_9, k1])]
  have c1 : cut (baseN.map Val.str) (some (k : Int)) none = (baseN.drop k).map Val.str := by rw [drop_cut _ _ hk, List.map_drop]
  have c2 : cut (baseN.map Val.str) none (some (k : Int)) = (baseN.take k).map Val.str := by rw [take_cut _ _ hk, List.map_take]
  have hl : ((baseN.drop k).map Val.str).length + ((baseN.take k).map Val.str).length ≤ sizeLine := by
    have : (20 : Nat) ≤ sizeLine := by decide
    simp only [List.length_drop, List.length_take, List.length_map, baseN_len]
    omega
  have c3 : (baseN.drop k).map Val.str ++ (baseN.take k).map Val.str = (arr k false).map Val.str := by rw [← List.map_append]; rfl
  have c4 : ((arr k false).map Val.str).reverse = (arr k true).map Val.str := by rw [← List.map_reverse]; rfl
  cases rev with
  | false => simp [execSs_2, execS_10, evalE_20, evalE_25, evalE_27, evalE_28, evalE_29, evalE_30, evalE_31, evalE_32, evalE_33, tgtSet_2, tgtSet_3, tgtSet_4, execS_3, execS_4, execS_5, execS_6, execS_7, execS_8, execS_9, k2, partV, vslice, vstep, binop, hl, c1, c2, c3, cut_map_str _ _ h0, -List.length_map, -List.map_append, -List.map_take, -List.map_drop, -List.length_drop, -List.length_take]
  | true => simp [execSs_2, execS_10, evalE_20, evalE_25, evalE_27, evalE_28, evalE_29, evalE_30, evalE_31, evalE_32, evalE_33, tgtSet_2, tgtSet_3, tgtSet_4, execS_3, execS_4, execS_5, execS_6, execS_7, execS_8, execS_9, k2, partV, vslice, vstep, binop, hl, c1, c2, c3, c4, cut_map_str _ _ h0, -List.length_map, -List.map_append, -List.map_take, -List.map_reverse, -List.map_drop, -List.length_drop, -List.length_take]

/-- the menus of prices -/
theorem things_ok (g : HasThg fs) (n : Nat) (h : List Cell) (i : Nat) (m : Int) (hc : IsFeed h i) (h0 : 0 ≤ m) :
    ∃ (kps : List (Str × Int)) (d' x' : Int) (e2 : List Slot), callI T fs (n + 4) 4 [.ref i, .int m] h = .ok (.dct (kps.map fun kp => (.inr kp.1, .int kp.2))) ⟨e2, h.set i (fc d' x')⟩ ∧ NamesOK (kps.map (·.1)) m ∧ ∀ kp ∈ kps, 1 ≤ kp.2 ∧ kp.2 ≤ 1000000 := by
  have q1 := pick_ok (T := T) g.f1 g.f2 (n + 1) h i [.lst [.int 1], .lst [.int 7], .lst [.int 1, .int 2, .int 3], .lst [.int 1, .int 2, .int 4, .int 8, .int 16], .lst [.int 5, .int 6, .int 7], .lst [.int 1, .int 1000000], .lst [.int 999999, .int 1000000, .int 3, .int 1]] hc (by simp) (by simp)
  obtain ⟨y, d1, x1, e1, k1, g1⟩ := q1
  have hy : ∃ ps : List Int, y = .lst (ps.map .int) ∧ ps ≠ [] ∧ ps.length < 10 ∧ ∀ p ∈ ps, 1 ≤ p ∧ p ≤ 1000000 := by
    simp only [List.mem_cons, List.not_mem_nil, or_false] at g1
    rcases g1 with rfl | rfl | rfl | rfl | rfl | rfl | rfl
    · exact ⟨[1], rfl, by decide, by decide, by decide⟩
    · exact ⟨[7], rfl, by decide, by decide, by decide⟩
    · exact ⟨[1, 2, 3], rfl, by decide, by decide, by decide⟩
    · exact ⟨[1, 2, 4, 8, 16], rfl, by decide, by decide, by decide⟩
    · exact ⟨[5, 6, 7], rfl, by decide, by decide, by decide⟩
    · exact ⟨[1, 1000000], rfl, by decide, by decide, by decide⟩
    · exact ⟨[999999, 1000000, 3, 1], rfl, by decide, by decide, by decide⟩
  obtain ⟨ps, rfl, hp0, hp1, hp2⟩ := hy
  obtain ⟨ns, d2, x2, e2, k2, N⟩ := names_ok (T := T) g n _ i m (hc.set d1 x1) h0
  rw [List.set_set] at k2
  have hn : ns.length ≤ 20 := by rw [N.len]; exact Nat.min_le_right _ _
  obtain ⟨ys, d3, x3, k3, hy⟩ := comp_feed (st := patSet (.nm 3)) (tst := evalTs T (callI T fs (n + 3)) []) (elt := fun s => (evalE T (callI T fs (n + 3)) (.tup [(.var 3), (.fn 2 [(.var 0), (.var 2)] [])]) s).val) (vs := [3]) (e0 := [.val (.ref i), .val (.int m), .val (.lst (ps.map .int)), .no]) (i := i) (h0 := h)
    (fun it y => ∃ z : Int, (∃ nm, it = .str nm ∧ y = .tup [.str nm, .int z]) ∧ 1 ≤ z ∧ z ≤ 1000000) (ns.map .str) [] d2 x2 (fun it hit d x => by
      obtain ⟨nm, hnm, rfl⟩ := List.mem_map.mp hit
      obtain ⟨z, d', x', e', k', hz⟩ := pick_ok (T := T) g.f1 g.f2 (n + 1) (h.set i (fc d x)) i (ps.map .int) (hc.set d x) (by simpa using hp0) (by simp; omega)
      rw [List.set_set] at k'
      obtain ⟨p, hp, rfl⟩ := List.mem_map.mp hz
      refine ⟨[.val (.ref i), .val (.int m), .val (.lst (ps.map .int)), .val (.str nm)], _, d', x', by simp [execSs_2, execS_10, evalE_20, evalE_25, evalE_27, evalE_28, evalE_29, evalE_30, evalE_31, evalE_32, evalE_33, tgtSet_2, tgtSet_3, tgtSet_4, execS_3, execS_4, execS_5, execS_6, execS_7, execS_8, execS_9, patSet], by simp, ?_, by simp [execSs_2, execS_10, evalE_20, evalE_25, evalE_27, evalE_28, evalE_29, evalE_30, evalE_31, evalE_32, evalE_33, tgtSet_2, tgtSet_3, tgtSet_4, execS_3, execS_4, execS_5, execS_6, execS_7, execS_8, execS_9, wipeE], ⟨p, ⟨nm, rfl, rfl⟩, hp2 p hp⟩⟩
      show (evalE T _ _ _).vl = _
      simp [execSs_2, execS_10, evalE_20, evalE_25, evalE_27, evalE_28, evalE_29, evalE_30, evalE_31, evalE_32, evalE_33, tgtSet_2, tgtSet_3, tgtSet_4, execS_3, execS_4, execS_5, execS_6, execS_7, execS_8, execS_9, k']) (by
        have : (20 : Nat) ≤ sizeLine := by decide
        simp; omega)
  have hz : ∃ kps : List (Str × Int), ys = kps.map (fun kp => .tup [.str kp.1, .int kp.2]) ∧ kps.map (·.1) = ns ∧ ∀ kp ∈ kps, 1 ≤ kp.2 ∧ kp.2 ≤ 1000000 := by
    clear k3 k2 N hn
    revert ys
    induction ns with
    | nil => intro ys hy; cases ys with
      | nil => exact ⟨[], rfl, rfl, by simp⟩
      | cons a b => exact hy.elim
    | cons a ns ih => intro ys hy; cases ys with
      | nil => exact hy.elim
      | cons y ys =>
        obtain ⟨⟨z, ⟨nm, e1, e2⟩, h1⟩, h2⟩ := hy
        cases e1
        obtain ⟨kps, e3, e4, h3⟩ := ih ys h2
        exact ⟨(a, z) :: kps, by rw [e2, e3]; rfl, by rw [← e4]; rfl, fun kp hk => (List.mem_cons.mp hk).elim (fun e => e ▸ h1) (h3 kp)⟩
  obtain ⟨kps, rfl, rfl, hk⟩ := hz
  refine ⟨kps, d3, x3, _, call_rt (env := [.val (.ref i), .val (.int m), .no, .no]) (s2 := ⟨[.val (.ref i), .val (.int m), .val (.lst (ps.map .int)), .no], h.set i (fc d3 x3)⟩) g.f4 rfl rfl ?_, N, hk⟩
  show execSs T (callI T fs (n + 3)) is__law_things _ = _
  unfold is__law_things
  rw [seq_nx (s1 := ⟨[.val (.ref i), .val (.int m), .val (.lst (ps.map .int)), .no], h.set i (fc d1 x1)⟩) (by simp [execSs_2, execS_10, evalE_20, evalE_25, evalE_27, evalE_28, evalE_29, evalE_30, evalE_31, evalE_32, evalE_33, tgtSet_2, tgtSet_3, tgtSet_4, execS_3, execS_4, execS_5, execS_6, execS_7, execS_8, execS_9, binop, k1])]
  have hlc := lc_eq (T := T) (C := callI T fs (n + 3)) (elt := .tup [(.var 3), (.fn 2 [(.var 0), (.var 2)] [])]) (p := .nm 3) (k := .it) (src := [.fn 3 [.var 0, .var 1] []]) (conds := []) (vs := [3]) (s := ⟨[.val (.ref i), .val (.int m), .val (.lst (ps.map .int)), .no], h.set i (fc d1 x1)⟩) (s1 := ⟨[.val (.ref i), .val (.int m), .val (.lst (ps.map .int)), .no], h.set i (fc d2 x2)⟩) (os := [.v (.lst ((kps.map (·.1)).map .str))]) (items := (kps.map (·.1)).map .str) (by simp [execSs_2, execS_10, evalE_20, evalE_25, evalE_27, evalE_28, evalE_29, evalE_30, evalE_31, evalE_32, evalE_33, tgtSet_2, tgtSet_3, tgtSet_4, execS_3, execS_4, execS_5, execS_6, execS_7, execS_8, execS_9, k2]) (by simp [execSs_2, execS_10, evalE_20, evalE_25, evalE_27, evalE_28, evalE_29, evalE_30, evalE_31, evalE_32, evalE_33, tgtSet_2, tgtSet_3, tgtSet_4, execS_3, execS_4, execS_5, execS_6, execS_7, execS_8, execS_9, srcItems]) k3
  have hpairs : ∀ kps : List (Str × Int), pairsV (kps.map (fun kp => Val.tup [.str kp.1, .int kp.2])) = some (kps.map fun kp => (.inr kp.1, .int kp.2)) := fun kps => by
    induction kps with
    | nil => rfl
    | cons a b ih => simp [execSs_2, execS_10, evalE_20, evalE_25, evalE_27, evalE_28, evalE_29, evalE_30, evalE_31, evalE_32, evalE_33, tgtSet_2, tgtSet_3, tgtSet_4, execS_3, execS_4, execS_5, execS_6, execS_7, execS_8, execS_9, pairsV, keyV, ih]
  have hm : ∀ (acc more : List (Key × Val)), ((acc ++ more).map (·.1)).Nodup → dmerge acc more = acc ++ more := fun acc more => by
    induction more generalizing acc with
    | nil => intro _; simp [execSs_2, execS_10, evalE_20, evalE_25, evalE_27, evalE_28, evalE_29, evalE_30, evalE_31, evalE_32, evalE_33, tgtSet_2, tgtSet_3, tgtSet_4, execS_3, execS_4, execS_5, execS_6, execS_7, execS_8, execS_9, dmerge]
    | cons a more ih =>
      intro hd
      have e : dput acc a.1 a.2 = acc ++ [a] := by
        unfold dput
        rw [if_neg]
        simp only [List.any_eq_true, decide_eq_true_eq, not_exists, not_and]
        intro kv hkv e
        simp only [List.map_append, List.map_cons, List.nodup_append] at hd
        exact hd.2.2 kv.1 (List.mem_map_of_mem hkv) a.1 (by simp) e
      have : dmerge acc (a :: more) = dmerge (dput acc a.1 a.2) more := rfl
      rw [this, e, ih _ (by simpa using hd)]
      simp
  have hd : dmerge [] (kps.map fun kp => ((.inr kp.1 : Key), Val.int kp.2)) = kps.map fun kp => ((.inr kp.1 : Key), Val.int kp.2) := by
    rw [hm]
    · simp
    · have := N.nd
      simp only [List.nil_append, List.map_map]
      have e : (kps.map ((fun x : Key × Val => x.1) ∘ fun kp : Str × Int => ((.inr kp.1 : Key), Val.int kp.2))) = (kps.map (·.1)).map Sum.inr := by simp [execSs_2, execS_10, evalE_20, evalE_25, evalE_27, evalE_28, evalE_29, evalE_30, evalE_31, evalE_32, evalE_33, tgtSet_2, tgtSet_3, tgtSet_4, execS_3, execS_4, execS_5, execS_6, execS_7, execS_8, execS_9, Function.comp_def]
      rw [e]
      exact List.pairwise_map.mpr (List.Pairwise.imp (fun h e => h (by cases e; rfl)) this)
  rw [seq_rt (s1 := ⟨[.val (.ref i), .val (.int m), .val (.lst (ps.map .int)), .no], h.set i (fc d3 x3)⟩) (v := .dct (kps.map fun kp => (.inr kp.1, .int kp.2)))]
  simp [execSs_2, execS_10, evalE_20, evalE_25, evalE_27, evalE_28, evalE_29, evalE_30, evalE_31, evalE_32, evalE_33, tgtSet_2, tgtSet_3, tgtSet_4, execS_3, execS_4, execS_5, execS_6, execS_7, execS_8, execS_9, hlc, unlockAll, unlockLoc, restE, okV, biop, hpairs, hd]
end
end Rs
end
section
set_option maxRecDepth 100000
set_option maxHeartbeats 4000000
/-! Events and rows that are drawn. -/
namespace Rs
open PySem L2
theorem size_big : (1000000 : Nat) ≤ sizeLine := by decide
def evV (e : Bool × Str) : Val := .tup [.str (if e.1 then "void" else "call"), .str e.2]
def rowV (r : List (Bool × Str)) : Val := .lst (r.map evV)
theorem veq_int (a b : Int) : veq (.int a) (.int b) = some (decide (a = b)) := by
  simp [execSs_2, execS_10, evalE_20, evalE_25, evalE_27, evalE_28, evalE_29, evalE_30, evalE_31, evalE_32, evalE_33, tgtSet_2, tgtSet_3, tgtSet_4, execS_3, execS_4, execS_5, execS_6, execS_7, execS_8, execS_9, veq, toD, okD, PyData.plain, PyData.depth, PyData.eqv, Bool.beq_eq_decide_eq]
theorem veq_str (a b : Str) : veq (.str a) (.str b) = some (decide (a = b)) := by
  simp [execSs_2, execS_10, evalE_20, evalE_25, evalE_27, evalE_28, evalE_29, evalE_30, evalE_31, evalE_32, evalE_33, tgtSet_2, tgtSet_3, tgtSet_4, execS_3, execS_4, execS_5, execS_6, execS_7, execS_8, execS_9, veq, toD, okD, PyData.plain, PyData.depth, PyData.eqv, Bool.beq_eq_decide_eq]
theorem veq_bl (a b : Bool) : veq (.bl a) (.bl b) = some (decide (a = b)) := by
  simp [execSs_2, execS_10, evalE_20, evalE_25, evalE_27, evalE_28, evalE_29, evalE_30, evalE_31, evalE_32, evalE_33, tgtSet_2, tgtSet_3, tgtSet_4, execS_3, execS_4, execS_5, execS_6, execS_7, execS_8, execS_9, veq, toD, okD, PyData.plain, PyData.depth, PyData.eqv, Bool.beq_eq_decide_eq]
section
variable {T : Tab} {fs : List Fd}
end
end Rs
end
section
set_option maxRecDepth 100000
set_option maxHeartbeats 4000000
/-! Dicts from names to whole numbers. -/
namespace Rs
open PySem L2
abbrev AL := List (Str × Int)
def alV (al : AL) : List (Key × Val) := al.map fun p => (.inr p.1, .int p.2)
def AL.get (al : AL) (x : Str) : Option Int := (al.find? fun p => decide (p.1 = x)).map (·.2)
def AL.put (al : AL) (x : Str) (k : Int) : AL := if x ∈ al.map (·.1) then al.map fun p => if p.1 = x then (p.1, k) else p else al ++ [(x, k)]
def AL.drop (al : AL) (x : Str) : AL := al.filter fun p => decide (p.1 ≠ x)
theorem dget_al (al : AL) (x : Str) : dget (alV al) (.inr x) = (AL.get al x).map .int := by
  unfold dget AL.get alV
  induction al with
  | nil => rfl
  | cons a al ih =>
    simp only [List.map_cons, List.find?_cons]
    by_cases h : a.1 = x
    · simp [execSs_2, execS_10, evalE_20, evalE_25, evalE_27, evalE_28, evalE_29, evalE_30, evalE_31, evalE_32, evalE_33, tgtSet_2, tgtSet_3, tgtSet_4, execS_3, execS_4, execS_5, execS_6, execS_7, execS_8, execS_9, h]
    · have h2 : ¬ ((.inr a.1 : Key) = .inr x) := fun e => h (Sum.inr.inj e)
      simp only [h, h2, decide_false]
      exact ih
theorem get_some {al : AL} {x : Str} {k : Int} (h : AL.get al x = some k) : (x, k) ∈ al := by
  unfold AL.get at h
  obtain ⟨p, hp, rfl⟩ := Option.map_eq_some_iff.mp h
  have h1 := List.find?_some hp
  have h2 := List.mem_of_find?_eq_some hp
  simp only [decide_eq_true_eq] at h1
  rw [← h1]
  exact h2
theorem get_none {al : AL} {x : Str} : AL.get al x = none ↔ x ∉ al.map (·.1) := by
  unfold AL.get
  rw [Option.map_eq_none_iff, List.find?_eq_none]
  simp only [decide_eq_true_eq, List.mem_map, not_exists, not_and]
theorem get_mem {al : AL} (nd : (al.map (·.1)).Nodup) {x : Str} {k : Int} (h : (x, k) ∈ al) : AL.get al x = some k := by
  cases q : AL.get al x with
  | none => exact absurd (List.mem_map_of_mem (f := (·.1)) h) (get_none.mp q)
  | some j =>
    have h2 := get_some q
    congr 1
    clear q
    induction al with
    | nil => cases h
    | cons a al ih =>
      simp only [List.map_cons, List.nodup_cons] at nd
      rcases List.mem_cons.mp h with h' | h'
      · subst h'
        rcases List.mem_cons.mp h2 with e | h2'
        · cases e; rfl
        · exact absurd (List.mem_map_of_mem (f := (·.1)) h2') nd.1
      · rcases List.mem_cons.mp h2 with e | h2'
        · subst e; exact absurd (List.mem_map_of_mem (f := (·.1)) h') nd.1
        · exact ih nd.2 h' h2'
theorem alV_len (al : AL) : (alV al).length = al.length := by unfold alV; simp
/-! ### the least of pairs of a number and a name -/
def nxV (p : Str × Int) : Val := .tup [.int p.2, .str p.1]
end Rs
end
section
set_option maxRecDepth 100000
set_option maxHeartbeats 4000000
/-! Texts of rows. -/
namespace Rs
open PySem L2
def evD (e : Bool × Str) : PyData := .tuple [.str (if e.1 then "void" else "call"), .str e.2]
end Rs
end
section
set_option maxRecDepth 100000
set_option maxHeartbeats 4000000
/-! Stretches of a row. -/
namespace Rs
open PySem L2
abbrev Ev := Bool × Str
abbrev Pr := Int × Int
def pV (p : Pr) : Val := .tup [.int p.1, .int p.2]
def pD (p : Pr) : PyData := .tuple [.int p.1, .int p.2]
section
variable {T : Tab}
end
/-! ### pairs in order -/
def pLe (a b : Pr) : Bool := PySem.W.dataLe false dD (pV a) (pV b)
def sortP (xs : List Pr) : List Pr := xs.mergeSort pLe
/-! ### the program's stretches -/
def strF : Nat → AL → List Ev → List Pr
  | _, _, [] => []
  | n, al, e :: es => if e.1 then strF (n + 1) (AL.drop al e.2) es else (match AL.get al e.2 with
    | none => []
    | some i => [(i, (n : Int))]) ++ strF (n + 1) (AL.put al e.2 n) es
def strA : Nat → AL → List Ev → AL
  | _, al, [] => al
  | n, al, e :: es => strA (n + 1) (if e.1 then AL.drop al e.2 else AL.put al e.2 n) es
/-- a stretch, by its two calls -/
structure IsStr (es : List Ev) (i j : Nat) : Prop where
  lt : i < j
  ex : ∃ x, es[i]? = some (false, x) ∧ es[j]? = some (false, x) ∧ ∀ k e, i < k → k < j → es[k]? = some e → e.2 ≠ x
/-- what the dict of last calls holds behind a row -/
def LastOK (es : List Ev) (al : AL) : Prop := (al.map (·.1)).Nodup ∧ ∀ x i, (x, i) ∈ al ↔ ∃ n : Nat, i = n ∧ es[n]? = some (false, x) ∧ ∀ k e, n < k → es[k]? = some e → e.2 ≠ x
end Rs
end
section
set_option maxRecDepth 100000
set_option maxHeartbeats 4000000
/-! The program's stretches, run. -/
namespace Rs
open PySem L2
section
variable {T : Tab}
def strBody : List IS := [(.ite (.cmp .eq (.var 4) (.cst (.str "void"))) [(.ex (.mt .dpop (.var 2) [(.var 5), (.cst .non)]))] [(.ite (.cmp .isin (.var 5) (.var 2)) [(.ex (.mt .append (.var 1) [(.tup [(.sub (.var 2) (.var 5)), (.var 3)])]))] []), (.asg (.sub (.var 2) (.var 5)) (.var 3))])]
def strsOf (es : List Ev) : List Pr := sortP (strF 0 [] es)
/-! ### calls -/
def callsF : Nat → List Ev → List Nat
  | _, [] => []
  | n, e :: es => (if e.1 then [] else [n]) ++ callsF (n + 1) es
end
end Rs
end
section
set_option maxRecDepth 100000
set_option maxHeartbeats 4000000
/-! Costs. -/
namespace Rs
open PySem L2
def priceOf (ts : AL) (x : Str) : Int := (AL.get ts x).getD 0
def evAt (es : List Ev) (k : Nat) : Ev := es.getD k (true, "")
def Known (ts : AL) (es : List Ev) : Prop := ∀ e ∈ es, e.2 ∈ ts.map (·.1)
section
variable {T : Tab} {fs : List Fd}
def callSum (ts : AL) (es : List Ev) : Int := (es.filterMap fun e => if e.1 then none else some (priceOf ts e.2)).sum
/-- stretches that a row has, as pairs -/
def PlanIn (es : List Ev) (pl : List Pr) : Prop := ∀ p ∈ pl, ∃ i j : Nat, p = ((i : Int), (j : Int)) ∧ IsStr es i j
def planSum (ts : AL) (es : List Ev) (pl : List Pr) : Int := (pl.map fun p => priceOf ts (evAt es p.1.toNat).2).sum
end
end Rs
end
section
set_option maxRecDepth 100000
set_option maxHeartbeats 4000000
/-! How long a repr is, at most. -/
namespace Rs
open PySem L2 Builtin.Str
mutual
def szD : PyData → Nat
  | .none => 4
  | .bool _ => 5
  | .int _ => 1921
  | .str x => 2 + 4 * x.length
  | .list xs => 2 + szDs xs
  | .tuple xs => 3 + szDs xs
  | .dict kvs => 2 + szDk kvs
def szDs : List PyData → Nat
  | [] => 0
  | x :: xs => szD x + 2 + szDs xs
def szDk : List (PyData × PyData) → Nat
  | [] => 0
  | (k, v) :: r => szD k + szD v + 4 + szDk r
end
def lowS (x : Str) : Bool := x.cps.toList.all fun c => decide (c < 128)
mutual
/-- texts of plain signs alone -/
def lowD : PyData → Bool
  | .str x => lowS x
  | .int i => decide (i.natAbs.log2 < 1920)
  | .list xs => lowDs xs
  | .tuple xs => lowDs xs
  | .dict kvs => lowDk kvs
  | _ => true
def lowDs : List PyData → Bool
  | [] => true
  | x :: xs => lowD x && lowDs xs
def lowDk : List (PyData × PyData) → Bool
  | [] => true
  | (k, v) :: r => lowD k && (lowD v && lowDk r)
end
theorem reprChar_le : ∀ c < 128, (reprChar 34 c).length ≤ 4 ∧ (reprChar 39 c).length ≤ 4 := by decide +kernel
theorem reprText_le (x : Str) (h : lowS x = true) : (reprText x).length ≤ 2 + 4 * x.length := by
  rw [← reprLen_eq, ← Array.foldl_toList]
  have q : reprQuote x = 34 ∨ reprQuote x = 39 := by unfold reprQuote; split <;> simp
  have : ∀ (l : List Nat) (n : Nat), (l.all fun c => decide (c < 128)) = true → l.foldl (fun n c => n + (reprChar (reprQuote x) c).length) n ≤ n + 4 * l.length := by
    intro l
    induction l with
    | nil => intro n _; simp
    | cons c l ih =>
      intro n hl
      simp only [List.all_cons, Bool.and_eq_true, decide_eq_true_eq] at hl
      have h1 := ih (n + (reprChar (reprQuote x) c).length) hl.2
      have h2 := reprChar_le c hl.1
      have h3 : (reprChar (reprQuote x) c).length ≤ 4 := by 
        rcases q with q | q
        · rw [q]; exact h2.1
        · rw [q]; exact h2.2
      simp only [List.foldl_cons, List.length_cons]
      omega
  have := this x.cps.toList 2 h
  rw [Array.length_toList] at this
  exact this
theorem piled_cons (t : Str) (ts : List Str) : piled (t :: ts) = t.length + 2 + piled ts := by simp [execSs_2, execS_10, evalE_20, evalE_25, evalE_27, evalE_28, evalE_29, evalE_30, evalE_31, evalE_32, evalE_33, tgtSet_2, tgtSet_3, tgtSet_4, execS_3, execS_4, execS_5, execS_6, execS_7, execS_8, execS_9, piled]
theorem listText_piled (ts : List Str) : (listText ts).length ≤ 2 + piled ts := by
  have : ∀ (ts : List Str) (k : Nat) (acc : Str), (textFrom k acc ts).length ≤ acc.length + piled ts := by
    intro ts
    induction ts with
    | nil => intro k acc; show acc.length ≤ _; omega
    | cons t r ih =>
      intro k acc
      have ih := ih (k + 1) (acc ++ (if k > 0 then ", " else "" : String) ++ t)
      have e : (acc ++ (if k > 0 then ", " else "" : String) ++ t).length = acc.length + (if k > 0 then 2 else 0) + t.length := by
        rw [strLen_append, strLen_append]
        split <;> rfl
      have e2 : (if k > 0 then 2 else 0) ≤ 2 := by split <;> omega
      show (textFrom (k + 1) (acc ++ (if k > 0 then ", " else "" : String) ++ t) r).length ≤ _
      rw [e] at ih
      rw [piled_cons]
      omega
  have h1 := this ts 0 "["
  have e : (listText ts).length = (textFrom 0 "[" ts).length + 1 := by
    unfold listText
    rw [strLen_append]; rfl
  have e2 : (("[" : String) : Str).length = 1 := rfl
  omega
theorem join_piled (ts : List Str) : (Str.join ", " ts).length ≤ piled ts := by
  by_cases h : ts = []
  · subst h; show (Str.join ", " []).length ≤ _; exact Nat.zero_le _
  · have := join_length_add ts h
    omega
theorem tupleText_piled (ts : List Str) : (tupleText ts).length ≤ 3 + piled ts := by
  have e : (tupleText ts).length ≤ 1 + (Str.join ", " ts).length + 2 := by
    unfold tupleText
    rw [strLen_append, strLen_append]
    split
    · exact Nat.le_refl _
    · exact Nat.add_le_add_left (by decide) _
  have := join_piled ts
  omega
theorem dictText_piled (ts : List Str) : (dictText ts).length ≤ 2 + piled ts := by
  have e : (dictText ts).length = 1 + (Str.join ", " ts).length + 1 := by
    unfold dictText
    rw [strLen_append, strLen_append]; rfl
  have := join_piled ts
  omega
mutual
theorem shown_le : ∀ d : PyData, lowD d = true → d.shown.length ≤ szD d
  | .none, _ => by unfold PyData.shown szD; decide
  | .bool b, _ => by unfold PyData.shown szD; cases b <;> decide
  | .int i, h => by
    unfold lowD at h
    unfold PyData.shown szD
    exact PyProof.Rows.int_text_len_1921 (of_decide_eq_true h)
  | .str x, h => by
    unfold lowD at h
    unfold PyData.shown szD
    exact reprText_le x h
  | .list xs, h => by
    unfold lowD at h
    unfold PyData.shown szD
    exact Nat.le_trans (listText_piled _) (Nat.add_le_add_left (shownAll_le xs h) 2)
  | .tuple xs, h => by
    unfold lowD at h
    unfold PyData.shown szD
    exact Nat.le_trans (tupleText_piled _) (Nat.add_le_add_left (shownAll_le xs h) 3)
  | .dict kvs, h => by
    unfold lowD at h
    unfold PyData.shown szD
    exact Nat.le_trans (dictText_piled _) (Nat.add_le_add_left (shownKv_le kvs h) 2)
theorem shownAll_le : ∀ xs : List PyData, lowDs xs = true → piled (PyData.shownAll xs) ≤ szDs xs
  | [], _ => by unfold PyData.shownAll szDs; exact Nat.le_refl _
  | x :: xs, h => by
    unfold lowDs at h
    rw [Bool.and_eq_true] at h
    unfold PyData.shownAll szDs
    rw [piled_cons]
    have h1 := shown_le x h.1
    have h2 := shownAll_le xs h.2
    omega
theorem shownKv_le : ∀ xs : List (PyData × PyData), lowDk xs = true → piled (PyData.shownKv xs) ≤ szDk xs
  | [], _ => by unfold PyData.shownKv szDk; exact Nat.le_refl _
  | (k, v) :: r, h => by
    unfold lowDk at h
    rw [Bool.and_eq_true, Bool.and_eq_true] at h
    unfold PyData.shownKv szDk
    rw [piled_cons]
    have h1 := shown_le k h.1
    have h2 := shown_le v h.2.1
    have h3 := shownKv_le r h.2.2
    have e : (k.shown ++ ": " ++ v.shown).length = k.shown.length + 2 + v.shown.length := by
      rw [strLen_append, strLen_append]; rfl
    omega
end
theorem showOk_of {d : PyData} (h1 : d.showable = true) (h2 : d.depth ≤ 60) (h3 : lowD d = true) (h4 : szD d ≤ 16000000) : showOk d = true := by
  have h5 := shown_le d h3
  have h6 : (16000000 : Nat) ≤ sizeLine := by decide
  simp only [showOk, h1, Bool.true_and, Bool.and_eq_true, decide_eq_true_eq]
  omega
theorem brepr {x : Val} {d : PyData} (h : toD x = some d) (hs : showOk d = true) : biop .repr [x] = some (.v (.str d.shown)) := by
  simp only [biop, h]
  rw [if_pos hs]
end Rs
end
section
set_option maxRecDepth 100000
set_option maxHeartbeats 4000000
/-! The laws' own stretches: the same as the program's. -/
namespace Rs
open PySem L2
def latF (es : List Ev) (x : Str) : Nat → Nat → List Nat
  | _, 0 => []
  | s, n + 1 => (if (evAt es s).2 = x then [s] else []) ++ latF es x (s + 1) n
def lawF (es : List Ev) (i : Nat) : List Pr := if (evAt es i).1 then [] else match latF es (evAt es i).2 (i + 1) (es.length - (i + 1)) with
  | [] => []
  | j :: _ => if (evAt es j).1 then [] else [((i : Int), (j : Int))]
def lawS (es : List Ev) (k : Nat) : List Pr := (List.range k).flatMap (lawF es)
section
variable {T : Tab} {fs : List Fd}
def lawBody : List IS := [(.ite (.cmp .eq (.var 3) (.cst (.str "call"))) [(.asg (.nm 5) (.lc (.var 6) (.nm 6) .rng [(.bin .add (.var 2) (.cst (.int 1))), (.bi .len [(.var 0)])] [(.cmp .eq (.sub (.sub (.var 0) (.var 6)) (.cst (.int 1))) (.var 4))] [6])), (.ite (.and (.cmp .ne (.var 5) (.lst [])) (.cmp .eq (.sub (.sub (.var 0) (.sub (.var 5) (.cst (.int 0)))) (.cst (.int 0))) (.cst (.str "call")))) [(.ex (.mt .append (.var 1) [(.tup [(.var 2), (.sub (.var 5) (.cst (.int 0)))])]))] [])] [])]
end
end Rs
end
section
set_option maxRecDepth 100000
set_option maxHeartbeats 4000000
/-! The reprs of rows, of things, of pairs. -/
namespace Rs
open PySem L2
theorem log_small {n : Nat} (h : n < 2 ^ 64) : n.log2 < 1920 := by
  by_cases e : n = 0
  · subst e; decide
  · exact (Nat.log2_lt e).mpr (Nat.lt_trans h (by decide +kernel))
theorem base_ok : ∀ x ∈ baseN, lowS x = true ∧ x.length ≤ 8 := by decide +kernel
def alD (ts : AL) : List (PyData × PyData) := ts.map fun p => (.str p.1, .int p.2)
structure GoodT (ts : AL) : Prop where
  sub : ∀ p ∈ ts, p.1 ∈ baseN
  val : ∀ p ∈ ts, 1 ≤ p.2 ∧ p.2 ≤ 1000000
  nd : (ts.map (·.1)).Nodup
  len : ts.length ≤ 20
  ne : ts ≠ []
end Rs
end
section
set_option maxRecDepth 100000
set_option maxHeartbeats 4000000
/-! What most laws begin with; values that are data of a bounded size. -/
namespace Rs
open PySem L2
theorem goodT_of {kps : List (Str × Int)} {m : Int} (N : NamesOK (kps.map (·.1)) m) (hp : ∀ kp ∈ kps, 1 ≤ kp.2 ∧ kp.2 ≤ 1000000) (hm : 1 ≤ m) : GoodT kps where
  sub := fun p hpm => N.sub p.1 (List.mem_map_of_mem (f := (·.1)) hpm)
  val := hp
  nd := N.nd
  len := by have := N.len; rw [List.length_map] at this; omega
  ne := fun e => by have := N.len; rw [e] at this; simp at this; omega
theorem sorted_names {ts : AL} (gt : GoodT ts) : ∃ ss : List Str, biop .sorted [.dct (alV ts)] = some (.f (.lst (ss.map .str) false)) ∧ ss.Perm (ts.map (·.1)) ∧ ss ≠ [] ∧ ss.length ≤ 20 := by
  have hb := size_big
  have hl := gt.len
  have hkeys : (alV ts).map (fun kv => vKey kv.1) = (ts.map (·.1)).map Val.str := by unfold alV; simp [execSs_2, execS_10, evalE_20, evalE_25, evalE_27, evalE_28, evalE_29, evalE_30, evalE_31, evalE_32, evalE_33, tgtSet_2, tgtSet_3, tgtSet_4, execS_3, execS_4, execS_5, execS_6, execS_7, execS_8, execS_9, vKey, Function.comp_def]
  refine ⟨sortS (ts.map (·.1)), ?_, sortS_perm _, fun e => ?_, by rw [(sortS_perm _).length_eq, List.length_map]; exact hl⟩
  · simp only [biop]
    rw [if_pos]
    · rw [hkeys, vsort_str _ (by rw [List.length_map]; omega)]; rfl
    · simp [execSs_2, execS_10, evalE_20, evalE_25, evalE_27, evalE_28, evalE_29, evalE_30, evalE_31, evalE_32, evalE_33, tgtSet_2, tgtSet_3, tgtSet_4, execS_3, execS_4, execS_5, execS_6, execS_7, execS_8, execS_9, alV]; omega
  · have := (sortS_perm (ts.map (·.1))).length_eq
    rw [e] at this
    simp at this
    exact gt.ne (List.length_eq_zero_iff.mp this.symm)

/-! ### data of a bounded size -/
def bdD (n dp : Nat) (d : PyData) : Bool := d.showable && (decide (d.depth ≤ dp) && (lowD d && decide (szD d ≤ n)))
def bdV (n dp : Nat) (v : Val) : Bool := match toD v with
  | some d => bdD n dp d
  | none => false
theorem bdV_iff {n dp : Nat} {v : Val} : bdV n dp v = true ↔ ∃ d, toD v = some d ∧ d.showable = true ∧ d.depth ≤ dp ∧ lowD d = true ∧ szD d ≤ n := by
  unfold bdV
  cases q : toD v with
  | none => simp
  | some d => simp [execSs_2, execS_10, evalE_20, evalE_25, evalE_27, evalE_28, evalE_29, evalE_30, evalE_31, evalE_32, evalE_33, tgtSet_2, tgtSet_3, tgtSet_4, execS_3, execS_4, execS_5, execS_6, execS_7, execS_8, execS_9, bdD]
theorem bdV_mono {n m a b : Nat} {v : Val} (h : bdV n a v = true) (h1 : n ≤ m) (h2 : a ≤ b) : bdV m b v = true := by
  obtain ⟨d, e, x, y, z, w⟩ := bdV_iff.mp h
  exact bdV_iff.mpr ⟨d, e, x, by omega, z, by omega⟩
theorem bdVs {n dp : Nat} : ∀ {xs : List Val}, (∀ x ∈ xs, bdV n dp x = true) → ∃ ds, toDs xs = some ds ∧ PyData.showableAll ds = true ∧ PyData.depthAll ds ≤ dp ∧ lowDs ds = true ∧ szDs ds ≤ xs.length * (n + 2)
  | [], _ => ⟨[], by simp [execSs_2, execS_10, evalE_20, evalE_25, evalE_27, evalE_28, evalE_29, evalE_30, evalE_31, evalE_32, evalE_33, tgtSet_2, tgtSet_3, tgtSet_4, execS_3, execS_4, execS_5, execS_6, execS_7, execS_8, execS_9, toDs], by simp [execSs_2, execS_10, evalE_20, evalE_25, evalE_27, evalE_28, evalE_29, evalE_30, evalE_31, evalE_32, evalE_33, tgtSet_2, tgtSet_3, tgtSet_4, execS_3, execS_4, execS_5, execS_6, execS_7, execS_8, execS_9, PyData.showableAll], by simp [execSs_2, execS_10, evalE_20, evalE_25, evalE_27, evalE_28, evalE_29, evalE_30, evalE_31, evalE_32, evalE_33, tgtSet_2, tgtSet_3, tgtSet_4, execS_3, execS_4, execS_5, execS_6, execS_7, execS_8, execS_9, PyData.depthAll], by simp [execSs_2, execS_10, evalE_20, evalE_25, evalE_27, evalE_28, evalE_29, evalE_30, evalE_31, evalE_32, evalE_33, tgtSet_2, tgtSet_3, tgtSet_4, execS_3, execS_4, execS_5, execS_6, execS_7, execS_8, execS_9, lowDs], by simp [execSs_2, execS_10, evalE_20, evalE_25, evalE_27, evalE_28, evalE_29, evalE_30, evalE_31, evalE_32, evalE_33, tgtSet_2, tgtSet_3, tgtSet_4, execS_3, execS_4, execS_5, execS_6, execS_7, execS_8, execS_9, szDs]⟩
  | x :: xs, h => by
    obtain ⟨d, e, a1, a2, a3, a4⟩ := bdV_iff.mp (h x (by simp [execSs_2, execS_10, evalE_20, evalE_25, evalE_27, evalE_28, evalE_29, evalE_30, evalE_31, evalE_32, evalE_33, tgtSet_2, tgtSet_3, tgtSet_4, execS_3, execS_4, execS_5, execS_6, execS_7, execS_8, execS_9]))
    obtain ⟨ds, e2, b1, b2, b3, b4⟩ := bdVs (xs := xs) fun y hy => h y (by simp [execSs_2, execS_10, evalE_20, evalE_25, evalE_27, evalE_28, evalE_29, evalE_30, evalE_31, evalE_32, evalE_33, tgtSet_2, tgtSet_3, tgtSet_4, execS_3, execS_4, execS_5, execS_6, execS_7, execS_8, execS_9, hy])
    refine ⟨d :: ds, by unfold toDs; rw [e, e2], by simp [execSs_2, execS_10, evalE_20, evalE_25, evalE_27, evalE_28, evalE_29, evalE_30, evalE_31, evalE_32, evalE_33, tgtSet_2, tgtSet_3, tgtSet_4, execS_3, execS_4, execS_5, execS_6, execS_7, execS_8, execS_9, PyData.showableAll, a1, b1], by simp only [PyData.depthAll]; omega, by simp [execSs_2, execS_10, evalE_20, evalE_25, evalE_27, evalE_28, evalE_29, evalE_30, evalE_31, evalE_32, evalE_33, tgtSet_2, tgtSet_3, tgtSet_4, execS_3, execS_4, execS_5, execS_6, execS_7, execS_8, execS_9, lowDs, a3, b3], ?_⟩
    have e3 : (x :: xs).length * (n + 2) = xs.length * (n + 2) + (n + 2) := by rw [List.length_cons, Nat.add_mul, Nat.one_mul]
    rw [e3]
    simp only [szDs]
    omega
theorem bdV_lst {n dp m : Nat} {xs : List Val} (h : ∀ x ∈ xs, bdV n dp x = true) (hl : xs.length ≤ m) : bdV (2 + m * (n + 2)) (dp + 1) (.lst xs) = true := by
  obtain ⟨ds, e, b1, b2, b3, b4⟩ := bdVs h
  have := Nat.mul_le_mul_right (n + 2) hl
  exact bdV_iff.mpr ⟨.list ds, by unfold toD; rw [e], by simp [execSs_2, execS_10, evalE_20, evalE_25, evalE_27, evalE_28, evalE_29, evalE_30, evalE_31, evalE_32, evalE_33, tgtSet_2, tgtSet_3, tgtSet_4, execS_3, execS_4, execS_5, execS_6, execS_7, execS_8, execS_9, PyData.showable, b1], by simp only [PyData.depth]; omega, by simp [execSs_2, execS_10, evalE_20, evalE_25, evalE_27, evalE_28, evalE_29, evalE_30, evalE_31, evalE_32, evalE_33, tgtSet_2, tgtSet_3, tgtSet_4, execS_3, execS_4, execS_5, execS_6, execS_7, execS_8, execS_9, lowD, b3], by simp only [szD]; omega⟩
theorem bdV_tup {n dp m : Nat} {xs : List Val} (h : ∀ x ∈ xs, bdV n dp x = true) (hl : xs.length ≤ m) : bdV (3 + m * (n + 2)) (dp + 1) (.tup xs) = true := by
  obtain ⟨ds, e, b1, b2, b3, b4⟩ := bdVs h
  have := Nat.mul_le_mul_right (n + 2) hl
  exact bdV_iff.mpr ⟨.tuple ds, by unfold toD; rw [e], by simp [execSs_2, execS_10, evalE_20, evalE_25, evalE_27, evalE_28, evalE_29, evalE_30, evalE_31, evalE_32, evalE_33, tgtSet_2, tgtSet_3, tgtSet_4, execS_3, execS_4, execS_5, execS_6, execS_7, execS_8, execS_9, PyData.showable, b1], by simp only [PyData.depth]; omega, by simp [execSs_2, execS_10, evalE_20, evalE_25, evalE_27, evalE_28, evalE_29, evalE_30, evalE_31, evalE_32, evalE_33, tgtSet_2, tgtSet_3, tgtSet_4, execS_3, execS_4, execS_5, execS_6, execS_7, execS_8, execS_9, lowD, b3], by simp only [szD]; omega⟩
theorem bdV_str {n : Nat} {x : Str} (h : lowS x = true) (hl : 2 + 4 * x.length ≤ n) : bdV n 1 (.str x) = true := bdV_iff.mpr ⟨.str x, by simp [execSs_2, execS_10, evalE_20, evalE_25, evalE_27, evalE_28, evalE_29, evalE_30, evalE_31, evalE_32, evalE_33, tgtSet_2, tgtSet_3, tgtSet_4, execS_3, execS_4, execS_5, execS_6, execS_7, execS_8, execS_9, toD], by simp [execSs_2, execS_10, evalE_20, evalE_25, evalE_27, evalE_28, evalE_29, evalE_30, evalE_31, evalE_32, evalE_33, tgtSet_2, tgtSet_3, tgtSet_4, execS_3, execS_4, execS_5, execS_6, execS_7, execS_8, execS_9, PyData.showable], by simp [execSs_2, execS_10, evalE_20, evalE_25, evalE_27, evalE_28, evalE_29, evalE_30, evalE_31, evalE_32, evalE_33, tgtSet_2, tgtSet_3, tgtSet_4, execS_3, execS_4, execS_5, execS_6, execS_7, execS_8, execS_9, PyData.depth], by simpa [lowD] using h, by simpa [szD] using hl⟩
theorem bdV_int {n : Nat} {i : Int} (h : i.natAbs < 2 ^ 64) (hl : 1921 ≤ n) : bdV n 1 (.int i) = true := bdV_iff.mpr ⟨.int i, by simp [execSs_2, execS_10, evalE_20, evalE_25, evalE_27, evalE_28, evalE_29, evalE_30, evalE_31, evalE_32, evalE_33, tgtSet_2, tgtSet_3, tgtSet_4, execS_3, execS_4, execS_5, execS_6, execS_7, execS_8, execS_9, toD], by simp [execSs_2, execS_10, evalE_20, evalE_25, evalE_27, evalE_28, evalE_29, evalE_30, evalE_31, evalE_32, evalE_33, tgtSet_2, tgtSet_3, tgtSet_4, execS_3, execS_4, execS_5, execS_6, execS_7, execS_8, execS_9, PyData.showable, log_small h], by simp [execSs_2, execS_10, evalE_20, evalE_25, evalE_27, evalE_28, evalE_29, evalE_30, evalE_31, evalE_32, evalE_33, tgtSet_2, tgtSet_3, tgtSet_4, execS_3, execS_4, execS_5, execS_6, execS_7, execS_8, execS_9, PyData.depth], by simp [execSs_2, execS_10, evalE_20, evalE_25, evalE_27, evalE_28, evalE_29, evalE_30, evalE_31, evalE_32, evalE_33, tgtSet_2, tgtSet_3, tgtSet_4, execS_3, execS_4, execS_5, execS_6, execS_7, execS_8, execS_9, lowD, log_small h], by simpa [szD] using hl⟩
theorem bdV_dct {n dp m : Nat} : ∀ {kvs : List (Key × Val)}, (∀ kv ∈ kvs, bdV n dp (vKey kv.1) = true ∧ bdV n dp kv.2 = true) → ∃ ds, toDk kvs = some ds ∧ PyData.showableKv ds = true ∧ PyData.depthKv ds ≤ dp ∧ lowDk ds = true ∧ szDk ds ≤ kvs.length * (2 * n + 4)
  | [], _ => ⟨[], by simp [execSs_2, execS_10, evalE_20, evalE_25, evalE_27, evalE_28, evalE_29, evalE_30, evalE_31, evalE_32, evalE_33, tgtSet_2, tgtSet_3, tgtSet_4, execS_3, execS_4, execS_5, execS_6, execS_7, execS_8, execS_9, toDk], by simp [execSs_2, execS_10, evalE_20, evalE_25, evalE_27, evalE_28, evalE_29, evalE_30, evalE_31, evalE_32, evalE_33, tgtSet_2, tgtSet_3, tgtSet_4, execS_3, execS_4, execS_5, execS_6, execS_7, execS_8, execS_9, PyData.showableKv], by simp [execSs_2, execS_10, evalE_20, evalE_25, evalE_27, evalE_28, evalE_29, evalE_30, evalE_31, evalE_32, evalE_33, tgtSet_2, tgtSet_3, tgtSet_4, execS_3, execS_4, execS_5, execS_6, execS_7, execS_8, execS_9, PyData.depthKv], by simp [execSs_2, execS_10, evalE_20, evalE_25, evalE_27, evalE_28, evalE_29, evalE_30, evalE_31, evalE_32, evalE_33, tgtSet_2, tgtSet_3, tgtSet_4, execS_3, execS_4, execS_5, execS_6, execS_7, execS_8, execS_9, lowDk], by simp [execSs_2, execS_10, evalE_20, evalE_25, evalE_27, evalE_28, evalE_29, evalE_30, evalE_31, evalE_32, evalE_33, tgtSet_2, tgtSet_3, tgtSet_4, execS_3, execS_4, execS_5, execS_6, execS_7, execS_8, execS_9, szDk]⟩
  | (k, x) :: kvs, h => by
    obtain ⟨⟨d, e, a1, a2, a3, a4⟩, ⟨d2, e2, c1, c2, c3, c4⟩⟩ := (h (k, x) (by simp [execSs_2, execS_10, evalE_20, evalE_25, evalE_27, evalE_28, evalE_29, evalE_30, evalE_31, evalE_32, evalE_33, tgtSet_2, tgtSet_3, tgtSet_4, execS_3, execS_4, execS_5, execS_6, execS_7, execS_8, execS_9])).imp bdV_iff.mp bdV_iff.mp
    obtain ⟨ds, e3, b1, b2, b3, b4⟩ := bdV_dct (m := m) (kvs := kvs) fun y hy => h y (by simp [execSs_2, execS_10, evalE_20, evalE_25, evalE_27, evalE_28, evalE_29, evalE_30, evalE_31, evalE_32, evalE_33, tgtSet_2, tgtSet_3, tgtSet_4, execS_3, execS_4, execS_5, execS_6, execS_7, execS_8, execS_9, hy])
    cases k with
    | inl i =>
      simp only [vKey, toD, Option.some.injEq] at e
      subst e
      refine ⟨(.int i, d2) :: ds, by unfold toDk; simp only at e2; rw [e2, e3], by simp [execSs_2, execS_10, evalE_20, evalE_25, evalE_27, evalE_28, evalE_29, evalE_30, evalE_31, evalE_32, evalE_33, tgtSet_2, tgtSet_3, tgtSet_4, execS_3, execS_4, execS_5, execS_6, execS_7, execS_8, execS_9, PyData.showableKv, a1, c1, b1], by simp only [PyData.depthKv]; omega, by simp [execSs_2, execS_10, evalE_20, evalE_25, evalE_27, evalE_28, evalE_29, evalE_30, evalE_31, evalE_32, evalE_33, tgtSet_2, tgtSet_3, tgtSet_4, execS_3, execS_4, execS_5, execS_6, execS_7, execS_8, execS_9, lowDk, a3, c3, b3], ?_⟩
      have e4 : ((Sum.inl i, x) :: kvs).length * (2 * n + 4) = kvs.length * (2 * n + 4) + (2 * n + 4) := by rw [List.length_cons, Nat.add_mul, Nat.one_mul]
      rw [e4]
      simp only [szDk]
      omega
    | inr i =>
      simp only [vKey, toD, Option.some.injEq] at e
      subst e
      refine ⟨(.str i, d2) :: ds, by unfold toDk; simp only at e2; rw [e2, e3], by simp [execSs_2, execS_10, evalE_20, evalE_25, evalE_27, evalE_28, evalE_29, evalE_30, evalE_31, evalE_32, evalE_33, tgtSet_2, tgtSet_3, tgtSet_4, execS_3, execS_4, execS_5, execS_6, execS_7, execS_8, execS_9, PyData.showableKv, a1, c1, b1], by simp only [PyData.depthKv]; omega, by simp [execSs_2, execS_10, evalE_20, evalE_25, evalE_27, evalE_28, evalE_29, evalE_30, evalE_31, evalE_32, evalE_33, tgtSet_2, tgtSet_3, tgtSet_4, execS_3, execS_4, execS_5, execS_6, execS_7, execS_8, execS_9, lowDk, a3, c3, b3], ?_⟩
      have e4 : ((Sum.inr i, x) :: kvs).length * (2 * n + 4) = kvs.length * (2 * n + 4) + (2 * n + 4) := by rw [List.length_cons, Nat.add_mul, Nat.one_mul]
      rw [e4]
      simp only [szDk]
      omega
theorem repr_bd {n dp : Nat} {v : Val} (h : bdV n dp v = true) (h1 : n ≤ 16000000 := by decide) (h2 : dp ≤ 60 := by decide) : ∃ t, biop .repr [v] = some (.v (.str t)) := by
  obtain ⟨d, e, a, b, c, f⟩ := bdV_iff.mp h
  exact ⟨_, brepr e (showOk_of a (by omega) c (by omega))⟩
theorem bdV_kind {n dp : Nat} {v : Val} (h : bdV n dp v = true) : kindV v < 7 := by
  obtain ⟨d, e, _⟩ := bdV_iff.mp h
  cases v <;> simp [execSs_2, execS_10, evalE_20, evalE_25, evalE_27, evalE_28, evalE_29, evalE_30, evalE_31, evalE_32, evalE_33, tgtSet_2, tgtSet_3, tgtSet_4, execS_3, execS_4, execS_5, execS_6, execS_7, execS_8, execS_9, toD] at e <;> simp [execSs_2, execS_10, evalE_20, evalE_25, evalE_27, evalE_28, evalE_29, evalE_30, evalE_31, evalE_32, evalE_33, tgtSet_2, tgtSet_3, tgtSet_4, execS_3, execS_4, execS_5, execS_6, execS_7, execS_8, execS_9, kindV]
end Rs
end
section
set_option maxRecDepth 100000
set_option maxHeartbeats 400000
/-! Values under the operators, for simp. -/
namespace Rs
open PySem L2
section
variable {i j : Int} {a b : Bool} {x y : Str} {xs ys : List Val} {kvs : List (Key × Val)} {v w : Val} {n : Nat}
@[simp] theorem okV_non : okV .non = true := rfl
@[simp] theorem okV_bl : okV (.bl a) = true := rfl
@[simp] theorem okV_int : okV (.int i) = true := rfl
@[simp] theorem okV_str : okV (.str x) = true := rfl
@[simp] theorem okV_lst : okV (.lst xs) = true := rfl
@[simp] theorem okV_tup : okV (.tup xs) = true := rfl
@[simp] theorem okV_dct : okV (.dct kvs) = true := rfl
@[simp] theorem okV_scr {ns : List Int} : okV (.scr ns) = true := rfl
@[simp] theorem okV_ref : okV (.ref n) = true := rfl
@[simp] theorem kd_non : kindV .non = 0 := by simp only [kindV]
@[simp] theorem kd_bl : kindV (.bl a) = 1 := by simp only [kindV]
@[simp] theorem kd_int : kindV (.int i) = 2 := by simp only [kindV]
@[simp] theorem kd_str : kindV (.str x) = 3 := by simp only [kindV]
@[simp] theorem kd_lst : kindV (.lst xs) = 4 := by simp only [kindV]
@[simp] theorem kd_tup : kindV (.tup xs) = 5 := by simp only [kindV]
@[simp] theorem kd_dct : kindV (.dct kvs) = 6 := by simp only [kindV]
theorem okV_of (h : kindV v < 7) : okV v = true := by cases v <;> first | rfl | (exact absurd h (by decide))
theorem deref_of (h : kindV v < 7) (s : S) : deref s (.v v) = v := by cases v <;> first | rfl | (exact absurd h (by simp [kindV]))
@[simp] theorem bq_isInt' (h : kindV v < 7) : biop .isInt [v] = some (.v (.bl (kindV v == 1 || kindV v == 2))) := by simp only [biop, kInt]; rw [if_neg (by omega)]; rfl
@[simp] theorem bq_isBool' (h : kindV v < 7) : biop .isBool [v] = some (.v (.bl (kindV v == 1))) := by simp only [biop, kBool]; rw [if_neg (by omega)]; rfl
@[simp] theorem bq_isStr' (h : kindV v < 7) : biop .isStr [v] = some (.v (.bl (kindV v == 3))) := by simp only [biop, kStr]; rw [if_neg (by omega)]; rfl
@[simp] theorem bq_isLst' (h : kindV v < 7) : biop .isLst [v] = some (.v (.bl (kindV v == 4))) := by simp only [biop, kLst]; rw [if_neg (by omega)]; rfl
@[simp] theorem bq_isTup' (h : kindV v < 7) : biop .isTup [v] = some (.v (.bl (kindV v == 5))) := by simp only [biop, kTup]; rw [if_neg (by omega)]; rfl
@[simp] theorem bq_isDct' (h : kindV v < 7) : biop .isDct [v] = some (.v (.bl (kindV v == 6))) := by simp only [biop, kDct]; rw [if_neg (by omega)]; rfl
@[simp] theorem bo_addI : binop .add (.int i) (.int j) = some (.v (.int (i + j))) := rfl
@[simp] theorem bo_subI : binop .sub (.int i) (.int j) = some (.v (.int (i - j))) := rfl
@[simp] theorem bo_mulI : binop .mul (.int i) (.int j) = if okMul i j then some (.v (.int (i * j))) else none := rfl
@[simp] theorem bo_divI : binop .fdiv (.int i) (.int j) = if 0 < j ∧ j < 1073741824 then some (.v (.int (i / j))) else none := rfl
@[simp] theorem bo_modI : binop .mod (.int i) (.int j) = if 0 < j then some (.v (.int (i % j))) else none := rfl
@[simp] theorem bo_addS : binop .add (.str x) (.str y) = if x.length + y.length ≤ sizeLine then some (.v (.str (x ++ y))) else none := rfl
@[simp] theorem bo_addL : binop .add (.lst xs) (.lst ys) = if xs.length + ys.length ≤ sizeLine then some (.f (.lst (xs ++ ys) false)) else none := rfl
@[simp] theorem bo_addT : binop .add (.tup xs) (.tup ys) = if xs.length + ys.length ≤ sizeLine then some (.v (.tup (xs ++ ys))) else none := rfl
@[simp] theorem bo_mulL : binop .mul (.lst xs) (.int i) = if -(2 ^ 63) ≤ i ∧ i < 2 ^ 63 ∧ xs.length * i.toNat ≤ sizeLine then some (.f (.lst (rep xs i) false)) else none := rfl
@[simp] theorem co_eqI : cmpop .eq (.int i) (.int j) = some (decide (i = j)) := veq_int _ _
@[simp] theorem co_eqS : cmpop .eq (.str x) (.str y) = some (decide (x = y)) := veq_str _ _
@[simp] theorem co_eqB : cmpop .eq (.bl a) (.bl b) = some (decide (a = b)) := veq_bl _ _
@[simp] theorem co_neI : cmpop .ne (.int i) (.int j) = some (!decide (i = j)) := by simp [cmpop, veq_int]
@[simp] theorem co_neS : cmpop .ne (.str x) (.str y) = some (!decide (x = y)) := by simp [cmpop, veq_str]
@[simp] theorem co_ltI : cmpop .lt (.int i) (.int j) = some (decide (i < j)) := rfl
@[simp] theorem co_gtI : cmpop .gt (.int i) (.int j) = some (decide (j < i)) := rfl
@[simp] theorem co_leI : cmpop .le (.int i) (.int j) = some (!decide (j < i)) := rfl
@[simp] theorem co_geI : cmpop .ge (.int i) (.int j) = some (!decide (i < j)) := rfl
@[simp] theorem co_in : cmpop .isin v w = vin v w := rfl
@[simp] theorem co_nin : cmpop .notin v w = (vin v w).map (!·) := rfl
@[simp] theorem co_isN : cmpop .is_ .non .non = some true := rfl
@[simp] theorem co_isB : cmpop .is_ (.bl a) (.bl b) = some (a == b) := rfl
@[simp] theorem co_isntB : cmpop .isnot (.bl a) (.bl b) = some (!(a == b)) := rfl
@[simp] theorem co_isntN : cmpop .isnot .non .non = some false := rfl
@[simp] theorem bq_lenL : biop .len [.lst xs] = some (.v (.int xs.length)) := rfl
@[simp] theorem bq_lenT : biop .len [.tup xs] = some (.v (.int xs.length)) := rfl
@[simp] theorem bq_lenD : biop .len [.dct kvs] = some (.v (.int kvs.length)) := rfl
@[simp] theorem bq_lenS : biop .len [.str x] = if x.length ≤ sizeLine then some (.v (.int x.length)) else none := rfl
@[simp] theorem bq_lenG {ns : List Int} : biop .len [.scr ns] = some (.v (.int ns.length)) := rfl
@[simp] theorem bq_max2 : biop .max [.int i, .int j] = some (.v (.int (if j > i then j else i))) := rfl
@[simp] theorem bq_min2 : biop .min [.int i, .int j] = some (.v (.int (if j < i then j else i))) := rfl
@[simp] theorem bq_tupL : biop .tuple [.lst xs] = some (.v (.tup xs)) := rfl
@[simp] theorem bq_tupT : biop .tuple [.tup xs] = some (.v (.tup xs)) := rfl
@[simp] theorem bq_dictD : biop .dict [.dct kvs] = some (.f (.dct kvs false)) := rfl
@[simp] theorem bq_listL : biop .list [.lst xs] = some (.f (.lst xs false)) := rfl
@[simp] theorem bq_listT : biop .list [.tup xs] = some (.f (.lst xs false)) := rfl
@[simp] theorem bq_listD : biop .list [.dct kvs] = some (.f (.lst (kvs.map fun kv => vKey kv.1) false)) := rfl
@[simp] theorem bq_intI : biop .int [.int i] = some (.v (.int i)) := rfl
@[simp] theorem mk_app : mkind .append (.lst xs) = true := rfl
@[simp] theorem mk_pop : mkind .pop (.lst xs) = true := rfl
@[simp] theorem mk_ins : mkind .insert (.lst xs) = true := rfl
@[simp] theorem mk_dget : mkind .dget (.dct kvs) = true := rfl
@[simp] theorem mk_dpop : mkind .dpop (.dct kvs) = true := rfl
@[simp] theorem mk_dclear : mkind .dclear (.dct kvs) = true := rfl
@[simp] theorem mk_upd : mkind .upd (.dct kvs) = true := rfl
@[simp] theorem mk_join : mkind .join (.str x) = true := rfl
@[simp] theorem mk_split : mkind .split (.str x) = true := rfl
@[simp] theorem mk_upper : mkind .upper (.str x) = true := rfl
@[simp] theorem vs_lst : vsub (.lst xs) (.int i) = atI xs i := rfl
@[simp] theorem vs_tup : vsub (.tup xs) (.int i) = atI xs i := rfl
@[simp] theorem vs_dctS : vsub (.dct kvs) (.str x) = dget kvs (.inr x) := rfl
@[simp] theorem vsl_lst {lo hi : Option Int} : vslice (.lst xs) lo hi = some (.f (.lst (cut xs lo hi) false)) := rfl
@[simp] theorem vsl_tup {lo hi : Option Int} : vslice (.tup xs) lo hi = some (.v (.tup (cut xs lo hi))) := rfl
@[simp] theorem part_0 : partV [] = some none := rfl
@[simp] theorem part_i : partV [.int i] = some (some i) := rfl
@[simp] theorem step_m1 : vstep (.lst xs) (-1) = some (.f (.lst xs.reverse false)) := rfl
@[simp] theorem step_1 : vstep (.lst xs) 1 = some (.f (.lst xs false)) := rfl
@[simp] theorem src_itL : srcItems .it [.lst xs] = some xs := rfl
@[simp] theorem src_itT : srcItems .it [.tup xs] = some xs := rfl
@[simp] theorem mt_appL {xs : List Val} : mtop .append (.lst xs) [v] = if xs.length < sizeLine then some (.v .non, some (.lst (xs ++ [v]) false)) else none := rfl
@[simp] theorem noSl_v : noSl [.v v] = true := rfl
end
@[simp] theorem beq_no {v : Val} {k : Nat} (h : ¬ kindV v = k) : (kindV v == k) = false := by simpa using h
end Rs
end
section
set_option maxRecDepth 100000
set_option maxHeartbeats 400000
/-! The laws' own draws, forwards. -/
namespace Rs
open PySem L2
/-- the law's own draws stand there -/
class Gen (fs : List Fd) : Prop where
  g : HasGen fs
instance {fs : List Fd} [HasD fs 0 fd__law_feed] [HasD fs 1 fd__law_take] [HasD fs 2 fd__law_pick] [HasD fs 3 fd__law_names] [HasD fs 4 fd__law_things] [HasD fs 5 fd__law_event] [HasD fs 6 fd__law_row] : Gen fs :=
  ⟨⟨HasD.e, HasD.e, HasD.e, HasD.e, HasD.e, HasD.e, HasD.e⟩⟩
@[simp] theorem feed_set (h : List Cell) (i : Nat) (c c' : Cell) : (h.set i c).set i c' = h.set i c' := List.set_set ..
section
variable {T : Tab} {fs : List Fd}
theorem call_e {n i : Nat} {vs : List Val} {h : List Cell} {v : Val} {s : S} (e : callI T fs n i vs h = .ok v s) : s.e = [] := by
  cases n with
  | zero => cases e
  | succ n =>
    unfold callI at e
    cases q : fs[i]? with
    | none => rw [q] at e; cases e
    | some d =>
      rw [q] at e
      simp only [runFd] at e
      split at e
      · split at e <;> first | (cases e; rfl) | (cases e; done) | (exact absurd e exOut_ne)
      · cases e
theorem call_e' {n i : Nat} {vs : List Val} {h h2 : List Cell} {v : Val} {e2 : List Slot} (e : callI T fs n i vs h = .ok v ⟨e2, h2⟩) : callI T fs n i vs h = .ok v ⟨[], h2⟩ := by
  have := call_e e
  simp only at this
  rw [this] at e
  exact e
theorem feed_wp {n : Nat} {h : List Cell} {ns : List Int} {k : Int} {Q : Val → S → Prop} [HasD fs 0 fd__law_feed] (hl : ns.length ≤ 63) (q : ∀ d x, Q (.ref h.length) ⟨[], h ++ [fc d x]⟩) : Wp (callI T fs (n + 1) 0 [.scr ns, .int k] h) Q := by
  obtain ⟨d, x, s2, e⟩ := feed_ok (T := T) (HasD.e (fs := fs) (i := 0)) n h ns k hl
  exact wp_of (call_e' e) (q d x)
theorem take_wp {n : Nat} {h : List Cell} {i : Nat} {size : Int} {Q : Val → S → Prop} [HasD fs 1 fd__law_take] (hc : IsFeed h i) (h0 : 0 < size) (h1 : size < 1073741824) (q : ∀ y d x, 0 ≤ y → y < size → Q (.int y) ⟨[], h.set i (fc d x)⟩) : Wp (callI T fs (n + 1) 1 [.ref i, .int size] h) Q := by
  obtain ⟨r, d, x, s2, e, g1, g2⟩ := take_ok (T := T) (HasD.e (fs := fs) (i := 1)) n h i size hc h0 h1
  exact wp_of (call_e' e) (q r d x g1 g2)
theorem pick_wp {n : Nat} {h : List Cell} {i : Nat} {cs : List Val} {Q : Val → S → Prop} [HasD fs 1 fd__law_take] [HasD fs 2 fd__law_pick] (hc : IsFeed h i) (h0 : cs ≠ []) (h1 : cs.length < 1073741824) (q : ∀ y d x, y ∈ cs → Q y ⟨[], h.set i (fc d x)⟩) : Wp (callI T fs (n + 2) 2 [.ref i, .lst cs] h) Q := by
  obtain ⟨r, d, x, s2, e, g⟩ := pick_ok (T := T) (HasD.e (fs := fs) (i := 1)) (HasD.e (fs := fs) (i := 2)) n h i cs hc h0 h1
  exact wp_of (call_e' e) (q r d x g)
/-- a pick of things that are told in Lean -/
theorem pickT_wp {α : Type} (f : α → Val) (l : List α) {n : Nat} {h : List Cell} {i : Nat} {cs : List Val} {Q : Val → S → Prop} [HasD fs 1 fd__law_take] [HasD fs 2 fd__law_pick] (hc : IsFeed h i) (hl : cs = l.map f) (h0 : l ≠ []) (h1 : l.length < 1073741824) (q : ∀ a d x, a ∈ l → Q (f a) ⟨[], h.set i (fc d x)⟩) : Wp (callI T fs (n + 2) 2 [.ref i, .lst cs] h) Q := by
  subst hl
  refine pick_wp hc (by simpa using h0) (by simpa using h1) fun y d x hy => ?_
  obtain ⟨a, ha, rfl⟩ := List.mem_map.mp hy
  exact q a d x ha
theorem thg_wp {n : Nat} {h : List Cell} {i : Nat} {m : Int} {Q : Val → S → Prop} [HasD fs 1 fd__law_take] [HasD fs 2 fd__law_pick] [HasD fs 3 fd__law_names] [HasD fs 4 fd__law_things] (hc : IsFeed h i) (h0 : 1 ≤ m) (q : ∀ ts d x, GoodT ts → (ts.length : Int) = min m 20 → Q (.dct (alV ts)) ⟨[], h.set i (fc d x)⟩) : Wp (callI T fs (n + 4) 4 [.ref i, .int m] h) Q := by
  obtain ⟨kps, d, x, s2, e, N, hp⟩ := things_ok (T := T) (fs := fs) ⟨HasD.e, HasD.e, HasD.e, HasD.e⟩ n h i m hc (by omega)
  exact wp_of (call_e' e) (q kps d x (goodT_of N hp h0) (by have := N.len; simp at this; omega))
end
/-- repr's text -/
def rp (v : Val) : Str := ((toD v).map PyData.shown).getD ""
@[simp] theorem dp_str {n : Nat} {h : List Cell} {x : Str} : dp n h (.str x) = .str x := by cases n <;> rfl
@[simp] theorem dp_int {n : Nat} {h : List Cell} {x : Int} : dp n h (.int x) = .int x := by cases n <;> rfl
@[simp] theorem dp_bl {n : Nat} {h : List Cell} {x : Bool} : dp n h (.bl x) = .bl x := by cases n <;> rfl
@[simp] theorem dp_non {n : Nat} {h : List Cell} : dp n h .non = .non := by cases n <;> rfl
@[simp] theorem veq_strs (a b : Str) : veq (.str a) (.str b) = some (decide (a = b)) := veq_str a b
@[simp] theorem veq_ints (a b : Int) : veq (.int a) (.int b) = some (decide (a = b)) := veq_int a b
/-- how many cells of the script a law looks at -/
def cellsN (N : Int) (ns : List Int) : Int := if (if (ns.length : Int) < N then (ns.length : Int) else N) > 1 then (if (ns.length : Int) < N then (ns.length : Int) else N) else 1
theorem cellsN_ok {N : Int} {ns : List Int} (h : N ≤ 1000) : 1 ≤ cellsN N ns ∧ cellsN N ns ≤ 1000 := by unfold cellsN; split <;> split at * <;> omega
theorem cells_rng {N : Int} {ns : List Int} (h : N ≤ 1000) : srcItems .rng [.int (cellsN N ns)] = some (rangeV 0 (cellsN N ns).toNat) := by
  have := cellsN_ok (ns := ns) h
  exact rng1 (by omega) (by omega)
end Rs
end
section
set_option maxRecDepth 100000
set_option maxHeartbeats 400000
/-! Dicts of odd keys, forwards: made, and walked. -/
namespace Rs
open PySem L2
section
variable {T : Tab} {C : Call} {e : List Slot} {h : List Cell}
def MkK (Q : Rv → S → Prop) (x : Rv) (s : S) : Prop := ∃ xs, deref s (opnd x) = .lst xs ∧
  ((∃ kvs, pairsV xs = some kvs ∧ Q (.f (.dct (dmerge [] kvs) false)) s) ∨ ∃ kvs, pairsV xs = none ∧ oddV xs = some kvs ∧ (kvs.map fun kv => nkV kv.1).Nodup ∧ kvs.length ≤ sizeLine ∧ Q (.v (.odd kvs)) s)
theorem wp_mkod {a : IE} {Q : Rv → S → Prop} (k : Wp (evalE T C a ⟨e, h⟩) (MkK Q)) : Wp (evalE T C (.mkod a) ⟨e, h⟩) Q := by
  obtain ⟨x, s, e1, xs, hd, q⟩ := k
  rw [evalE_37, e1]
  show Wp (match deref s (opnd x) with
    | .lst xs => match pairsV xs, oddV xs with
      | some kvs, _ => .ok (.f (.dct (dmerge [] kvs) false)) s
      | none, some kvs => if (kvs.map fun kv => nkV kv.1).Nodup ∧ kvs.length ≤ sizeLine then .ok (.v (.odd kvs)) s else .bad
      | _, _ => .bad
    | _ => .bad) Q
  rw [hd]
  rcases q with ⟨kvs, hp, q⟩ | ⟨kvs, hp, ho, hn, hl, q⟩
  · simp only [hp]
    exact wp_of rfl q
  · simp only [hp, ho]
    rw [if_pos ⟨hn, hl⟩]
    exact wp_of rfl q
def LciK (T : Tab) (C : Call) (elt : IE) (p : Pat) (its : Bool) (conds : List IE) (vs : List Nat) (Q : Rv → S → Prop) (x : Val) (s : S) : Prop :=
  ∃ items, itemsI its x = some items ∧ Wp (compL (patSet p) (evalTs T C conds) (fun s => (evalE T C elt s).val) vs putL items { s with e := wipeE s.e vs } []) fun acc s2 => Q (.f (.lst acc false)) { s2 with e := restE s.e s2.e vs }
@[simp] theorem wp_lci {elt : IE} {p : Pat} {its : Bool} {a : IE} {conds : List IE} {vs : List Nat} {Q : Rv → S → Prop} : Wp (evalE T C (.lci elt p its a conds vs) ⟨e, h⟩) Q = Wp (evalE T C a ⟨e, h⟩).vl (LciK T C elt p its conds vs Q) := by
  rw [evalE_38]
  show Wp ((evalE T C a ⟨e, h⟩).vl.bind _) Q = _
  cases (evalE T C a ⟨e, h⟩).vl with
  | ok x s =>
    rw [wp_ok]
    show Wp (match itemsI its x with
      | none => .bad
      | some items => (compL (patSet p) (evalTs T C conds) (fun s => (evalE T C elt s).val) vs putL items { s with e := wipeE s.e vs } []).bnd fun acc s2 => .ok (.f (.lst acc false)) { s2 with e := restE s.e s2.e vs }) Q = _
    unfold LciK
    cases itemsI its x with
    | none =>
      show Wp .bad Q = _
      rw [wp_bad]
      exact propext ⟨False.elim, fun ⟨_, z, _⟩ => nomatch z⟩
    | some items =>
      show Wp (R.bnd _ _) Q = _
      rw [wp_bnd]
      conv => lhs; simp only [wp_ok]
      exact propext ⟨fun z => ⟨items, rfl, z⟩, fun ⟨_, y, z⟩ => by cases y; exact z⟩
  | exc c v s => exact wp_exc.trans wp_exc.symm
  | bad => exact wp_bad.trans wp_bad.symm
theorem lciK_map {α : Type} {elt : IE} {p : Pat} {its : Bool} {conds : List IE} {vs : List Nat} {x : Val} {Q : Rv → S → Prop} (l : List α) (f : α → Val) (c : α → Bool) (y : α → Val)
    (q2 : itemsI its x = some (l.map f)) (hs : l.length ≤ sizeLine)
    (hb : ∀ a ∈ l, ∃ e1, patSet p (f a) (wipeE e vs) = some e1 ∧ wipeE e1 vs = wipeE e vs ∧ (∀ K : Bool → S → Prop, K (c a) ⟨e1, h⟩ → Wp (evalTs T C conds ⟨e1, h⟩) K) ∧ (c a = true → ∀ K : Val → S → Prop, K (y a) ⟨e1, h⟩ → Wp (evalE T C elt ⟨e1, h⟩).vl K))
    (hq : Q (.f (.lst ((l.filter c).map y) false)) ⟨e, h⟩) (hr : restE e (wipeE e vs) vs = e := by rfl) : LciK T C elt p its conds vs Q x ⟨e, h⟩ := by
  refine ⟨_, q2, ?_⟩
  have := comp_map (st := patSet p) (tst := evalTs T C conds) (elt := fun s => (evalE T C elt s).val) (vs := vs) (ew := wipeE e vs) (h := h) f c y l [] (fun a ha => by
    obtain ⟨e1, h1, h2, h3, h4⟩ := hb a ha
    exact ⟨e1, h1, h2, wp_eq (h3 _ ⟨rfl, rfl⟩), fun hc => wp_eq (h4 hc _ ⟨rfl, rfl⟩)⟩) (by simpa using hs)
  refine wp_of this ?_
  simp only [hr]
  exact hq
def ForiK (T : Tab) (C : Call) (p : Pat) (its : Bool) (b : List IS) (Q : Fl → S → Prop) (x : Val) (s : S) : Prop := ∃ items, itemsI its x = some items ∧ Wp (forL (patSet p) (execSs T C b) items s) Q
@[simp] theorem wp_fori {p : Pat} {its : Bool} {a : IE} {b : List IS} {Q : Fl → S → Prop} : Wp (execS T C (.fori p its a b) ⟨e, h⟩) Q = Wp (evalE T C a ⟨e, h⟩).vl (ForiK T C p its b Q) := by
  rw [execS_20]
  show Wp ((evalE T C a ⟨e, h⟩).vl.bind _) Q = _
  cases (evalE T C a ⟨e, h⟩).vl with
  | ok x s =>
    rw [wp_ok]
    show Wp (match itemsI its x with
      | none => .bad
      | some items => forL (patSet p) (execSs T C b) items s) Q = _
    unfold ForiK
    cases itemsI its x with
    | none =>
      show Wp .bad Q = _
      rw [wp_bad]
      exact propext ⟨False.elim, fun ⟨_, z, _⟩ => nomatch z⟩
    | some items => exact propext ⟨fun z => ⟨items, rfl, z⟩, fun ⟨_, y, z⟩ => by cases y; exact z⟩
  | exc c v s => exact wp_exc.trans wp_exc.symm
  | bad => exact wp_bad.trans wp_bad.symm
/-- a loop that goes on while c stands, and says no at the first one where it does not -/
theorem for_all {α : Type} {p : Pat} {b : List IS} {ix : List Nat} (f : α → Val) (c : α → Bool) : ∀ (l : List α) (as : List Slot),
    (∀ a ∈ l, ∀ as, ∃ e', patSet p (f a) (Up e ix as) = some e' ∧ ∀ K : Fl → S → Prop, (c a = true → ∀ as', K .nx ⟨Up e ix as', h⟩) → (c a = false → ∀ e2, K (.rt (.bl false)) ⟨e2, h⟩) → Wp (execSs T C b ⟨e', h⟩) K) →
    ∀ {Q : Fl → S → Prop}, (l.all c = true → ∀ as, Q .nx ⟨Up e ix as, h⟩) → (l.all c = false → ∀ e2, Q (.rt (.bl false)) ⟨e2, h⟩) → Wp (forL (patSet p) (execSs T C b) (l.map f) ⟨Up e ix as, h⟩) Q
  | [], as, _, Q, h1, _ => wp_of (by simp [forL]) (h1 rfl as)
  | a :: l, as, hb, Q, h1, h2 => by
    obtain ⟨e', g1, g2⟩ := hb a List.mem_cons_self as
    rw [List.map_cons]
    unfold forL
    simp only [g1]
    cases hc : c a with
    | true =>
      obtain ⟨fl, s2, g3, as', rfl, rfl⟩ := g2 (fun fl s => ∃ as', fl = .nx ∧ s = ⟨Up e ix as', h⟩) (fun _ as' => ⟨as', rfl, rfl⟩) (fun z => by rw [hc] at z; cases z)
      simp only [g3]
      exact for_all f c l as' (fun a ha => hb a (List.mem_cons_of_mem _ ha)) (fun z => h1 (by simp [hc, z])) (fun z => h2 (by simp [hc, z]))
    | false =>
      obtain ⟨fl, s2, g3, e2, rfl, rfl⟩ := g2 (fun fl s => ∃ e2, fl = .rt (.bl false) ∧ s = ⟨e2, h⟩) (fun z => by rw [hc] at z; cases z) (fun _ e2 => ⟨e2, rfl, rfl⟩)
      simp only [g3]
      exact wp_of rfl (h2 (by simp [hc]) e2)
theorem foriK_all {α : Type} {p : Pat} {its : Bool} {b : List IS} {x : Val} {Q : Fl → S → Prop} (ix : List Nat) (as : List Slot) (l : List α) (f : α → Val) (c : α → Bool) (q2 : itemsI its x = some (l.map f)) (he : Up e ix as = e)
    (hb : ∀ a ∈ l, ∀ as, ∃ e', patSet p (f a) (Up e ix as) = some e' ∧ ∀ K : Fl → S → Prop, (c a = true → ∀ as', K .nx ⟨Up e ix as', h⟩) → (c a = false → ∀ e2, K (.rt (.bl false)) ⟨e2, h⟩) → Wp (execSs T C b ⟨e', h⟩) K)
    (h1 : l.all c = true → ∀ as, Q .nx ⟨Up e ix as, h⟩) (h2 : l.all c = false → ∀ e2, Q (.rt (.bl false)) ⟨e2, h⟩) : ForiK T C p its b Q x ⟨e, h⟩ := by
  refine ⟨_, q2, ?_⟩
  have := for_all (T := T) (C := C) (e := e) (h := h) (ix := ix) (p := p) (b := b) f c l as hb h1 h2
  rwa [he] at this
end
end Rs
end
section
set_option maxRecDepth 100000
set_option maxHeartbeats 400000
/-! things.py -/
namespace Rs
open PySem L2
section
variable {T : Tab} {fs : List Fd} [HasD fs 14 fd_is_one_of] [HasD fs 15 fd_is_event]
def oneOf (ns : List Str) : Val → Bool
  | .str x => decide (x ∈ ns)
  | _ => false
theorem oneOf_no {ns : List Str} {v : Val} (h : kindV v ≠ 3) : oneOf ns v = false := by cases v <;> first | rfl | exact absurd rfl h
theorem vin_al (x : Str) (ts : AL) : vin (.str x) (.dct (alV ts)) = some (decide (x ∈ ts.map (·.1))) := by
  simp only [vin, keyV, dget_al]
  cases q : AL.get ts x with
  | none => simp [get_none.mp q]
  | some k => simp [List.mem_map.mpr ⟨_, get_some q, rfl⟩]
omit [HasD fs 15 fd_is_event] in
@[simp] theorem is_one_of_ok (n : Nat) (h : List Cell) (v : Val) (ts : AL) (hv : kindV v < 7) : callI T fs (n + 1) 14 [v, .dct (alV ts)] h = .ok (.bl (oneOf (ts.map (·.1)) v)) ⟨[], h⟩ := by
  refine wp_eq (wp_def (d := fd_is_one_of) HasD.e rfl rfl ?_)
  show Wp (execSs T (callI T fs n) is_is_one_of ⟨[.val v, .val (.dct (alV ts))], h⟩) _
  unfold is_is_one_of
  by_cases h3 : kindV v = 3
  · obtain ⟨x, rfl⟩ : ∃ x, v = .str x := by cases v <;> first | exact ⟨_, rfl⟩ | cases h3
    simp [vin_al, oneOf]
  · have h3' : (kindV v == 3) = false := by simpa using h3
    simp [okV_of hv, deref_of hv, hv, h3', oneOf_no h3]
def evOk (ns : List Str) : Val → Bool
  | .tup [.str w, b] => (decide (w = "call") || decide (w = "void")) && oneOf ns b
  | _ => false
theorem vin_words (x : Str) : vin (.str x) (.tup [.str "call", .str "void"]) = some (decide (x = "call") || decide (x = "void")) := by
  have e : ∀ y : Str, PyData.eqv (.str y) (.str x) = decide (x = y) := fun y => by
    have := veq_str y x
    simp only [veq, toD] at this
    rw [if_pos (by rfl)] at this
    rw [Option.some.inj this]
    exact decide_eq_decide.mpr eq_comm
  simp [vin, toD, toDs, okD, PyData.plain, PyData.depth, PyData.plainAll, PyData.depthAll, e]
theorem is_event_ok (n : Nat) (h : List Cell) (v : Val) (ts : AL) (hv : kindV v < 7) (hs : ∀ a b, v = .tup [a, b] → kindV a < 7 ∧ kindV b < 7) : callI T fs (n + 2) 15 [.dct (alV ts), v] h = .ok (.bl (evOk (ts.map (·.1)) v)) ⟨[], h⟩ := by
  refine wp_eq (wp_def (d := fd_is_event) HasD.e rfl rfl ?_)
  show Wp (execSs T (callI T fs (n + 1)) is_is_event ⟨[.val (.dct (alV ts)), .val v], h⟩) _
  unfold is_is_event
  have hno : (∀ a b, v ≠ .tup [a, b]) → evOk (ts.map (·.1)) v = false := fun hx => by unfold evOk; split <;> first | rfl | exact absurd rfl (hx _ _)
  by_cases h5 : kindV v = 5
  · obtain ⟨xs, rfl⟩ : ∃ x, v = .tup x := by cases v <;> first | exact ⟨_, rfl⟩ | cases h5
    match xs, hs, hno with
    | [a, b], hs, _ =>
      obtain ⟨h1, h2⟩ := hs a b rfl
      by_cases h3 : kindV a = 3
      · obtain ⟨x, rfl⟩ : ∃ x, a = .str x := by cases a <;> first | exact ⟨_, rfl⟩ | cases h3
        simp [atI, ixN, vin_words, deref_of h2]
        generalize hb : (decide (x = "call") || decide (x = "void")) = wb
        cases wb
        · simp [evOk, hb]
        · simp [h2, atI, ixN, evOk, hb]
      · have h3' : (kindV a == 3) = false := by simpa using h3
        have : evOk (ts.map (·.1)) (.tup [a, b]) = false := by cases a <;> first | rfl | exact absurd rfl h3
        simp [atI, ixN, okV_of h1, deref_of h1, h1, h3', this]
    | [], _, hno => simp [evOk]
    | [a], _, hno => simp [evOk]
    | a :: b :: c :: r, _, hno =>
      have : ¬ ((r.length : Int) + 1 + 1 + 1 = 2) := by omega
      simp [this, hno]
  · have h5' : (kindV v == 5) = false := by simpa using h5
    simp [okV_of hv, deref_of hv, hv, h5', hno fun a b z => h5 (by rw [z]; simp)]
@[simp] theorem is_event_str (n : Nat) (h : List Cell) (w x : Str) (ts : AL) : callI T fs (n + 2) 15 [.dct (alV ts), .tup [.str w, .str x]] h = .ok (.bl (evOk (ts.map (·.1)) (.tup [.str w, .str x]))) ⟨[], h⟩ :=
  is_event_ok n h _ ts (by simp) fun a b e => by cases e; simp
end
end Rs
end
section
set_option maxRecDepth 100000
set_option maxHeartbeats 400000
/-! Texts in order; in a list of texts. -/
namespace Rs
open PySem L2
@[simp] theorem bq_sortS {xs : List Str} (h : xs.length ≤ 1000000) : biop .sorted [.lst (xs.map .str)] = some (.f (.lst ((sortS xs).map .str) false)) := by
  have hb := size_big
  simp only [biop, vsort_str xs (by omega), Option.map_some]
theorem eqv_strs (x y : Str) : PyData.eqv (.str y) (.str x) = decide (x = y) := by
  have := veq_str y x
  simp only [veq, toD] at this
  rw [if_pos (by rfl)] at this
  rw [Option.some.inj this]
  exact decide_eq_decide.mpr eq_comm
theorem plain_strs : ∀ ys : List Str, PyData.plainAll (ys.map PyData.str) = true ∧ PyData.depthAll (ys.map PyData.str) = 0
  | [] => by simp [PyData.plainAll, PyData.depthAll]
  | y :: ys => by
    have := plain_strs ys
    simp [PyData.plainAll, PyData.plain, PyData.depthAll, PyData.depth, this]
theorem any_strs (x : Str) : ∀ ys : List Str, ((ys.map PyData.str).any fun z => PyData.eqv z (.str x)) = decide (x ∈ ys)
  | [] => by simp
  | y :: ys => by
    rw [List.map_cons, List.any_cons, eqv_strs, any_strs x ys, Bool.eq_iff_iff]
    simp
@[simp] theorem vin_strs (x : Str) (ys : List Str) : vin (.str x) (.lst (ys.map .str)) = some (decide (x ∈ ys)) := by
  obtain ⟨h1, h2⟩ := plain_strs ys
  simp only [vin, toD, toDs_str]
  rw [if_pos (by simp [okD, PyData.plain, PyData.depth, h1, h2]), any_strs]
@[simp] theorem vin_strsT (x : Str) (ys : List Str) : vin (.str x) (.tup (ys.map .str)) = some (decide (x ∈ ys)) := by
  obtain ⟨h1, h2⟩ := plain_strs ys
  simp only [vin, toD, toDs_str]
  rw [if_pos (by simp [okD, PyData.plain, PyData.depth, h1, h2]), any_strs]
@[simp] theorem vin_str1 (x y : Str) : vin (.str x) (.lst [.str y]) = some (decide (x = y)) := by
  have := vin_strs x [y]
  simpa using this
@[simp] theorem vin_tup0 (x : Str) : vin (.str x) (.tup []) = some false := by
  have := vin_strsT x []
  simpa using this
@[simp] theorem vin_lst0 (x : Str) : vin (.str x) (.lst []) = some false := by
  have := vin_strs x []
  simpa using this
end Rs
end
section
set_option maxRecDepth 100000
set_option maxHeartbeats 400000
/-! Data whose comparison is Lean's. -/
namespace Rs
open PySem L2
structure EqD {α : Type} [DecidableEq α] (f : α → Val) (g : α → PyData) (n : Nat) : Prop where
  to : ∀ a, toD (f a) = some (g a) ∧ (g a).plain = true ∧ (g a).depth ≤ n
  eq : ∀ a b, PyData.eqv (g a) (g b) = decide (a = b)
class EqT {α : Type} [DecidableEq α] (f : α → Val) (n : outParam Nat) : Prop where
  ex : ∃ g, EqD f g n
instance : EqT Val.str 0 := ⟨PyData.str, fun a => ⟨rfl, rfl, Nat.le_refl _⟩, fun a b => by rw [eqv_strs]; exact decide_eq_decide.mpr eq_comm⟩
instance : EqT Val.int 0 := ⟨PyData.int, fun a => ⟨rfl, rfl, Nat.le_refl _⟩, fun a b => by simp only [PyData.eqv]; exact Bool.eq_iff_iff.mpr (by simp)⟩
instance : EqT Val.bl 0 := ⟨PyData.bool, fun a => ⟨rfl, rfl, Nat.le_refl _⟩, fun a b => by simp only [PyData.eqv]; exact Bool.eq_iff_iff.mpr (by simp)⟩
section
variable {α : Type} [DecidableEq α] {f : α → Val} {g : α → PyData} {n : Nat}
theorem EqD.tos (q : EqD f g n) : ∀ xs : List α, toDs (xs.map f) = some (xs.map g) ∧ PyData.plainAll (xs.map g) = true ∧ PyData.depthAll (xs.map g) ≤ n
  | [] => by simp [toDs, PyData.plainAll, PyData.depthAll]
  | x :: xs => by
    obtain ⟨a, b, c⟩ := q.to x
    obtain ⟨d, e, k⟩ := q.tos xs
    simp only [List.map_cons, toDs, a, d, PyData.plainAll, PyData.depthAll, b, e, Bool.and_self, true_and]
    omega
theorem EqD.eqs (q : EqD f g n) : ∀ xs ys : List α, PyData.eqvAll (xs.map g) (ys.map g) = decide (xs = ys)
  | [], [] => rfl
  | [], y :: ys => rfl
  | x :: xs, [] => rfl
  | x :: xs, y :: ys => by
    simp only [List.map_cons, PyData.eqvAll, q.eq, q.eqs xs ys]
    exact Bool.eq_iff_iff.mpr (by simp)
instance [h : EqT f n] : EqT (fun xs : List α => Val.lst (xs.map f)) (n + 1) := by
  obtain ⟨g, q⟩ := h.ex
  exact ⟨fun xs => .list (xs.map g), fun xs => by
    obtain ⟨a, b, c⟩ := q.tos xs
    simp only [toD, a, PyData.plain, PyData.depth, b, true_and]
    omega, fun xs ys => by simp only [PyData.eqv, q.eqs]⟩
instance [h : EqT f n] : EqT (fun xs : List α => Val.tup (xs.map f)) (n + 1) := by
  obtain ⟨g, q⟩ := h.ex
  exact ⟨fun xs => .tuple (xs.map g), fun xs => by
    obtain ⟨a, b, c⟩ := q.tos xs
    simp only [toD, a, PyData.plain, PyData.depth, b, true_and]
    omega, fun xs ys => by simp only [PyData.eqv, q.eqs]⟩
theorem veq_T (h : EqT f n) (a b : α) (hn : n ≤ 50 := by decide) : veq (f a) (f b) = some (decide (a = b)) := by
  obtain ⟨g, q⟩ := h.ex
  obtain ⟨a1, a2, a3⟩ := q.to a
  obtain ⟨b1, b2, b3⟩ := q.to b
  unfold veq
  simp only [a1, b1]
  rw [if_pos (by simp [okD, a2, b2]; omega), q.eq]
end
@[simp] theorem co_eqLS (xs ys : List Str) : cmpop .eq (.lst (xs.map .str)) (.lst (ys.map .str)) = some (decide (xs = ys)) := by
  have := veq_T (f := fun xs => Val.lst (xs.map .str)) inferInstance xs ys
  simp only [cmpop, veqX, this]
@[simp] theorem co_neLS (xs ys : List Str) : cmpop .ne (.lst (xs.map .str)) (.lst (ys.map .str)) = some (!decide (xs = ys)) := by
  have := veq_T (f := fun xs => Val.lst (xs.map .str)) inferInstance xs ys
  simp only [cmpop, veqX, this, Option.map_some]
@[simp] theorem co_neLS0 (xs : List Str) : cmpop .ne (.lst (xs.map .str)) (.lst []) = some (!decide (xs = [])) := co_neLS xs []
@[simp] theorem co_eqLS0 (xs : List Str) : cmpop .eq (.lst (xs.map .str)) (.lst []) = some (decide (xs = [])) := co_eqLS xs []
@[simp] theorem co_neTS0 (xs : List Str) : cmpop .ne (.tup (xs.map .str)) (.tup []) = some (!decide (xs = [])) := by
  have := veq_T (f := fun xs => Val.tup (xs.map .str)) inferInstance xs ([] : List Str)
  simp only [List.map_nil] at this
  simp only [cmpop, veqX, this, Option.map_some]
@[simp] theorem co_eqTS0 (xs : List Str) : cmpop .eq (.tup (xs.map .str)) (.tup []) = some (decide (xs = [])) := by
  have := veq_T (f := fun xs => Val.tup (xs.map .str)) inferInstance xs ([] : List Str)
  simp only [List.map_nil] at this
  simp only [cmpop, veqX, this]
@[simp] theorem co_neLI2 (a b c d : Int) : cmpop .ne (.lst [.int a, .int b]) (.lst [.int c, .int d]) = some (!(decide (a = c) && decide (b = d))) := by
  have := veq_T (f := fun xs => Val.lst (xs.map .int)) inferInstance [a, b] [c, d]
  simp only [List.map_cons, List.map_nil] at this
  simp only [cmpop, veqX, this, Option.map_some]
  simp
end Rs
end
section
set_option maxRecDepth 100000
set_option maxHeartbeats 400000
/-! A while whose condition changes cells; ends of lists. -/
namespace Rs
open PySem L2
section
variable {T : Tab} {C : Call}
end
end Rs
end
section
set_option maxRecDepth 100000
set_option maxHeartbeats 400000
/-! comprehensions over the dict of a name -/
namespace Rs
open PySem L2
section
variable {T : Tab} {C : Call}
def LckK (T : Tab) (C : Call) (elt : IE) (p : Pat) (its : Bool) (i : Nat) (conds : List IE) (vs : List Nat) (Q : Rv → S → Prop) (sl : Slot) (s : S) : Prop :=
  Wp (match sl with
    | .val (.dct kvs) => (compL (patSet p) (evalTs T C conds) (fun s => (evalE T C elt s).val) vs putL (keysV its kvs) { s with e := wipeE s.e vs } []).bind fun acc s2 => .ok (.f (.lst acc false)) { s2 with e := restE s.e s2.e vs }
    | .own (.dct kvs false) => (compL (patSet p) (evalTs T C conds) (fun s => (evalE T C elt s).val) vs putL (keysV its kvs) { s with e := wipeE (s.e.set i (.own (.dct kvs true))) vs } []).bind fun acc s2 => match slotOf { s2 with e := restE s.e s2.e vs } i with
      | .own (.dct kvs2 true) => .ok (.f (.lst acc false)) { s2 with e := (restE s.e s2.e vs).set i (.own (.dct kvs2 false)) }
      | _ => .bad
    | _ => .bad) Q
@[simp] theorem wp_lck {elt : IE} {p : Pat} {its : Bool} {i : Nat} {conds : List IE} {vs : List Nat} {e : List Slot} {h : List Cell} {Q : Rv → S → Prop} : Wp (evalE T C (.lck elt p its i conds vs) ⟨e, h⟩) Q = LckK T C elt p its i conds vs Q (e.getD i .no) ⟨e, h⟩ := by
  rw [evalE_23]
  rfl
section
variable {α : Type} {elt : IE} {p : Pat} {its : Bool} {i : Nat} {conds : List IE} {vs : List Nat} {e : List Slot} {h : List Cell} {Q : Rv → S → Prop} {kvs : List (Key × Val)}
end
end
@[simp] theorem mt_clear (kvs : List (Key × Val)) : mtop .dclear (.dct kvs) [] = some (.v .non, some (.dct [] false)) := rfl
@[simp] theorem co_neB (a b : Bool) : cmpop .ne (.bl a) (.bl b) = some (!decide (a = b)) := by simp [cmpop, veqX, veq_bl]
@[simp] theorem kvs_0 : kvsOf [] = some [] := rfl
@[simp] theorem kvs_s (x : Str) (v : Val) (r : List Val) : kvsOf (.str x :: v :: r) = (kvsOf r).map fun t => (.inr x, v) :: t := by
  simp only [kvsOf, keyV]
  cases kvsOf r <;> rfl
@[simp] theorem dmerge_0 : dmerge [] [] = [] := rfl
@[simp] theorem dmerge_1 (k : Key) (v : Val) : dmerge [] [(k, v)] = [(k, v)] := rfl
@[simp] theorem bo_pow (i j : Int) : binop .pow (.int i) (.int j) = if 0 ≤ j ∧ j ≤ 1000000 ∧ i.natAbs < 2 ^ 64 then some (.v (.int (i ^ j.toNat))) else none := rfl
@[simp] theorem wp_twoB {b : Bool} {s : S} {K : Bool → S → Prop} : Wp (R.two b (R.ok true s) (R.ok false s)) K = K b s := by
  cases b <;> exact wp_ok
@[simp] theorem subV_d (kvs : List (Key × Val)) (k : Str) (v : Val) : subV (.dct kvs) (.str k) v = if kvs.length < sizeLine then some (.dct (dput kvs (.inr k) v) false) else none := rfl
@[simp] theorem subV_l (xs : List Val) (i : Int) (v : Val) : subV (.lst xs) (.int i) v = (ixN xs.length i).map fun j => .lst (xs.set j v) false := rfl
def permF (vs : List Val) : Nat ⊕ Val → Val
  | .inl k => vs.getD k .non
  | .inr d => d
@[simp] theorem permF_l (vs : List Val) (k : Nat) : permF vs (.inl k) = vs.getD k .non := rfl
@[simp] theorem permF_r (vs : List Val) (v : Val) : permF vs (.inr v) = v := rfl
@[simp] theorem permV_c (vs : List Val) (x : Nat ⊕ Val) (pm : List (Nat ⊕ Val)) : permV vs (x :: pm) = (x :: pm).map (permF vs) := by
  unfold permV
  exact List.map_congr_left fun y _ => by cases y <;> rfl
theorem deqK_self {ts : AL} : ∀ (l : AL), (∀ q ∈ l, AL.get ts q.1 = some q.2) → deqK (alV ts) (alV l) = some true
  | [], _ => rfl
  | (x, k) :: l, h => by
    have h1 := h (x, k) (by simp)
    have ih := deqK_self l fun q hq => h q (by simp [hq])
    simp only at h1
    show deqK (alV ts) ((.inr x, .int k) :: alV l) = _
    simp only [deqK, dget_al, h1, Option.map_some, veq_int, ih]
    simp
@[simp] theorem co_neD {ts : AL} (nd : (ts.map (·.1)).Nodup) : cmpop .ne (.dct (alV ts)) (.dct (alV ts)) = some false := by
  have := deqK_self (ts := ts) ts (fun q hq => get_mem nd hq)
  simp [cmpop, veqX, this]
end Rs
end
section
set_option maxRecDepth 100000
set_option maxHeartbeats 400000
/-! Data that equals itself; loops over a cell; lists of dicts compared. -/
namespace Rs
open PySem L2
/-- plain data, not too deep: it equals itself -/
def PlD (n : Nat) (v : Val) : Prop := ∃ d, toD v = some d ∧ d.plain = true ∧ d.depth ≤ n ∧ PyData.eqv d d = true
section
variable {n : Nat} {v : Val} {xs : List Val}
end
end Rs
end
section
set_option maxRecDepth 100000
set_option maxHeartbeats 400000
/-! dict(list of pairs). -/
namespace Rs
open PySem L2
def itemsL (l : AL) : List Val := l.map fun p => .tup [.str p.1, .int p.2]
def mergeL (acc l : AL) : AL := l.foldl (fun acc p => AL.put acc p.1 p.2) acc
end Rs
end
section
set_option maxRecDepth 100000
set_option maxHeartbeats 400000
/-! comprehensions over a dict that is a cell -/
namespace Rs
open PySem L2
section
variable {T : Tab} {C : Call}
def LcrK (T : Tab) (C : Call) (elt : IE) (p : Pat) (conds : List IE) (vs : List Nat) (Q : Rv → S → Prop) (x : Rv) (s : S) : Prop :=
  Wp (match x with
    | .v (.ref n) => match s.h[n]? with
      | some (.dct kvs _) => (compL (patSet p) (evalTs T C conds) (fun s => (evalE T C elt s).val) vs putL (keysV false kvs) { s with h := s.h.set n (.dct kvs true), e := wipeE s.e vs } []).bind fun acc s2 => .ok (.f (.lst acc false)) (unlockAll s { s2 with e := restE s.e s2.e vs } [.v (.ref n)])
      | _ => .bad
    | _ => .bad) Q
@[simp] theorem wp_lcr {elt a : IE} {p : Pat} {conds : List IE} {vs : List Nat} {e : List Slot} {h : List Cell} {Q : Rv → S → Prop} : Wp (evalE T C (.lcr elt p a conds vs) ⟨e, h⟩) Q = Wp (evalE T C a ⟨e, h⟩) (LcrK T C elt p conds vs Q) := by
  rw [evalE_34]
  exact wp_bnd
def DcrK (T : Tab) (C : Call) (key elt : IE) (p : Pat) (conds : List IE) (vs : List Nat) (Q : Rv → S → Prop) (x : Rv) (s : S) : Prop :=
  Wp (match x with
    | .v (.ref n) => match s.h[n]? with
      | some (.dct kvs _) => (compL (patSet p) (evalTs T C conds) (fun s => (evalE T C key s).val.bind fun kv s => (evalE T C elt s).val.bind fun x s => match keyV kv with | some k => .ok (k, x) s | none => .bad) vs putD (keysV false kvs) { s with h := s.h.set n (.dct kvs true), e := wipeE s.e vs } []).bind fun acc s2 => .ok (.f (.dct acc false)) (unlockAll s { s2 with e := restE s.e s2.e vs } [.v (.ref n)])
      | _ => .bad
    | _ => .bad) Q
@[simp] theorem wp_dcr {key elt a : IE} {p : Pat} {conds : List IE} {vs : List Nat} {e : List Slot} {h : List Cell} {Q : Rv → S → Prop} : Wp (evalE T C (.dcr key elt p a conds vs) ⟨e, h⟩) Q = Wp (evalE T C a ⟨e, h⟩) (DcrK T C key elt p conds vs Q) := by
  rw [evalE_35]
  exact wp_bnd
section
variable {α : Type} {key elt : IE} {p : Pat} {conds : List IE} {vs : List Nat} {e : List Slot} {h : List Cell} {Q : Rv → S → Prop} {n : Nat} {kvs : List (Key × Val)} {lk : Bool}
end
def ForrK (T : Tab) (C : Call) (p : Pat) (b : List IS) (Q : Fl → S → Prop) (x : Rv) (s : S) : Prop :=
  Wp (match x with
    | .v (.ref n) => match s.h[n]? with
      | some (.dct kvs _) => (forL (patSet p) (execSs T C b) (keysV false kvs) { s with h := s.h.set n (.dct kvs true) }).bind fun fl s2 => .ok fl (unlockAll s s2 [.v (.ref n)])
      | _ => .bad
    | _ => .bad) Q
@[simp] theorem wp_forr {a : IE} {p : Pat} {b : List IS} {e : List Slot} {h : List Cell} {Q : Fl → S → Prop} : Wp (execS T C (.forr p a b) ⟨e, h⟩) Q = Wp (evalE T C a ⟨e, h⟩) (ForrK T C p b Q) := by
  rw [execS_19]
  exact wp_bnd
end
end Rs
end
section
set_option maxRecDepth 100000
set_option maxHeartbeats 400000
/-! Loops over a list that is a cell, where no cell changes. -/
namespace Rs
open PySem L2
section
variable {T : Tab} {C : Call}
/-- a dict comprehension -/
def DcK (T : Tab) (C : Call) (key elt : IE) (p : Pat) (k : Sk) (conds : List IE) (vs : List Nat) (Q : Rv → S → Prop) (os : List Rv) (s : S) : Prop :=
  ∃ items, srcItems k (os.map (deref s)) = some items ∧ Wp (compL (patSet p) (evalTs T C conds) (fun s => (evalE T C key s).val.bind fun kv s => (evalE T C elt s).val.bind fun x s => match keyV kv with | some k => .ok (k, x) s | none => .bad) vs putD items { lockAll s os with e := wipeE (lockAll s os).e vs } []) fun acc s2 => Q (.f (.dct acc false)) (unlockAll s { s2 with e := restE s.e s2.e vs } os)
@[simp] theorem wp_dc {key elt : IE} {p : Pat} {k : Sk} {src conds : List IE} {vs : List Nat} {e : List Slot} {h : List Cell} {Q : Rv → S → Prop} : Wp (evalE T C (.dc key elt p k src conds vs) ⟨e, h⟩) Q = Wp (evalOs T C src ⟨e, h⟩) (DcK T C key elt p k conds vs Q) := by
  rw [evalE_22]
  cases evalOs T C src ⟨e, h⟩ with
  | ok os s =>
    rw [wp_ok]
    show Wp (match srcItems k (os.map (deref s)) with
      | none => .bad
      | some items => (compL (patSet p) (evalTs T C conds) (fun s => (evalE T C key s).val.bind fun kv s => (evalE T C elt s).val.bind fun x s => match keyV kv with | some k => .ok (k, x) s | none => .bad) vs putD items { lockAll s os with e := wipeE (lockAll s os).e vs } []).bnd fun acc s2 => .ok (.f (.dct acc false)) (unlockAll s { s2 with e := restE s.e s2.e vs } os)) Q = _
    unfold DcK
    cases srcItems k (os.map (deref s)) with
    | none =>
      show Wp .bad Q = _
      rw [wp_bad]
      exact propext ⟨False.elim, fun ⟨_, z, _⟩ => nomatch z⟩
    | some items =>
      show Wp (R.bnd _ _) Q = _
      rw [wp_bnd]
      conv => lhs; simp only [wp_ok]
      exact propext ⟨fun z => ⟨items, rfl, z⟩, fun ⟨_, y, z⟩ => by cases y; exact z⟩
  | exc c v s => exact wp_exc.trans wp_exc.symm
  | bad => exact wp_bad.trans wp_bad.symm
end
theorem dmerge_new : ∀ (kvs acc : List (Key × Val)), ((acc ++ kvs).map (·.1)).Nodup → dmerge acc kvs = acc ++ kvs
  | [], acc, _ => by simp [dmerge]
  | kv :: kvs, acc, nd => by
    have hn : dput acc kv.1 kv.2 = acc ++ [kv] := by
      unfold dput
      rw [if_neg]
      intro z
      rw [List.any_eq_true] at z
      obtain ⟨q, hq, e⟩ := z
      rw [List.map_append, List.nodup_append] at nd
      exact nd.2.2 _ (List.mem_map.mpr ⟨q, hq, rfl⟩) _ (List.mem_map.mpr ⟨kv, List.mem_cons_self .., rfl⟩) (of_decide_eq_true e)
    show dmerge (dput acc kv.1 kv.2) kvs = _
    rw [hn, dmerge_new kvs (acc ++ [kv]) (by simpa using nd)]
    simp
end Rs
end
section
set_option maxRecDepth 100000
set_option maxHeartbeats 1000000
/-! Dict values as lists of pairs, keys of odd kinds among them. -/
namespace Rs
open PySem L2
def odK : Val → Option (List (Val × Val))
  | .dct ks => some (ks.map fun kv => (vKey kv.1, kv.2))
  | .odd kvs => some kvs
  | _ => none
inductive KeyOk : Val → Prop
  | str {x : Str} (l : lowS x = true) (z : x.length ≤ 100) : KeyOk (.str x)
  | num : KeyOk (.int 5)
  | non : KeyOk .non
  | tup : KeyOk (.tup [.str "a"])
  | tru : KeyOk (.bl true)
structure Dv (x : Val) (kvs : List (Val × Val)) : Prop where
  e : odK x = some kvs
  nd : (kvs.map fun kv => nkV kv.1).Nodup
  ky : ∀ kv ∈ kvs, KeyOk kv.1
  bd : ∀ kv ∈ kvs, bdV 2000 3 kv.2 = true
  len : kvs.length ≤ 60
  odd : ∀ ks, x = .odd ks → (ks.any fun kv => (keyV kv.1).isNone) = true
theorem KeyOk.bd {k : Val} (h : KeyOk k) : bdV 2000 3 k = true := by
  cases h with
  | str l z => exact bdV_mono (bdV_str (n := 2000) l (by omega)) (Nat.le_refl _) (by omega)
  | num => decide +kernel
  | non => decide +kernel
  | tup => decide +kernel
  | tru => decide +kernel
theorem KeyOk.nk {k : Val} (h : KeyOk k) : ∃ c, nkV k = some c := by
  cases h <;> exact ⟨_, rfl⟩
theorem KeyOk.kind {k : Val} (h : KeyOk k) : kindV k < 7 := bdV_kind h.bd
theorem ne_str {x : Str} {v : Val} {d : PyData} (hv : toD v = some d) (ho : okD d = true) (hx : PyData.eqv (.str x) d = false) (hc : veqX (.str x) v = veq (.str x) v) : cmpop .ne (.str x) v = some true := by
  have : okD (.str x) = true := by simp [okD, PyData.plain, PyData.depth]
  show (veqX (.str x) v).map (!·) = some true
  rw [hc]
  unfold veq
  rw [hv]
  simp [toD, this, ho, hx]
theorem ne_str' {x : Str} {v : Val} {d : PyData} (hv : toD v = some d) (ho : okD d = true) (hx : PyData.eqv d (.str x) = false) (hc : veqX v (.str x) = veq v (.str x)) : cmpop .ne v (.str x) = some true := by
  have : okD (.str x) = true := by simp [okD, PyData.plain, PyData.depth]
  show (veqX v (.str x)).map (!·) = some true
  rw [hc]
  unfold veq
  rw [hv]
  simp [toD, this, ho, hx]
theorem ne_key {a b : Val} (ha : KeyOk a) (hb : KeyOk b) : cmpop .ne a b = some (decide (nkV a ≠ nkV b)) := by
  cases ha with
  | str l z =>
    rename_i x
    cases hb with
    | str l2 z2 =>
      rename_i y
      rw [co_neS]
      by_cases h : x = y
      · subst h; simp
      · simp [nkV, h]
    | num => exact ne_str (d := .int 5) rfl rfl rfl rfl
    | non => exact ne_str (d := .none) rfl rfl rfl rfl
    | tup => exact ne_str (d := .tuple [.str "a"]) rfl rfl rfl rfl
    | tru => exact ne_str (d := .bool true) rfl rfl rfl rfl
  | num =>
    cases hb with
    | str l2 z2 => exact ne_str' (d := .int 5) rfl rfl rfl rfl
    | _ => decide +kernel
  | non =>
    cases hb with
    | str l2 z2 => exact ne_str' (d := .none) rfl rfl rfl rfl
    | _ => decide +kernel
  | tup =>
    cases hb with
    | str l2 z2 => exact ne_str' (d := .tuple [.str "a"]) rfl rfl rfl rfl
    | _ => decide +kernel
  | tru =>
    cases hb with
    | str l2 z2 => exact ne_str' (d := .bool true) rfl rfl rfl rfl
    | _ => decide +kernel
section
variable {x : Val} {kvs : List (Val × Val)}
theorem Dv.kind (d : Dv x kvs) : kindV x = 6 := by
  have := d.e
  cases x <;> first | rfl | (cases this)
theorem Dv.items (d : Dv x kvs) : itemsI true x = some (kvs.map fun kv => .tup [kv.1, kv.2]) := by
  have := d.e
  cases x <;> first | (cases this; done) | skip
  · cases this
    simp [itemsI, keysV]
  · cases this
    simp [itemsI]
theorem Dv.keys (d : Dv x kvs) : itemsI false x = some (kvs.map fun kv => kv.1) := by
  have := d.e
  cases x <;> first | (cases this; done) | skip
  · cases this
    simp [itemsI, keysV]
  · cases this
    simp [itemsI]
theorem Dv.blen (d : Dv x kvs) : biop .len [x] = some (.v (.int kvs.length)) := by
  have := d.e
  cases x <;> first | (cases this; done) | skip
  · cases this
    simp
  · cases this
    rfl
theorem find_nk {t : Str} {v : Val} : ∀ {kvs : List (Val × Val)}, (kvs.map fun kv => nkV kv.1).Nodup → (.str t, v) ∈ kvs → (kvs.find? fun kv => decide (nkV kv.1 = some (.text t))) = some (.str t, v)
  | [], _, h => by cases h
  | kv :: kvs, nd, h => by
    rw [List.map_cons, List.nodup_cons] at nd
    rw [List.find?_cons]
    rcases List.mem_cons.mp h with rfl | h
    · simp [nkV]
    · have : nkV kv.1 ≠ some (.text t) := fun z => nd.1 (by rw [z]; exact List.mem_map.mpr ⟨_, h, rfl⟩)
      simp only [this, decide_false]
      exact find_nk nd.2 h
theorem dget_nk {t : Str} {v : Val} : ∀ {ks : List (Key × Val)}, ((ks.map fun kv => (vKey kv.1, kv.2)).map fun kv => nkV kv.1).Nodup → (.str t, v) ∈ (ks.map fun kv => (vKey kv.1, kv.2)) → dget ks (.inr t) = some v
  | [], _, h => by cases h
  | (k, w) :: ks, nd, h => by
    rw [List.map_cons, List.map_cons, List.nodup_cons] at nd
    rw [List.map_cons] at h
    unfold dget
    rw [List.find?_cons]
    rcases List.mem_cons.mp h with h | h
    · simp only [Prod.mk.injEq] at h
      obtain ⟨h1, rfl⟩ := h
      cases k with
      | inl i => cases h1
      | inr y => cases h1; simp
    · have : k ≠ .inr t := fun z => nd.1 (by rw [z]; exact List.mem_map.mpr ⟨_, h, rfl⟩)
      simp only [this, decide_false]
      exact dget_nk nd.2 h
theorem Dv.sub (d : Dv x kvs) {t : Str} {v : Val} (hm : (.str t, v) ∈ kvs) : vsub x (.str t) = some v := by
  have := d.e
  have nd := d.nd
  cases x <;> first | (cases this; done) | skip
  · rename_i ks
    cases this
    show dget ks (.inr t) = some v
    exact dget_nk nd hm
  · cases this
    show ((kvs.find? fun kv => decide (nkV kv.1 = some (.text t))).map (·.2)) = some v
    rw [find_nk nd hm]
    rfl
theorem bdV_odd {n dp : Nat} : ∀ {kvs : List (Val × Val)}, (∀ kv ∈ kvs, bdV n dp kv.1 = true ∧ bdV n dp kv.2 = true) → ∃ ds, toDo kvs = some ds ∧ PyData.showableKv ds = true ∧ PyData.depthKv ds ≤ dp ∧ lowDk ds = true ∧ szDk ds ≤ kvs.length * (2 * n + 4)
  | [], _ => ⟨[], by unfold toDo; rfl, by simp [PyData.showableKv], by simp [PyData.depthKv], by simp [lowDk], by simp [szDk]⟩
  | (k, x) :: kvs, h => by
    obtain ⟨⟨d, e, a1, a2, a3, a4⟩, ⟨d2, e2, c1, c2, c3, c4⟩⟩ := (h (k, x) List.mem_cons_self).imp bdV_iff.mp bdV_iff.mp
    obtain ⟨ds, e3, b1, b2, b3, b4⟩ := bdV_odd (kvs := kvs) fun y hy => h y (List.mem_cons_of_mem _ hy)
    refine ⟨(d, d2) :: ds, by unfold toDo; simp only at e e2; rw [e, e2, e3], by simp [PyData.showableKv, a1, c1, b1], by simp [PyData.depthKv]; omega, by simp [lowDk, a3, c3, b3], ?_⟩
    rw [List.length_cons, Nat.add_mul, Nat.one_mul]
    simp only [szDk]
    omega
theorem toDo_odd : ∀ {kvs : List (Val × Val)} {ds : List (PyData × PyData)}, toDo kvs = some ds → (∀ kv ∈ kvs, KeyOk kv.1) → (kvs.any fun kv => (keyV kv.1).isNone) = true → ds.any oddKd = true
  | [], _, _, _, h => by cases h
  | (k, x) :: kvs, ds, e, ho, h => by
    unfold toDo at e
    cases q0 : toD k <;> cases q : toD x <;> cases q2 : toDo kvs <;> simp [q0, q, q2] at e
    subst e
    rw [List.any_cons, Bool.or_eq_true] at h ⊢
    rcases h with h | h
    · left
      have := ho (k, x) List.mem_cons_self
      cases this with
      | str l z => cases h
      | num => cases h
      | non => cases q0; rfl
      | tup => cases q0; rfl
      | tru => cases q0; rfl
    · exact .inr (toDo_odd q2 (fun kv hkv => ho kv (List.mem_cons_of_mem _ hkv)) h)
theorem Dv.bdx (d : Dv x kvs) : bdV 250000 4 x = true := by
  have e := d.e
  have ho := d.odd
  have hk := d.ky
  have hb : ∀ kv ∈ kvs, bdV 2000 3 kv.1 = true ∧ bdV 2000 3 kv.2 = true := fun kv h => ⟨(hk kv h).bd, d.bd kv h⟩
  have hl := d.len
  cases x <;> first | (cases e; done) | skip
  · rename_i ks
    cases e
    obtain ⟨ds, e, b1, b2, b3, b4⟩ := bdV_dct (n := 2000) (dp := 3) (m := 0) (kvs := ks) fun kv h => hb (vKey kv.1, kv.2) (List.mem_map.mpr ⟨kv, h, rfl⟩)
    rw [List.length_map] at hl
    exact bdV_iff.mpr ⟨.dict ds, by unfold toD; rw [e], by simpa [PyData.showable] using b1, by simp only [PyData.depth]; omega, by simpa [lowD] using b3, by simp only [szD]; omega⟩
  · cases e
    obtain ⟨ds, e, b1, b2, b3, b4⟩ := bdV_odd (n := 2000) (dp := 3) hb
    have h1 := toDo_odd e hk (ho _ rfl)
    exact bdV_iff.mpr ⟨.dict ds, by unfold toD; rw [e]; simp [h1], by simpa [PyData.showable] using b1, by simp only [PyData.depth]; omega, by simpa [lowD] using b3, by simp only [szD]; omega⟩
end
/-- the pairs as tuples -/
def tupsV (kvs : List (Val × Val)) : List Val := kvs.map fun kv => .tup [kv.1, kv.2]
theorem pairsV_tups : ∀ {kvs : List (Val × Val)}, pairsV (tupsV kvs) = if (kvs.any fun kv => (keyV kv.1).isNone) = true then none else some (kvs.map fun kv => ((keyV kv.1).getD (.inl 0), kv.2))
  | [] => rfl
  | (k, x) :: kvs => by
    unfold tupsV
    rw [List.map_cons]
    unfold pairsV
    have ih := pairsV_tups (kvs := kvs)
    unfold tupsV at ih
    rw [List.any_cons]
    cases q : keyV k with
    | none => simp [q]
    | some c =>
      simp only [q, ih, Option.isNone_some, Bool.false_or]
      cases (kvs.any fun kv => (keyV kv.1).isNone) <;> simp [q]
theorem oddV_tups : ∀ {kvs : List (Val × Val)}, (∀ kv ∈ kvs, KeyOk kv.1) → oddV (tupsV kvs) = some kvs
  | [], _ => rfl
  | (k, x) :: kvs, h => by
    unfold tupsV
    rw [List.map_cons]
    unfold oddV
    have ih := oddV_tups (kvs := kvs) fun kv hkv => h kv (List.mem_cons_of_mem _ hkv)
    unfold tupsV at ih
    obtain ⟨c, hc⟩ := (h (k, x) List.mem_cons_self).nk
    simp only at hc
    simp only [hc, ih]
theorem vKey_keyV {k : Val} {c : Key} (h : keyV k = some c) : vKey c = k := by
  cases k <;> cases h <;> rfl
theorem mk_dv {kvs : List (Val × Val)} (nd : (kvs.map fun kv => nkV kv.1).Nodup) (ky : ∀ kv ∈ kvs, KeyOk kv.1) (bd : ∀ kv ∈ kvs, bdV 2000 3 kv.2 = true) (len : kvs.length ≤ 60) {Q : Rv → S → Prop} {x : Rv} {s : S} (hx : deref s (opnd x) = .lst (tupsV kvs))
    (q1 : ∀ ks, Dv (.dct ks) kvs → Q (.f (.dct ks false)) s) (q2 : ∀ ks, Dv (.odd ks) kvs → Q (.v (.odd ks)) s) : MkK Q x s := by
  refine ⟨_, hx, ?_⟩
  cases ha : (kvs.any fun kv => (keyV kv.1).isNone) with
  | true =>
    refine .inr ⟨kvs, by rw [pairsV_tups, if_pos ha], oddV_tups ky, nd, by have := size_big; omega, q2 kvs ⟨rfl, nd, ky, bd, len, fun ks e => by cases e; exact ha⟩⟩
  | false =>
    have hp : pairsV (tupsV kvs) = some (kvs.map fun kv => ((keyV kv.1).getD (.inl 0), kv.2)) := by rw [pairsV_tups, if_neg (by rw [ha]; simp)]
    have hs : ∀ kv ∈ kvs, ∃ c, keyV kv.1 = some c := fun kv h => by
      have := List.any_eq_false.mp ha kv h
      cases q : keyV kv.1 with
      | none => simp [q] at this
      | some c => exact ⟨c, rfl⟩
    have e : (kvs.map fun kv => ((keyV kv.1).getD (.inl 0), kv.2)).map (fun kv => (vKey kv.1, kv.2)) = kvs := by
      rw [List.map_map]
      conv => rhs; rw [← List.map_id kvs]
      refine List.map_congr_left fun kv h => ?_
      obtain ⟨c, hc⟩ := hs kv h
      simp [hc, vKey_keyV hc]
    have dv : Dv (.dct (kvs.map fun kv => ((keyV kv.1).getD (.inl 0), kv.2))) kvs := ⟨congrArg some e, nd, ky, bd, len, fun ks z => by cases z⟩
    have n2 : ((kvs.map fun kv => ((keyV kv.1).getD (.inl 0), kv.2)).map (·.1)).Nodup := by
      rw [← e, List.map_map, List.map_map] at nd
      rw [List.map_map]
      refine List.pairwise_map.mpr ((List.pairwise_map.mp nd).imp fun h z => h ?_)
      simp only [Function.comp] at z ⊢
      rw [z]
    have dm : dmerge [] (kvs.map fun kv => ((keyV kv.1).getD (.inl 0), kv.2)) = (kvs.map fun kv => ((keyV kv.1).getD (.inl 0), kv.2)) := by
      have := dmerge_new (kvs.map fun kv => ((keyV kv.1).getD (.inl 0), kv.2)) [] (by simpa using n2)
      simpa using this
    exact .inl ⟨_, hp, by rw [dm]; exact q1 _ dv⟩
end Rs
end
section
set_option maxRecDepth 100000
set_option maxHeartbeats 1000000
/-! is_things and this law's own look: alike at any dict whose keys are unlike. -/
namespace Rs
open PySem L2
def letS : Str := "abcdefghijklmnopqrstuvwxyz"
def inLet (c : Nat) : Bool := !(Builtin.Str.occurrences letS ⟨#[c]⟩ 0 letS.length 1).isEmpty
def nmB : Val → Bool
  | .str x => decide (1 ≤ x.length) && (decide (x.length ≤ 8) && x.cps.toList.all inLet)
  | _ => false
def intB (v : Val) (lo hi : Int) : Bool := match v with
  | .int i => decide (lo ≤ i) && decide (i ≤ hi)
  | _ => false
theorem blsOf_map {α : Type} (f : α → Bool) : ∀ l : List α, blsOf (l.map fun a => Val.bl (f a)) = some (l.map f)
  | [] => rfl
  | a :: l => by simp only [List.map_cons, blsOf, blsOf_map f l, Option.map_some]
theorem bq_all {α : Type} (f : α → Bool) (l : List α) : biop .all [.lst (l.map fun a => Val.bl (f a))] = some (.v (.bl (l.all f))) := by
  simp only [biop, blsOf_map, Option.map_some, List.all_map]
  rfl
def thB (kvs : List (Val × Val)) : Bool := decide (1 ≤ kvs.length) && (decide (kvs.length ≤ 20) && kvs.all fun kv => nmB kv.1 && intB kv.2 1 1000000)
theorem cps_len (x : Str) : x.cps.toList.length = x.length := rfl
section
variable {n : Nat} {h : List Cell}
theorem is_int_w {v : Val} (k7 : kindV v < 7) {lo hi : Int} : callI tabL fds (n + 1) 25 [v, .int lo, .int hi] h = .ok (.bl (intB v lo hi)) ⟨[], h⟩ := by
  refine wp_eq (wp_def (d := fd_is_integer) HasD.e rfl rfl ?_)
  show Wp (execSs tabL (callI tabL fds n) is_is_integer ⟨[.val v, .val (.int lo), .val (.int hi)], h⟩) _
  unfold is_is_integer
  by_cases k2 : kindV v = 2
  · cases v <;> simp only [kindV] at k2 <;> first | omega | skip
    rename_i i
    by_cases h1 : i < lo <;> by_cases h2 : hi < i <;> simp [intB, h1, h2, Int.not_lt, Int.not_le] <;> omega
  · have e : intB v lo hi = false := by cases v <;> first | rfl | (exact absurd rfl k2)
    rw [e]
    by_cases k1 : kindV v = 1
    · simp [okV_of k7, deref_of k7, k7, k1]
    · simp [okV_of k7, deref_of k7, k7, k1, k2]
theorem is_name_w {v : Val} (k7 : kindV v < 7) (hl : ∀ x, v = .str x → x.length ≤ 1000) : callI tabL fds (n + 1) 26 [v] h = .ok (.bl (nmB v)) ⟨[], h⟩ := by
  have hb := size_big
  refine wp_eq (wp_def (d := fd_is_name) HasD.e rfl rfl ?_)
  show Wp (execSs tabL (callI tabL fds n) is_is_name ⟨[.val v, .no], h⟩) _
  unfold is_is_name
  by_cases k3 : kindV v = 3
  · cases v <;> simp only [kindV] at k3 <;> first | omega | skip
    rename_i x
    have hx := hl x rfl
    have hx2 : x.length ≤ sizeLine := by omega
    by_cases h1 : 1 ≤ x.length
    · have g1 : ¬ ((x.length : Int) < 1) := by omega
      by_cases h8 : x.length ≤ 8
      · have g8 : ¬ (8 < (x.length : Int)) := by omega
        simp [hx2, h1, h8, nmB, g1, g8]
        refine lcK_map x.cps.toList (fun c => .str ⟨#[c]⟩) (fun _ => true) (fun c => .bl (inLet c)) rfl (by rw [cps_len]; omega) (fun c hc => ⟨_, rfl, rfl, fun K hK => by simpa using hK, fun _ K hK => ?_⟩) ?_
        · simp [vin]
          exact hK
        · rw [filt_t]
          simp [bq_all]
      · have g8 : 8 < (x.length : Int) := by omega
        simp [hx2, h1, h8, nmB, g1, g8]
    · have g1 : (x.length : Int) < 1 := by omega
      simp [hx2, h1, nmB, g1]
  · have e : nmB v = false := by cases v <;> first | rfl | (exact absurd rfl k3)
    rw [e]
    simp [okV_of k7, deref_of k7, k7, k3]
theorem key_len {k : Val} (h : KeyOk k) : ∀ x, k = .str x → x.length ≤ 1000 := fun x e => by
  subst e
  cases h with
  | str l z => omega
theorem is_things_w {x : Val} {kvs : List (Val × Val)} (d : Dv x kvs) : callI tabL fds (n + 2) 317 [x] h = .ok (.bl (thB kvs)) ⟨[], h⟩ := by
  have hb := size_big
  have k6 := d.kind
  have k7 : kindV x < 7 := by omega
  have hl := d.blen
  refine wp_eq (wp_def (d := fd_is_things_k01) HasD.e rfl rfl ?_)
  show Wp (execSs tabL (callI tabL fds (n + 1)) is_is_things_k01 ⟨[.val x, .no], h⟩) _
  unfold is_is_things_k01
  by_cases h1 : 1 ≤ kvs.length
  · have g1 : ¬ ((kvs.length : Int) < 1) := by omega
    by_cases h20 : kvs.length ≤ 20
    · have g20 : ¬ (20 < (kvs.length : Int)) := by omega
      simp [g1, g20, okV_of k7, deref_of k7, k7, k6, hl, h1, h20, thB]
      refine lciK_map kvs (fun kv => kv.1) (fun _ => true) (fun kv => .bl (nmB kv.1 && intB kv.2 1 1000000)) d.keys (by omega) (fun kv hkv => ⟨_, rfl, rfl, fun K hK => by simpa using hK, fun _ K hK => ?_⟩) ?_
      · have ko := d.ky kv hkv
        have kn := is_name_w (n := n) (h := h) ko.kind (key_len ko)
        cases hn : nmB kv.1 with
        | false =>
          rw [hn] at kn hK
          simp [kn]
          simpa using hK
        | true =>
          rw [hn] at kn hK
          obtain ⟨k, v⟩ := kv
          cases k <;> first | (cases hn; done) | skip
          rename_i t
          have hs := d.sub hkv
          have ki := is_int_w (n := n) (h := h) (bdV_kind (d.bd _ hkv)) (lo := 1) (hi := 1000000)
          simp only at ki
          simp [kn, hs, ki, okV_of k7, deref_of k7]
          simpa using hK
      · rw [filt_t]
        simp [bq_all]
    · have g20 : 20 < (kvs.length : Int) := by omega
      simp [g1, g20, okV_of k7, deref_of k7, k7, k6, hl, h1, h20, thB]
  · have g1 : (kvs.length : Int) < 1 := by omega
    simp [g1, okV_of k7, deref_of k7, k7, k6, hl, h1, thB]
theorem is_things_no {x : Val} (k7 : kindV x < 7) (k6 : kindV x ≠ 6) : callI tabL fds (n + 2) 317 [x] h = .ok (.bl false) ⟨[], h⟩ := by
  refine wp_eq (wp_def (d := fd_is_things_k01) HasD.e rfl rfl ?_)
  show Wp (execSs tabL (callI tabL fds (n + 1)) is_is_things_k01 ⟨[.val x, .no], h⟩) _
  unfold is_is_things_k01
  simp [okV_of k7, deref_of k7, k7, k6]
theorem are_things_no {x : Val} (k7 : kindV x < 7) (k6 : kindV x ≠ 6) : callI tabL fds (n + 2) 318 [x] h = .ok (.bl false) ⟨[], h⟩ := by
  refine wp_eq (wp_def (d := fd__law_are_things) HasD.e rfl rfl ?_)
  show Wp (execSs tabL (callI tabL fds (n + 1)) is__law_are_things ⟨[.val x, .no, .no, .no], h⟩) _
  unfold is__law_are_things
  simp [okV_of k7, deref_of k7, k7, k6]
end
end Rs
end
section
set_option maxRecDepth 100000
set_option maxHeartbeats 1000000
/-! This law's own look. -/
namespace Rs
open PySem L2
theorem ne_signs (l : List Nat) : cmpop .ne (.lst (l.map fun c => Val.str ⟨#[c]⟩)) (.lst []) = some (!decide (l = [])) := by
  have e : (l.map fun c => Val.str ⟨#[c]⟩) = (l.map fun c => (⟨#[c]⟩ : Str)).map .str := by rw [List.map_map]; rfl
  rw [e, co_neLS0]
  simp
theorem up12 (x k v : Val) (as : List Slot) : ((Up [.val x, .no, .no, .no] [1, 2] as).set 1 (.val k)).set 2 (.val v) = [.val x, .val k, .val v, .no] := by
  cases as with
  | nil => rfl
  | cons a as => cases as with
    | nil => rfl
    | cons b as => cases as <;> rfl
section
variable {n : Nat} {h : List Cell}
theorem are_things_w {x : Val} {kvs : List (Val × Val)} (d : Dv x kvs) : callI tabL fds (n + 2) 318 [x] h = .ok (.bl (thB kvs)) ⟨[], h⟩ := by
  have hb := size_big
  have k6 := d.kind
  have k7 : kindV x < 7 := by omega
  have hl := d.blen
  refine wp_eq (wp_def (d := fd__law_are_things) HasD.e rfl rfl ?_)
  show Wp (execSs tabL (callI tabL fds (n + 1)) is__law_are_things ⟨[.val x, .no, .no, .no], h⟩) _
  unfold is__law_are_things
  by_cases h1 : 1 ≤ kvs.length
  · have g1 : ¬ ((kvs.length : Int) < 1) := by omega
    by_cases h20 : kvs.length ≤ 20
    · have g20 : ¬ (20 < (kvs.length : Int)) := by omega
      simp [g1, g20, okV_of k7, deref_of k7, k7, k6, hl, h1, h20, thB]
      refine foriK_all [1, 2] [.no, .no] kvs (fun kv => .tup [kv.1, kv.2]) (fun kv => nmB kv.1 && intB kv.2 1 1000000) d.items rfl (fun kv hkv as => ?_) (fun hc as => ?_) fun hc e2 => ?_
      · have ko := d.ky kv hkv
        have kp := bdV_kind (d.bd kv hkv)
        have kk := ko.kind
        have kz := key_len ko
        obtain ⟨k, v⟩ := kv
        refine ⟨_, rfl, ?_⟩
        intro K K1 K2
        show Wp (execSs tabL (callI tabL fds (n + 1)) _ ⟨((Up [.val x, .no, .no, .no] [1, 2] as).set 1 (.val k)).set 2 (.val v), h⟩) K
        rw [up12]
        simp only at K1 K2 kk kp kz
        by_cases k3 : kindV k = 3
        · cases k <;> simp only [kindV] at k3 <;> first | omega | skip
          rename_i t
          have ht := kz t rfl
          have ht2 : t.length ≤ sizeLine := by omega
          by_cases t1 : (t.length : Int) < 1
          · have : nmB (.str t) = false := by simp [nmB]; omega
            rw [this] at K2
            simp [ht2, t1]
            exact K2 rfl _
          · by_cases t8 : 8 < (t.length : Int)
            · have : nmB (.str t) = false := by simp [nmB]; omega
              rw [this] at K2
              simp [ht2, t1, t8]
              exact K2 rfl _
            · simp [ht2, t1, t8]
              refine lcK_map t.cps.toList (fun c => .str ⟨#[c]⟩) (fun c => !inLet c) (fun c => .str ⟨#[c]⟩) rfl (by rw [cps_len]; omega) (fun c hc => ⟨_, rfl, rfl, fun K hK => ?_, fun _ K hK => by simpa using hK⟩) ?_
              · simp [vin]
                simpa [inLet, letS] using hK
              · simp [ne_signs]
                by_cases ha : ∀ a, a ∈ t.cps → inLet a = true
                · have hn : nmB (.str t) = true := by
                    simp only [nmB, Bool.and_eq_true, decide_eq_true_eq, List.all_eq_true]
                    exact ⟨by omega, by omega, fun a ha2 => ha a (by simpa using ha2)⟩
                  rw [hn] at K1 K2
                  rw [decide_eq_true ha]
                  by_cases v2 : kindV v = 2
                  · cases v <;> simp only [kindV] at v2 <;> first | omega | skip
                    rename_i i
                    by_cases i1 : i < 1
                    · have e : intB (.int i) 1 1000000 = false := by simp [intB]; omega
                      rw [e] at K2
                      simp [ha, i1]
                      exact K2 rfl _
                    · by_cases i2 : 1000000 < i
                      · have e : intB (.int i) 1 1000000 = false := by simp [intB]; omega
                        rw [e] at K2
                        simp [ha, i1, i2]
                        exact K2 rfl _
                      · have e : intB (.int i) 1 1000000 = true := by simp [intB]; omega
                        rw [e] at K1
                        simp [ha, i1, i2]
                        exact K1 rfl [.val (.str t), .val (.int i)]
                  · have e : intB v 1 1000000 = false := by cases v <;> first | rfl | (exact absurd rfl v2)
                    rw [e] at K2
                    by_cases v1 : kindV v = 1
                    · simp [ha, okV_of kp, deref_of kp, kp, v1]
                      exact K2 rfl _
                    · simp [ha, okV_of kp, deref_of kp, kp, v1, v2]
                      exact K2 rfl _
                · have hn : nmB (.str t) = false := by
                    cases q : nmB (.str t) with
                    | false => rfl
                    | true =>
                      simp only [nmB, Bool.and_eq_true, List.all_eq_true] at q
                      exact absurd (fun a ha2 => q.2.2 a (by simpa using ha2)) ha
                  rw [hn] at K2
                  simp [ha]
                  exact K2 rfl _
        · have : nmB k = false := by cases k <;> first | rfl | (exact absurd rfl k3)
          rw [this] at K2
          simp [okV_of kk, deref_of kk, kk, k3]
          exact K2 rfl _
      · rw [hc]
        have e : ∃ a b, Up [.val x, .no, .no, .no] [1, 2] as = [.val x, a, b, .no] := by
          cases as with
          | nil => exact ⟨_, _, rfl⟩
          | cons a as => cases as with
            | nil => exact ⟨_, _, rfl⟩
            | cons b as => cases as <;> exact ⟨_, _, rfl⟩
        obtain ⟨a, b, e⟩ := e
        rw [e]
        simp
      · rw [hc]
        simp
    · have g20 : 20 < (kvs.length : Int) := by omega
      simp [g1, g20, okV_of k7, deref_of k7, k7, k6, hl, h1, h20, thB]
  · have g1 : (kvs.length : Int) < 1 := by omega
    simp [g1, okV_of k7, deref_of k7, k7, k6, hl, h1, thB]
end
end Rs
end
section
set_option maxRecDepth 100000
set_option maxHeartbeats 1000000
/-! What is laid. -/
namespace Rs
open PySem L2
section
variable {n : Nat} {h : List Cell} {i : Nat}
theorem laid_wp {x k v : Val} {kvs : List (Val × Val)} {Q : Val → S → Prop} (hc : IsFeed h i) (d : Dv x kvs) (hk : KeyOk k) (hv : bdV 2000 3 v = true) (hl : kvs.length ≤ 50)
    (q : ∀ y kvs' a b, Dv y kvs' → kvs'.length ≤ kvs.length + 1 → Q y ⟨[], h.set i (fc a b)⟩) : Wp (callI tabL fds (n + 2) 319 [.ref i, x, k, v] h) Q := by
  have hb := size_big
  have kx : kindV x < 7 := by have := d.kind; omega
  have kk := hk.kind
  have kv := bdV_kind hv
  refine wp_def (d := fd__law_laid) HasD.e rfl rfl ?_
  show Wp (execSs tabL (callI tabL fds (n + 1)) is__law_laid ⟨[.val (.ref i), .val x, .val k, .val v, .no, .no, .no], h⟩) _
  unfold is__law_laid
  simp
  refine lciK_map kvs (fun kv => .tup [kv.1, kv.2]) (fun kv => decide (nkV kv.1 ≠ nkV k)) (fun kv => .tup [kv.1, kv.2]) d.items (by omega) (fun p hp => ⟨_, rfl, rfl, fun K hK => ?_, fun _ K hK => by simpa using hK⟩) ?_
  · have ko := d.ky p hp
    have kp := ko.kind
    have := ne_key ko hk
    have h0 : atI [p.1, p.2] 0 = some p.1 := rfl
    simp [okV_of kk, deref_of kk, kk, okV_of kp, deref_of kp, kp, h0]
    rw [this]
    simpa using hK
  · generalize hf : kvs.filter (fun kv => decide (nkV kv.1 ≠ nkV k)) = fs
    have hfl : fs.length ≤ kvs.length := by rw [← hf]; exact List.length_filter_le _ _
    simp
    refine take_wp hc (by omega) (by omega) fun y a b y0 y1 => ?_
    refine wp_mkod ?_
    obtain ⟨m, rfl⟩ := Int.eq_ofNat_of_zero_le y0
    have hm : m ≤ fs.length := by omega
    have mem : ∀ p ∈ fs.take m ++ (k, v) :: fs.drop m, p = (k, v) ∨ p ∈ kvs := fun p hp => by
      have sub : ∀ p ∈ fs, p ∈ kvs := fun p hp => by rw [← hf] at hp; exact (List.mem_filter.mp hp).1
      rcases List.mem_append.mp hp with hp | hp
      · exact .inr (sub p (List.mem_of_mem_take hp))
      · rcases List.mem_cons.mp hp with hp | hp
        · exact .inl hp
        · exact .inr (sub p (List.mem_of_mem_drop hp))
    have nd : ((fs.take m ++ (k, v) :: fs.drop m).map fun p => nkV p.1).Nodup := by
      have p1 : (fs.take m ++ (k, v) :: fs.drop m).Perm ((k, v) :: fs) := List.perm_middle.trans (by rw [List.take_append_drop])
      refine (p1.map fun p => nkV p.1).nodup_iff.mpr ?_
      rw [List.map_cons, List.nodup_cons]
      refine ⟨fun hmem => ?_, ?_⟩
      · obtain ⟨p, hp, e⟩ := List.mem_map.mp hmem
        rw [← hf] at hp
        have := (List.mem_filter.mp hp).2
        simp only [ne_eq, decide_eq_true_eq] at this
        exact this e
      · rw [← hf]
        exact d.nd.sublist (List.filter_sublist.map _)
    have len : (fs.take m ++ (k, v) :: fs.drop m).length = fs.length + 1 := by simp; omega
    simp [okV_of kk, deref_of kk, kk, okV_of kv, deref_of kv, kv]
    rw [take_cut _ m (by simpa using hm), drop_cut _ m (by simpa using hm)]
    refine ⟨by simp; omega, by simp; omega, ?_⟩
    refine mk_dv (kvs := fs.take m ++ (k, v) :: fs.drop m) nd (fun p hp => ?_) (fun p hp => ?_) (by omega) (by simp [tupsV, imm, List.map_take, List.map_drop]) (fun ks dv => ?_) fun ks dv => ?_
    · rcases mem p hp with rfl | hp
      · exact hk
      · exact d.ky p hp
    · rcases mem p hp with rfl | hp
      · exact hv
      · exact d.bd p hp
    · simp [imm]
      exact q _ _ a b dv (by omega)
    · simp
      exact q _ _ a b dv (by omega)
end
end Rs
end
section
set_option maxRecDepth 100000
set_option maxHeartbeats 1000000
/-! Many things, words, signed names. -/
namespace Rs
open PySem L2
def ltr (j : Nat) : Str := ⟨#[97 + j]⟩
def hdS (x : Str) : Nat := x.cps.toList.headD 0
theorem word_ok : ∀ j : Nat, j < 26 → ∀ m : Nat, m < 8 → lowS (Txt.mul (ltr j) ((m : Int) + 1)) = true ∧ (Txt.mul (ltr j) ((m : Int) + 1)).length ≤ 8 ∧ hdS (Txt.mul (ltr j) ((m : Int) + 1)) = 97 + j := by decide +kernel
theorem ltr_at : ∀ j : Nat, j < 26 → atI letS.cps.toList (j : Int) = some ((97 + j : Nat) : Nat) := by decide +kernel
theorem mk_dct {kvs : List (Val × Val)} (nd : (kvs.map fun kv => nkV kv.1).Nodup) (ky : ∀ kv ∈ kvs, ∃ t, kv.1 = .str t ∧ lowS t = true ∧ t.length ≤ 100) (bd : ∀ kv ∈ kvs, bdV 2000 3 kv.2 = true) (len : kvs.length ≤ 60) :
    ∃ ks, biop .dict [.lst (tupsV kvs)] = some (.f (.dct ks false)) ∧ Dv (.dct ks) kvs := by
  have ko : ∀ kv ∈ kvs, KeyOk kv.1 := fun kv h => by
    obtain ⟨t, e, l, z⟩ := ky kv h
    rw [e]
    exact .str l z
  obtain ⟨xs, hx, q⟩ := mk_dv (Q := fun r _ => (∃ ks, r = .f (.dct ks false) ∧ Dv (.dct ks) kvs) ∨ ∃ ks, r = .v (.odd ks) ∧ Dv (.odd ks) kvs) (x := .v (.lst (tupsV kvs))) (s := ⟨[], []⟩) nd ko bd len rfl (fun ks d => .inl ⟨ks, rfl, d⟩) fun ks d => .inr ⟨ks, rfl, d⟩
  cases hx
  rcases q with ⟨ks, hp, q⟩ | ⟨ks, _, _, _, _, q⟩
  · rcases q with ⟨k2, e, d⟩ | ⟨k2, e, _⟩
    · cases e
      exact ⟨_, by show (pairsV (tupsV kvs)).map _ = _; rw [hp]; rfl, d⟩
    · cases e
  · rcases q with ⟨k2, e, _⟩ | ⟨k2, e, d⟩
    · cases e
    · have h1 := d.odd k2 rfl
      have h2 := d.e
      cases h2
      obtain ⟨kv, hm, hn⟩ := List.any_eq_true.mp h1
      obtain ⟨t, e, _⟩ := ky kv hm
      rw [e] at hn
      cases hn
section
variable {n : Nat} {h : List Cell} {i : Nat}
theorem many_wp {m : Int} {Q : Val → S → Prop} (hc : IsFeed h i) (m0 : 0 ≤ m) (m26 : m ≤ 26)
    (q : ∀ ks kvs a b, Dv (.dct ks) kvs → kvs.length = m.toNat → (∀ kv ∈ kvs, ∃ t, kv.1 = .str t ∧ lowS t = true ∧ t.length ≤ 8) → Q (.dct ks) ⟨[], h.set i (fc a b)⟩) : Wp (callI tabL fds (n + 2) 35 [.ref i, .int m] h) Q := by
  have hb := size_big
  refine wp_def (d := fd__law_many) HasD.e rfl rfl ?_
  show Wp (execSs tabL (callI tabL fds (n + 1)) is__law_many ⟨[.val (.ref i), .val (.int m), .no, .no, .no], h⟩) _
  unfold is__law_many
  simp
  refine take_wp hc (by omega) (by omega) fun y a b y0 y1 => ?_
  obtain ⟨f, rfl⟩ := Int.eq_ofNat_of_zero_le y0
  simp
  refine lcK_I (List.range m.toNat) (fun (j : Nat) => .int (0 + (j : Int))) (fun j acc g => (∃ a b, g = h.set i (fc a b)) ∧ ∃ ls : List (Str × Int), acc = ls.map (fun p => .tup [.str p.1, .int p.2]) ∧ ls.length = j ∧ ∀ (r : Nat) p, ls[r]? = some p → lowS p.1 = true ∧ p.1.length ≤ 8 ∧ hdS p.1 = 97 + (f + r) ∧ 1 ≤ p.2 ∧ p.2 ≤ 1000000)
    (by simp [rng1 (j := m) (by omega) (by omega), rangeV]) (by simp; omega) ⟨⟨a, b, rfl⟩, [], rfl, rfl, by simp⟩ (fun j r acc g hr ⟨⟨a, b, hg⟩, ls, hacc, hl, hls⟩ hlen => ?_) fun acc g _ ⟨⟨a, b, hg⟩, ls, hacc, hl, hls⟩ => ?_
  · subst hg
    have hj : j < m.toNat ∧ r = j := by
      have h1 := (List.getElem?_eq_some_iff.mp hr).1
      rw [List.length_range] at h1
      rw [List.getElem?_range h1] at hr
      cases hr
      exact ⟨h1, rfl⟩
    obtain ⟨hj, rfl⟩ := hj
    refine ⟨_, true, rfl, rfl, fun K hK => by simpa using hK, (fun z => by cases z), fun _ K hK => ?_⟩
    have hf : f + r < 26 := by omega
    have h1 := ltr_at (f + r) hf
    have h2 : ((f + r : Nat) : Int) = (f : Int) + (r : Int) := by omega
    rw [h2] at h1
    have h3 : letS.length ≤ sizeLine := by have : letS.length = 26 := rfl; omega
    have h4 : vsub (.str letS) (.int ((f : Int) + (r : Int))) = some (.str (ltr (f + r))) := by
      show (if letS.length ≤ sizeLine then (atI letS.cps.toList ((f : Int) + (r : Int))).map (fun c => Val.str ⟨#[c]⟩) else none) = _
      rw [if_pos h3, h1]
      rfl
    unfold letS at h4
    simp [h4]
    refine take_wp (hc.set a b) (by omega) (by omega) fun y a b y0 y1 => ?_
    obtain ⟨c, rfl⟩ := Int.eq_ofNat_of_zero_le y0
    obtain ⟨w1, w2, w3⟩ := word_ok (f + r) hf c (by omega)
    have hmul : binop .mul (.str (ltr (f + r))) (.int (1 + (c : Int))) = some (.v (.str (Txt.mul (ltr (f + r)) ((c : Int) + 1)))) := by
      show (if (ltr (f + r)).length ≤ 1000 ∧ 1 ≤ 1 + (c : Int) ∧ 1 + (c : Int) ≤ 1000 then some (Rv.v (.str (Txt.mul (ltr (f + r)) (1 + (c : Int))))) else none) = _
      have l1 : (ltr (f + r)).length = 1 := rfl
      rw [if_pos ⟨by omega, by omega, by omega⟩, Int.add_comm]
    simp [hmul]
    refine take_wp (hc.set a b) (by omega) (by omega) fun y a b y0 y1 => ?_
    simp
    simp at hK
    refine hK _ _ a b rfl (ls ++ [(Txt.mul (ltr (f + r)) ((c : Int) + 1), 1 + y)]) ?_ ?_ ?_
    · simp [hacc]
    · simp [hl]
    · intro t pa pb hp
      by_cases ht : t < ls.length
      · rw [List.getElem?_append_left ht] at hp
        exact hls t (pa, pb) hp
      · rw [List.getElem?_append_right (by omega)] at hp
        have h0 : t - ls.length = 0 := by
          have := (List.getElem?_eq_some_iff.mp hp).1
          simpa using this
        rw [h0] at hp
        cases hp
        have e : t = r := by omega
        subst e
        exact ⟨w1, w2, w3, by omega, by omega⟩
  · subst hg hacc
    have key : ∀ p ∈ ls, ∃ r : Nat, ls[r]? = some p := fun p hp => List.mem_iff_getElem?.mp hp
    have nd : ((ls.map fun p => ((Val.str p.1, Val.int p.2) : Val × Val)).map fun kv => nkV kv.1).Nodup := by
      rw [List.map_map]
      refine List.pairwise_iff_getElem.mpr fun r t hr ht hrt e => ?_
      rw [List.length_map] at hr ht
      simp [nkV] at e
      have h1 := (hls r _ (List.getElem?_eq_getElem hr)).2.2.1
      have h2 := (hls t _ (List.getElem?_eq_getElem ht)).2.2.1
      rw [e] at h1
      omega
    obtain ⟨ks, hks, dv⟩ := mk_dct (kvs := ls.map fun p => (Val.str p.1, Val.int p.2)) nd (fun kv hkv => by
      obtain ⟨p, hp, rfl⟩ := List.mem_map.mp hkv
      obtain ⟨r, hr⟩ := key p hp
      obtain ⟨a1, a2, _⟩ := hls r p hr
      exact ⟨p.1, rfl, a1, by omega⟩) (fun kv hkv => by
      obtain ⟨p, hp, rfl⟩ := List.mem_map.mp hkv
      obtain ⟨r, hr⟩ := key p hp
      obtain ⟨_, _, _, a1, a2⟩ := hls r p hr
      exact bdV_mono (bdV_int (n := 2000) (by omega) (by omega)) (Nat.le_refl _) (by omega)) (by rw [List.length_map, hl, List.length_range]; omega)
    have et : tupsV (ls.map fun p => (Val.str p.1, Val.int p.2)) = ls.map fun p => Val.tup [Val.str p.1, Val.int p.2] := by
      unfold tupsV
      rw [List.map_map]
      rfl
    rw [et] at hks
    simp [hks]
    refine q _ _ a b dv (by rw [List.length_map, hl, List.length_range]) fun kv hkv => ?_
    obtain ⟨p, hp, rfl⟩ := List.mem_map.mp hkv
    obtain ⟨r, hr⟩ := key p hp
    obtain ⟨a1, a2, _⟩ := hls r p hr
    exact ⟨p.1, rfl, a1, a2⟩
end
end Rs
end
section
set_option maxRecDepth 100000
set_option maxHeartbeats 1000000
/-! Words and signed names. -/
namespace Rs
open PySem L2
theorem lowS_app' (a b : Str) : lowS (a ++ b) = (lowS a && lowS b) := by
  show (TL.tl (a ++ b)).all _ = _
  rw [TL.tl_append, List.all_append]
  rfl
theorem at_nat {α : Type} {xs : List α} {v : Nat} {x : α} (h : xs[v]? = some x) : atI xs (v : Int) = some x := by
  have := (List.getElem?_eq_some_iff.mp h).1
  unfold atI ixN
  rw [if_pos (by omega), if_pos (by omega)]
  simpa using h
theorem lowS_cut {x : Str} (l : lowS x = true) (lo hi : Option Int) : lowS (cutS x lo hi) = true := by
  unfold lowS at l ⊢
  rw [List.all_eq_true] at l ⊢
  intro c hc
  refine l c (List.mem_of_mem_drop (i := HT.sIx x.length 0 lo) (List.mem_of_mem_take (i := HT.sIx x.length x.length hi - HT.sIx x.length 0 lo) ?_))
  simpa [cutS] using hc
theorem lowS_join' (y : Str) (hy : lowS y = true) : ∀ parts : List Str, (∀ p ∈ parts, lowS p = true) → lowS (Str.join y parts) = true
  | [], _ => rfl
  | [p], h => h p (by simp)
  | p :: q :: r, h => by
    show lowS (p ++ y ++ Str.join y (q :: r)) = true
    rw [lowS_app', lowS_app', h p (by simp), hy, lowS_join' y hy (q :: r) fun z hz => h z (by simp [List.mem_cons.mp hz])]
    rfl
theorem strsV_map' : ∀ ys : List Str, strsV (ys.map .str) = some ys
  | [] => rfl
  | y :: ys => by simp [strsV, strsV_map' ys]
theorem len_join' : ∀ parts : List Str, (∀ p ∈ parts, p.length = 1) → (Str.join "" parts).length = parts.length
  | [], _ => rfl
  | [p], h => h p (by simp)
  | p :: q :: r, h => by
    show (p ++ "" ++ Str.join "" (q :: r)).length = _
    rw [strLen_append, strLen_append, h p (by simp), len_join' (q :: r) fun z hz => h z (by simp [List.mem_cons.mp hz])]
    have : ("" : Str).length = 0 := rfl
    simp only [List.length_cons]
    omega
def sigS : Str := " !\"#$&'()*+,-./0123456789:;<=>?@ABCDEFGHIJKLMNOPQRSTUVWXYZ[\\]^_`{|}~\n"
theorem sig_low : ∀ c ∈ sigS.cps.toList, lowS ⟨#[c]⟩ = true := by decide +kernel
theorem let_low : ∀ c ∈ letS.cps.toList, lowS ⟨#[c]⟩ = true := by decide +kernel
theorem sig_len : 0 < sigS.length ∧ sigS.length ≤ 1000 := by decide +kernel
section
variable {n : Nat} {h : List Cell} {i : Nat}
theorem pickS_wp {x : Str} {Q : Val → S → Prop} (hc : IsFeed h i) (h0 : 0 < x.length) (h1 : x.length ≤ 1000) (q : ∀ c a b, c ∈ x.cps.toList → Q (.str ⟨#[c]⟩) ⟨[], h.set i (fc a b)⟩) : Wp (callI tabL fds (n + 2) 2 [.ref i, .str x] h) Q := by
  have hb := size_big
  refine wp_def (d := fd__law_pick) HasD.e rfl rfl ?_
  show Wp (execSs tabL (callI tabL fds (n + 1)) is__law_pick ⟨[.val (.ref i), .val (.str x)], h⟩) _
  unfold is__law_pick
  have hx : x.length ≤ sizeLine := by omega
  simp [hx]
  refine take_wp hc (by omega) (by omega) fun y a b y0 y1 => ?_
  obtain ⟨m, rfl⟩ := Int.eq_ofNat_of_zero_le y0
  have hm : m < x.cps.toList.length := by rw [cps_len]; omega
  have hv : vsub (.str x) (.int (m : Int)) = some (.str ⟨#[x.cps.toList[m]]⟩) := by
    show (if x.length ≤ sizeLine then (atI x.cps.toList (m : Int)).map (fun c => Val.str ⟨#[c]⟩) else none) = _
    rw [if_pos hx]
    have : atI x.cps.toList (m : Int) = some x.cps.toList[m] := at_nat (List.getElem?_eq_getElem hm)
    rw [this]
    rfl
  simp [hv]
  exact q _ a b (List.getElem_mem hm)
theorem signed_wp {x : Str} {Q : Val → S → Prop} (hc : IsFeed h i) (l : lowS x = true) (hl : x.length ≤ 20) (q : ∀ t a b, lowS t = true → t.length ≤ 41 → Q (.str t) ⟨[], h.set i (fc a b)⟩) : Wp (callI tabL fds (n + 3) 37 [.ref i, .str x] h) Q := by
  have hb := size_big
  refine wp_def (d := fd__law_signed) HasD.e rfl rfl ?_
  show Wp (execSs tabL (callI tabL fds (n + 2)) is__law_signed ⟨[.val (.ref i), .val (.str x), .no, .no, .no], h⟩) _
  unfold is__law_signed
  have hx : x.length ≤ sizeLine := by omega
  simp [hx]
  refine take_wp hc (by omega) (by omega) fun y a b y0 y1 => ?_
  simp
  show Wp (callI tabL fds (n + 2) 2 [.ref i, .str sigS] _) _
  refine pickS_wp (hc.set a b) sig_len.1 sig_len.2 fun c a b hc2 => ?_
  have hv1 : ∀ lo hi, vslice (.str x) lo hi = some (.v (.str (cutS x lo hi))) := fun lo hi => if_pos hx
  have l1 : ∀ lo hi, (cutS x lo hi).length ≤ 20 := fun lo hi => Nat.le_trans (cutS_length x lo hi) hl
  have l2 : (⟨#[c]⟩ : Str).length = 1 := rfl
  have l3 := l1 none (some y)
  simp [hx, hv1, l2]
  refine ⟨by omega, ?_⟩
  refine take_wp (hc.set a b) (by omega) (by omega) fun z a b z0 z1 => ?_
  have l4 := l1 (some (y + z)) none
  simp [hv1, strLen_append, l2]
  refine ⟨by omega, ?_⟩
  refine q _ a b ?_ ?_
  · rw [lowS_app', lowS_app', lowS_cut l, lowS_cut l, sig_low c hc2]
    rfl
  · rw [strLen_append, strLen_append, l2]
    omega
theorem word_wp {Q : Val → S → Prop} (hc : IsFeed h i) (q : ∀ t a b, lowS t = true → t.length ≤ 9 → Q (.str t) ⟨[], h.set i (fc a b)⟩) : Wp (callI tabL fds (n + 3) 36 [.ref i] h) Q := by
  have hb := size_big
  refine wp_def (d := fd__law_word) HasD.e rfl rfl ?_
  show Wp (execSs tabL (callI tabL fds (n + 2)) is__law_word ⟨[.val (.ref i), .no, .no], h⟩) _
  unfold is__law_word
  simp
  refine take_wp hc (by omega) (by omega) fun y a b y0 y1 => ?_
  simp
  refine lcK_I (List.range (1 + y).toNat) (fun (j : Nat) => .int (0 + (j : Int))) (fun j acc g => (∃ a b, g = h.set i (fc a b)) ∧ ∃ ls : List Str, acc = ls.map .str ∧ ls.length = j ∧ ∀ p ∈ ls, lowS p = true ∧ p.length = 1)
    (by simp [rng1 (j := 1 + y) (by omega) (by omega), rangeV]) (by simp; omega) ⟨⟨a, b, rfl⟩, [], rfl, rfl, by simp⟩ (fun j r acc g hr ⟨⟨a, b, hg⟩, ls, hacc, hl, hls⟩ hlen => ?_) fun acc g _ ⟨⟨a, b, hg⟩, ls, hacc, hl, hls⟩ => ?_
  · subst hg
    refine ⟨_, true, rfl, rfl, fun K hK => by simpa using hK, (fun z => by cases z), fun _ K hK => ?_⟩
    simp
    show Wp (callI tabL fds (n + 2) 2 [.ref i, .str letS] _) _
    refine pickS_wp (hc.set a b) (by decide +kernel) (by decide +kernel) fun c a b hc2 => ?_
    simp
    simp only [Int.zero_add] at hK
    refine hK (.str ⟨#[c]⟩) _ ⟨⟨a, b, rfl⟩, ls ++ [⟨#[c]⟩], by simp [hacc], by simp [hl], fun p hp => ?_⟩
    rcases List.mem_append.mp hp with hp | hp
    · exact hls p hp
    · rw [List.mem_singleton.mp hp]
      exact ⟨let_low c hc2, rfl⟩
  · subst hg hacc
    have hlen : ls.length = (1 + y).toNat := by rw [hl, List.length_range]
    have hsum : ∀ l : List Str, (∀ p ∈ l, p.length = 1) → (l.map (·.length)).sum = l.length := by
      intro l
      induction l with
      | nil => intro _; rfl
      | cons p l ih => intro hp; simp [hp p (by simp), ih fun p hp2 => hp p (List.mem_cons_of_mem _ hp2)]; omega
    have hj : mtop .join (.str "") [.lst (ls.map .str)] = some (.v (.str (Txt.join "" ls)), none) := by
      simp only [mtop, strsV_map']
      rw [if_pos]
      rw [hsum ls fun p hp => (hls p hp).2]
      have : ("" : Str).length = 0 := rfl
      rw [this]
      omega
    simp [hj]
    rw [TL.join_eq]
    refine q _ a b (lowS_join' _ rfl _ fun p hp => (hls p hp).1) ?_
    rw [len_join' _ fun p hp => (hls p hp).2]
    omega
end
end Rs
end
section
set_option maxRecDepth 100000
set_option maxHeartbeats 4000000
/-! Values near things. -/
namespace Rs
open PySem L2
def NrV (x : Val) : Prop := (∃ kvs, Dv x kvs) ∨ (kindV x < 7 ∧ kindV x ≠ 6 ∧ bdV 1000000 8 x = true)
def namesV : List Val := [.str "", .str "A", .str "abcdefghi", .str "a1", .str "a b", .str "jug ", .str "-", .str "\n", .str (Txt.mul "z" 8), .str (Txt.mul "z" 9), .int 5, .non, .tup [.str "a"], .bl true, .str "aZ", .str "a."]
def pricesV : List Val := [.int 0, .int 1000001, .bl true, .bl false, .str "3", .non, .int (-1), .int 1000000, .int 1, .int 1000000000000000000000000000000, .tup [], .lst [.int 5], .int (-1000000)]
theorem names_ok01 : ∀ k ∈ namesV, KeyOk k := by
  intro k hk
  simp only [namesV, List.mem_cons, List.not_mem_nil, or_false] at hk
  rcases hk with rfl | rfl | rfl | rfl | rfl | rfl | rfl | rfl | rfl | rfl | rfl | rfl | rfl | rfl | rfl | rfl
  all_goals first | exact .num | exact .non | exact .tup | exact .tru | exact .str (by decide +kernel) (by decide +kernel)
theorem prices_ok01 : ∀ v ∈ pricesV, bdV 2000 3 v = true := by decide +kernel
theorem prices_ok02 : ∀ v ∈ pricesV ++ [Val.int 3, Val.int 3], bdV 2000 3 v = true := by decide +kernel
theorem dvG {ts : AL} (g : GoodT ts) : Dv (.dct (alV ts)) (ts.map fun p => (.str p.1, .int p.2)) where
  e := by
    show some _ = some _
    congr 1
    unfold alV
    rw [List.map_map]
    rfl
  nd := by
    rw [List.map_map]
    refine List.pairwise_map.mpr ((List.pairwise_map.mp g.nd).imp fun h e => h ?_)
    simpa [nkV] using e
  ky := fun kv hkv => by
    obtain ⟨p, hp, rfl⟩ := List.mem_map.mp hkv
    obtain ⟨a, b⟩ := base_ok _ (g.sub p hp)
    exact .str a (by omega)
  bd := fun kv hkv => by
    obtain ⟨p, hp, rfl⟩ := List.mem_map.mp hkv
    have := g.val p hp
    exact bdV_mono (bdV_int (n := 2000) (by omega) (by omega)) (Nat.le_refl _) (by omega)
  len := by rw [List.length_map]; have := g.len; omega
  odd := fun ks e => by cases e
theorem bd_i {z : Int} (h0 : 0 ≤ z) (h1 : z < 2000000) : bdV 2000 3 (.int z) = true := bdV_mono (bdV_int (n := 2000) (by omega) (by omega)) (Nat.le_refl _) (by omega)
theorem dv0 : Dv (.dct []) [] := ⟨rfl, List.nodup_nil, (fun kv h => nomatch h), (fun kv h => nomatch h), Nat.zero_le _, (fun ks e => nomatch e)⟩
theorem dv_put {ks : List (Key × Val)} {kvs : List (Val × Val)} (d : Dv (.dct ks) kvs) {t : Str} {v : Val} (ht : ∃ w, (Val.str t, w) ∈ kvs) (hv : bdV 2000 3 v = true) : ∃ kvs', Dv (.dct (dput ks (.inr t) v)) kvs' := by
  have e : kvs = ks.map fun kv => (vKey kv.1, kv.2) := by have := d.e; cases this; rfl
  subst e
  have ha : (ks.any fun kv => decide (kv.1 = .inr t)) = true := by
    obtain ⟨w, hw⟩ := ht
    obtain ⟨kv, hm, he⟩ := List.mem_map.mp hw
    refine List.any_eq_true.mpr ⟨kv, hm, ?_⟩
    obtain ⟨k, x⟩ := kv
    cases k with
    | inl i => cases he
    | inr y => cases he; simp
  have hp : dput ks (.inr t) v = ks.map fun kv => if kv.1 = .inr t then (kv.1, v) else kv := by unfold dput; rw [if_pos ha]
  have hk : ((ks.map fun kv => if kv.1 = Sum.inr t then (kv.1, v) else kv).map fun kv => (vKey kv.1, kv.2)).map (·.1) = (ks.map fun kv => (vKey kv.1, kv.2)).map (·.1) := by
    rw [List.map_map, List.map_map, List.map_map]
    refine List.map_congr_left fun kv _ => ?_
    simp only [Function.comp]
    split <;> rfl
  refine ⟨(ks.map fun kv => if kv.1 = .inr t then (kv.1, v) else kv).map fun kv => (vKey kv.1, kv.2), by rw [hp]; rfl, ?_, fun kv hkv => ?_, fun kv hkv => ?_, ?_, (fun ks e => nomatch e)⟩
  · have := d.nd
    rw [show (fun kv : Val × Val => nkV kv.1) = nkV ∘ (·.1) from rfl, ← List.map_map] at this ⊢
    rw [hk]
    exact this
  · have : kv.1 ∈ ((ks.map fun kv => if kv.1 = Sum.inr t then (kv.1, v) else kv).map fun kv => (vKey kv.1, kv.2)).map (·.1) := List.mem_map.mpr ⟨kv, hkv, rfl⟩
    rw [hk] at this
    obtain ⟨kv2, h2, e⟩ := List.mem_map.mp this
    rw [← e]
    exact d.ky kv2 h2
  · obtain ⟨kv2, h2, rfl⟩ := List.mem_map.mp hkv
    obtain ⟨kv3, h3, rfl⟩ := List.mem_map.mp h2
    by_cases z : kv3.1 = .inr t
    · rw [if_pos z]; exact hv
    · rw [if_neg z]; exact d.bd (vKey kv3.1, kv3.2) (List.mem_map.mpr ⟨kv3, h3, rfl⟩)
  · have := d.len
    simpa using this
theorem strs_of : ∀ {ks : List (Key × Val)}, (∀ kv ∈ ks, ∃ t, vKey kv.1 = .str t ∧ lowS t = true ∧ t.length ≤ 8) → ∃ ss : List Str, (ks.map fun kv => vKey kv.1) = ss.map .str ∧ (ks.all fun kv => kv.1.isRight) = true ∧ ∀ t ∈ ss, lowS t = true ∧ t.length ≤ 8
  | [], _ => ⟨[], rfl, rfl, (fun t h => nomatch h)⟩
  | (k, v) :: ks, h => by
    obtain ⟨ss, h1, h2, h3⟩ := strs_of (ks := ks) fun kv hkv => h kv (List.mem_cons_of_mem _ hkv)
    obtain ⟨t, e, l, z⟩ := h (k, v) List.mem_cons_self
    cases k with
    | inl i => cases e
    | inr y =>
      cases e
      refine ⟨t :: ss, by simp only [List.map_cons, h1]; rfl, by simp only [List.all_cons, h2]; rfl, fun t ht => ?_⟩
      rcases List.mem_cons.mp ht with rfl | ht
      · exact ⟨l, z⟩
      · exact h3 _ ht
theorem sorted_dv {ks : List (Key × Val)} {kvs : List (Val × Val)} (d : Dv (.dct ks) kvs) (hk : ∀ kv ∈ kvs, ∃ t, kv.1 = .str t ∧ lowS t = true ∧ t.length ≤ 8) (h0 : 1 ≤ kvs.length) :
    ∃ ss : List Str, biop .sorted [.dct ks] = some (.f (.lst (ss.map .str) false)) ∧ ss ≠ [] ∧ ss.length ≤ 60 ∧ ∀ t ∈ ss, KeyOk (.str t) := by
  have hb := size_big
  have e : kvs = ks.map fun kv => (vKey kv.1, kv.2) := by have := d.e; cases this; rfl
  have dl := d.len
  subst e
  rw [List.length_map] at dl h0
  obtain ⟨ss, h1, h2, h3⟩ := strs_of (ks := ks) fun kv hkv => hk (vKey kv.1, kv.2) (List.mem_map.mpr ⟨kv, hkv, rfl⟩)
  have hl : ss.length = ks.length := by simpa using (congrArg List.length h1).symm
  have hp := sortS_perm ss
  refine ⟨sortS ss, ?_, fun z => ?_, by rw [hp.length_eq]; omega, fun t ht => ?_⟩
  · show (if decide (ks.length < 64) && ks.all (fun kv => kv.1.isRight) then (vsort (ks.map fun kv => vKey kv.1)).map (fun ys => Rv.f (.lst ys false)) else none) = _
    rw [h1, vsort_str ss (by omega), h2]
    have : decide (ks.length < 64) = true := by simp; omega
    rw [this]
    rfl
  · have := hp.length_eq
    rw [z] at this
    simp at this
    omega
  · obtain ⟨l, z⟩ := h3 t ((hp.mem_iff).mp ht)
    exact .str l (by omega)
section
variable {n : Nat} {h : List Cell} {i : Nat}
theorem near_w {ts : AL} {Q : Val → S → Prop} (hc : IsFeed h i) (g : GoodT ts) (q : ∀ x a b, NrV x → Q x ⟨[], h.set i (fc a b)⟩) : Wp (callI tabL fds (n + 4) 39 [.ref i, .dct (alV ts)] h) Q := by
  have hb := size_big
  have dv := dvG g
  refine wp_def (d := fd__law_near_k01) HasD.e rfl rfl ?_
  show Wp (execSs tabL (callI tabL fds (n + 3)) is__law_near_k01 ⟨[.val (.ref i), .val (.dct (alV ts)), .no, .no, .no, .no, .no, .no, .no, .no], h⟩) _
  unfold is__law_near_k01
  obtain ⟨ss, hso, hsp, hs0, hsl⟩ := sorted_names g
  have dl : (ts.map fun p => ((Val.str p.1, Val.int p.2) : Val × Val)).length ≤ 20 := by rw [List.length_map]; exact g.len
  have z8 : binop .mul (.str "z") (.int 8) = some (.v (.str (Txt.mul "z" 8))) := rfl
  have z9 : binop .mul (.str "z") (.int 9) = some (.v (.str (Txt.mul "z" 9))) := rfl
  simp
  refine take_wp hc (by omega) (by omega) fun y a b y0 y1 => ?_
  have hc1 := hc.set a b
  have hy : y = 0 ∨ y = 1 ∨ y = 2 ∨ y = 3 ∨ y = 4 ∨ y = 5 ∨ y = 6 ∨ y = 7 ∨ y = 8 := by omega
  rcases hy with rfl | rfl | rfl | rfl | rfl | rfl | rfl | rfl | rfl
  · simp [z8, z9]
    refine pick_wp hc1 (by simp) (by simp) fun k a b hk => ?_
    simp
    refine take_wp (hc.set a b) (by omega) (by omega) fun z a b z0 z1 => ?_
    simp
    refine laid_wp (hc.set a b) dv (names_ok01 k hk) (bd_i (by omega) (by omega)) (by omega) fun y kvs a b dy _ => ?_
    simp
    exact q y a b (.inl ⟨kvs, dy⟩)
  · simp [z8, z9]
    refine pick_wp hc1 (by simp) (by simp) fun v a b hv => ?_
    simp [hso]
    refine pickT_wp Val.str ss (hc.set a b) rfl hs0 (by omega) fun nm a b hnm => ?_
    simp
    have hmem : ∃ w, (Val.str nm, w) ∈ (ts.map fun p => ((Val.str p.1, Val.int p.2) : Val × Val)) := by
      obtain ⟨p, hp, e⟩ := List.mem_map.mp ((hsp.mem_iff).mp hnm)
      exact ⟨.int p.2, List.mem_map.mpr ⟨p, hp, by rw [e]⟩⟩
    obtain ⟨kvs, dp⟩ := dv_put dv hmem (prices_ok01 v hv)
    exact ⟨by rw [alV_len]; have := g.len; omega, q _ a b (.inl ⟨kvs, dp⟩)⟩
  · simp [z8, z9]
    refine pick_wp hc1 (by simp) (by simp) fun k a b hk => ?_
    simp
    refine pick_wp (hc.set a b) (by simp) (by simp) fun v a b hv => ?_
    simp
    refine laid_wp (hc.set a b) dv (names_ok01 k hk) (prices_ok01 v hv) (by omega) fun y kvs a b dy _ => ?_
    simp
    exact q y a b (.inl ⟨kvs, dy⟩)
  · simp [z8, z9]
    refine pick_wp hc1 (by simp) (by simp) fun m a b hm => ?_
    have hm2 : ∃ z : Int, m = .int z ∧ 0 ≤ z ∧ z ≤ 26 := by
      simp only [List.mem_cons, List.not_mem_nil, or_false] at hm
      rcases hm with rfl | rfl | rfl | rfl | rfl | rfl | rfl <;> exact ⟨_, rfl, by omega, by omega⟩
    obtain ⟨z, rfl, z0, z1⟩ := hm2
    simp
    refine many_wp (hc.set a b) z0 z1 fun ks kvs a b dy _ _ => ?_
    simp
    exact q _ a b (.inl ⟨kvs, dy⟩)
  · have hli : biop .litems [.dct (alV ts)] = some (.f (.lst ((alV ts).map fun kv => .tup [vKey kv.1, kv.2]) false)) := rfl
    have htu : biop .tuple [.dct (alV ts)] = some (.v (.tup ((alV ts).map fun kv => vKey kv.1))) := rfl
    simp [z8, z9, hli, htu]
    refine pick_wp (hc.set _ _) (by simp) (by simp) fun v a b hv => ?_
    simp
    have kb : ∀ kv ∈ alV ts, bdV 2000 3 (vKey kv.1) = true ∧ bdV 2000 3 kv.2 = true := fun kv hkv => by
      obtain ⟨p, hp, rfl⟩ := List.mem_map.mp hkv
      exact ⟨(dv.ky _ (List.mem_map.mpr ⟨p, hp, rfl⟩)).bd, dv.bd _ (List.mem_map.mpr ⟨p, hp, rfl⟩)⟩
    have al : (alV ts).length ≤ 20 := by rw [alV_len]; exact g.len
    have kys : ∀ x ∈ (alV ts).map (fun kv => vKey kv.1), bdV 2000 3 x = true := fun x hx => by
      obtain ⟨kv, hkv, rfl⟩ := List.mem_map.mp hx
      exact (kb kv hkv).1
    have b1 : bdV 1000000 8 (.lst ((alV ts).map fun kv => vKey kv.1)) = true := bdV_mono (bdV_lst (n := 2000) (dp := 3) (m := 20) kys (by rw [List.length_map]; exact al)) (by omega) (by omega)
    have b2 : bdV 1000000 8 (.tup ((alV ts).map fun kv => vKey kv.1)) = true := bdV_mono (bdV_tup (n := 2000) (dp := 3) (m := 20) kys (by rw [List.length_map]; exact al)) (by omega) (by omega)
    have b3 : bdV 1000000 8 (.lst ((alV ts).map fun kv => .tup [vKey kv.1, kv.2])) = true := bdV_mono (bdV_lst (n := 5000) (dp := 4) (m := 20) (fun x hx => by
      obtain ⟨kv, hkv, rfl⟩ := List.mem_map.mp hx
      obtain ⟨c1, c2⟩ := kb kv hkv
      exact bdV_mono (bdV_tup (n := 2000) (dp := 3) (m := 2) (fun y hy => by
        simp only [List.mem_cons, List.not_mem_nil, or_false] at hy
        rcases hy with rfl | rfl
        · exact c1
        · exact c2) (by simp)) (by omega) (by omega)) (by rw [List.length_map]; exact al)) (by omega) (by omega)
    have b4 : bdV 1000000 8 (.lst [.dct (alV ts)]) = true := bdV_mono (bdV_lst (n := 250000) (dp := 4) (m := 1) (fun x hx => by
      rw [List.mem_singleton.mp hx]
      exact dv.bdx) (by simp)) (by omega) (by omega)
    refine q v a b ?_
    simp only [List.mem_cons, List.not_mem_nil, or_false] at hv
    rcases hv with rfl | rfl | rfl | rfl | rfl | rfl | rfl | rfl | rfl | rfl | rfl
    · exact .inr ⟨by decide +kernel, by decide +kernel, by decide +kernel⟩
    · exact .inr ⟨by decide +kernel, by decide +kernel, by decide +kernel⟩
    · exact .inr ⟨by decide +kernel, by decide +kernel, by decide +kernel⟩
    · exact .inl ⟨[], dv0⟩
    · exact .inr ⟨bdV_kind b1, by simp, b1⟩
    · exact .inr ⟨bdV_kind b3, by simp, b3⟩
    · exact .inr ⟨bdV_kind b2, by simp, b2⟩
    · exact .inr ⟨by decide +kernel, by decide +kernel, by decide +kernel⟩
    · exact .inr ⟨by decide +kernel, by decide +kernel, by decide +kernel⟩
    · exact .inr ⟨by decide +kernel, by decide +kernel, by decide +kernel⟩
    · exact .inr ⟨bdV_kind b4, by simp, b4⟩
  · simp [z8, z9]
    refine word_wp hc1 fun t a b tl tz => ?_
    simp
    refine take_wp (hc.set a b) (by omega) (by omega) fun z a b z0 z1 => ?_
    simp
    refine laid_wp (hc.set a b) dv (.str tl (by omega)) (bd_i (by omega) (by omega)) (by omega) fun y kvs a b dy _ => ?_
    simp
    exact q y a b (.inl ⟨kvs, dy⟩)
  · simp [z8, z9, hso]
    refine pickT_wp Val.str ss hc1 rfl hs0 (by omega) fun nm a b hnm => ?_
    have hnb := base_ok nm (by
      obtain ⟨p, hp, e⟩ := List.mem_map.mp ((hsp.mem_iff).mp hnm)
      rw [← e]
      exact g.sub p hp)
    simp
    refine signed_wp (hc.set a b) hnb.1 (by omega) fun t a b tl tz => ?_
    simp
    refine pick_wp (hc.set a b) (by simp) (by simp) fun x a b hx => ?_
    have hd : ∃ kvs, Dv x kvs ∧ kvs.length ≤ 20 := by
      simp only [List.mem_cons, List.not_mem_nil, or_false] at hx
      rcases hx with rfl | rfl
      · exact ⟨_, dv0, by simp⟩
      · exact ⟨_, dv, dl⟩
    obtain ⟨kx, dx, lx⟩ := hd
    simp
    refine take_wp (hc.set a b) (by omega) (by omega) fun z a b z0 z1 => ?_
    simp
    refine laid_wp (hc.set a b) dx (.str tl (by omega)) (bd_i (by omega) (by omega)) (by omega) fun y kvs a b dy _ => ?_
    simp
    exact q y a b (.inl ⟨kvs, dy⟩)
  · simp [z8, z9]
    refine pick_wp hc1 (by simp) (by simp) fun m a b hm => ?_
    have hm2 : ∃ z : Int, m = .int z ∧ 1 ≤ z ∧ z ≤ 26 := by
      simp only [List.mem_cons, List.not_mem_nil, or_false] at hm
      rcases hm with rfl | rfl | rfl <;> exact ⟨_, rfl, by omega, by omega⟩
    obtain ⟨z, rfl, z0, z1⟩ := hm2
    simp
    refine many_wp (hc.set a b) (by omega) z1 fun ks kvs a b dy hl hk => ?_
    obtain ⟨s2, hs2, hs20, hs2l, hs2k⟩ := sorted_dv dy hk (by omega)
    simp [hs2]
    refine forK_rng [4, 8, 9] (fun j as g => (∃ a b, g = h.set i (fc a b)) ∧ ∃ x kvs r w, as = [.val x, r, w] ∧ Dv x kvs ∧ kvs.length ≤ 26 + j) [.val (.dct ks), .no, .no] 0 1 rfl rfl ⟨⟨a, b, rfl⟩, _, kvs, _, _, rfl, dy, by omega⟩ (fun j as g hj ⟨⟨a, b, hg⟩, x, kvs, r, w, has, dx, hl⟩ K K1 K2 K3 K4 => ?_) fun as g ⟨⟨a, b, hg⟩, x, kvs, r, w, has, dx, hl⟩ => ?_
    · subst hg has
      refine ⟨_, rfl, ?_⟩
      simp
      refine pick_wp (hc.set a b) (by simp) (by simp) fun k1 a b hk1 => ?_
      simp only [feed_set]
      refine pickT_wp Val.str s2 (hc.set a b) rfl hs20 (by omega) fun nm a b hnm => ?_
      simp only [feed_set]
      refine pick_wp (hc.set a b) (by simp) (by simp) fun k a b hk => ?_
      have kk : KeyOk k := by
        simp only [List.mem_cons, List.not_mem_nil, or_false] at hk
        rcases hk with rfl | rfl
        · exact names_ok01 _ hk1
        · exact hs2k nm hnm
      simp only [feed_set]
      refine ⟨by omega, pick_wp (hc.set a b) (by simp) (by simp) fun v a b hv => ?_⟩
      simp only [feed_set]
      refine laid_wp (hc.set a b) dx kk (prices_ok02 v hv) (by omega) fun y kvs2 a b d2 l2 => ?_
      simp only [feed_set]
      exact K1 [.val y, .val (.int j), .val k] _ ⟨⟨a, b, rfl⟩, y, kvs2, _, _, rfl, d2, by omega⟩
    · subst hg has
      simp
      exact q x a b (.inl ⟨kvs, dx⟩)
  · simp [z8, z9]
    refine pick_wp hc1 (by simp) (by simp) fun m a b hm => ?_
    have hm2 : ∃ z : Int, m = .int z ∧ 1 ≤ z ∧ z ≤ 26 := by
      simp only [List.mem_cons, List.not_mem_nil, or_false] at hm
      rcases hm with rfl | rfl | rfl <;> exact ⟨_, rfl, by omega, by omega⟩
    obtain ⟨z, rfl, z0, z1⟩ := hm2
    simp
    refine many_wp (hc.set a b) (by omega) z1 fun ks kvs a b dy hl hk => ?_
    obtain ⟨s2, hs2, hs20, hs2l, hs2k⟩ := sorted_dv dy hk (by omega)
    simp [hs2]
    refine forK_rng [4, 8, 9] (fun j as g => (∃ a b, g = h.set i (fc a b)) ∧ ∃ x kvs r w, as = [.val x, r, w] ∧ Dv x kvs ∧ kvs.length ≤ 26 + j) [.val (.dct ks), .no, .no] 0 2 rfl rfl ⟨⟨a, b, rfl⟩, _, kvs, _, _, rfl, dy, by omega⟩ (fun j as g hj ⟨⟨a, b, hg⟩, x, kvs, r, w, has, dx, hl⟩ K K1 K2 K3 K4 => ?_) fun as g ⟨⟨a, b, hg⟩, x, kvs, r, w, has, dx, hl⟩ => ?_
    · subst hg has
      refine ⟨_, rfl, ?_⟩
      simp
      refine pick_wp (hc.set a b) (by simp) (by simp) fun k1 a b hk1 => ?_
      simp only [feed_set]
      refine pickT_wp Val.str s2 (hc.set a b) rfl hs20 (by omega) fun nm a b hnm => ?_
      simp only [feed_set]
      refine pick_wp (hc.set a b) (by simp) (by simp) fun k a b hk => ?_
      have kk : KeyOk k := by
        simp only [List.mem_cons, List.not_mem_nil, or_false] at hk
        rcases hk with rfl | rfl
        · exact names_ok01 _ hk1
        · exact hs2k nm hnm
      simp only [feed_set]
      refine ⟨by omega, pick_wp (hc.set a b) (by simp) (by simp) fun v a b hv => ?_⟩
      simp only [feed_set]
      refine laid_wp (hc.set a b) dx kk (prices_ok02 v hv) (by omega) fun y kvs2 a b d2 l2 => ?_
      simp only [feed_set]
      exact K1 [.val y, .val (.int j), .val k] _ ⟨⟨a, b, rfl⟩, y, kvs2, _, _, rfl, d2, by omega⟩
    · subst hg has
      simp
      exact q x a b (.inl ⟨kvs, dx⟩)
end
end Rs
end
section
set_option maxRecDepth 100000
set_option maxHeartbeats 4000000
/-! The law. -/
namespace Rs
open PySem L2
theorem good_th {ts : AL} (g : GoodT ts) : thB (ts.map fun p => (.str p.1, .int p.2)) = true := by
  have hb : ∀ x ∈ baseN, nmB (.str x) = true := by decide +kernel
  have hl : 1 ≤ ts.length := by
    have := g.ne
    cases ts with
    | nil => exact absurd rfl this
    | cons a l => simp
  have h2 := g.len
  simp only [thB, List.length_map, Bool.and_eq_true, decide_eq_true_eq, List.all_eq_true]
  refine ⟨hl, h2, fun kv hkv => ?_⟩
  obtain ⟨p, hp, rfl⟩ := List.mem_map.mp hkv
  have h3 := g.val p hp
  exact ⟨hb p.1 (g.sub p hp), by simp only [intB, Bool.and_eq_true, decide_eq_true_eq]; exact h3⟩
theorem nr_all {x : Val} (nr : NrV x) : ∃ (b : Bool) (t : Str), (∀ n h, callI tabL fds (n + 2) 317 [x] h = .ok (.bl b) ⟨[], h⟩) ∧ (∀ n h, callI tabL fds (n + 2) 318 [x] h = .ok (.bl b) ⟨[], h⟩) ∧ biop .repr [x] = some (.v (.str t)) ∧ kindV x < 7 := by
  rcases nr with ⟨kvs, d⟩ | ⟨k7, k6, b⟩
  · obtain ⟨t, ht⟩ := repr_bd d.bdx
    exact ⟨thB kvs, t, fun n h => is_things_w d, fun n h => are_things_w d, ht, by have := d.kind; omega⟩
  · obtain ⟨t, ht⟩ := repr_bd b
    exact ⟨false, t, fun n h => is_things_no k7 k6, fun n h => are_things_no k7 k6, ht, k7⟩
theorem plain01 (ns : List Int) (hns : ns.length ≤ 63) : ∃ s2, callI tabL fds 12 40 [.scr ns] [] = .ok (.bl true) s2 := by
  have hb := size_big
  suffices h : Wp (callI tabL fds 12 40 [.scr ns] []) fun v _ => v = .bl true by
    obtain ⟨v, s, e, rfl⟩ := h
    exact ⟨s, e⟩
  refine wp_def (d := fd_law_k01) HasD.e rfl rfl ?_
  show Wp (execSs tabL (callI tabL fds 11) is_law_k01 ⟨[.val (.scr ns), .no, .no, .no, .no, .no, .no], []⟩) _
  unfold is_law_k01
  simp
  refine forK_rng [1, 2, 3, 4, 5, 6] (fun i as g => ∃ a1 a2 a3 a4 a5 a6, as = [a1, a2, a3, a4, a5, a6]) [_, _, _, _, _, _] 0 (cellsN 3 ns).toNat (cells_rng (by omega)) rfl ⟨_, _, _, _, _, _, rfl⟩ (fun i as g hi ⟨a1, a2, a3, a4, a5, a6, has⟩ K hn hr hc hbk => ?_) fun as g ⟨a1, a2, a3, a4, a5, a6, has⟩ => ?_
  · subst has
    refine ⟨_, rfl, ?_⟩
    simp
    refine feed_wp hns fun d x => ?_
    simp
    refine take_wp (isFeed_app _ _ _) (by omega) (by omega) fun y d x hy0 hy1 => ?_
    simp [set_app]
    refine thg_wp (isFeed_app _ _ _) (by omega) fun ts d x gt hts => ?_
    have it := fun n h => is_things_w (n := n) (h := h) (dvG gt)
    simp only [good_th gt] at it
    simp [set_app, it]
    refine forK_rng [4, 5, 6] (fun j as g' => (∃ d x, g' = g ++ [fc d x]) ∧ ∃ b4 b5 b6, as = [b4, b5, b6]) [_, _, _] 0 9 rfl rfl ⟨⟨d, x, rfl⟩, _, _, _, rfl⟩ (fun j as g' hj ⟨⟨d, x, hg⟩, b4, b5, b6, has⟩ K2 hn2 hr2 hc2 hbk2 => ?_) fun as g' ⟨⟨d, x, hg⟩, b4, b5, b6, has⟩ => ?_
    · subst hg has
      refine ⟨_, rfl, ?_⟩
      simp
      refine near_w (isFeed_app _ _ _) gt fun v d x nr => ?_
      obtain ⟨b, t, h1, h2, h3, k7⟩ := nr_all nr
      have hbr : ∃ u, biop .repr [.bl b] = some (.v (.str u)) := by cases b <;> exact ⟨_, rfl⟩
      obtain ⟨u, hu⟩ := hbr
      simp [set_app, h1, h2, h3, okV_of k7, deref_of k7, k7, hu]
      exact hn2 [.val (.int j), .val v, .val (.str t)] _ ⟨⟨d, x, rfl⟩, _, _, _, rfl⟩
    · subst hg has
      simp
      exact hn [_, _, _, _, _, _] _ ⟨_, _, _, _, _, _, rfl⟩
  · subst has
    simp
end Rs
open PySem PySem.W PySem.Calls PyProof.Rows
theorem PySem.Challenge.cw_rentshelf_k01_values_that_are_things_holds : PySem.Challenge.rw_rentshelf_k01_values_that_are_things.Holds :=
  law_of Rs.plain01
end
