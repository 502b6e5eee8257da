import PyProof.Rows.All
import HandS.ForMost
import KE.SortData
import KE.DataMinMax
import KE.DataEq
import KE.DataCmp
import PyProof.StrBlockL
import HandS.Text
import HandS.Style
import HandS.TupAny
import HandS.TupLe
import HandS.More
import HandS.Conv
import HandS.NoneIn
import HandS.Small
import PyProof.CallFns
import PyProof.ReprRoads
import HandS.Codes
import HandS.Defaults
import HandS.Property
import HandS.Walk
import HandS.DictComp
import HandS.Finally
import HandS.Ends
import HandS.Head2
import HandS.HeadEnd
import HandS.HeadHook1
import HandS.HeadHook2
import KE.KStateDown
import HandS.IsInst
import HandS.TupLen
import HandS.ListItems
import HandS.Strs
import HandS.TupSets
import PySem.Challenge.RW_rentshelf_k04_shelves
set_option Elab.async false
set_option linter.all false
section
set_option maxRecDepth 100000
set_option maxHeartbeats 4000000
/-! A small interpreter of plain values for the program's texts. -/
namespace Rs
open PySem L2

/-- a value: data, or a cell of the store -/
inductive Val where
  | non | bl (b : Bool) | int (i : Int) | str (x : Str)
  | lst (xs : List Val) | tup (xs : List Val) | dct (kvs : List (Key × Val))
  | ref (i : Nat) | scr (ns : List Int) | bad
  deriving Inhabited

inductive Cell where
  | lst (xs : List Val) (lk : Bool) | dct (kvs : List (Key × Val)) (lk : Bool) | ins (c : Nat) (fs : List (Nat × Val))
  deriving Inhabited
inductive Slot where
  | no | val (v : Val) | own (c : Cell)
  deriving Inhabited
structure S where
  e : List Slot
  h : List Cell
  deriving Inhabited
def okV : Val → Bool
  | .bad => false
  | _ => true
inductive R (α : Type) where
  | ok (a : α) (s : S) | exc (c : Nat) (p : Val) (s : S) | bad
/-- what an expression gives: a value, a new list or dict, a name's own list or dict -/
inductive Rv where
  | v (x : Val) | f (c : Cell) | sl (i : Nat)
  deriving Inhabited

abbrev R.bind {α β : Type} (r : R α) (k : α → S → R β) : R β := match r with
  | .ok a s => k a s
  | .exc c p s => .exc c p s
  | .bad => .bad
abbrev R.opt {α : Type} (o : Option α) (s : S) : R α := match o with
  | some a => .ok a s
  | none => .bad

/-! ### data -/
mutual
def toD : Val → Option PyData
  | .non => some .none
  | .bl b => some (.bool b)
  | .int i => some (.int i)
  | .str x => some (.str x)
  | .lst xs => match toDs xs with | some ds => some (.list ds) | none => none
  | .tup xs => match toDs xs with | some ds => some (.tuple ds) | none => none
  | .dct kvs => match toDk kvs with | some ds => some (.dict ds) | none => none
  | .ref _ => none
  | .scr _ => none
  | .bad => none
def toDs : List Val → Option (List PyData)
  | [] => some []
  | x :: xs => match toD x with
    | none => none
    | some d => match toDs xs with | some ds => some (d :: ds) | none => none
def toDk : List (Key × Val) → Option (List (PyData × PyData))
  | [] => some []
  | (k, x) :: xs => match toD x with
    | none => none
    | some d => match toDk xs with | some ds => some ((match k with | .inl i => .int i | .inr t => .str t, d) :: ds) | none => none
end
def imm : Cell → Val
  | .lst xs _ => .lst xs
  | .dct kvs _ => .dct kvs
  | _ => .bad
/-- what stands there now -/
def deref (s : S) : Rv → Val
  | .v (.ref i) => match s.h[i]? with
    | some (.lst xs _) => .lst xs
    | some (.dct kvs _) => .dct kvs
    | _ => .ref i
  | .v x => x
  | .f c => imm c
  | .sl i => match s.e[i]? with
    | some (.own c) => imm c
    | _ => .bad

/-- the cells within laid open, n deep -/
def dp : Nat → List Cell → Val → Val
  | 0, _, x => x
  | n + 1, h, .ref i => match h[i]? with
    | some (.lst xs _) => .lst (xs.map (dp n h))
    | _ => .ref i
  | n + 1, h, .lst xs => .lst (xs.map (dp n h))
  | n + 1, h, .tup xs => .tup (xs.map (dp n h))
  | _ + 1, _, x => x
/-! ### operators -/
inductive Bop where | add | sub | mul | fdiv | mod | pow
inductive Cop where | eq | ne | lt | le | gt | ge | isin | notin | is_ | isnot
def okMul (i j : Int) : Bool := (decide (-(2 ^ 64) < i) && decide (i < 2 ^ 64)) || (decide (-(2 ^ 64) < j) && decide (j < 2 ^ 64))
def rep {α : Type} (xs : List α) (k : Int) : List α := (List.replicate k.toNat xs).flatten
def binop : Bop → Val → Val → Option Rv
  | .add, .int i, .int j => some (.v (.int (i + j)))
  | .add, .str a, .str b => if a.length + b.length ≤ sizeLine then some (.v (.str (a ++ b))) else none
  | .add, .lst xs, .lst ys => if xs.length + ys.length ≤ sizeLine then some (.f (.lst (xs ++ ys) false)) else none
  | .add, .tup xs, .tup ys => if xs.length + ys.length ≤ sizeLine then some (.v (.tup (xs ++ ys))) else none
  | .sub, .int i, .int j => some (.v (.int (i - j)))
  | .mul, .int i, .int j => if okMul i j then some (.v (.int (i * j))) else none
  | .mul, .lst xs, .int k => if -(2 ^ 63) ≤ k ∧ k < 2 ^ 63 ∧ xs.length * k.toNat ≤ sizeLine then some (.f (.lst (rep xs k) false)) else none
  | .fdiv, .int i, .int j => if 0 < j ∧ j < 1073741824 then some (.v (.int (i / j))) else none
  | .mod, .int i, .int j => if 0 < j then some (.v (.int (i % j))) else none
  | .pow, .int i, .int j => if 0 ≤ j ∧ j ≤ 1000000 ∧ i.natAbs < 2 ^ 64 then some (.v (.int (i ^ j.toNat))) else none
  | _, _, _ => none

/-- what op= gives, of ints -/
def iop (op : Bop) (x y : Val) : Option Rv := match op, x, y with
  | .pow, _, _ => none
  | _, .int _, .int _ => binop op x y
  | _, _, _ => none

def keyV : Val → Option Key
  | .int i => some (.inl i)
  | .str x => some (.inr x)
  | _ => none
def vKey : Key → Val
  | .inl i => .int i
  | .inr x => .str x
def dget (kvs : List (Key × Val)) (k : Key) : Option Val := (kvs.find? fun kv => decide (kv.1 = k)).map (·.2)
def dput (kvs : List (Key × Val)) (k : Key) (v : Val) : List (Key × Val) :=
  if (kvs.any fun kv => decide (kv.1 = k)) = true then kvs.map fun kv => if kv.1 = k then (kv.1, v) else kv else kvs ++ [(k, v)]
def ddrop (kvs : List (Key × Val)) (k : Key) : List (Key × Val) := kvs.filter fun kv => decide (kv.1 ≠ k)
def dmerge (kvs more : List (Key × Val)) : List (Key × Val) := more.foldl (fun acc kv => dput acc kv.1 kv.2) kvs

def okD (d : PyData) : Bool := d.plain && decide (d.depth ≤ 60)
def notNone : PyData → Bool
  | .none => false
  | _ => true
def veq (a b : Val) : Option Bool := match toD a, toD b with
  | some d, some e => if okD d && okD e then some (PyData.eqv d e) else none
  | _, _ => none
/-- two dicts' values, key by key -/
def deqK (kb : List (Key × Val)) : List (Key × Val) → Option Bool
  | [] => some true
  | (k, v) :: r => match dget kb k with
    | none => some false
    | some y => match veq v y, deqK kb r with
      | some e, some b => some (e && b)
      | _, _ => none
def veqX (a b : Val) : Option Bool := match a, b with
  | .dct ka, .dct kb => if ka.length = kb.length then deqK kb ka else some false
  | a, b => veq a b
def vlt (a b : Val) : Option Bool := match a, b with
  | .int i, .int j => some (decide (i < j))
  | a, b => match toD a, toD b with
    | some d, some e => if PySem.W.alike d e && (okD d && notNone d) then some (PySem.W.dataLt d e) else none
    | _, _ => none

def gtOf (o : Option Bool) : Option Bool := o.map (!·)
def signs (x : Str) : List Val := x.cps.toList.map fun c => .str ⟨#[c]⟩
def vin (x y : Val) : Option Bool := match y with
  | .lst ys => match toD x, toDs ys with
    | some d, some ds => if okD d && (PyData.plainAll ds && decide (PyData.depthAll ds ≤ 60)) then some (ds.any fun z => PyData.eqv z d) else none
    | _, _ => none
  | .tup ys => match toD x, toDs ys with
    | some d, some ds => if okD d && (PyData.plainAll ds && decide (PyData.depthAll ds ≤ 60)) then some (ds.any fun z => PyData.eqv z d) else none
    | _, _ => none
  | .dct kvs => match keyV x with
    | some k => some (dget kvs k).isSome
    | none => none
  | .str y => match x with
    | .str x => some (!(Builtin.Str.occurrences y x 0 y.length 1).isEmpty)
    | _ => none
  | _ => none
def vis (x y : Val) : Option Bool := match y with
  | .non => match x with
    | .non => some true
    | .bad => none
    | _ => some false
  | .bl b => match x with
    | .bl a => some (a == b)
    | _ => none
  | _ => none
def cmpop : Cop → Val → Val → Option Bool
  | .eq, a, b => veqX a b
  | .ne, a, b => (veqX a b).map (!·)
  | .lt, a, b => vlt a b
  | .gt, a, b => vlt b a
  | .le, a, b => (vlt b a).map (!·)
  | .ge, a, b => (vlt a b).map (!·)
  | .isin, a, b => vin a b
  | .notin, a, b => (vin a b).map (!·)
  | .is_, a, b => vis a b
  | .isnot, a, b => (vis a b).map (!·)

/-! ### items, slices -/
def cut {α : Type} (xs : List α) (lo hi : Option Int) : List α := (xs.drop (HT.sIx xs.length 0 lo)).take (HT.sIx xs.length xs.length hi - HT.sIx xs.length 0 lo)
def vsub (a b : Val) : Option Val := match a, b with
  | .lst xs, .int i => atI xs i
  | .tup xs, .int i => atI xs i
  | .str x, .int i => if x.length ≤ sizeLine then (atI x.cps.toList i).map fun c => .str ⟨#[c]⟩ else none
  | .dct kvs, k => match keyV k with
    | some k => dget kvs k
    | none => none
  | _, _ => none
def partV : List Val → Option (Option Int)
  | [] => some none
  | [.int i] => some (some i)
  | _ => none
def vslice (a : Val) (lo hi : Option Int) : Option Rv := match a with
  | .lst xs => some (.f (.lst (cut xs lo hi) false))
  | .tup xs => some (.v (.tup (cut xs lo hi)))
  | .str x => if x.length ≤ sizeLine then some (.v (.str (cutS x lo hi))) else none
  | .scr ns => some (.f (.lst ((cut ns lo hi).map .int) false))
  | _ => none
def vstep (a : Val) (k : Int) : Option Rv := match a with
  | .lst xs => if k = 1 then some (.f (.lst xs false)) else if k = -1 then some (.f (.lst xs.reverse false)) else none
  | _ => none

/-! ### built-in functions -/
inductive Bi where
  | len | abs | min | max | sum | sorted | list | tuple | dict | int | bool | str | repr | all | any | lenset | lensetL | isInt | isBool | isStr | isTup | isLst | isDct | litems | sitems | sortk | lzip
def intsOf : List Val → Option (List Int)
  | [] => some []
  | .int i :: xs => (intsOf xs).map (i :: ·)
  | _ => none
def blsOf : List Val → Option (List Bool)
  | [] => some []
  | .bl i :: xs => (blsOf xs).map (i :: ·)
  | _ => none
/-- list of what is walked -/
def itemsV : Val → Option (List Val)
  | .lst xs => some xs
  | .tup xs => some xs
  | .str x => some (signs x)
  | .dct kvs => some (kvs.map fun kv => vKey kv.1)
  | _ => none
def allAlike (ds : List PyData) : Bool := ds.all fun d => ds.all fun e => PySem.W.alike d e
def sortable (ds : List PyData) : Bool := (ds.all fun d => match d with | .tuple (_ :: _) => true | _ => false) || ds.all fun d => match d with | .none => false | .tuple _ => false | _ => true
def dD (v : Val) : PyData := (toD v).getD .none
def insB {α : Type} (le : α → α → Bool) (a : α) : List α → List α
  | [] => [a]
  | b :: r => if le a b then a :: b :: r else b :: insB le a r
/-- sorted, stable; it runs in the kernel -/
def isort {α : Type} (le : α → α → Bool) : List α → List α
  | [] => []
  | a :: r => insB le a (isort le r)
theorem insB_at {α : Type} {le : α → α → Bool} {a : α} : ∀ (l1 l2 : List α), (∀ b ∈ l1, (!le a b) = true) → (∀ b ∈ l2, le a b = true) → insB le a (l1 ++ l2) = l1 ++ a :: l2
  | [], [], _, _ => rfl
  | [], b :: r, _, h => by
    show (if le a b then a :: b :: r else b :: insB le a r) = _
    rw [if_pos (h b (by simp))]
    rfl
  | c :: l1, l2, h1, h2 => by
    have hc := h1 c (by simp)
    show (if le a c then a :: c :: (l1 ++ l2) else c :: insB le a (l1 ++ l2)) = _
    rw [if_neg (by simpa using hc), insB_at l1 l2 (fun b hb => h1 b (by simp [hb])) h2]
    rfl
theorem isort_eq {α : Type} {le : α → α → Bool} (tr : ∀ a b c : α, le a b = true → le b c = true → le a c = true) (to : ∀ a b : α, (le a b || le b a) = true) : ∀ xs : List α, isort le xs = xs.mergeSort le
  | [] => by simp [isort]
  | a :: r => by
    obtain ⟨l1, l2, h1, h2, h3⟩ := List.mergeSort_cons tr to a r
    have hp := List.pairwise_mergeSort (le := le) tr to (a :: r)
    rw [h1, List.pairwise_append, List.pairwise_cons] at hp
    show insB le a (isort le r) = _
    rw [isort_eq tr to r, h2, h1]
    exact insB_at l1 l2 h3 hp.2.1.1
theorem isort_data {β : Type} (k : β → PyData) (xs : List β) : isort (PySem.W.dataLe false k) xs = xs.mergeSort (PySem.W.dataLe false k) := by
  have h : PySem.W.TotalLe (PySem.W.dataLe false k) := PySem.W.sortLe_total (PyProof.Rows.listOrd PyProof.Rows.itemOrd) false fun b => PySem.W.keyToks (k b)
  exact isort_eq h.trans (fun a b => by rw [Bool.or_eq_true]; exact h.total a b) xs
def vsort (xs : List Val) : Option (List Val) := match toDs xs with
  | some ds => if allAlike ds && (sortable ds && (ds.all okD && decide (xs.length ≤ sizeLine))) then some (isort (PySem.W.dataLe false dD) xs) else none
  | none => none
def pairsV : List Val → Option (List (Key × Val))
  | [] => some []
  | .tup [k, v] :: r => match keyV k, pairsV r with
    | some k, some r => some ((k, v) :: r)
    | _, _ => none
  | _ => none
def best (xs : List Val) (bt : Val → Val → Bool) : Option Val := match xs with
  | [] => none
  | x :: r => some (r.foldl (fun b y => if bt y b then y else b) x)
def vmin (xs : List Val) : Option Val := match intsOf xs with
  | some (n :: ns) => some (.int (ns.foldl min n))
  | _ => match toDs xs with
    | some ds => if allAlike ds && (ds.all okD && ds.all notNone) then best xs fun y b => PySem.W.dataLt (dD y) (dD b) else none
    | none => none
def vmax (xs : List Val) : Option Val := match intsOf xs with
  | some (n :: ns) => some (.int (ns.foldl max n))
  | _ => none
def showOk (d : PyData) : Bool := d.showable && (decide (d.depth ≤ 60) && decide (d.shown.length ≤ sizeLine))
def kindV : Val → Nat
  | .non => 0 | .bl _ => 1 | .int _ => 2 | .str _ => 3 | .lst _ => 4 | .tup _ => 5 | .dct _ => 6 | .scr _ => 4 | .ref _ => 7 | .bad => 8
def kInt (x : Val) : Option Bool := if 7 ≤ kindV x then none else some (kindV x == 1 || kindV x == 2)
def kBool (x : Val) : Option Bool := if 7 ≤ kindV x then none else some (kindV x == 1)
def kStr (x : Val) : Option Bool := if 7 ≤ kindV x then none else some (kindV x == 3)
def kLst (x : Val) : Option Bool := if 7 ≤ kindV x then none else some (kindV x == 4)
def kTup (x : Val) : Option Bool := if 7 ≤ kindV x then none else some (kindV x == 5)
def kDct (x : Val) : Option Bool := if 7 ≤ kindV x then none else some (kindV x == 6)
/-- texts alone; tuples of ints alone; each thing once -/
def strsV : List Val → Option (List Str)
  | [] => some []
  | .str x :: r => (strsV r).map (x :: ·)
  | _ => none
def intLs : List Val → Option (List (List Int))
  | [] => some []
  | .tup xs :: r => match intsOf xs, intLs r with
    | some a, some b => some (a :: b)
    | _, _ => none
  | _ => none
def dd {α : Type} [DecidableEq α] (xs : List α) : List α := xs.foldl (fun acc k => if k ∈ acc then acc else acc ++ [k]) []
/-- the ints at the first places -/
def keysI : List Val → Option (List Int)
  | [] => some []
  | .tup (.int i :: _) :: r => (keysI r).map (i :: ·)
  | _ => none
def zipV : List Val → List Val → List Val
  | x :: xs, y :: ys => .tup [x, y] :: zipV xs ys
  | _, _ => []
def boxed : Val → Bool
  | .lst _ => true
  | .tup _ => true
  | .dct _ => true
  | _ => false
def biop : Bi → List Val → Option Rv
  | .len, [.lst xs] => some (.v (.int xs.length))
  | .len, [.tup xs] => some (.v (.int xs.length))
  | .len, [.dct xs] => some (.v (.int xs.length))
  | .len, [.scr xs] => some (.v (.int xs.length))
  | .len, [.str x] => if x.length ≤ sizeLine then some (.v (.int x.length)) else none
  | .abs, [.int i] => some (.v (.int (if i < 0 then -i else i)))
  | .min, [.int i, .int j] => some (.v (.int (if j < i then j else i)))
  | .max, [.int i, .int j] => some (.v (.int (if j > i then j else i)))
  | .min, [.lst xs] => (vmin xs).map .v
  | .max, [.lst xs] => (vmax xs).map .v
  | .sum, [.lst xs] => (intsOf xs).map fun ns => .v (.int ns.sum)
  | .sorted, [.lst xs] => (vsort xs).map fun ys => .f (.lst ys false)
  | .sorted, [.dct kvs] => if decide (kvs.length < 64) && kvs.all (fun kv => kv.1.isRight) then (vsort (kvs.map fun kv => vKey kv.1)).map fun ys => .f (.lst ys false) else none
  | .list, [x] => match x with
    | .str _ => none
    | x => (itemsV x).map fun ys => .f (.lst ys false)
  | .tuple, [.lst xs] => some (.v (.tup xs))
  | .tuple, [.tup xs] => some (.v (.tup xs))
  | .dict, [.dct kvs] => some (.f (.dct kvs false))
  | .dict, [.lst xs] => (pairsV xs).map fun kvs => .f (.dct (dmerge [] kvs) false)
  | .int, [.int i] => some (.v (.int i))
  | .int, [.bl b] => some (.v (.int (if b then 1 else 0)))
  | .bool, [.int i] => some (.v (.bl (i != 0)))
  | .str, [.int i] => if i.natAbs.log2 < 1920 then some (.v (.str (toString i))) else none
  | .repr, [x] => match toD x with
    | some d => if showOk d then some (.v (.str d.shown)) else none
    | none => none
  | .all, [.lst xs] => (blsOf xs).map fun bs => .v (.bl (bs.all id))
  | .any, [.lst xs] => (blsOf xs).map fun bs => .v (.bl (bs.any id))
  | .litems, [.dct kvs] => some (.f (.lst (kvs.map fun kv => .tup [vKey kv.1, kv.2]) false))
  | .lenset, [.tup xs] => match strsV xs with
    | some ys => if ys.length < 64 then some (.v (.int (dd ys).length)) else none
    | none => none
  | .lensetL, [.lst xs] => match intLs xs with
    | some ys => if ys.length < 64 then some (.v (.int (dd ys).length)) else none
    | none => none
  | .sitems, [.dct kvs] => (vsort (kvs.map fun kv => .tup [vKey kv.1, kv.2])).map fun ys => .f (.lst ys false)
  | .sortk, [.lst xs] => match keysI xs with
    | some ks => if xs.length ≤ sizeLine then some (.f (.lst ((isort (fun a b => decide (a.1 ≤ b.1)) (ks.zip xs)).map (·.2)) false)) else none
    | none => none
  | .lzip, [.lst xs, .lst ys] => some (.f (.lst (zipV xs ys) false))
  | .isInt, [x] => (kInt x).map fun b => .v (.bl b)
  | .isBool, [x] => (kBool x).map fun b => .v (.bl b)
  | .isStr, [x] => (kStr x).map fun b => .v (.bl b)
  | .isTup, [x] => (kTup x).map fun b => .v (.bl b)
  | .isLst, [x] => (kLst x).map fun b => .v (.bl b)
  | .isDct, [x] => (kDct x).map fun b => .v (.bl b)
  | _, _ => none

/-! ### methods of built-in types -/
inductive Mt where | append | pop | insert | dget | dpop | dclear | upd | join | split | upper
/-- what the receiver must be -/
def mkind : Mt → Val → Bool
  | .append, .lst _ => true
  | .pop, .lst _ => true
  | .insert, .lst _ => true
  | .dget, .dct _ => true
  | .dpop, .dct _ => true
  | .dclear, .dct _ => true
  | .upd, .dct _ => true
  | .join, .str _ => true
  | .split, .str _ => true
  | .upper, .str _ => true
  | _, _ => false
def mtop : Mt → Val → List Val → Option (Rv × Option Cell)
  | .append, .lst xs, [y] => if xs.length < sizeLine then some (.v .non, some (.lst (xs ++ [y]) false)) else none
  | .pop, .lst xs, [.int i] => if -(2 ^ 63) ≤ i ∧ i < 2 ^ 63 then match ixN xs.length i with
    | some k => match xs[k]? with
      | some y => some (.v y, some (.lst (xs.eraseIdx k) false))
      | none => none
    | none => none
    else none
  | .insert, .lst xs, [.int i, y] => if decide (xs.length < sizeLine) && (decide (0 ≤ i) && decide (i < 2 ^ 63)) then some (.v .non, some (.lst (xs.take i.toNat ++ [y] ++ xs.drop i.toNat) false)) else none
  | .join, .str a, [.lst xs] => match strsV xs with
    | some ys => if (ys.map (·.length)).sum + ys.length * a.length ≤ 16777216 then some (.v (.str (Txt.join a ys)), none) else none
    | none => none
  | .split, .str a, [.str b] => if decide (b.length ≠ 0) && decide (a.length + 2 ≤ sizeLine) then some (.f (.lst ((Txt.split a b).map .str) false), none) else none
  | .upper, .str a, [] => if a.length ≤ 5592405 then some (.v (.str (Txt.upper a)), none) else none
  | .upd, .dct xs, [.dct ys] => if xs.length + ys.length ≤ sizeLine then some (.v .non, some (.dct (dmerge xs ys) false)) else none
  | .dclear, .dct xs, [] => some (.v .non, some (.dct [] false))
  | .dpop, .dct kvs, [k, d] => match keyV k with
    | some k => match dget kvs k with
      | some v => some (.v v, some (.dct (ddrop kvs k) false))
      | none => some (.v d, some (.dct kvs false))
    | none => none
  | .dget, .dct kvs, [k, d] => match keyV k with
    | some k => some (.v ((dget kvs k).getD d), none)
    | none => none
  | _, _, _ => none

/-! ### the texts -/
inductive Pat where | nm (i : Nat) | tp (ps : List Pat)
  deriving Inhabited
inductive Sk where | it | rng | enum | zip | items | keys
inductive IE where
  | var (i : Nat) | frz (i : Nat) | mv (i : Nat) | cst (v : Val) | glb (x : Nat) (v : Val)
  | bin (op : Bop) (a b : IE) | deq (ne : Bool) (a b : IE) | neg (a : IE)
  | cmp (op : Cop) (a b : IE) | chn (o1 o2 : Cop) (a b c : IE)
  | and (a b : IE) | or (a b : IE) | not (a : IE) | ite (c a b : IE)
  | sub (a b : IE) | slc (a : IE) (lo hi : List IE) | sls (a st : IE)
  | lst (es : List IE) | tup (es : List IE) | dsp (es : List IE)
  | lc (elt : IE) (p : Pat) (k : Sk) (src conds : List IE) (vs : List Nat)
  | lck (elt : IE) (p : Pat) (its : Bool) (i : Nat) (conds : List IE) (vs : List Nat)
  | dc (key elt : IE) (p : Pat) (k : Sk) (src conds : List IE) (vs : List Nat)
  | bi (f : Bi) (es : List IE) | mt (m : Mt) (o : IE) (es : List IE)
  | fn (f : Nat) (es : List IE) (pm : List (Nat ⊕ Val)) | me (cs : List Nat) (m : Nat) (o : IE) (es : List IE) (pm : List (Nat ⊕ Val)) | new (c : Nat) (es : List IE) (pm : List (Nat ⊕ Val))
  | att (o : IE) (f : Nat) | prp (o : IE) (f : Nat) | inown (ng : Bool) (m : Nat) (x o : IE) | lenown (m : Nat) (o : IE)
  | heap (a : IE)
  deriving Inhabited
inductive Tgt where | nm (i : Nat) | tp (ts : List Tgt) | sub (o k : IE) | att (o : IE) (f : Nat)
  deriving Inhabited
inductive IS where
  | ex (e : IE) | asg (t : Tgt) (e : IE) | own (i : Nat) (e : IE) | par (i j : Nat) (oi oj : Bool) (a b : IE) | par3 (i j l : Nat) (oi oj ol : Bool) (a b c : IE) | aug (i : Nat) (op : Bop) (e : IE) | augS (o k : IE) (op : Bop) (e : IE) | augA (o : IE) (f : Nat) (op : Bop) (e : IE)
  | del (o k : IE) | ite (c : IE) (a b : List IS) | whl (c : IE) (b : List IS) | for_ (p : Pat) (k : Sk) (src : List IE) (b : List IS) | ret (e : IE) | retN | pas | bk | ct | nev
  deriving Inhabited
inductive Fl where | nx | rt (v : Val) | bk | ct
/-- what the walk asks of the classes: method, __init__, property of a class; a class's fields -/
structure Tab where
  mth : Nat → Nat → Option Nat
  ini : Nat → Option Nat
  prp : Nat → Nat → Option Nat
  fld : Nat → Nat → Bool
  fuel : Nat
abbrev Call := Nat → List Val → List Cell → R Val

def freeze : Rv → Option Val
  | .v x => some x
  | .f c => some (imm c)
  | .sl _ => none
abbrev R.val (r : R Rv) : R Val := r.bind fun x s => R.opt (freeze x) s
def put1 (own : Bool) (x : Rv) : Option Slot := if own then match x with
    | .f c => some (.own c)
    | _ => none
  else (freeze x).map .val
/-- an operand: never a new list -/
def opnd : Rv → Rv
  | .f c => .v (imm c)
  | r => r
def unlocked : Cell → Bool
  | .lst _ lk => !lk
  | .dct _ lk => !lk
  | _ => false
def slotOf (s : S) (i : Nat) : Slot := s.e.getD i .no
def rdVar (s : S) (i : Nat) : R Rv := match slotOf s i with
  | .val v => .ok (.v v) s
  | .own _ => .ok (.sl i) s
  | .no => .bad
def frzVar (s : S) (i : Nat) : R Rv := match slotOf s i with
  | .val v => .ok (.v v) s
  | .own c => if unlocked c then .ok (.v (imm c)) { s with e := s.e.set i (.val (imm c)) } else .bad
  | .no => .bad
def toHeap (c : Cell) (s : S) : R Rv := .ok (.v (.ref s.h.length)) { s with h := s.h ++ [c] }
def mvVar (s : S) (i : Nat) : R Rv := match slotOf s i with
  | .own c => if unlocked c then .ok (.v (.ref s.h.length)) { e := s.e.set i (.val (.ref s.h.length)), h := s.h ++ [c] } else .bad
  | _ => .bad
/-- the content at a place is changed -/
def setLoc (s : S) (o : Rv) (c : Cell) : Option S := match o with
  | .sl i => match slotOf s i with
    | .own d => if unlocked d then some { s with e := s.e.set i (.own c) } else none
    | _ => none
  | .v (.ref n) => match s.h[n]? with
    | some d => if unlocked d then some { s with h := s.h.set n c } else none
    | none => none
  | _ => none
def putLoc (s : S) (o : Rv) : Option Cell → Option S
  | none => some s
  | some c => setLoc s o c
def lockC (b : Bool) : Cell → Cell
  | .lst xs _ => .lst xs b
  | .dct kvs _ => .dct kvs b
  | c => c
/-- what is walked is locked -/
def lockLoc (s : S) (o : Rv) : S := match o with
  | .sl i => match slotOf s i with
    | .own d => { s with e := s.e.set i (.own (lockC true d)) }
    | _ => s
  | .v (.ref n) => match s.h[n]? with
    | some d => { s with h := s.h.set n (lockC true d) }
    | none => s
  | _ => s
def unlockLoc (s0 s : S) (o : Rv) : S := match o with
  | .sl i => match s0.e[i]?, s.e[i]? with
    | some (.own c), some (.own d) => if unlocked c then { s with e := s.e.set i (.own (lockC false d)) } else s
    | _, _ => s
  | .v (.ref n) => match s0.h[n]?, s.h[n]? with
    | some c, some d => if unlocked c then { s with h := s.h.set n (lockC false d) } else s
    | _, _ => s
  | _ => s
mutual
def patSet : Pat → Val → List Slot → Option (List Slot)
  | .nm i, v, e => some (e.set i (.val v))
  | .tp ps, v, e => match v with
    | .tup vs => patSets ps vs e
    | _ => none
def patSets : List Pat → List Val → List Slot → Option (List Slot)
  | [], [], e => some e
  | p :: ps, v :: vs, e => match patSet p v e with
    | some e => patSets ps vs e
    | none => none
  | _, _, _ => none
end
def wipeE (e : List Slot) : List Nat → List Slot
  | [] => e
  | v :: vs => (wipeE e vs).set v .no
def restE (e0 e1 : List Slot) : List Nat → List Slot
  | [] => e1
  | v :: vs => (restE e0 e1 vs).set v (match e0.getD v .no with | .val x => .val x | _ => .no)
def rangeV (lo : Int) (n : Nat) : List Val := (List.range n).map fun (i : Nat) => .int (lo + (i : Int))
def enumV : Nat → List Val → List Val
  | _, [] => []
  | i, x :: xs => .tup [.int (i : Nat), x] :: enumV (i + 1) xs
def smallI (i : Int) : Bool := decide (-(2 ^ 62) ≤ i) && decide (i < 2 ^ 62)
def srcItems : Sk → List Val → Option (List Val)
  | .it, [.lst xs] => some xs
  | .it, [.tup xs] => some xs
  | .it, [.str x] => some (signs x)
  | .keys, [.dct kvs] => some (kvs.map fun kv => vKey kv.1)
  | .rng, [.int j] => if smallI j then some (rangeV 0 j.toNat) else none
  | .rng, [.int i, .int j] => if smallI i && smallI j then some (rangeV i (j - i).toNat) else none
  | .enum, [.lst xs] => some (enumV 0 xs)
  | .zip, [.lst xs, .lst ys] => some (zipV xs ys)
  | .items, [.dct kvs] => some (kvs.map fun kv => .tup [vKey kv.1, kv.2])
  | _, _ => none
def keysV (its : Bool) (kvs : List (Key × Val)) : List Val := if its then kvs.map fun kv => .tup [vKey kv.1, kv.2] else kvs.map fun kv => vKey kv.1
/-- the places that a walk locks -/
def lockAll (s : S) (os : List Rv) : S := os.foldl lockLoc s
def unlockAll (s0 s : S) (os : List Rv) : S := os.foldl (unlockLoc s0) s
def noSl (os : List Rv) : Bool := os.all fun
  | .sl _ => false
  | _ => true

def forL (st : Val → List Slot → Option (List Slot)) (body : S → R Fl) : List Val → S → R Fl
  | [], s => .ok .nx s
  | x :: xs, s => match st x s.e with
    | none => .bad
    | some e => match body { s with e := e } with
      | .ok .nx s2 => forL st body xs s2
      | .ok .ct s2 => forL st body xs s2
      | .ok .bk s2 => .ok .nx s2
      | .ok (.rt v) s2 => .ok (.rt v) s2
      | .exc c p s2 => .exc c p s2
      | .bad => .bad
def compL {α : Type} (st : Val → List Slot → Option (List Slot)) (tst : S → R Bool) (elt : S → R α) (vs : List Nat) (put : List α → α → Option (List α)) : List Val → S → List α → R (List α)
  | [], s, acc => .ok acc s
  | x :: xs, s, acc => match st x s.e with
    | none => .bad
    | some e => (tst { s with e := e }).bind fun b s1 => match b with
      | false => compL st tst elt vs put xs { s1 with e := wipeE s1.e vs } acc
      | true => (elt s1).bind fun y s2 => match put acc y with
        | some acc => compL st tst elt vs put xs { s2 with e := wipeE s2.e vs } acc
        | none => .bad
def whileL (tst : S → R Bool) (body : S → R Fl) : Nat → S → R Fl
  | 0, _ => .bad
  | n + 1, s => (tst s).bind fun b s1 => match b with
    | false => .ok .nx s1
    | true => match body s1 with
      | .ok .nx s2 => whileL tst body n s2
      | .ok .ct s2 => whileL tst body n s2
      | .ok .bk s2 => .ok .nx s2
      | .ok (.rt v) s2 => .ok (.rt v) s2
      | .exc c p s2 => .exc c p s2
      | .bad => .bad
def permV (vs : List Val) : List (Nat ⊕ Val) → List Val
  | [] => vs
  | pm => pm.map fun
    | .inl k => vs.getD k .non
    | .inr d => d
/-- back from a call: this frame's names are as they were -/
abbrev R.back (r : R Val) (e : List Slot) : R Rv := match r with
  | .ok v s => .ok (.v v) { s with e := e }
  | .exc c p s => .exc c p { s with e := e }
  | .bad => .bad
def kvsOf : List Val → Option (List (Key × Val))
  | [] => some []
  | k :: v :: r => match keyV k, kvsOf r with
    | some k, some r => some ((k, v) :: r)
    | _, _ => none
  | _ => none
def asB : Val → Option Bool
  | .bl b => some b
  | _ => none
def putL (acc : List Val) (y : Val) : Option (List Val) := if acc.length < sizeLine then some (acc ++ [y]) else none
def putD (acc : List (Key × Val)) (y : Key × Val) : Option (List (Key × Val)) := if acc.length < sizeLine then some (dput acc y.1 y.2) else none
def insAt (s : S) (v : Val) : Option (Nat × Nat × List (Nat × Val)) := match v with
  | .ref n => match s.h[n]? with
    | some (.ins c fs) => some (n, c, fs)
    | _ => none
  | _ => none
def putFs (f : Nat) (v : Val) : List (Nat × Val) → List (Nat × Val)
  | [] => [(f, v)]
  | (g, x) :: r => if g = f then (f, v) :: r else (g, x) :: putFs f v r

section
variable (T : Tab) (C : Call)
mutual
def evalE : IE → S → R Rv
  | .var i, s => rdVar s i
  | .frz i, s => frzVar s i
  | .mv i, s => mvVar s i
  | .cst v, s => .ok (.v v) s
  | .glb _ v, s => .ok (.v v) s
  | .bin op a b, s => (evalE a s).bind fun x s => (evalE b s).bind fun y s => R.opt (binop op (deref s (opnd x)) (deref s (opnd y))) s
  | .neg a, s => (evalE a s).bind fun x s => match deref s x with
    | .int i => .ok (.v (.int (-i))) s
    | _ => .bad
  | .cmp op a b, s => (evalE a s).bind fun x s => (evalE b s).bind fun y s => R.opt ((cmpop op (deref s (opnd x)) (deref s (opnd y))).map fun b => .v (.bl b)) s
  | .deq ne a b, s => (evalE a s).bind fun x s => (evalE b s).bind fun y s => R.opt ((veq (dp 3 s.h (deref s (opnd x))) (dp 3 s.h (deref s (opnd y)))).map fun k => .v (.bl (k != ne))) s
  | .chn o1 o2 a b c, s => (evalE a s).bind fun x s => (evalE b s).bind fun y s => (R.opt (cmpop o1 (deref s (opnd x)) (deref s (opnd y))) s).bind fun k s => match k with
    | true => (evalE c s).bind fun z s => R.opt ((cmpop o2 (deref s (opnd y)) (deref s (opnd z))).map fun b => .v (.bl b)) s
    | false => .ok (.v (.bl false)) s
  | .and a b, s => (evalE a s).val.bind fun x s => (R.opt (asB x) s).bind fun k s => match k with
    | true => evalE b s
    | false => .ok (.v (.bl false)) s
  | .or a b, s => (evalE a s).val.bind fun x s => (R.opt (asB x) s).bind fun k s => match k with
    | true => .ok (.v (.bl true)) s
    | false => evalE b s
  | .not a, s => (evalE a s).val.bind fun x s => (R.opt (asB x) s).bind fun k s => .ok (.v (.bl (!k))) s
  | .ite c a b, s => (evalE c s).val.bind fun x s => (R.opt (asB x) s).bind fun k s => match k with
    | true => (evalE a s).val.bind fun x s => .ok (.v x) s
    | false => (evalE b s).val.bind fun x s => .ok (.v x) s
  | .sub a b, s => (evalE a s).bind fun x s => (evalE b s).val.bind fun y s => R.opt ((vsub (deref s (opnd x)) y).map .v) s
  | .slc a lo hi, s => (evalE a s).bind fun x s => (evalVs lo s).bind fun l s => (evalVs hi s).bind fun h s => match partV l, partV h with
    | some l, some h => R.opt (vslice (deref s (opnd x)) l h) s
    | _, _ => .bad
  | .sls a st, s => (evalE a s).bind fun x s => (evalE st s).val.bind fun k s => match k with
    | .int k => R.opt (vstep (deref s (opnd x)) k) s
    | _ => .bad
  | .lst es, s => (evalVs es s).bind fun vs s => .ok (.f (.lst vs false)) s
  | .tup es, s => (evalVs es s).bind fun vs s => .ok (.v (.tup vs)) s
  | .dsp es, s => (evalVs es s).bind fun vs s => match kvsOf vs with
    | some kvs => .ok (.f (.dct (dmerge [] kvs) false)) s
    | none => .bad
  | .lc elt p k src conds vs, s => (evalOs src s).bind fun os s => match srcItems k (os.map (deref s)) with
    | none => .bad
    | some items => (compL (patSet p) (evalTs conds) (fun s => (evalE elt s).val) vs putL items { lockAll s os with e := wipeE (lockAll s os).e vs } []).bind fun acc s2 => .ok (.f (.lst acc false)) (unlockAll s { s2 with e := restE s.e s2.e vs } os)
  | .dc key elt p k src conds vs, s => (evalOs src s).bind fun os s => match srcItems k (os.map (deref s)) with
    | none => .bad
    | some items => (compL (patSet p) (evalTs conds) (fun s => (evalE key s).val.bind fun kv s => (evalE elt s).val.bind fun x s => match keyV kv with | some k => .ok (k, x) s | none => .bad) vs putD items { lockAll s os with e := wipeE (lockAll s os).e vs } []).bind fun acc s2 => .ok (.f (.dct acc false)) (unlockAll s { s2 with e := restE s.e s2.e vs } os)
  | .lck elt p its i conds vs, s => match slotOf s i with
    | .val (.dct kvs) => (compL (patSet p) (evalTs conds) (fun s => (evalE elt s).val) vs putL (keysV its kvs) { s with e := wipeE s.e vs } []).bind fun acc s2 => .ok (.f (.lst acc false)) { s2 with e := restE s.e s2.e vs }
    | .own (.dct kvs false) => (compL (patSet p) (evalTs conds) (fun s => (evalE elt s).val) vs putL (keysV its kvs) { s with e := wipeE (s.e.set i (.own (.dct kvs true))) vs } []).bind fun acc s2 => match slotOf { s2 with e := restE s.e s2.e vs } i with
      | .own (.dct kvs2 true) => .ok (.f (.lst acc false)) { s2 with e := (restE s.e s2.e vs).set i (.own (.dct kvs2 false)) }
      | _ => .bad
    | _ => .bad
  | .bi f es, s => (evalOs es s).bind fun os s => if (os.map (deref s)).all okV then R.opt (biop f (os.map (deref s))) s else .bad
  | .mt m o es, s => (evalE o s).bind fun x s => match mkind m (deref s (opnd x)) with
    | false => .bad
    | true => (evalVs es s).bind fun vs s => match mtop m (deref s (opnd x)) vs with
      | none => .bad
      | some (r, oc) => match putLoc s (opnd x) oc with
        | some s => .ok r s
        | none => .bad
  | .fn f es pm, s => (evalVs es s).bind fun vs s => (C f (permV vs pm) s.h).back s.e
  | .me cs m o es pm, s => (evalE o s).val.bind fun x s => match insAt s x with
    | none => .bad
    | some (_, c, fs) => match decide (c ∈ cs), fs.lookup m, T.mth c m with
      | true, none, some f => (evalVs es s).bind fun vs s => (C f (x :: permV vs pm) s.h).back s.e
      | _, _, _ => .bad
  | .new c es pm, s => (evalVs es s).bind fun vs s => match T.ini c with
    | none => .bad
    | some f => match C f (.ref s.h.length :: permV vs pm) (s.h ++ [.ins c []]) with
      | .ok .non s2 => .ok (.v (.ref s.h.length)) { s2 with e := s.e }
      | .exc c p s2 => .exc c p { s2 with e := s.e }
      | _ => .bad
  | .att o f, s => (evalE o s).val.bind fun x s => match insAt s x with
    | none => .bad
    | some (_, c, fs) => if T.fld c f then R.opt ((fs.lookup f).map .v) s else .bad
  | .prp o p, s => (evalE o s).val.bind fun x s => match insAt s x with
    | none => .bad
    | some (_, c, fs) => match T.prp c p with
      | some f => (C f [x] s.h).back s.e
      | none => .bad
  | .inown ng m a o, s => (evalE a s).val.bind fun x s => (evalE o s).val.bind fun y s => match insAt s y with
    | none => .bad
    | some (_, c, fs) => match T.mth c m with
      | none => .bad
      | some f => match (C f [y, x] s.h).back s.e with
        | .ok (.v (.bl b)) s2 => .ok (.v (.bl (b != ng))) s2
        | .exc c p s2 => .exc c p s2
        | _ => .bad
  | .lenown m o, s => (evalE o s).val.bind fun y s => match insAt s y with
    | none => .bad
    | some (_, c, fs) => match T.mth c m with
      | none => .bad
      | some f => match (C f [y] s.h).back s.e with
        | .ok (.v (.int i)) s2 => if decide (0 ≤ i) && decide (i < 2 ^ 63) then .ok (.v (.int i)) s2 else .bad
        | .exc c p s2 => .exc c p s2
        | _ => .bad
  | .heap a, s => (evalE a s).bind fun x s => match x with
    | .f c => toHeap c s
    | _ => .bad
def evalVs : List IE → S → R (List Val)
  | [], s => .ok [] s
  | e :: es, s => (evalE e s).val.bind fun v s => (evalVs es s).bind fun vs s => .ok (v :: vs) s
def evalOs : List IE → S → R (List Rv)
  | [], s => .ok [] s
  | e :: es, s => (evalE e s).bind fun v s => (evalOs es s).bind fun vs s => .ok (opnd v :: vs) s
def evalTs : List IE → S → R Bool
  | [], s => .ok true s
  | e :: es, s => (evalE e s).val.bind fun x s => (R.opt (asB x) s).bind fun k s => match k with
    | true => evalTs es s
    | false => .ok false s
end
def evalB (e : IE) (s : S) : R Bool := (evalE T C e s).val.bind fun x s => R.opt (asB x) s
mutual
/-- a value is stored -/
def tgtSet : Tgt → Val → S → R Unit
  | .nm i, v, s => .ok () { s with e := s.e.set i (.val v) }
  | .tp ts, v, s => match v with
    | .tup vs => tgtSets ts vs s
    | _ => .bad
  | .sub o k, v, s => (evalE T C o s).bind fun x s => (evalE T C k s).val.bind fun i s => match deref s (opnd x) with
    | .lst xs => match i with
      | .int i => match ixN xs.length i with
        | some j => R.opt (setLoc s (opnd x) (.lst (xs.set j v) false)) s |>.bind fun s _ => .ok () s
        | none => .bad
      | _ => .bad
    | .dct kvs => match keyV i with
      | some k => if kvs.length < sizeLine then R.opt (setLoc s (opnd x) (.dct (dput kvs k v) false)) s |>.bind fun s _ => .ok () s else .bad
      | none => .bad
    | _ => .bad
  | .att o f, v, s => (evalE T C o s).val.bind fun x s => match insAt s x with
    | none => .bad
    | some (n, c, fs) => if T.fld c f && decide (fs.length < 900) then .ok () { s with h := s.h.set n (.ins c (putFs f v fs)) } else .bad
def tgtSets : List Tgt → List Val → S → R Unit
  | [], [], s => .ok () s
  | t :: ts, v :: vs, s => (tgtSet t v s).bind fun _ s => tgtSets ts vs s
  | _, _, _ => .bad
end
mutual
def execS : IS → S → R Fl
  | .ex e, s => (evalE T C e s).bind fun _ s => .ok .nx s
  | .asg t e, s => (evalE T C e s).val.bind fun v s => (tgtSet T C t v s).bind fun _ s => .ok .nx s
  | .own i e, s => (evalE T C e s).bind fun x s => match x with
    | .f c => .ok .nx { s with e := s.e.set i (.own c) }
    | _ => .bad
  | .par i j oi oj a b, s => (evalE T C a s).bind fun x s => (evalE T C b s).bind fun y s => match put1 oi x, put1 oj y with
    | some u, some v => .ok .nx { s with e := (s.e.set i u).set j v }
    | _, _ => .bad
  | .par3 i j l oi oj ol a b c, s => (evalE T C a s).bind fun x s => (evalE T C b s).bind fun y s => (evalE T C c s).bind fun z s => match put1 oi x, put1 oj y, put1 ol z with
    | some u, some v, some w => .ok .nx { s with e := ((s.e.set i u).set j v).set l w }
    | _, _, _ => .bad
  | .aug i op e, s => match slotOf s i with
    | .val x => (evalE T C e s).bind fun y s => (R.opt (iop op x (deref s (opnd y))) s).val.bind fun z s => .ok .nx { s with e := s.e.set i (.val z) }
    | _ => .bad
  | .augS o k op e, s => (evalE T C o s).bind fun x s => (evalE T C k s).val.bind fun i s => match vsub (deref s (opnd x)) i with
    | none => .bad
    | some old => (evalE T C e s).val.bind fun y s => (R.opt (iop op old y) s).val.bind fun z s => match deref s (opnd x), i with
      | .lst xs, .int i => match ixN xs.length i with
        | some j => R.opt (setLoc s (opnd x) (.lst (xs.set j z) false)) s |>.bind fun s _ => .ok .nx s
        | none => .bad
      | _, _ => .bad
  | .augA o f op e, s => (evalE T C o s).val.bind fun x s => match insAt s x with
    | none => .bad
    | some (_, c, fs) => match T.fld c f, fs.lookup f with
      | true, some old => (evalE T C e s).val.bind fun y s => (R.opt (iop op old y) s).val.bind fun z s => match insAt s x with
        | some (n, c2, fs) => if decide (c2 = c) && decide (fs.length < 900) then .ok .nx { s with h := s.h.set n (.ins c (putFs f z fs)) } else .bad
        | none => .bad
      | _, _ => .bad
  | .del o k, s => (evalE T C o s).bind fun x s => (evalE T C k s).val.bind fun i s => match deref s (opnd x), keyV i with
    | .dct kvs, some k => if (dget kvs k).isSome then R.opt (setLoc s (opnd x) (.dct (ddrop kvs k) false)) s |>.bind fun s _ => .ok .nx s else .bad
    | _, _ => .bad
  | .ite c a b, s => (evalB T C c s).bind fun k s => match k with
    | true => execSs a s
    | false => execSs b s
  | .whl c b, s => whileL (evalB T C c) (execSs b) T.fuel s
  | .for_ p k src b, s => (evalOs T C src s).bind fun os s => match noSl os, srcItems k (os.map (deref s)) with
    | true, some items => (forL (patSet p) (execSs b) items (lockAll s os)).bind fun fl s2 => .ok fl (unlockAll s s2 os)
    | _, _ => .bad
  | .ret e, s => (evalE T C e s).val.bind fun x s => .ok (.rt x) s
  | .retN, s => .ok (.rt .non) s
  | .pas, s => .ok .nx s
  | .bk, s => .ok .bk s
  | .ct, s => .ok .ct s
  | .nev, s => .bad
def execSs : List IS → S → R Fl
  | [], s => .ok .nx s
  | st :: r, s => match execS st s with
    | .ok .nx s => execSs r s
    | x => x
end
end

/-- a def: its parameters, the number of its names, its text -/
structure Fd where
  np : Nat
  nn : Nat
  body : List IS
  deriving Inhabited
def runFd (T : Tab) (C : Call) (d : Fd) (vs : List Val) (h : List Cell) : R Val :=
  if vs.length = d.np then
    match execSs T C d.body ⟨vs.map .val ++ List.replicate (d.nn - d.np) .no, h⟩ with
    | .ok .nx s => .ok .non ⟨[], s.h⟩
    | .ok (.rt v) s => .ok v ⟨[], s.h⟩
    | .exc c p s => .exc c p ⟨[], s.h⟩
    | _ => .bad
  else .bad
def callI (T : Tab) (fs : List Fd) : Nat → Call
  | 0 => fun _ _ _ => .bad
  | n + 1 => fun f vs h => match fs[f]? with
    | some d => runFd T (callI T fs n) d vs h
    | none => .bad
end Rs
end
section
set_option maxRecDepth 100000
set_option maxHeartbeats 4000000
/-! The values of the interpreter beside those of the model. -/
namespace Rs
open PySem PySem.Spec PyProof.Rows L2

/-- what is fixed through a law: the part that the top wrote, names, classes -/
structure Gl where
  K : PySem.W.Frag
  nm : Nat → Str
  okf : Nat → Prop
  inj : ∀ i j, okf i → okf j → nm i = nm j → i = j
  ca : Nat → Addr
/-- a reading of a heap: the cells' places, what never changes, what stays while this runs (walked; of others) -/
structure Cf where
  ρ : List Addr
  fz : Addr → Prop
  kp : Addr → Prop
  rs : Addr → Prop
  H : Hp

def KTup (K : PySem.W.Frag) (a : Addr) (xs : List V) : Prop := ∃ (o : Obj) (its : Array Value) (n : Nat), K.lookup a = some o ∧ o.cls = .type "tuple" ∧ o.data = .seq its n ∧ its.size ≤ sizeLine ∧ Vals xs its.toList
def KLst (K : PySem.W.Frag) (a : Addr) (xs : List V) : Prop := ∃ (o : Obj) (its : Array Value) (n : Nat), K.lookup a = some o ∧ o.cls = .type "list" ∧ o.dict = none ∧ o.data = .seq its n ∧ its.size ≤ sizeLine ∧ Vals xs its.toList

section
variable (G : Gl)
mutual
def VR (C : Cf) : Val → V → Prop
  | .non, v => v = .non
  | .bl b, v => v = .bl b
  | .int i, v => v = .int i
  | .str x, v => v = .str x
  | .lst xs, v => ∃ p ys, v = .ref p ∧ C.fz p ∧ C.H p = some (.lst ys) ∧ VRs C xs ys
  | .tup xs, v => ∃ p ys, v = .ref p ∧ ((C.fz p ∧ C.H p = some (.tup ys)) ∨ KTup G.K p ys) ∧ VRs C xs ys
  | .dct kvs, v => ∃ p kvs', v = .ref p ∧ C.fz p ∧ Rd C.H p (.dK kvs') ∧ VRk C kvs kvs'
  | .ref i, v => ∃ p, C.ρ[i]? = some p ∧ v = .ref p
  | .scr ns, v => ∃ p, v = .ref p ∧ ((C.fz p ∧ Rd C.H p (.lst (ns.map V.int))) ∨ KLst G.K p (ns.map V.int))
  | .bad, _ => False
def VRs (C : Cf) : List Val → List V → Prop
  | [], ys => ys = []
  | x :: xs, ys => ∃ y r, ys = y :: r ∧ VR C x y ∧ VRs C xs r
def VRk (C : Cf) : List (Key × Val) → List (Key × V) → Prop
  | [], ys => ys = []
  | (k, x) :: xs, ys => ∃ y r, ys = (k, y) :: r ∧ VR C x y ∧ VRk C xs r
end
/-- as things stand now -/
def NR (C : Cf) : Val → V → Prop
  | .lst xs, v => ∃ p ys, v = .ref p ∧ C.H p = some (.lst ys) ∧ VRs G C xs ys
  | .dct kvs, v => ∃ p kvs', v = .ref p ∧ Rd C.H p (.dK kvs') ∧ VRk G C kvs kvs'
  | x, v => VR G C x v
def VRf (C : Cf) : List (Nat × Val) → List (Str × V) → Prop
  | [], ys => ys = []
  | (f, x) :: xs, ys => ∃ y r, ys = (G.nm f, y) :: r ∧ G.okf f ∧ VR G C x y ∧ VRf C xs r
/-- a cell's content -/
def CR (C : Cf) : Cell → Option HO → Prop
  | .lst xs _, o => ∃ ys, o = some (.lst ys) ∧ VRs G C xs ys
  | .dct kvs false, o => ∃ ks, o = some (.dK ks) ∧ VRk G C kvs ks
  | .dct kvs true, o => ∃ ob ks, o = some (.frz ob (.dK ks)) ∧ VRk G C kvs ks
  | .ins c fs, o => ∃ dx gs, o = some (.ins (G.ca c) dx gs) ∧ VRf G C fs gs
end
def isFz : HO → Bool
  | .frz _ _ => true
  | _ => false
/-- what is seen at a place, seen still -/
structure Keeps (o o' : Option HO) : Prop where
  l : ∀ ys, o = some (.lst ys) → o' = some (.lst ys)
  t : ∀ ys, o = some (.tup ys) → o' = some (.tup ys)
  r : ∀ u, isFz u = false → (o = some u ∨ ∃ b, o = some (.frz b u)) → (o' = some u ∨ ∃ b, o' = some (.frz b u))
  tr : o ≠ none → o' ≠ none
theorem Keeps.of {o o' : Option HO} (h : ∀ u, o = some u → o' = some u) : Keeps o o' := ⟨fun _ e => h _ e, fun _ e => h _ e, fun _ _ e => e.imp (h _) fun ⟨b, e⟩ => ⟨b, h _ e⟩, fun n z => by
  cases o with
  | none => exact n rfl
  | some u => rw [h u rfl] at z; cases z⟩
theorem Keeps.trans {a b c : Option HO} (k : Keeps a b) (m : Keeps b c) : Keeps a c := ⟨fun y e => m.l y (k.l y e), fun y e => m.t y (k.t y e), fun u n e => m.r u n (k.r u n e), fun n => m.tr (k.tr n)⟩
structure Lv (C C' : Cf) : Prop where
  ρ : C.ρ <+: C'.ρ
  fz : ∀ p, C.fz p → C'.fz p
  hf : ∀ p, C.fz p → Keeps (C.H p) (C'.H p)
structure Le (C C' : Cf) : Prop extends Lv C C' where
  kp : C'.kp = C.kp
  rs : C'.rs = C.rs
  hk : ∀ p, C.kp p ∨ C.rs p → ∀ o, C.H p = some o → C'.H p = some o
  ff : ∀ p, C.fz p → ∀ b u, C.H p = some (.frz b u) → C'.H p = some (.frz b u)
theorem Le.of {C C' : Cf} (ρ : C'.ρ = C.ρ) (fz : ∀ p, C.fz p → C'.fz p) (kp : C'.kp = C.kp) (rs : C'.rs = C.rs) (hp : ∀ p, C.fz p ∨ C.kp p ∨ C.rs p → ∀ o, C.H p = some o → C'.H p = some o) : Le C C' :=
  ⟨⟨by rw [ρ]; exact List.prefix_rfl, fz, fun p h => .of (hp p (.inl h))⟩, kp, rs, fun p h => hp p (.inr h), fun p h b u e => hp p (.inl h) _ e⟩
theorem Le.refl (C : Cf) : Le C C := .of rfl (fun _ h => h) rfl rfl fun _ _ _ h => h
theorem Le.trans {A B C : Cf} (a : Le A B) (b : Le B C) : Le A C :=
  ⟨⟨a.ρ.trans b.ρ, fun p h => b.fz p (a.fz p h), fun p h => (a.hf p h).trans (b.hf p (a.fz p h))⟩, b.kp.trans a.kp, b.rs.trans a.rs, fun p h o e => b.hk p (by rw [a.kp, a.rs]; exact h) o (a.hk p h o e), fun p h x u e => b.ff p (a.fz p h) x u (a.ff p h x u e)⟩
theorem Rd.le {C C' : Cf} (l : Lv C C') {p : Addr} {u : HO} (f : C.fz p) (h : Rd C.H p u) (n : isFz u = false := by rfl) : Rd C'.H p u := (l.hf p f).r u n h
section
variable {G : Gl} {C C' : Cf}
mutual
theorem VR.mono0 (l : Lv C C') : ∀ {x : Val} {v : V}, VR G C x v → VR G C' x v
  | .non, v, h => by unfold VR at h ⊢; exact h
  | .bl _, v, h => by unfold VR at h ⊢; exact h
  | .int _, v, h => by unfold VR at h ⊢; exact h
  | .str _, v, h => by unfold VR at h ⊢; exact h
  | .lst xs, v, h => by
    unfold VR at h ⊢
    obtain ⟨p, ys, e, f, hp, r⟩ := h
    exact ⟨p, ys, e, l.fz p f, (l.hf p f).l _ hp, VRs.mono0 l r⟩
  | .tup xs, v, h => by
    unfold VR at h ⊢
    obtain ⟨p, ys, e, f, r⟩ := h
    exact ⟨p, ys, e, f.imp (fun f => ⟨l.fz p f.1, (l.hf p f.1).t _ f.2⟩) id, VRs.mono0 l r⟩
  | .dct kvs, v, h => by
    unfold VR at h ⊢
    obtain ⟨p, ys, e, f, hp, r⟩ := h
    exact ⟨p, ys, e, l.fz p f, Rd.le l f hp, VRk.mono0 l r⟩
  | .ref i, v, h => by
    unfold VR at h ⊢
    obtain ⟨p, e, h⟩ := h
    obtain ⟨t, ht⟩ := l.ρ
    refine ⟨p, ?_, h⟩
    rw [← ht, List.getElem?_append_left (List.getElem?_eq_some_iff.mp e).1]
    exact e
  | .scr ns, v, h => by
    unfold VR at h ⊢
    obtain ⟨p, e, f⟩ := h
    exact ⟨p, e, f.imp (fun f => ⟨l.fz p f.1, Rd.le l f.1 f.2⟩) id⟩
  | .bad, v, h => by unfold VR at h; exact h.elim
theorem VRs.mono0 (l : Lv C C') : ∀ {xs : List Val} {ys : List V}, VRs G C xs ys → VRs G C' xs ys
  | [], ys, h => by unfold VRs at h ⊢; exact h
  | x :: xs, ys, h => by
    unfold VRs at h ⊢
    obtain ⟨y, r, e, a, b⟩ := h
    exact ⟨y, r, e, VR.mono0 l a, VRs.mono0 l b⟩
theorem VRk.mono0 (l : Lv C C') : ∀ {xs : List (Key × Val)} {ys : List (Key × V)}, VRk G C xs ys → VRk G C' xs ys
  | [], ys, h => by unfold VRk at h ⊢; exact h
  | (k, x) :: xs, ys, h => by
    unfold VRk at h ⊢
    obtain ⟨y, r, e, a, b⟩ := h
    exact ⟨y, r, e, VR.mono0 l a, VRk.mono0 l b⟩
end
theorem VR.mono (l : Le C C') {x : Val} {v : V} (h : VR G C x v) : VR G C' x v := h.mono0 l.toLv
theorem VRs.mono (l : Le C C') {xs : List Val} {ys : List V} (h : VRs G C xs ys) : VRs G C' xs ys := h.mono0 l.toLv
theorem VRk.mono (l : Le C C') {xs : List (Key × Val)} {ys : List (Key × V)} (h : VRk G C xs ys) : VRk G C' xs ys := h.mono0 l.toLv
theorem VRf.mono0 (l : Lv C C') : ∀ {xs : List (Nat × Val)} {ys : List (Str × V)}, VRf G C xs ys → VRf G C' xs ys
  | [], ys, h => h
  | (k, x) :: xs, ys, h => by
    obtain ⟨y, r, e, o, a, b⟩ := h
    exact ⟨y, r, e, o, a.mono0 l, VRf.mono0 l b⟩
theorem CR.mono0 (l : Lv C C') {c : Cell} {o : Option HO} (h : CR G C c o) : CR G C' c o := by
  cases c with
  | lst xs lk => obtain ⟨ys, e, r⟩ := h; exact ⟨ys, e, r.mono0 l⟩
  | dct kvs lk => cases lk with
    | false => obtain ⟨ks, e, r⟩ := h; exact ⟨ks, e, r.mono0 l⟩
    | true => obtain ⟨ob, ks, e, r⟩ := h; exact ⟨ob, ks, e, r.mono0 l⟩
  | ins c fs => obtain ⟨dx, gs, e, r⟩ := h; exact ⟨dx, gs, e, r.mono0 l⟩
theorem CR.mono (l : Le C C') {c : Cell} {o : Option HO} (h : CR G C c o) : CR G C' c o := h.mono0 l.toLv
theorem CR.tr {c : Cell} {o : Option HO} (h : CR G C c o) : o ≠ none := by
  intro z; subst z
  cases c with
  | lst xs lk => obtain ⟨ys, e, r⟩ := h; cases e
  | dct kvs lk => cases lk with
    | false => obtain ⟨ks, e, r⟩ := h; cases e
    | true => obtain ⟨ob, ks, e, r⟩ := h; cases e
  | ins c fs => obtain ⟨dx, gs, e, r⟩ := h; cases e
/-- of its own: nothing else knows the place -/
structure Fr (C : Cf) (p : Addr) : Prop where
  fz : ¬ C.fz p
  kp : ¬ C.kp p
  ρ : p ∉ C.ρ
  rs : ¬ C.rs p
end
section
variable (G : Gl)
/-- changed by nobody else: never what is walked -/
def free : Cell → Bool
  | .ins _ _ => true
  | c => unlocked c
theorem free_of {c : Cell} (u : unlocked c = true) : free c = true := by
  cases c with
  | ins _ _ => rfl
  | _ => exact u
structure Rel (C : Cf) (s : S) (σ : L2.St) : Prop where
  len : s.e.length = σ.length
  env : ∀ (i : Nat) (x : Val), s.e[i]? = some (.val x) → ∃ v, σ[i]? = some (some v) ∧ VR G C x v
  own : ∀ (i : Nat) (c : Cell), s.e[i]? = some (.own c) → ∃ p, σ[i]? = some (some (.ref p)) ∧ CR G C c (C.H p) ∧ ¬ C.fz p ∧ p ∉ C.ρ ∧ (unlocked c = true → ¬ C.kp p) ∧ ¬ C.rs p
  apart : ∀ (i j : Nat) (c d : Cell) (p : Addr), s.e[i]? = some (.own c) → s.e[j]? = some (.own d) → σ[i]? = some (some (.ref p)) → σ[j]? = some (some (.ref p)) → i = j
  hlen : s.h.length = C.ρ.length
  nd : C.ρ.Nodup
  cell : ∀ (n : Nat) (c : Cell) (p : Addr), s.h[n]? = some c → C.ρ[n]? = some p → CR G C c (C.H p) ∧ ¬ C.fz p ∧ (free c = true → ¬ C.kp p) ∧ ¬ C.rs p
  fztr : ∀ p, C.fz p → C.H p ≠ none
  kptr : ∀ p, C.kp p ∨ C.rs p → C.H p ≠ none
  fzkp : ∀ p, C.fz p → ¬ (C.kp p ∨ C.rs p)
def RvR (C : Cf) (s : S) (σ : L2.St) : Rv → V → Prop
  | .v x, v => VR G C x v
  | .f c, v => ∃ p, v = .ref p ∧ CR G C c (C.H p) ∧ Rs.Fr C p ∧ unlocked c = true ∧ ∀ (i : Nat) (c : Cell), s.e[i]? = some (Slot.own c) → σ[i]? ≠ some (some (.ref p))
  | .sl i, v => σ[i]? = some (some v)
end
end Rs
end
section
set_option maxRecDepth 100000
set_option maxHeartbeats 4000000
/-! Steps of a reading. -/
namespace Rs
open PySem PySem.Spec PyProof.Rows L2
section
variable {G : Gl} {C C' : Cf} {s s' : S} {σ : L2.St}

/-! ### values and lists of values -/
theorem VRs.length {C : Cf} : ∀ {xs : List Val} {ys : List V}, VRs G C xs ys → xs.length = ys.length
  | [], ys, h => by unfold VRs at h; subst h; rfl
  | x :: xs, ys, h => by
    unfold VRs at h
    obtain ⟨y, r, e, a, b⟩ := h
    subst e
    simp [VRs.length b]
theorem VRs.cons {C : Cf} {x : Val} {xs : List Val} {y : V} {ys : List V} (h : VR G C x y) (r : VRs G C xs ys) : VRs G C (x :: xs) (y :: ys) := by
  unfold VRs
  exact ⟨y, ys, rfl, h, r⟩
theorem VRs.nil {C : Cf} : VRs G C [] [] := by unfold VRs; rfl
theorem VRs.append {C : Cf} : ∀ {xs xs' : List Val} {ys ys' : List V}, VRs G C xs ys → VRs G C xs' ys' → VRs G C (xs ++ xs') (ys ++ ys')
  | [], _, ys, _, h, k => by unfold VRs at h; subst h; exact k
  | x :: xs, _, ys, _, h, k => by
    unfold VRs at h
    obtain ⟨y, r, e, a, b⟩ := h
    subst e
    exact VRs.cons a (VRs.append b k)
theorem VRs.get {C : Cf} : ∀ {xs : List Val} {ys : List V} {i : Nat} {x : Val}, VRs G C xs ys → xs[i]? = some x → ∃ y, ys[i]? = some y ∧ VR G C x y
  | [], _, _, _, _, e => by simp at e
  | x :: xs, ys, i, z, h, e => by
    unfold VRs at h
    obtain ⟨y, r, e', a, b⟩ := h
    subst e'
    cases i with
    | zero => simp at e; subst e; exact ⟨y, rfl, a⟩
    | succ i =>
      obtain ⟨w, h1, h2⟩ := VRs.get b (i := i) (x := z) (by simpa using e)
      exact ⟨w, by simpa using h1, h2⟩
theorem VRs.map {C : Cf} {α : Type} {f : α → Val} {g : α → V} (h : ∀ a, VR G C (f a) (g a)) : ∀ xs : List α, VRs G C (xs.map f) (xs.map g)
  | [] => VRs.nil
  | x :: xs => VRs.cons (h x) (VRs.map h xs)
theorem VRs.take {C : Cf} : ∀ {xs : List Val} {ys : List V} (n : Nat), VRs G C xs ys → VRs G C (xs.take n) (ys.take n)
  | _, _, 0, _ => by simp; exact VRs.nil
  | [], ys, n + 1, h => by unfold VRs at h; subst h; simp; exact VRs.nil
  | x :: xs, ys, n + 1, h => by
    unfold VRs at h
    obtain ⟨y, r, e, a, b⟩ := h
    subst e
    simp only [List.take_succ_cons]
    exact VRs.cons a (VRs.take n b)
theorem VRs.drop {C : Cf} : ∀ {xs : List Val} {ys : List V} (n : Nat), VRs G C xs ys → VRs G C (xs.drop n) (ys.drop n)
  | _, _, 0, h => by simpa using h
  | [], ys, n + 1, h => by unfold VRs at h; subst h; simp; exact VRs.nil
  | x :: xs, ys, n + 1, h => by
    unfold VRs at h
    obtain ⟨y, r, e, a, b⟩ := h
    subst e
    simp only [List.drop_succ_cons]
    exact VRs.drop n b
theorem VRs.set {C : Cf} {x : Val} {y : V} (hx : VR G C x y) : ∀ {xs : List Val} {ys : List V} (n : Nat), VRs G C xs ys → VRs G C (xs.set n x) (ys.set n y)
  | [], ys, _, h => by unfold VRs at h; subst h; simp; exact VRs.nil
  | z :: xs, ys, n, h => by
    unfold VRs at h
    obtain ⟨w, r, e, a, b⟩ := h
    subst e
    cases n with
    | zero => exact VRs.cons hx b
    | succ n => exact VRs.cons a (VRs.set hx n b)
theorem VRs.eraseIdx {C : Cf} : ∀ {xs : List Val} {ys : List V} (n : Nat), VRs G C xs ys → VRs G C (xs.eraseIdx n) (ys.eraseIdx n)
  | [], ys, _, h => by unfold VRs at h; subst h; simp; exact VRs.nil
  | z :: xs, ys, n, h => by
    unfold VRs at h
    obtain ⟨w, r, e, a, b⟩ := h
    subst e
    cases n with
    | zero => simpa using b
    | succ n => simp only [List.eraseIdx_cons_succ]; exact VRs.cons a (VRs.eraseIdx n b)
theorem VRs.reverse {C : Cf} : ∀ {xs : List Val} {ys : List V}, VRs G C xs ys → VRs G C xs.reverse ys.reverse
  | [], ys, h => by unfold VRs at h; subst h; exact VRs.nil
  | x :: xs, ys, h => by
    unfold VRs at h
    obtain ⟨y, r, e, a, b⟩ := h
    subst e
    simp only [List.reverse_cons]
    exact (VRs.reverse b).append (VRs.cons a VRs.nil)
theorem VRs.rep {C : Cf} {xs : List Val} {ys : List V} (h : VRs G C xs ys) : ∀ k : Nat, VRs G C (List.replicate k xs).flatten (List.replicate k ys).flatten
  | 0 => VRs.nil
  | k + 1 => by simp only [List.replicate_succ, List.flatten_cons]; exact h.append (VRs.rep h k)

/-! ### the reading changes -/
/-- a new thing that nobody knows yet -/
abbrev Cf.new (C : Cf) (p : Addr) (o : HO) : Cf := { C with H := upd C.H p o }
theorem Le.new {p : Addr} {o : HO} (n : C.H p = none) : Le C (C.new p o) :=
  .of rfl (fun _ h => h) rfl rfl fun q _ u e => by show upd C.H p o q = _; rw [upd_ne (ne_of_none e n)]; exact e
theorem notfz (r : Rel G C s σ) {p : Addr} (n : C.H p = none) : ¬ C.fz p := fun h => r.fztr p h n
theorem notkp (r : Rel G C s σ) {p : Addr} (n : C.H p = none) : ¬ C.kp p := fun h => r.kptr p (.inl h) n
theorem notrs (r : Rel G C s σ) {p : Addr} (n : C.H p = none) : ¬ C.rs p := fun h => r.kptr p (.inr h) n
theorem ρtr (r : Rel G C s σ) {p : Addr} (h : p ∈ C.ρ) : C.H p ≠ none := by
  obtain ⟨n, hn, e⟩ := List.getElem_of_mem h
  have h1 : n < s.h.length := by rw [r.hlen]; exact hn
  exact (r.cell n s.h[n] p (by simp [h1]) (by rw [List.getElem?_eq_getElem hn, e])).1.tr
theorem notρ (r : Rel G C s σ) {p : Addr} (n : C.H p = none) : p ∉ C.ρ := fun h => ρtr r h n
theorem Rel.fresh (r : Rel G C s σ) {p : Addr} (n : C.H p = none) : Fr C p := ⟨notfz r n, notkp r n, notρ r n, notrs r n⟩
/-- the things known are where they were -/
theorem Rel.le (r : Rel G C s σ) (l : Le C C') (hρ : C'.ρ = C.ρ) (ho : ∀ (i : Nat) c p, s.e[i]? = some (.own c) → σ[i]? = some (some (.ref p)) → C'.H p = C.H p) (hfz : ∀ p, C'.fz p → C.fz p ∨ (Fr C p ∧ C'.H p ≠ none ∧ ∀ (i : Nat) c, s.e[i]? = some (.own c) → σ[i]? ≠ some (some (.ref p))))
    (hc : ∀ p, p ∈ C.ρ → C'.H p = C.H p) : Rel G C' s σ where
  len := r.len
  env := fun i x h => let ⟨v, a, b⟩ := r.env i x h; ⟨v, a, b.mono l⟩
  own := fun i c h => by
    obtain ⟨p, a, b, d, e, f⟩ := r.own i c h
    refine ⟨p, a, by rw [ho i c p h a]; exact b.mono l, fun z => ?_, by rw [hρ]; exact e, fun u => by rw [l.kp]; exact f.1 u, by rw [l.rs]; exact f.2⟩
    rcases hfz p z with z | ⟨z, _, y⟩
    · exact d z
    · exact y i c h a
  apart := r.apart
  hlen := by rw [hρ]; exact r.hlen
  nd := by rw [hρ]; exact r.nd
  cell := fun n c p h e => by
    rw [hρ] at e
    obtain ⟨a, b, d⟩ := r.cell n c p h e
    refine ⟨by rw [hc p (List.mem_of_getElem? e)]; exact a.mono l, fun z => ?_, fun u => by rw [l.kp]; exact d.1 u, by rw [l.rs]; exact d.2⟩
    rcases hfz p z with z | ⟨z, _, _⟩
    · exact b z
    · exact z.ρ (List.mem_of_getElem? e)
  fztr := fun p z => by
    rcases hfz p z with z | ⟨z, y, _⟩
    · exact (l.hf p z).tr (r.fztr p z)
    · exact y
  kptr := fun p z => by
    rw [l.kp, l.rs] at z
    intro q
    cases e : C.H p with
    | none => exact r.kptr p z e
    | some o => rw [l.hk p z o e] at q; cases q
  fzkp := fun p z k => by
    rw [l.kp, l.rs] at k
    rcases hfz p z with z | ⟨z, _, _⟩
    · exact r.fzkp p z k
    · exact k.elim z.kp z.rs
theorem own_tr (r : Rel G C s σ) {i : Nat} {c : Cell} {p : Addr} (h : s.e[i]? = some (.own c)) (a : σ[i]? = some (some (.ref p))) : C.H p ≠ none := by
  obtain ⟨q, a', b, _⟩ := r.own i c h
  rw [a] at a'
  cases a'
  exact b.tr
theorem Rel.new (r : Rel G C s σ) {p : Addr} {o : HO} (n : C.H p = none) : Rel G (C.new p o) s σ :=
  r.le (Le.new n) rfl (fun i c q h a => upd_ne fun z => own_tr r h a (z ▸ n)) (fun q z => .inl z) fun q h => upd_ne fun z => ρtr r h (z ▸ n)
/-- a thing of its own becomes one that never changes -/
abbrev Cf.ice (C : Cf) (p : Addr) : Cf := { C with fz := fun q => C.fz q ∨ q = p }
theorem Le.ice {p : Addr} : Le C (C.ice p) := .of rfl (fun _ h => .inl h) rfl rfl fun _ _ _ h => h
theorem Rel.ice (r : Rel G C s σ) {p : Addr} (f : Fr C p) (t : C.H p ≠ none) (ho : ∀ (i : Nat) c, s.e[i]? = some (.own c) → σ[i]? ≠ some (some (.ref p))) : Rel G (C.ice p) s σ :=
  r.le Le.ice rfl (fun _ _ _ _ _ => rfl) (fun q z => z.imp id fun z => by subst z; exact ⟨f, t, ho⟩) fun _ _ => rfl
theorem RvR.tr {c : Cell} {v : V} (h : RvR G C s σ (.f c) v) : ∃ p, v = .ref p ∧ C.H p ≠ none := by
  obtain ⟨p, e, a, _⟩ := h
  exact ⟨p, e, a.tr⟩
/-- a new list, a new dict as a value -/
theorem imm_ok {c : Cell} {p : Addr} (h : CR G C c (C.H p)) (u : unlocked c = true) : VR G (C.ice p) (imm c) (.ref p) := by
  cases c with
  | lst xs lk =>
    obtain ⟨ys, e, r⟩ := h
    show VR G _ (.lst xs) _
    unfold VR
    exact ⟨p, ys, rfl, .inr rfl, e, r.mono Le.ice⟩
  | dct kvs lk =>
    cases lk with
    | true => cases u
    | false =>
      obtain ⟨ks, e, r⟩ := h
      show VR G _ (.dct kvs) _
      unfold VR
      exact ⟨p, ks, rfl, .inr rfl, .inl e, r.mono Le.ice⟩
  | ins c fs => cases u
theorem freeze_ok (r : Rel G C s σ) {x : Rv} {v : V} {y : Val} (h : RvR G C s σ x v) (e : freeze x = some y) : ∃ C', Le C C' ∧ C'.H = C.H ∧ Rel G C' s σ ∧ VR G C' y v := by
  cases x with
  | v x => cases e; exact ⟨C, .refl C, rfl, r, h⟩
  | f c =>
    cases e
    obtain ⟨p, e, a, f, u, d⟩ := h
    subst e
    exact ⟨C.ice p, .ice, rfl, r.ice f a.tr d, imm_ok a u⟩
  | sl i => cases e
/-- an operand -/
def OR (G : Gl) (C : Cf) (s : S) (σ : L2.St) : Rv → V → Prop
  | .v x, v => VR G C x v
  | .f _, _ => False
  | .sl i, v => σ[i]? = some (some v)
theorem opnd_ok (r : Rel G C s σ) {x : Rv} {v : V} (h : RvR G C s σ x v) : ∃ C', Le C C' ∧ C'.H = C.H ∧ Rel G C' s σ ∧ OR G C' s σ (opnd x) v := by
  cases x with
  | v x => exact ⟨C, .refl C, rfl, r, h⟩
  | f c =>
    obtain ⟨p, e, a, f, u, d⟩ := h
    subst e
    exact ⟨C.ice p, .ice, rfl, r.ice f a.tr d, imm_ok a u⟩
  | sl i => exact ⟨C, .refl C, rfl, r, h⟩
theorem OR.mono (l : Le C C') {x : Rv} {v : V} (h : OR G C s σ x v) : OR G C' s' σ x v := by
  cases x with
  | v x => exact VR.mono l h
  | f c => exact h
  | sl i => exact h
theorem VR.nr {x : Val} {v : V} (h : VR G C x v) : NR G C x v := by
  cases x with
  | lst xs => unfold VR at h; obtain ⟨p, ys, e, _, a, b⟩ := h; exact ⟨p, ys, e, a, b⟩
  | dct xs => unfold VR at h; obtain ⟨p, ys, e, _, a, b⟩ := h; exact ⟨p, ys, e, a, b⟩
  | _ => exact h
theorem CR.nr {c : Cell} {p : Addr} (h : CR G C c (C.H p)) (b : imm c ≠ .bad) : NR G C (imm c) (.ref p) := by
  cases c with
  | lst xs lk => obtain ⟨ys, e, r⟩ := h; exact ⟨p, ys, rfl, e, r⟩
  | dct kvs lk =>
    cases lk with
    | true => obtain ⟨ob, ks, e, r⟩ := h; exact ⟨p, ks, rfl, .inr ⟨ob, e⟩, r⟩
    | false => obtain ⟨ks, e, r⟩ := h; exact ⟨p, ks, rfl, .inl e, r⟩
  | ins c fs => exact (b rfl).elim
theorem deref_ok (r : Rel G C s σ) {x : Rv} {v : V} (h : OR G C s σ x v) (b : deref s x ≠ .bad) : NR G C (deref s x) v := by
  cases x with
  | v x =>
    cases x with
    | ref i =>
      have h' := h
      simp only [OR] at h
      unfold VR at h
      obtain ⟨p, e, hv⟩ := h
      subst hv
      unfold deref at b ⊢
      cases q : s.h[i]? with
      | none => simp only [q] at b ⊢; exact h'
      | some c =>
        have hc := (r.cell i c p q e).1
        cases c with
        | lst xs lk => simp only [q]; exact CR.nr (c := .lst xs lk) hc (by simp [imm])
        | dct xs lk => simp only [q]; exact CR.nr (c := .dct xs lk) hc (by simp [imm])
        | ins _ _ => simp only [q]; exact h'
    | _ => exact VR.nr h
  | f c => exact h.elim
  | sl i =>
    unfold deref at b ⊢
    cases q : s.e[i]? with
    | none => simp [q] at b
    | some t =>
      cases t with
      | own c =>
        simp only [q] at b ⊢
        obtain ⟨p, a, k, _⟩ := r.own i c q
        have h : σ[i]? = some (some v) := h
        rw [a] at h
        cases h
        exact k.nr b
      | _ => simp [q] at b
end

/-! ### expressions -/
def tE (G : Gl) (f : S → R Rv) : TE := fun σ H Q => ∃ C s x s', C.H = H ∧ Rel G C s σ ∧ f s = .ok x s' ∧ ∀ C' v, Le C C' → Rel G C' s' σ → RvR G C' s' σ x v → Q v C'.H
def tV (G : Gl) (f : S → R Val) : TE := fun σ H Q => ∃ C s x s', C.H = H ∧ Rel G C s σ ∧ f s = .ok x s' ∧ ∀ C' v, Le C C' → Rel G C' s' σ → VR G C' x v → Q v C'.H
def tO (G : Gl) (f : S → R Rv) : TE := fun σ H Q => ∃ C s x s', C.H = H ∧ Rel G C s σ ∧ f s = .ok x s' ∧ ∀ C' v, Le C C' → Rel G C' s' σ → OR G C' s' σ (opnd x) v → Q v C'.H
def tBo (G : Gl) (f : S → R Bool) : TT := fun σ H Q => ∃ C s b s', C.H = H ∧ Rel G C s σ ∧ f s = .ok b s' ∧ ∀ C', Le C C' → Rel G C' s' σ → Q b C'.H
section
variable {G : Gl} {X : Cx} {e : Expr}
theorem PE.weak {t t' : TE} (h : PE X e t) (w : ∀ σ H Q, t' σ H Q → t σ H Q) : PE X e t' := ⟨fun pins s σ H Q I q => h.run pins s σ H Q I (w σ H Q q)⟩
theorem PT.weak {t t' : TT} (h : PT X e t) (w : ∀ σ H Q, t' σ H Q → t σ H Q) : PT X e t' := ⟨fun pins s σ H Q I q => h.run pins s σ H Q I (w σ H Q q)⟩
theorem tV_of {f : S → R Rv} {σ : L2.St} {H : Hp} {Q : VK} (h : tV G (fun s => (f s).val) σ H Q) : tE G f σ H Q := by
  obtain ⟨C, s, x, s', hH, r, e, k⟩ := h
  cases q : f s with
  | ok y s1 =>
    simp only [q, R.val, R.bind] at e
    cases z : freeze y with
    | none => simp [z, R.opt] at e
    | some w =>
      simp only [z, R.opt, R.ok.injEq] at e
      obtain ⟨rfl, rfl⟩ := e
      refine ⟨C, s, y, s1, hH, r, q, fun C' v l r' h' => ?_⟩
      obtain ⟨C2, l2, h2, r2, v2⟩ := freeze_ok r' h' z
      rw [← h2]
      exact k C2 v (l.trans l2) r2 v2
  | exc c p s1 => simp [q, R.val, R.bind] at e
  | bad => simp [q, R.val, R.bind] at e
theorem tO_of {f : S → R Rv} {σ : L2.St} {H : Hp} {Q : VK} (h : tO G f σ H Q) : tE G f σ H Q := by
  obtain ⟨C, s, x, s', hH, r, e, k⟩ := h
  refine ⟨C, s, x, s', hH, r, e, fun C' v l r' h' => ?_⟩
  obtain ⟨C2, l2, h2, r2, v2⟩ := opnd_ok r' h'
  rw [← h2]
  exact k C2 v (l.trans l2) r2 v2
end
end Rs
end
section
set_option maxRecDepth 100000
set_option maxHeartbeats 4000000
/-! Operators, comparisons: the model's answer is the interpreter's. -/
namespace Rs
open PySem PySem.Spec PyProof.Rows L2

/-! ### data that is read -/
section
variable {G : Gl} {X : Cx} {pins : List (Addr × Obj)} {σ : L2.St} {H : Hp} {s : Shared} {C : Cf}
theorem KTup.seq {K : PySem.W.Frag} {p : Addr} {ys : List V} (h : KTup K p ys) : SqT K H p ys := .inr h
theorem KLst.seq {K : PySem.W.Frag} {p : Addr} {ys : List V} (h : KLst K p ys) : SqL K H p ys := .inr h
theorem tup_seq {K : PySem.W.Frag} {p : Addr} {ys : List V} (h : (C.fz p ∧ C.H p = some (.tup ys)) ∨ KTup K p ys) : SqT K C.H p ys := h.elim (fun h => .inl (.inl h.2)) KTup.seq
theorem scr_seq {K : PySem.W.Frag} {p : Addr} {ys : List V} (h : (C.fz p ∧ Rd C.H p (.lst ys)) ∨ KLst K p ys) : SqL K C.H p ys := h.elim (fun h => .inl h.2) KLst.seq
def Gl.Sys (G : Gl) : Prop := ∃ o, G.K.lookup sysModules = some o ∧ o.cls = .type "dict"
mutual
theorem VR.reads (I : Inv X pins σ C.H s) (hK : X.K = G.K) (hS : G.Sys) : ∀ (x : Val) (v : V) (u : Value) (d : PyData), VR G C x v → RelV v u → toD x = some d → ∃ as, Reads s.heap u d as ∧ (sysModules ∉ as)
  | .non, _, _, _, h, r, e => by
    unfold VR at h; subst h; cases r; unfold toD at e; cases e
    exact ⟨_, .none, by simp⟩
  | .bl b, _, _, _, h, r, e => by
    unfold VR at h; subst h; cases r; unfold toD at e; cases e
    exact ⟨_, .bool b, by simp⟩
  | .int i, _, _, _, h, r, e => by
    unfold VR at h; subst h; obtain ⟨t, rfl⟩ := r; unfold toD at e; cases e
    exact ⟨_, .int i t, by simp⟩
  | .str x, _, _, _, h, r, e => by
    unfold VR at h; subst h; obtain ⟨t, rfl⟩ := r; unfold toD at e; cases e
    exact ⟨_, .str x t, by simp⟩
  | .lst xs, _, _, d, h, r, e => by
    unfold VR at h
    obtain ⟨p, ys, e1, f, hp, hr⟩ := h
    subst e1; cases r
    unfold toD at e
    cases q : toDs xs with
    | none => simp [q] at e
    | some ds =>
      simp only [q, Option.some.injEq] at e
      subst e
      obtain ⟨its, rv, ⟨o, n, ho, hc, _, hd⟩, _⟩ := I.list (SqL.of hp)
      obtain ⟨as, hr', hs⟩ := VRs.reads I hK hS xs ys its ds hr rv q
      refine ⟨_, .list ho hc hd hr', fun z => ?_⟩
      rcases List.mem_cons.mp z with z | z
      · subst z
        obtain ⟨o', h1, h2⟩ := hS
        have h3 := I.kIn _ _ (by rw [hK]; exact h1)
        rw [ho] at h3; cases h3
        rw [hc] at h2; simp at h2
      · exact hs z
  | .tup xs, _, _, d, h, r, e => by
    unfold VR at h
    obtain ⟨p, ys, e1, f, hr⟩ := h
    subst e1; cases r
    unfold toD at e
    cases q : toDs xs with
    | none => simp [q] at e
    | some ds =>
      simp only [q, Option.some.injEq] at e
      subst e
      obtain ⟨its, rv, ⟨o, ho, hc, n, hd⟩, _⟩ := I.tuple (by rw [hK]; exact tup_seq f)
      obtain ⟨as, hr', hs⟩ := VRs.reads I hK hS xs ys its ds hr rv q
      exact ⟨_, .tuple ho hc hd hr', hs⟩
  | .dct kvs, _, _, d, h, r, e => by
    unfold VR at h
    obtain ⟨p, ks, e1, f, hp, hr⟩ := h
    subst e1; cases r
    unfold toD at e
    cases q : toDk kvs with
    | none => simp [q] at e
    | some ds =>
      simp only [q, Option.some.injEq] at e
      subst e
      obtain ⟨z, hd, vs, rel, o, es, ep, ho, hc, hdt, _, hpr, _⟩ := dk_rd I.hok hp
      obtain ⟨as, bs, h1, h2, h3, h4⟩ := VRk.reads I hK hS kvs ks vs es.toList ds hr rel hpr q
      refine ⟨_, .dict ho hc.1 hdt h1 h2, fun z => ?_⟩
      rcases List.mem_append.mp z with z | z
      · rcases List.mem_cons.mp z with z | z
        · subst z; simp at hd
        · exact h3 z
      · exact h4 z
  | .ref _, _, _, _, _, _, e => by unfold toD at e; cases e
  | .scr _, _, _, _, _, _, e => by unfold toD at e; cases e
  | .bad, _, _, _, _, _, e => by unfold toD at e; cases e
theorem VRs.reads (I : Inv X pins σ C.H s) (hK : X.K = G.K) (hS : G.Sys) : ∀ (xs : List Val) (vs : List V) (us : List Value) (ds : List PyData), VRs G C xs vs → Vals vs us → toDs xs = some ds → ∃ as, ReadsAll s.heap us ds as ∧ sysModules ∉ as
  | [], _, _, _, h, r, e => by
    unfold VRs at h; subst h; cases r; unfold toDs at e; cases e
    exact ⟨_, .nil, by simp⟩
  | x :: xs, _, _, ds, h, r, e => by
    unfold VRs at h
    obtain ⟨y, r', e1, a, b⟩ := h
    subst e1
    cases r with
    | cons r1 r2 =>
      unfold toDs at e
      cases q : toD x with
      | none => simp [q] at e
      | some d =>
        cases q2 : toDs xs with
        | none => simp [q, q2] at e
        | some ds =>
          simp only [q, q2, Option.some.injEq] at e
          subst e
          obtain ⟨as, k1, n1⟩ := VR.reads I hK hS x _ _ d a r1 q
          obtain ⟨bs, k2, n2⟩ := VRs.reads I hK hS xs _ _ ds b r2 q2
          exact ⟨_, .cons k1 k2, fun z => (List.mem_append.mp z).elim n1 n2⟩
theorem VRk.reads (I : Inv X pins σ C.H s) (hK : X.K = G.K) (hS : G.Sys) : ∀ (xs : List (Key × Val)) (ks : List (Key × V)) (vs : List (Key × Value)) (es : List DictEntry) (ds : List (PyData × PyData)), VRk G C xs ks → KV ks vs → Pairs (mixKind X.prog X.w) es vs → toDk xs = some ds →
    ∃ as bs, ReadsAll s.heap (es.map (·.key)) (ds.map (·.1)) as ∧ ReadsAll s.heap (es.map (·.val)) (ds.map (·.2)) bs ∧ sysModules ∉ as ∧ sysModules ∉ bs
  | [], _, _, _, _, h, r, p, e => by
    unfold VRk at h; subst h; cases r; cases p; unfold toDk at e; cases e
    exact ⟨_, _, .nil, .nil, by simp, by simp⟩
  | (k, x) :: xs, _, _, _, ds, h, r, p, e => by
    unfold VRk at h
    obtain ⟨y, r', e1, a, b⟩ := h
    subst e1
    cases r with
    | cons r1 r2 =>
      cases p with
      | cons p1 p2 p3 =>
        unfold toDk at e
        cases q : toD x with
        | none => simp [q] at e
        | some d =>
          cases q2 : toDk xs with
          | none => simp [q, q2] at e
          | some ds =>
            simp only [q, q2, Option.some.injEq] at e
            subst e
            obtain ⟨rk, rv⟩ := r1
            obtain ⟨bs, k1, n1⟩ := VR.reads I hK hS x _ _ d a rv q
            obtain ⟨as2, bs2, k2, k3, n2, n3⟩ := VRk.reads I hK hS xs _ _ _ ds b r2 p3 q2
            rw [← p2] at k1
            rw [← rk, mixKind_is] at p1
            rcases keyIs_shape p1 with ⟨i, t, rfl, e⟩ | ⟨z, t, rfl, e⟩
            · exact ⟨_, _, .cons (as := []) (by show Reads _ (DictEntry.key _) (.int i) []; rw [e]; exact .int i t) k2, .cons k1 k3, by simpa using n2, fun z => (List.mem_append.mp z).elim n1 n3⟩
            · exact ⟨_, _, .cons (as := []) (by show Reads _ (DictEntry.key _) (.str _) []; rw [e]; exact .str _ t) k2, .cons k1 k3, by simpa using n2, fun z => (List.mem_append.mp z).elim n1 n3⟩
end
theorem NR.reads (I : Inv X pins σ C.H s) (hK : X.K = G.K) (hS : G.Sys) {x : Val} {v : V} {u : Value} {d : PyData} (h : NR G C x v) (r : RelV v u) (e : toD x = some d) : ∃ as, Reads s.heap u d as ∧ (sysModules ∉ as) := by
  cases x with
  | lst xs =>
    obtain ⟨p, ys, e1, hp, hr⟩ := h
    subst e1; cases r
    unfold toD at e
    cases q : toDs xs with
    | none => simp [q] at e
    | some ds =>
      simp only [q, Option.some.injEq] at e
      subst e
      obtain ⟨its, rv, ⟨o, n, ho, hc, _, hd⟩, _⟩ := I.list (SqL.of hp)
      obtain ⟨as, hr', hs⟩ := VRs.reads I hK hS xs ys its ds hr rv q
      refine ⟨_, .list ho hc hd hr', fun z => ?_⟩
      rcases List.mem_cons.mp z with z | z
      · subst z
        obtain ⟨o', h1, h2⟩ := hS
        have h3 := I.kIn _ _ (by rw [hK]; exact h1)
        rw [ho] at h3; cases h3
        rw [hc] at h2; simp at h2
      · exact hs z
  | dct kvs =>
    obtain ⟨p, ks, e1, hp, hr⟩ := h
    subst e1; cases r
    unfold toD at e
    cases q : toDk kvs with
    | none => simp [q] at e
    | some ds =>
      simp only [q, Option.some.injEq] at e
      subst e
      obtain ⟨z, hd, vs, rel, o, es, ep, ho, hc, hdt, _, hpr, _⟩ := dk_rd I.hok hp
      obtain ⟨as, bs, h1, h2, h3, h4⟩ := VRk.reads I hK hS kvs ks vs es.toList ds hr rel hpr q
      refine ⟨_, .dict ho hc.1 hdt h1 h2, fun z => ?_⟩
      rcases List.mem_append.mp z with z | z
      · rcases List.mem_cons.mp z with z | z
        · subst z; simp at hd
        · exact h3 z
      · exact h4 z
  | _ => exact VR.reads I hK hS _ v u d h r e
end

/-! ### operators -/
theorem OpR.any {X : Cx} {f : Value → Value → Sem Value} : OpR X f (fun x y H Q => ∃ r : R2, OpR X f r ∧ r x y H Q) := fun pins s σ H x y v u Q I rx ry ⟨r, h, q⟩ => h pins s σ H x y v u Q I rx ry q
/-- what an operator gives -/
def OpI (G : Gl) (X : Cx) (f : Value → Value → Sem Value) (g : Val → Val → Option Rv) : Prop :=
  ∀ (C : Cf) (s : S) (σ : L2.St) (x y : Val) (v w : V) (r : Rv) (Q : VK), Rel G C s σ → NR G C x v → NR G C y w → g x y = some r → (∀ C' z, Le C C' → Rel G C' s σ → RvR G C' s σ r z → Q z C'.H) → ∃ r2 : R2, OpR X f r2 ∧ r2 v w C.H Q
section
variable {G : Gl} {X : Cx} {C : Cf} {s : S} {σ : L2.St} {Q : VK}
theorem NR.int {i : Int} {v : V} (h : NR G C (.int i) v) : v = .int i := by unfold NR at h; unfold VR at h; exact h
theorem NR.str {i : Str} {v : V} (h : NR G C (.str i) v) : v = .str i := by unfold NR at h; unfold VR at h; exact h
theorem NR.bl {i : Bool} {v : V} (h : NR G C (.bl i) v) : v = .bl i := by unfold NR at h; unfold VR at h; exact h
theorem NR.non {v : V} (h : NR G C .non v) : v = .non := by unfold NR at h; unfold VR at h; exact h
theorem NR.tup {xs : List Val} {v : V} (h : NR G C (.tup xs) v) : ∃ p ys, v = .ref p ∧ SqT G.K C.H p ys ∧ VRs G C xs ys := by
  unfold NR at h; unfold VR at h
  obtain ⟨p, ys, e, f, r⟩ := h
  exact ⟨p, ys, e, tup_seq f, r⟩
theorem NR.scr {ns : List Int} {v : V} (h : NR G C (.scr ns) v) : ∃ p, v = .ref p ∧ SqL G.K C.H p (ns.map V.int) := by
  unfold NR at h; unfold VR at h
  obtain ⟨p, e, f⟩ := h
  exact ⟨p, e, scr_seq f⟩
theorem out_v (r : Rel G C s σ) {x : Val} {v : V} (hx : VR G C x v) (k : ∀ C' z, Le C C' → Rel G C' s σ → RvR G C' s σ (.v x) z → Q z C'.H) : Q v C.H := k C v (.refl C) r hx
theorem VR.int {i : Int} : VR G C (.int i) (.int i) := by unfold VR; rfl
theorem VR.str {i : Str} : VR G C (.str i) (.str i) := by unfold VR; rfl
theorem VR.bl {i : Bool} : VR G C (.bl i) (.bl i) := by unfold VR; rfl
theorem VR.non : VR G C .non .non := by unfold VR; rfl
/-- a new list -/
theorem out_l (r : Rel G C s σ) {xs : List Val} {ys : List V} (h : VRs G C xs ys) {p : Addr} (n : C.H p = none) (k : ∀ C' z, Le C C' → Rel G C' s σ → RvR G C' s σ (.f (.lst xs false)) z → Q z C'.H) : Q (.ref p) (upd C.H p (.lst ys)) :=
  k (C.new p (.lst ys)) (.ref p) (Le.new n) (r.new n) ⟨p, rfl, ⟨ys, upd_same, h.mono (Le.new n)⟩, ⟨(r.fresh n).fz, (r.fresh n).kp, (r.fresh n).ρ, (r.fresh n).rs⟩, rfl, fun i c h z => own_tr r h z n⟩
theorem out_d (r : Rel G C s σ) {xs : List (Key × Val)} {ys : List (Key × V)} (h : VRk G C xs ys) {p : Addr} (n : C.H p = none) (k : ∀ C' z, Le C C' → Rel G C' s σ → RvR G C' s σ (.f (.dct xs false)) z → Q z C'.H) : Q (.ref p) (upd C.H p (.dK ys)) :=
  k (C.new p (.dK ys)) (.ref p) (Le.new n) (r.new n) ⟨p, rfl, ⟨ys, upd_same, h.mono (Le.new n)⟩, ⟨(r.fresh n).fz, (r.fresh n).kp, (r.fresh n).ρ, (r.fresh n).rs⟩, rfl, fun i c h z => own_tr r h z n⟩
/-- a new tuple -/
theorem out_t (r : Rel G C s σ) {xs : List Val} {ys : List V} (h : VRs G C xs ys) {p : Addr} (n : C.H p = none) (k : ∀ C' z, Le C C' → Rel G C' s σ → RvR G C' s σ (.v (.tup xs)) z → Q z C'.H) : Q (.ref p) (upd C.H p (.tup ys)) := by
  have r1 := r.new (o := .tup ys) n
  have f := r.fresh n
  refine k ((C.new p (.tup ys)).ice p) (.ref p) ((Le.new n).trans .ice) (r1.ice ⟨f.fz, f.kp, f.ρ, f.rs⟩ (by show upd _ _ _ _ ≠ none; rw [upd_same]; simp) fun i c h z => own_tr r h z n) ?_
  show VR G _ (.tup xs) _
  unfold VR
  exact ⟨p, ys, rfl, .inl ⟨.inr rfl, upd_same⟩, h.mono ((Le.new n).trans .ice)⟩
theorem okMul_c {i j : Int} (h : okMul i j = true) : CMul i j := by
  unfold okMul at h
  simp only [Bool.or_eq_true, Bool.and_eq_true, decide_eq_true_eq] at h
  exact h
theorem bin_ok (hK : X.K = G.K) : ∀ op : Bop, OpI G X (binaryOp (match op with | .add => .Add | .sub => .Sub | .mul => .Mult | .fdiv => .FloorDiv | .mod => .Mod | .pow => .Pow)) (binop op)
  | .add => by
    intro C s σ x y v w r Q rl hx hy e k
    unfold binop at e
    split at e
    all_goals try (simp only [reduceCtorEq] at *; done)
    all_goals try contradiction
    · cases e
      cases hx.int; cases hy.int
      exact ⟨_, op_add, _, _, rfl, rfl, out_v rl .int k⟩
    · split at e
      · cases e
        rename_i hl
        cases hx.str; cases hy.str
        exact ⟨_, op_add_str, _, _, rfl, rfl, hl, out_v rl .str k⟩
      · cases e
    · split at e
      · cases e
        rename_i hl
        obtain ⟨p, ys, rfl, hp, hr⟩ := hx
        obtain ⟨q, zs, rfl, hq, hr2⟩ := hy
        exact ⟨_, op_cat, p, q, ys, zs, rfl, rfl, hp, hq, by rw [← hr.length, ← hr2.length]; exact hl, fun l hn => out_l rl (hr.append hr2) hn k⟩
      · cases e
    · split at e
      · cases e
        rename_i hl
        obtain ⟨p, ys, rfl, hp, hr⟩ := hx.tup
        obtain ⟨q, zs, rfl, hq, hr2⟩ := hy.tup
        refine ⟨_, op_catA, p, q, ys, zs, rfl, rfl, by rw [hK]; exact hp, by rw [hK]; exact hq, by rw [← hr.length, ← hr2.length]; exact hl, ?_⟩
        refine ⟨fun z => ?_, fun _ z => ?_, fun _ _ l hn => out_t rl (hr.append hr2) hn k⟩
        · subst z
          have e1 := List.eq_nil_of_length_eq_zero (by rw [hr.length]; rfl)
          subst e1
          exact out_v rl (show VR G C (.tup ([] ++ _)) _ by rw [List.nil_append]; exact hy) k
        · subst z
          have e1 := List.eq_nil_of_length_eq_zero (by rw [hr2.length]; rfl)
          subst e1
          exact out_v rl (show VR G C (.tup (_ ++ [])) _ by rw [List.append_nil]; exact hx) k
      · cases e
  | .sub => by
    intro C s σ x y v w r Q rl hx hy e k
    unfold binop at e
    split at e
    all_goals try contradiction
    cases e
    cases hx.int; cases hy.int
    exact ⟨_, op_sub, _, _, rfl, rfl, out_v rl .int k⟩
  | .mul => by
    intro C s σ x y v w r Q rl hx hy e k
    unfold binop at e
    split at e
    all_goals try contradiction
    · split at e
      · cases e
        rename_i hl
        cases hx.int; cases hy.int
        exact ⟨_, op_mul, _, _, rfl, rfl, okMul_c hl, out_v rl .int k⟩
      · cases e
    · split at e
      · cases e
        rename_i hl
        obtain ⟨p, ys, rfl, hp, hr⟩ := hx
        cases hy.int
        exact ⟨_, op_rep, p, _, ys, rfl, rfl, hp, hl.1, hl.2.1, by rw [← hr.length]; exact hl.2.2, fun l hn => out_l rl (hr.rep _) hn k⟩
      · cases e
  | .fdiv => by
    intro C s σ x y v w r Q rl hx hy e k
    unfold binop at e
    split at e
    all_goals try contradiction
    split at e
    · cases e
      rename_i hl
      cases hx.int; cases hy.int
      exact ⟨_, op_fdiv, _, _, rfl, rfl, hl, out_v rl .int k⟩
    · cases e
  | .mod => by
    intro C s σ x y v w r Q rl hx hy e k
    unfold binop at e
    split at e
    all_goals try contradiction
    split at e
    · cases e
      rename_i hl
      cases hx.int; cases hy.int
      exact ⟨_, op_mod, _, _, rfl, rfl, hl, out_v rl .int k⟩
    · cases e
  | .pow => by
    intro C s σ x y v w r Q rl hx hy e k
    unfold binop at e
    split at e
    all_goals try contradiction
    split at e
    · cases e
      rename_i hl
      cases hx.int; cases hy.int
      exact ⟨_, op_pow, _, _, rfl, rfl, hl, out_v rl .int k⟩
    · cases e
end

/-! ### comparisons -/
section
variable {G : Gl} {X : Cx} {k : Nat}
/-- two values that read as data -/
def rD2 (G : Gl) (ok : PyData → PyData → Bool) (g : PyData → PyData → Bool) : R2 := fun x y H Q => ∃ C a b d e, C.H = H ∧ NR G C a x ∧ NR G C b y ∧ toD a = some d ∧ toD b = some e ∧ ok d e = true ∧ Q (.bl (g d e)) H
theorem okD_iff {d : PyData} (h : okD d = true) : d.plain = true ∧ d.depth ≤ 60 := by
  unfold okD at h
  simpa using h
theorem opD2 (hK : X.K = G.K) (hS : G.Sys) {f : Value → Value → Sem Value} {ok g : PyData → PyData → Bool}
    (rule : ∀ (s : Shared) (u v : Value) (d e : PyData) (as bs : List Addr) (Q : Value → Shared → Prop), Reads s.heap u d as → Reads s.heap v e bs → ok d e = true → Q (.bool (g d e)) s → wpAny (model X.prog X.w) X.A (f u v) Q X.xe s) : OpR X f (rD2 G ok g) := by
  intro pins s σ H x y v u Q I rx ry h
  obtain ⟨C, a, b, d, e, rfl, ha, hb, ed, ee, hok, q⟩ := h
  obtain ⟨as, r1, _⟩ := NR.reads I hK hS ha rx ed
  obtain ⟨bs, r2, _⟩ := NR.reads I hK hS hb ry ee
  exact rule s v u d e as bs _ r1 r2 hok ⟨.bl _, C.H, I, rfl, q⟩
def okEq (d e : PyData) : Bool := okD d && okD e
def okLt (d e : PyData) : Bool := PySem.W.alike d e && (okD d && notNone d)
theorem notNone_ne {d : PyData} (h : notNone d = true) : d ≠ .none := by
  intro z; subst z; simp [notNone] at h
theorem min60 {a b : Nat} (h : a ≤ 60) : min a b ≤ 60 := Nat.le_trans (Nat.min_le_left _ _) h
theorem opEqD (hK : X.K = G.K) (hS : G.Sys) (hR : Room k X.A) : OpR X (compareOp .Eq) (rD2 G okEq PyData.eqv) := opD2 hK hS fun s u v d e as bs Q r1 r2 ok q => by
  unfold okEq at ok
  simp only [Bool.and_eq_true] at ok
  have h1 := okD_iff ok.1
  have h2 := hR.units
  have h3 := min60 (b := e.depth) h1.2
  exact PySem.SeqAt.eq_plain r1 r2 h1.1 (okD_iff ok.2).1 (by omega) q
theorem opNeD (hK : X.K = G.K) (hS : G.Sys) (hR : Room k X.A) : OpR X (compareOp .NotEq) (rD2 G okEq fun d e => !PyData.eqv d e) := opD2 hK hS fun s u v d e as bs Q r1 r2 ok q => by
  unfold okEq at ok
  simp only [Bool.and_eq_true] at ok
  have h1 := okD_iff ok.1
  have h2 := hR.units
  have h3 := min60 (b := e.depth) h1.2
  exact PySem.SeqAt.ne_plain r1 r2 h1.1 (okD_iff ok.2).1 (by omega) q
theorem okLt_iff {d e : PyData} (h : okLt d e = true) : PySem.W.alike d e = true ∧ d ≠ .none ∧ d.depth ≤ 60 := by
  unfold okLt at h
  simp only [Bool.and_eq_true] at h
  exact ⟨h.1, notNone_ne h.2.2, (okD_iff h.2.1).2⟩
theorem opLtD (hK : X.K = G.K) (hS : G.Sys) (hR : Room k X.A) : OpR X (compareOp .Lt) (rD2 G okLt PySem.W.dataLt) := opD2 hK hS fun s u v d e as bs Q r1 r2 ok q => by
  obtain ⟨a, b, c⟩ := okLt_iff ok
  have h2 := hR.units
  have h3 := min60 (b := e.depth) c
  exact PySem.W.lt_data r1 r2 a b (by omega) q
theorem okLt_swap {d e : PyData} (h : okLt e d = true) : PySem.W.alike d e = true ∧ d ≠ .none ∧ min d.depth e.depth ≤ 60 := by
  obtain ⟨a, b, c⟩ := okLt_iff h
  exact ⟨by rw [PySem.W.alike_comm]; exact a, PySem.W.ne_none_both a b, Nat.le_trans (Nat.min_le_right _ _) c⟩
theorem opGtD (hK : X.K = G.K) (hS : G.Sys) (hR : Room k X.A) : OpR X (compareOp .Gt) (rD2 G (fun d e => okLt e d) fun d e => PySem.W.dataLt e d) := opD2 hK hS fun s u v d e as bs Q r1 r2 ok q => by
  obtain ⟨a, b, c⟩ := okLt_swap ok
  have h2 := hR.units
  exact PySem.W.gt_data r1 r2 a b (by omega) q
theorem opLeD (hK : X.K = G.K) (hS : G.Sys) (hR : Room k X.A) : OpR X (compareOp .LtE) (rD2 G (fun d e => okLt e d) fun d e => !PySem.W.dataLt e d) := opD2 hK hS fun s u v d e as bs Q r1 r2 ok q => by
  obtain ⟨a, b, c⟩ := okLt_swap ok
  have h2 := hR.units
  exact PySem.W.le_data r1 r2 a b (by omega) q
theorem opGeD (hK : X.K = G.K) (hS : G.Sys) (hR : Room k X.A) : OpR X (compareOp .GtE) (rD2 G okLt fun d e => !PySem.W.dataLt d e) := opD2 hK hS fun s u v d e as bs Q r1 r2 ok q => by
  obtain ⟨a, b, c⟩ := okLt_iff ok
  have h2 := hR.units
  have h3 := min60 (b := e.depth) c
  exact PySem.W.ge_data r1 r2 a b (by omega) q
def CmpI (G : Gl) (X : Cx) (f : Value → Value → Sem Value) (g : Val → Val → Option Bool) : Prop :=
  ∀ (C : Cf) (x y : Val) (v w : V) (b : Bool) (Q : VK), NR G C x v → NR G C y w → g x y = some b → Q (.bl b) C.H → ∃ r2 : R2, OpR X f r2 ∧ r2 v w C.H Q
theorem veq_some {x y : Val} {b : Bool} (h : veq x y = some b) : ∃ d e, toD x = some d ∧ toD y = some e ∧ okEq d e = true ∧ PyData.eqv d e = b := by
  unfold veq at h
  split at h
  · split at h
    · rename_i d e h1 h2 h3
      exact ⟨d, e, h1, h2, h3, Option.some.inj h⟩
    · cases h
  · cases h
theorem eq_ok0 (hK : X.K = G.K) (hS : G.Sys) (hR : Room k X.A) : CmpI G X (compareOp .Eq) veq := fun C x y v w b Q hx hy e q => by
  obtain ⟨d, d', h1, h2, h3, rfl⟩ := veq_some e
  exact ⟨_, opEqD hK hS hR, C, x, y, d, d', rfl, hx, hy, h1, h2, h3, q⟩
theorem ne_ok0 (hK : X.K = G.K) (hS : G.Sys) (hR : Room k X.A) : CmpI G X (compareOp .NotEq) (fun a b => (veq a b).map (!·)) := fun C x y v w b Q hx hy e q => by
  obtain ⟨b', e2, rfl⟩ := Option.map_eq_some_iff.mp e
  clear e
  have e := e2
  clear e2
  obtain ⟨d, d', h1, h2, h3, rfl⟩ := veq_some e
  exact ⟨_, opNeD hK hS hR, C, x, y, d, d', rfl, hx, hy, h1, h2, h3, q⟩
theorem vlt_some {x y : Val} {b : Bool} (h : vlt x y = some b) : (∃ i j, x = .int i ∧ y = .int j ∧ b = decide (i < j)) ∨ ∃ d e, toD x = some d ∧ toD y = some e ∧ okLt d e = true ∧ PySem.W.dataLt d e = b := by
  unfold vlt at h
  split at h
  · exact .inl ⟨_, _, rfl, rfl, (Option.some.inj h).symm⟩
  · split at h
    · split at h
      · rename_i d e h1 h2 h3
        exact .inr ⟨d, e, h1, h2, h3, Option.some.inj h⟩
      · cases h
    · cases h
theorem lt_ok (hK : X.K = G.K) (hS : G.Sys) (hR : Room k X.A) : CmpI G X (compareOp .Lt) vlt := fun C x y v w b Q hx hy e q => by
  rcases vlt_some e with ⟨i, j, rfl, rfl, rfl⟩ | ⟨d, d', h1, h2, h3, rfl⟩
  · cases hx.int; cases hy.int
    exact ⟨_, op_lt, _, _, rfl, rfl, q⟩
  · exact ⟨_, opLtD hK hS hR, C, x, y, d, d', rfl, hx, hy, h1, h2, h3, q⟩
theorem gt_ok (hK : X.K = G.K) (hS : G.Sys) (hR : Room k X.A) : CmpI G X (compareOp .Gt) (fun a b => vlt b a) := fun C x y v w b Q hx hy e q => by
  rcases vlt_some e with ⟨i, j, rfl, rfl, rfl⟩ | ⟨d, d', h1, h2, h3, rfl⟩
  · cases hx.int; cases hy.int
    exact ⟨_, op_gt, _, _, rfl, rfl, q⟩
  · exact ⟨_, opGtD hK hS hR, C, x, y, d', d, rfl, hx, hy, h2, h1, h3, q⟩
theorem le_flip {i j : Int} : (!decide (j < i)) = decide (i ≤ j) := by
  by_cases h : i ≤ j
  · rw [decide_eq_true h, decide_eq_false (by omega)]; rfl
  · rw [decide_eq_false h, decide_eq_true (by omega)]; rfl
theorem le_ok (hK : X.K = G.K) (hS : G.Sys) (hR : Room k X.A) : CmpI G X (compareOp .LtE) (fun a b => (vlt b a).map (!·)) := fun C x y v w b Q hx hy e q => by
  obtain ⟨b', e2, rfl⟩ := Option.map_eq_some_iff.mp e
  clear e
  have e := e2
  clear e2
  rcases vlt_some e with ⟨i, j, rfl, rfl, rfl⟩ | ⟨d, d', h1, h2, h3, rfl⟩
  · cases hx.int; cases hy.int
    rw [le_flip] at q
    exact ⟨_, op_le, _, _, rfl, rfl, q⟩
  · exact ⟨_, opLeD hK hS hR, C, x, y, d', d, rfl, hx, hy, h2, h1, h3, q⟩
theorem ge_ok (hK : X.K = G.K) (hS : G.Sys) (hR : Room k X.A) : CmpI G X (compareOp .GtE) (fun a b => (vlt a b).map (!·)) := fun C x y v w b Q hx hy e q => by
  obtain ⟨b', e2, rfl⟩ := Option.map_eq_some_iff.mp e
  clear e
  have e := e2
  clear e2
  rcases vlt_some e with ⟨i, j, rfl, rfl, rfl⟩ | ⟨d, d', h1, h2, h3, rfl⟩
  · cases hx.int; cases hy.int
    rw [le_flip] at q
    exact ⟨_, op_ge, _, _, rfl, rfl, q⟩
  · exact ⟨_, opGeD hK hS hR, C, x, y, d, d', rfl, hx, hy, h1, h2, h3, q⟩
/-! ### in -/
def rInI (G : Gl) (neg : Bool) : R2 := fun x y H Q => ∃ C a ys d ds b, C.H = H ∧ NR G C a x ∧ (NR G C (.lst ys) y ∨ NR G C (.tup ys) y) ∧ toD a = some d ∧ toDs ys = some ds ∧ okD d = true ∧ PyData.plainAll ds = true ∧ PyData.depthAll ds ≤ 60 ∧ b = (ds.any fun z => PyData.eqv z d) ∧ Q (.bl (if neg then !b else b)) H
theorem opInI (hK : X.K = G.K) (hS : G.Sys) (hR : Room k X.A) : OpR X (compareOp .In) (rInI G false) := by
  intro pins s σ H x y v u Q I rx ry h
  obtain ⟨C, a, ys, d, ds, b, rfl, ha, hy, ed, es, h1, h2, h3, rfl, q⟩ := h
  have h4 := okD_iff h1
  have h5 := hR.units
  have h6 := min60 (b := d.depth) h3
  obtain ⟨as, r1, _⟩ := NR.reads I hK hS ha rx ed
  rcases hy with hy | hy
  · obtain ⟨bs, r2, _⟩ := NR.reads I hK hS (d := .list ds) hy ry (by unfold toD; rw [es])
    exact PySem.SeqAt.in_list_data r2 r1 h2 h4.1 (by omega) ⟨.bl _, C.H, I, rfl, q⟩
  · obtain ⟨bs, r2, _⟩ := NR.reads I hK hS (d := .tuple ds) hy ry (by unfold toD; rw [es])
    exact PySem.SeqAt.in_tuple_data r2 r1 h2 h4.1 (by omega) ⟨.bl _, C.H, I, rfl, q⟩
theorem opNotInI (hK : X.K = G.K) (hS : G.Sys) (hR : Room k X.A) : OpR X (compareOp .NotIn) (rInI G true) := by
  intro pins s σ H x y v u Q I rx ry h
  obtain ⟨C, a, ys, d, ds, b, rfl, ha, hy, ed, es, h1, h2, h3, rfl, q⟩ := h
  have h4 := okD_iff h1
  have h5 := hR.units
  have h6 := min60 (b := d.depth) h3
  obtain ⟨as, r1, _⟩ := NR.reads I hK hS ha rx ed
  rcases hy with hy | hy
  · obtain ⟨bs, r2, _⟩ := NR.reads I hK hS (d := .list ds) hy ry (by unfold toD; rw [es])
    exact PySem.SeqAt.notIn_list_data r2 r1 h2 h4.1 (by omega) ⟨.bl _, C.H, I, rfl, q⟩
  · obtain ⟨bs, r2, _⟩ := NR.reads I hK hS (d := .tuple ds) hy ry (by unfold toD; rw [es])
    exact PySem.SeqAt.notIn_tuple_data r2 r1 h2 h4.1 (by omega) ⟨.bl _, C.H, I, rfl, q⟩
theorem opInDict (hR : Room k X.A) : OpR X (compareOp .In) (fun x y H Q => ∃ a o, y = .ref a ∧ DGet H a x o ∧ Q (.bl o.isSome) H) := by
  intro pins s σ H x y v u Q I rx ry h
  obtain ⟨a, o, rfl, g, q⟩ := h
  cases ry
  have h5 := hR.units
  exact d_in (by omega) I g rx fun s' I' => ⟨.bl _, H, I', rfl, q⟩
theorem opNotInDict (hR : Room k X.A) : OpR X (compareOp .NotIn) (fun x y H Q => ∃ a o, y = .ref a ∧ DGet H a x o ∧ Q (.bl (!o.isSome)) H) := by
  intro pins s σ H x y v u Q I rx ry h
  obtain ⟨a, o, rfl, g, q⟩ := h
  cases ry
  have h5 := hR.units
  exact d_notIn (by omega) I g rx fun s' I' => ⟨.bl _, H, I', rfl, q⟩
theorem keyV_ok {C : Cf} {x : Val} {v : V} {kk : Key} (h : NR G C x v) (e : keyV x = some kk) : v = kV kk := by
  unfold keyV at e
  split at e
  · cases e; exact h.int
  · cases e; exact h.str
  · cases e
theorem VRk.get {C : Cf} {kk : Key} : ∀ {kvs : List (Key × Val)} {ks : List (Key × V)}, VRk G C kvs ks → (match dget kvs kk with | some x => ∃ v, valV ks kk = some v ∧ VR G C x v | none => valV ks kk = none)
  | [], ks, h => by unfold VRk at h; subst h; rfl
  | (j, x) :: r, ks, h => by
    unfold VRk at h
    obtain ⟨y, r', e, a, b⟩ := h
    subst e
    by_cases hj : j = kk
    · subst hj
      have h1 : dget ((j, x) :: r) j = some x := by simp [dget]
      rw [h1]
      exact ⟨y, valV_pos rfl, a⟩
    · have h1 : dget ((j, x) :: r) kk = dget r kk := by simp [dget, hj]
      rw [h1, valV_neg hj]
      exact VRk.get b
theorem VRk.isSome {C : Cf} {kk : Key} {kvs : List (Key × Val)} {ks : List (Key × V)} (h : VRk G C kvs ks) : (valV ks kk).isSome = (dget kvs kk).isSome := by
  have h1 := h.get (kk := kk)
  cases e : dget kvs kk with
  | none => rw [e] at h1; rw [h1]; rfl
  | some x => rw [e] at h1; obtain ⟨v, h2, _⟩ := h1; rw [h2]; rfl
theorem vin_ok (hK : X.K = G.K) (hS : G.Sys) (hR : Room k X.A) : CmpI G X (compareOp .In) vin := fun C x y v w b Q hx hy e q => by
  unfold vin at e
  split at e
  · rename_i ys
    split at e
    · split at e
      · rename_i d ds h1 h2 h3
        simp only [Bool.and_eq_true, decide_eq_true_eq] at h3
        cases e
        exact ⟨_, opInI hK hS hR, C, x, ys, d, ds, _, rfl, hx, .inl hy, h1, h2, h3.1, h3.2.1, h3.2.2, rfl, q⟩
      · cases e
    · cases e
  · rename_i ys
    split at e
    · split at e
      · rename_i d ds h1 h2 h3
        simp only [Bool.and_eq_true, decide_eq_true_eq] at h3
        cases e
        exact ⟨_, opInI hK hS hR, C, x, ys, d, ds, _, rfl, hx, .inr hy, h1, h2, h3.1, h3.2.1, h3.2.2, rfl, q⟩
      · cases e
    · cases e
  · rename_i kvs
    split at e
    · rename_i kk h1
      cases e
      obtain ⟨p, ks, rfl, hp, hr⟩ := hy
      cases keyV_ok hx h1
      exact ⟨_, opInDict hR, p, valV ks kk, rfl, .inl ⟨ks, kk, hp, rfl, rfl⟩, by rw [hr.isSome]; exact q⟩
    · cases e
  · split at e
    · cases e
      cases hx.str; cases hy.str
      exact ⟨_, op_in_str, _, _, rfl, rfl, q⟩
    · cases e
  · cases e
theorem vnin_ok (hK : X.K = G.K) (hS : G.Sys) (hR : Room k X.A) : CmpI G X (compareOp .NotIn) (fun a b => (vin a b).map (!·)) := fun C x y v w b Q hx hy e q => by
  obtain ⟨b', e2, rfl⟩ := Option.map_eq_some_iff.mp e
  clear e
  have e := e2
  clear e2
  unfold vin at e
  split at e
  · rename_i ys
    split at e
    · split at e
      · rename_i d ds h1 h2 h3
        simp only [Bool.and_eq_true, decide_eq_true_eq] at h3
        cases e
        exact ⟨_, opNotInI hK hS hR, C, x, ys, d, ds, _, rfl, hx, .inl hy, h1, h2, h3.1, h3.2.1, h3.2.2, rfl, q⟩
      · cases e
    · cases e
  · rename_i ys
    split at e
    · split at e
      · rename_i d ds h1 h2 h3
        simp only [Bool.and_eq_true, decide_eq_true_eq] at h3
        cases e
        exact ⟨_, opNotInI hK hS hR, C, x, ys, d, ds, _, rfl, hx, .inr hy, h1, h2, h3.1, h3.2.1, h3.2.2, rfl, q⟩
      · cases e
    · cases e
  · rename_i kvs
    split at e
    · rename_i kk h1
      cases e
      obtain ⟨p, ks, rfl, hp, hr⟩ := hy
      cases keyV_ok hx h1
      exact ⟨_, opNotInDict hR, p, valV ks kk, rfl, .inl ⟨ks, kk, hp, rfl, rfl⟩, by rw [hr.isSome]; exact q⟩
    · cases e
  · split at e
    · cases e
      cases hx.str; cases hy.str
      exact ⟨_, op_notin_str, _, _, rfl, rfl, q⟩
    · cases e
  · cases e
theorem is_ok : CmpI G X (compareOp .Is) vis := fun C x y v w b Q hx hy e q => by
  unfold vis at e
  split at e
  · have hw := hy.non
    subst hw
    refine ⟨_, op_isN, rfl, ?_⟩
    have : decide (v = .non) = b := by
      split at e
      · cases e; exact decide_eq_true hx.non
      · cases e
      · rename_i n1 n2
        cases e
        refine decide_eq_false fun z => ?_
        subst z
        cases x with
        | non => exact n1 rfl
        | bad => exact n2 rfl
        | lst xs => obtain ⟨p, ys, e, _⟩ := hx; cases e
        | dct xs => obtain ⟨p, ys, e, _⟩ := hx; cases e
        | tup xs => obtain ⟨p, ys, e, _⟩ := hx.tup; cases e
        | scr xs => obtain ⟨p, e, _⟩ := hx.scr; cases e
        | int i => cases hx.int
        | bl i => cases hx.bl
        | str i => cases hx.str
        | ref i => unfold NR at hx; unfold VR at hx; obtain ⟨p, _, e⟩ := hx; cases e
    rw [this]
    exact q
  · split at e
    · cases e
      cases hx.bl; cases hy.bl
      refine ⟨_, op_isBl, _, _, rfl, rfl, ?_⟩
      rw [← dec_bl] at q
      simpa using q
    · cases e
  · cases e
theorem isnot_ok : CmpI G X (compareOp .IsNot) (fun a b => (vis a b).map (!·)) := fun C x y v w b Q hx hy e q => by
  obtain ⟨b', e2, rfl⟩ := Option.map_eq_some_iff.mp e
  clear e
  have e := e2
  clear e2
  unfold vis at e
  split at e
  · have hw := hy.non
    subst hw
    refine ⟨_, op_notN, rfl, ?_⟩
    have : decide (v = .non) = b' := by
      split at e
      · cases e; exact decide_eq_true hx.non
      · cases e
      · rename_i n1 n2
        cases e
        refine decide_eq_false fun z => ?_
        subst z
        cases x with
        | non => exact n1 rfl
        | bad => exact n2 rfl
        | lst xs => obtain ⟨p, ys, e, _⟩ := hx; cases e
        | dct xs => obtain ⟨p, ys, e, _⟩ := hx; cases e
        | tup xs => obtain ⟨p, ys, e, _⟩ := hx.tup; cases e
        | scr xs => obtain ⟨p, e, _⟩ := hx.scr; cases e
        | int i => cases hx.int
        | bl i => cases hx.bl
        | str i => cases hx.str
        | ref i => unfold NR at hx; unfold VR at hx; obtain ⟨p, _, e⟩ := hx; cases e
    rw [this]
    exact q
  · split at e
    · cases e
      cases hx.bl; cases hy.bl
      refine ⟨_, op_notBl, _, _, rfl, rfl, ?_⟩
      rw [← dec_bl] at q
      simpa using q
    · cases e
  · cases e
def cop : Cop → CmpOp
  | .eq => .Eq | .ne => .NotEq | .lt => .Lt | .le => .LtE | .gt => .Gt | .ge => .GtE | .isin => .In | .notin => .NotIn | .is_ => .Is | .isnot => .IsNot
def bop : Bop → Operator
  | .add => .Add | .sub => .Sub | .mul => .Mult | .fdiv => .FloorDiv | .mod => .Mod | .pow => .Pow
section
variable {G : Gl} {X : Cx} {k : Nat}
theorem VRk.length' {G : Gl} {C : Cf} : ∀ {xs : List (Key × Val)} {ys : List (Key × V)}, VRk G C xs ys → xs.length = ys.length
  | [], ys, h => by unfold VRk at h; subst h; rfl
  | (j, x) :: xs, ys, h => by
    unfold VRk at h
    obtain ⟨y, r, rfl, a, b⟩ := h
    simp [VRk.length' b]
theorem hits_K {pins : List (Addr × Obj)} {σ : L2.St} {s : Shared} {C : Cf} {A : Around} (I : Inv X pins σ C.H s) (hK : X.K = G.K) (hS : G.Sys) (hu : A.units + 60 < cLine) {kb : List (Key × Val)} {ls : List (Key × V)} {vb : List (Key × Value)} (hb : VRk G C kb ls) (rb : KV ls vb) :
    ∀ {ka : List (Key × Val)} {ks : List (Key × V)} {va : List (Key × Value)} {b : Bool}, VRk G C ka ks → KV ks va → deqK kb ka = some b → PySem.W.KeqHits A s vb va b
  | [], ks, va, b, h, r, e => by
    unfold VRk at h
    subst h
    cases r
    cases e
    exact .nil
  | (key, x) :: ka, ks, va, b, h, r, e => by
    unfold VRk at h
    obtain ⟨y, ks', rfl, hx, h⟩ := h
    cases r with
    | @cons p q ps qs hd r =>
      obtain ⟨h1, h2⟩ := hd
      obtain ⟨key', u⟩ := q
      have h1 : key = key' := h1
      subst h1
      have rr := rb.val key
      unfold deqK at e
      cases q : dget kb key with
      | none =>
        simp only [q, Option.some.injEq] at e
        subst e
        have hn : valV ls key = none := by
          have := hb.isSome (kk := key)
          rw [q] at this
          cases z : valV ls key with
          | none => rfl
          | some y => rw [z] at this; cases this
        rw [hn] at rr
        refine .miss ?_
        cases z : valueAt vb key with
        | none => rfl
        | some z' => rw [z] at rr; cases rr
      | some y' =>
        simp only [q] at e
        have hg := hb.get (kk := key)
        rw [q] at hg
        obtain ⟨w, hw, hw2⟩ := hg
        rw [hw] at rr
        obtain ⟨w', hv, rw'⟩ := rr.some_of
        cases q1 : veq x y' with
        | none => simp [q1] at e
        | some e1 =>
          cases q2 : deqK kb ka with
          | none => simp [q1, q2] at e
          | some b1 =>
            simp only [q1, q2, Option.some.injEq] at e
            subst e
            obtain ⟨d, d', h3, h4, h5, rfl⟩ := veq_some q1
            obtain ⟨as, r1, _⟩ := NR.reads I hK hS hx.nr h2 h3
            obtain ⟨bs, r2, _⟩ := NR.reads I hK hS hw2.nr rw' h4
            unfold okEq at h5
            simp only [Bool.and_eq_true] at h5
            have k1 := okD_iff h5.1
            have k2 := okD_iff h5.2
            have h3 := min60 (b := d'.depth) k1.2
            exact .hit hv (PySem.SeqAt.eqAt_plain d d' A s u w' as bs r1 r2 k1.1 k2.1 (by omega)) (hits_K I hK hS hu hb rb h r q2)
def rDK (G : Gl) (ng : Bool) : R2 := fun x y H Q => ∃ C ka kb b, C.H = H ∧ NR G C (.dct ka) x ∧ NR G C (.dct kb) y ∧ (if ka.length = kb.length then deqK kb ka else some false) = some b ∧ Q (.bl (b != ng)) H
theorem dk_pre {pins : List (Addr × Obj)} {σ : L2.St} {s : Shared} {C : Cf} {A : Around} (I : Inv X pins σ C.H s) (hK : X.K = G.K) (hS : G.Sys) (hu : A.units + 60 < cLine) {ka kb : List (Key × Val)} {x y : V} {v u : Value} {b : Bool} (hx : NR G C (.dct ka) x) (hy : NR G C (.dct kb) y) (rx : RelV x v) (ry : RelV y u)
    (e : (if ka.length = kb.length then deqK kb ka else some false) = some b) : ∃ (p q : Addr) (va vb : List (Key × Value)) (r : Bool), v = .ref p ∧ u = .ref q ∧ (p == sysModules) = false ∧ (q == sysModules) = false ∧ s.heap.DictOf (mixKind X.prog X.w) p va ∧ s.heap.DictOf (mixKind X.prog X.w) q vb ∧ (va.length = vb.length → PySem.W.KeqHits A s vb va r) ∧ (va.length == vb.length && r) = b := by
  obtain ⟨p, ks, rfl, hp, hk⟩ := hx
  obtain ⟨q, ls, rfl, hq, hl⟩ := hy
  cases rx
  cases ry
  obtain ⟨_, y1, va, ra, da⟩ := dk_rd I.hok hp
  obtain ⟨_, y2, vb, rb, db⟩ := dk_rd I.hok hq
  have l1 : va.length = ka.length := by rw [hk.length']; exact ra.length.symm
  have l2 : vb.length = kb.length := by rw [hl.length']; exact rb.length.symm
  by_cases hc : ka.length = kb.length
  · rw [if_pos hc] at e
    exact ⟨p, q, va, vb, b, rfl, rfl, y1, y2, da, db, fun _ => hits_K I hK hS hu hl rb hk ra e, by rw [l1, l2, hc]; simp⟩
  · rw [if_neg hc] at e
    cases e
    exact ⟨p, q, va, vb, false, rfl, rfl, y1, y2, da, db, fun z => absurd (by rw [← l1, ← l2, z]) hc, by simp⟩
theorem opDKe (hK : X.K = G.K) (hS : G.Sys) (hR : Room k X.A) : OpR X (compareOp .Eq) (rDK G false) := by
  intro pins s σ H x y v u Q I rx ry ⟨C, ka, kb, b, hC, hx, hy, e, q⟩
  subst hC
  have h2 := hR.units
  obtain ⟨p, p2, va, vb, r, rfl, rfl, y1, y2, da, db, hh, hb⟩ := dk_pre (A := X.A.in1) I hK hS (by show X.A.units + 1 + 60 < cLine; omega) hx hy rx ry e
  refine PySem.W.keq_eq (knd := mixKind X.prog X.w) y1 y2 da db (by omega) hh ?_
  rw [hb]
  exact ⟨.bl b, C.H, I, rfl, by simpa using q⟩
theorem opDKn (hK : X.K = G.K) (hS : G.Sys) (hR : Room k X.A) : OpR X (compareOp .NotEq) (rDK G true) := by
  intro pins s σ H x y v u Q I rx ry ⟨C, ka, kb, b, hC, hx, hy, e, q⟩
  subst hC
  have h2 := hR.units
  obtain ⟨p, p2, va, vb, r, rfl, rfl, y1, y2, da, db, hh, hb⟩ := dk_pre (A := X.A.in1) I hK hS (by show X.A.units + 1 + 60 < cLine; omega) hx hy rx ry e
  refine PySem.W.keq_ne (knd := mixKind X.prog X.w) y1 y2 da db (by omega) hh ?_
  rw [hb]
  exact ⟨.bl (!b), C.H, I, rfl, by cases b <;> simpa using q⟩
theorem veqX_or (x y : Val) : (∃ ka kb, x = .dct ka ∧ y = .dct kb) ∨ veqX x y = veq x y := by
  cases x with
  | dct ka => cases y with
    | dct kb => exact .inl ⟨ka, kb, rfl, rfl⟩
    | _ => exact .inr rfl
  | _ => exact .inr rfl
theorem eq_ok (hK : X.K = G.K) (hS : G.Sys) (hR : Room k X.A) : CmpI G X (compareOp .Eq) veqX := fun C x y v w b Q hx hy e q => by
  rcases veqX_or x y with ⟨ka, kb, rfl, rfl⟩ | h
  · exact ⟨_, opDKe hK hS hR, C, ka, kb, b, rfl, hx, hy, e, by simpa using q⟩
  · rw [h] at e
    exact eq_ok0 hK hS hR C x y v w b Q hx hy e q
theorem ne_ok (hK : X.K = G.K) (hS : G.Sys) (hR : Room k X.A) : CmpI G X (compareOp .NotEq) (fun a b => (veqX a b).map (!·)) := fun C x y v w b Q hx hy e q => by
  rcases veqX_or x y with ⟨ka, kb, rfl, rfl⟩ | h
  · obtain ⟨b0, e0, rfl⟩ := Option.map_eq_some_iff.mp e
    exact ⟨_, opDKn hK hS hR, C, ka, kb, b0, rfl, hx, hy, e0, by cases b0 <;> simpa using q⟩
  · have e : (veqX x y).map (!·) = some b := e
    rw [h] at e
    exact ne_ok0 hK hS hR C x y v w b Q hx hy e q
end
theorem cmp_ok (hK : X.K = G.K) (hS : G.Sys) (hR : Room k X.A) : ∀ op : Cop, CmpI G X (compareOp (cop op)) (cmpop op)
  | .eq => eq_ok hK hS hR
  | .ne => ne_ok hK hS hR
  | .lt => lt_ok hK hS hR
  | .gt => gt_ok hK hS hR
  | .le => le_ok hK hS hR
  | .ge => ge_ok hK hS hR
  | .isin => vin_ok hK hS hR
  | .notin => vnin_ok hK hS hR
  | .is_ => is_ok
  | .isnot => isnot_ok
end
end Rs
end
section
set_option maxRecDepth 100000
set_option maxHeartbeats 4000000
/-! Expressions: each construct's rule. -/
namespace Rs
open PySem PySem.Spec PyProof.Rows L2
theorem bind_ok {α β : Type} {r : R α} {k : α → S → R β} {b : β} {s' : S} (h : r.bind k = .ok b s') : ∃ a s1, r = .ok a s1 ∧ k a s1 = .ok b s' := by
  cases r with
  | ok a s1 => exact ⟨a, s1, rfl, h⟩
  | exc c p s => cases h
  | bad => cases h
theorem opt_ok {α : Type} {o : Option α} {s s' : S} {a : α} (h : R.opt o s = .ok a s') : o = some a ∧ s' = s := by
  cases o with
  | none => cases h
  | some b => cases h; exact ⟨rfl, rfl⟩
theorem val_ok {r : R Rv} {v : Val} {s' : S} (h : r.val = .ok v s') : ∃ x, r = .ok x s' ∧ freeze x = some v := by
  obtain ⟨x, s1, e1, e2⟩ := bind_ok h
  obtain ⟨e3, rfl⟩ := opt_ok e2
  exact ⟨x, e1, e3⟩
def tVs (G : Gl) (f : S → R (List Val)) : TA := fun σ H Q => ∃ C s xs s', C.H = H ∧ Rel G C s σ ∧ f s = .ok xs s' ∧ ∀ C' vs, Le C C' → Rel G C' s' σ → VRs G C' xs vs → Q vs C'.H
def ORs (G : Gl) (C : Cf) (s : S) (σ : L2.St) : List Rv → List V → Prop
  | [], vs => vs = []
  | x :: xs, vs => ∃ v r, vs = v :: r ∧ OR G C s σ x v ∧ ORs G C s σ xs r
theorem ORs.mono {G : Gl} {C C' : Cf} {s s' : S} {σ : L2.St} (l : Le C C') : ∀ {xs : List Rv} {vs : List V}, ORs G C s σ xs vs → ORs G C' s' σ xs vs
  | [], _, h => h
  | _ :: _, _, h => by
    obtain ⟨v, r, e, a, b⟩ := h
    exact ⟨v, r, e, a.mono l, ORs.mono l b⟩
def tOs (G : Gl) (f : S → R (List Rv)) : TA := fun σ H Q => ∃ C s xs s', C.H = H ∧ Rel G C s σ ∧ f s = .ok xs s' ∧ ∀ C' vs, Le C C' → Rel G C' s' σ → ORs G C' s' σ xs vs → Q vs C'.H
/-- what is known of a body -/
structure XO (G : Gl) (k : Nat) (X : Cx) : Prop where
  K : X.K = G.K
  sys : G.Sys
  calm : X.calm = true
  nd : X.N.Nodup
  room : Room k X.A
  gd : X.A.guards = some []
  xe : X.xe = fun _ _ => False
section
variable {G : Gl} {T : Tab} {F : Call} {k : Nat} {X : Cx}
abbrev EE (G : Gl) (T : Tab) (F : Call) (a : IE) : TE := tE G (evalE T F a)
abbrev EB (G : Gl) (T : Tab) (F : Call) (a : IE) : TT := tBo G (evalB T F a)
theorem EE_of_val {a : IE} {σ : L2.St} {H : Hp} {Q : VK} {C : Cf} {s s' : S} {x : Val} (hH : C.H = H) (r : Rel G C s σ) (e : (evalE T F a s).val = .ok x s') (k : ∀ C' v, Le C C' → Rel G C' s' σ → VR G C' x v → Q v C'.H) : EE G T F a σ H Q :=
  tV_of ⟨C, s, x, s', hH, r, e, k⟩
theorem EE_of_op {a : IE} {σ : L2.St} {H : Hp} {Q : VK} {C : Cf} {s s' : S} {x : Rv} (hH : C.H = H) (r : Rel G C s σ) (e : evalE T F a s = .ok x s') (k : ∀ C' v, Le C C' → Rel G C' s' σ → OR G C' s' σ (opnd x) v → Q v C'.H) : EE G T F a σ H Q :=
  tO_of ⟨C, s, x, s', hH, r, e, k⟩
theorem slot_get {s : S} {i : Nat} {t : Slot} (h : slotOf s i = t) (n : t ≠ .no) : s.e[i]? = some t := by
  unfold slotOf at h
  rw [List.getD_eq_getElem?_getD] at h
  cases q : s.e[i]? with
  | none => rw [q] at h; exact absurd h.symm n
  | some u => rw [q] at h; exact congrArg some h

/-! ### names, constants -/
theorem se_var {x : Str} {pos : Pos} (i : Nat) (hN : X.N[i]? = some x := by rfl) (hv : Vis X.env.scope x := by first | exact Or.inl rfl | exact Or.inr (Or.inl rfl) | exact Or.inr (Or.inr rfl)) (hd : (x == ("__debug__" : Str)) = false := by decide)
    (hcd : (x == ("__classdict__" : Str)) = false := by decide) : PE X (.Name x pos) (EE G T F (.var i)) := by
  refine PE.weak (pe_var hN hv hd hcd) fun σ H Q ⟨C, s, r, s', hH, rl, e, k⟩ => ?_
  unfold evalE at e
  unfold rdVar at e
  subst hH
  cases q : slotOf s i with
  | no => simp [q] at e
  | val x =>
    simp only [q, R.ok.injEq] at e
    obtain ⟨rfl, rfl⟩ := e
    obtain ⟨v, h1, h2⟩ := rl.env i x (slot_get q (by simp))
    exact ⟨v, h1, k C v (.refl C) rl h2⟩
  | own c =>
    simp only [q, R.ok.injEq] at e
    obtain ⟨rfl, rfl⟩ := e
    obtain ⟨p, h1, _⟩ := rl.own i c (slot_get q (by simp))
    exact ⟨_, h1, k C _ (.refl C) rl h1⟩
theorem se_int {i : Int} {j : Nat} {pos : Pos} : PE X (.Constant (.int i) j pos) (EE G T F (.cst (.int i))) := PE.weak pe_int fun σ H Q ⟨C, s, r, s', hH, rl, e, k⟩ => by
  unfold evalE at e; cases e; subst hH; exact (show Q (.int i) C.H from out_v rl .int k)
theorem se_str {i : Str} {j : Nat} {pos : Pos} : PE X (.Constant (.str i) j pos) (EE G T F (.cst (.str i))) := PE.weak pe_str fun σ H Q ⟨C, s, r, s', hH, rl, e, k⟩ => by
  unfold evalE at e; cases e; subst hH; exact (show Q (.str i) C.H from out_v rl .str k)
theorem se_bl {i : Bool} {j : Nat} {pos : Pos} : PE X (.Constant (.bool i) j pos) (EE G T F (.cst (.bl i))) := PE.weak pe_bl fun σ H Q ⟨C, s, r, s', hH, rl, e, k⟩ => by
  unfold evalE at e; cases e; subst hH; exact (show Q (.bl i) C.H from out_v rl .bl k)
theorem se_non {j : Nat} {pos : Pos} : PE X (.Constant .none j pos) (EE G T F (.cst .non)) := PE.weak pe_non fun σ H Q ⟨C, s, r, s', hH, rl, e, k⟩ => by
  unfold evalE at e; cases e; subst hH; exact (show Q (.non) C.H from out_v rl .non k)
theorem se_glbI {x : Str} {pos : Pos} (n : Nat) (i : Int) (hg : L2.Gl X x) (hm : ∃ t, X.mg x = some (.int i t)) (hd : (x == ("__debug__" : Str)) = false := by decide) : PE X (.Name x pos) (EE G T F (.glb n (.int i))) := by
  obtain ⟨t, hm⟩ := hm
  refine PE.weak (pe_glob hg hm (v := .int i) ⟨t, rfl⟩ hd) fun σ H Q ⟨C, s, r, s', hH, rl, e, k⟩ => ?_
  unfold evalE at e; cases e; subst hH; exact (show Q (.int i) C.H from out_v rl .int k)
theorem se_glbS {x : Str} {pos : Pos} (n : Nat) (i : Str) (hg : L2.Gl X x) (hm : ∃ t, X.mg x = some (.str i t)) (hd : (x == ("__debug__" : Str)) = false := by decide) : PE X (.Name x pos) (EE G T F (.glb n (.str i))) := by
  obtain ⟨t, hm⟩ := hm
  refine PE.weak (pe_glob hg hm (v := .str i) ⟨t, rfl⟩ hd) fun σ H Q ⟨C, s, r, s', hH, rl, e, k⟩ => ?_
  unfold evalE at e; cases e; subst hH; exact (show Q (.str i) C.H from out_v rl .str k)

/-! ### operators -/
theorem bin_bad1 (op : Bop) (y : Val) : binop op .bad y = none := by cases op <;> simp [binop]
theorem bin_bad2 (op : Bop) (x : Val) : binop op x .bad = none := by cases op <;> cases x <;> simp [binop]
theorem veqX_bad1 (y : Val) : veqX .bad y = veq .bad y := by cases y <;> rfl
theorem cmp_bad1 (op : Cop) (y : Val) : cmpop op .bad y = none := by
  cases op <;> cases y <;> simp [cmpop, veqX_bad1, veq, vlt, vin, vis, toD, keyV]
theorem toDs_bad : toD .bad = none := by unfold toD; rfl
theorem veq_bad (x : Val) : veq x .bad = none := by
  unfold veq
  rw [toDs_bad]
  generalize toD x = o
  cases o <;> rfl
theorem vlt_bad (x : Val) : vlt x .bad = none := by
  have h : (match toD x, toD .bad with
    | some d, some e => if PySem.W.alike d e && (okD d && notNone d) then some (PySem.W.dataLt d e) else none
    | _, _ => none) = none := by
    rw [toDs_bad]
    generalize toD x = o
    cases o <;> rfl
  cases x <;> exact h
theorem bad_vlt (x : Val) : vlt .bad x = none := by
  have h : (match toD .bad, toD x with
    | some d, some e => if PySem.W.alike d e && (okD d && notNone d) then some (PySem.W.dataLt d e) else none
    | _, _ => none) = none := by
    rw [toDs_bad]
  cases x <;> exact h
theorem veqX_bad2 (x : Val) : veqX x .bad = veq x .bad := by cases x <;> rfl
theorem cmp_bad2 (op : Cop) (x : Val) : cmpop op x .bad = none := by
  cases op
  · show veqX x .bad = none; rw [veqX_bad2]; exact veq_bad x
  · show (veqX x .bad).map (!·) = none; rw [veqX_bad2, veq_bad]; rfl
  · exact vlt_bad x
  · show (vlt .bad x).map (!·) = none; rw [bad_vlt]; rfl
  · exact bad_vlt x
  · show (vlt x .bad).map (!·) = none; rw [vlt_bad]; rfl
  · rfl
  · rfl
  · rfl
  · rfl
theorem ne_bad1 {α : Type} {op : Val → Val → Option α} {x y : Val} {r : α} (h : ∀ y, op .bad y = none) (e : op x y = some r) : x ≠ .bad := fun z => by subst z; rw [h] at e; cases e
theorem ne_bad2 {α : Type} {op : Val → Val → Option α} {x y : Val} {r : α} (h : ∀ x, op x .bad = none) (e : op x y = some r) : y ≠ .bad := fun z => by subst z; rw [h] at e; cases e
theorem se_bin {ea eb : Expr} {pos : Pos} {a b : IE} (o : XO G k X) (op : Bop) (ha : PE X ea (EE G T F a)) (hb : PE X eb (EE G T F b)) : PE X (.BinOp ea (bop op) eb pos) (EE G T F (.bin op a b)) := by
  refine PE.weak (pe_op OpR.any ha hb) fun σ H Q ⟨C, s, r, s', hH, rl, e, kk⟩ => ?_
  unfold evalE at e
  obtain ⟨x, s1, e1, e⟩ := bind_ok e
  obtain ⟨y, s2, e2, e⟩ := bind_ok e
  obtain ⟨e, rfl⟩ := opt_ok e
  show EE G T F a σ H (fun x H1 => EE G T F b σ H1 (fun y H2 => ∃ r : R2, OpR X _ r ∧ r x y H2 Q))
  refine EE_of_op hH rl e1 fun C1 v l1 r1 o1 => EE_of_op rfl r1 e2 fun C2 w l2 r2 o2 => ?_
  have ok := bin_ok (G := G) (X := X) o.K op
  have hx := deref_ok r2 (OR.mono l2 o1) (ne_bad1 (bin_bad1 op) e)
  have hy := deref_ok r2 o2 (ne_bad2 (bin_bad2 op) e)
  have := ok C2 _ σ _ _ v w r Q r2 hx hy e fun C3 z l3 r3 h3 => kk C3 z ((l1.trans l2).trans l3) r3 h3
  cases op <;> exact this
theorem se_cmp {ea eb : Expr} {pos : Pos} {a b : IE} (o : XO G k X) (op : Cop) (ha : PE X ea (EE G T F a)) (hb : PE X eb (EE G T F b)) (hm : behindInMarks (cop op) eb = false := by first | exact nomark _ | rfl) : PE X (.Compare ea [cop op] [eb] pos) (EE G T F (.cmp op a b)) := by
  refine PE.weak (pe_cmpR OpR.any ha hb hm) fun σ H Q ⟨C, s, r, s', hH, rl, e, kk⟩ => ?_
  unfold evalE at e
  obtain ⟨x, s1, e1, e⟩ := bind_ok e
  obtain ⟨y, s2, e2, e⟩ := bind_ok e
  obtain ⟨e, rfl⟩ := opt_ok e
  obtain ⟨bb, e3, e4⟩ := Option.map_eq_some_iff.mp e
  clear e
  subst e4
  have e := e3
  show EE G T F a σ H (fun x H1 => EE G T F b σ H1 (fun y H2 => ∃ r : R2, OpR X _ r ∧ r x y H2 Q))
  refine EE_of_op hH rl e1 fun C1 v l1 r1 o1 => EE_of_op rfl r1 e2 fun C2 w l2 r2 o2 => ?_
  have hx := deref_ok r2 (OR.mono l2 o1) (ne_bad1 (cmp_bad1 op) e)
  have hy := deref_ok r2 o2 (ne_bad2 (cmp_bad2 op) e)
  exact cmp_ok o.K o.sys o.room op C2 _ _ v w bb Q hx hy e (kk C2 _ (l1.trans l2) r2 (show VR G C2 (.bl bb) (.bl bb) from VR.bl))
theorem st_cmp {ea eb : Expr} {pos : Pos} {a b : IE} (o : XO G k X) (op : Cop) (ha : PE X ea (EE G T F a)) (hb : PE X eb (EE G T F b)) (hm : behindInMarks (cop op) eb = false := by first | exact nomark _ | rfl) : PT X (.Compare ea [cop op] [eb] pos) (EB G T F (.cmp op a b)) := by
  refine PT.weak (pt_cmpR OpR.any ha hb hm) fun σ H Q ⟨C, s, r, s', hH, rl, e, kk⟩ => ?_
  unfold evalB at e
  obtain ⟨z, s3, e, e'⟩ := bind_ok e
  obtain ⟨z', e, ez⟩ := val_ok e
  obtain ⟨e', rfl⟩ := opt_ok e'
  unfold evalE at e
  obtain ⟨x, s1, e1, e⟩ := bind_ok e
  obtain ⟨y, s2, e2, e⟩ := bind_ok e
  obtain ⟨e, rfl⟩ := opt_ok e
  obtain ⟨bb, e3, e4⟩ := Option.map_eq_some_iff.mp e
  clear e
  subst e4
  have e := e3
  cases ez
  cases e'
  show EE G T F a σ H (fun x H1 => EE G T F b σ H1 (fun y H2 => ∃ r : R2, OpR X _ r ∧ r x y H2 (fun x H' => ∃ k, x = .bl k ∧ Q k H')))
  refine EE_of_op hH rl e1 fun C1 v l1 r1 o1 => EE_of_op rfl r1 e2 fun C2 w l2 r2 o2 => ?_
  have hx := deref_ok r2 (OR.mono l2 o1) (ne_bad1 (cmp_bad1 op) e3)
  have hy := deref_ok r2 o2 (ne_bad2 (cmp_bad2 op) e3)
  exact cmp_ok o.K o.sys o.room op C2 _ _ v w r _ hx hy e3 ⟨r, rfl, kk C2 (l1.trans l2) r2⟩
/-- an expression that gives a bool, as a test -/
theorem st_val {e : Expr} {a : IE} (h : PE X e (EE G T F a)) (he : ∀ whole, isTrue e X.env whole = (do let v ← whole; standAt e.pos; holding [v] (truthy v)) := by intro _; rfl) : PT X e (EB G T F a) := by
  refine PT.weak (pt_val h he) fun σ H Q ⟨C, s, r, s', hH, rl, e, kk⟩ => ?_
  unfold evalB at e
  obtain ⟨z, s3, e, e'⟩ := bind_ok e
  obtain ⟨e', rfl⟩ := opt_ok e'
  show EE G T F a σ H (fun x H1 => ∃ c, x = .bl c ∧ Q c H1)
  refine EE_of_val hH rl e fun C1 v l1 r1 h1 => ?_
  cases z with
  | bl bb => cases e'; unfold VR at h1; exact ⟨_, h1, kk C1 l1 r1⟩
  | _ => cases e'
end
end Rs
end
section
set_option maxRecDepth 100000
set_option maxHeartbeats 4000000
/-! Expressions: chains, truth, places, items, lists of arguments, displays. -/
namespace Rs
open PySem PySem.Spec PyProof.Rows L2
section
variable {G : Gl} {C : Cf} {s : S} {σ : L2.St}
theorem Rel.drop (r : Rel G C s σ) (i : Nat) : Rel G C { s with e := s.e.set i .no } σ where
  len := by simpa using r.len
  env := fun j x h => r.env j x (by
    by_cases e : i = j
    · subst e
      by_cases hi : i < s.e.length
      · simp [hi] at h
      · simp [hi] at h
    · simpa [List.getElem?_set_ne e] using h)
  own := fun j c h => r.own j c (by
    by_cases e : i = j
    · subst e
      by_cases hi : i < s.e.length
      · simp [hi] at h
      · simp [hi] at h
    · simpa [List.getElem?_set_ne e] using h)
  apart := fun j l c d p h1 h2 h3 h4 => by
    refine r.apart j l c d p ?_ ?_ h3 h4
    · by_cases e : i = j
      · subst e
        by_cases hi : i < s.e.length
        · simp [hi] at h1
        · simp [hi] at h1
      · simpa [List.getElem?_set_ne e] using h1
    · by_cases e : i = l
      · subst e
        by_cases hi : i < s.e.length
        · simp [hi] at h2
        · simp [hi] at h2
      · simpa [List.getElem?_set_ne e] using h2
  hlen := r.hlen
  nd := r.nd
  cell := r.cell
  fztr := r.fztr
  kptr := r.kptr
  fzkp := r.fzkp
theorem set_val {s : S} {i j : Nat} {t u : Slot} (h : (s.e.set i t)[j]? = some u) : (i = j ∧ u = t ∧ i < s.e.length) ∨ (i ≠ j ∧ s.e[j]? = some u) := by
  by_cases e : i = j
  · subst e
    by_cases hi : i < s.e.length
    · simp [hi] at h
      exact .inl ⟨rfl, h.symm, hi⟩
    · simp [hi] at h
  · rw [List.getElem?_set_ne e] at h
    exact .inr ⟨e, h⟩
/-- a name holds a value; its slot in the model holds v -/
theorem Rel.setV (r : Rel G C s σ) {i : Nat} {x : Val} {v : V} (h : VR G C x v) : Rel G C { s with e := s.e.set i (.val x) } (σ.set i (some v)) where
  len := by simpa using r.len
  env := fun j y h' => by
    rcases set_val h' with ⟨rfl, e, hi⟩ | ⟨e, h'⟩
    · cases e
      exact ⟨v, by rw [List.getElem?_set_self (by rw [← r.len]; exact hi)], h⟩
    · rw [List.getElem?_set_ne e]
      exact r.env j y h'
  own := fun j c h' => by
    rcases set_val h' with ⟨rfl, e, hi⟩ | ⟨e, h'⟩
    · cases e
    · rw [List.getElem?_set_ne e]
      exact r.own j c h'
  apart := fun j l c d p h1 h2 h3 h4 => by
    rcases set_val h1 with ⟨rfl, e, hi⟩ | ⟨e1, h1⟩
    · cases e
    · rcases set_val h2 with ⟨rfl, e, hi⟩ | ⟨e2, h2⟩
      · cases e
      · rw [List.getElem?_set_ne e1] at h3
        rw [List.getElem?_set_ne e2] at h4
        exact r.apart j l c d p h1 h2 h3 h4
  hlen := r.hlen
  nd := r.nd
  cell := r.cell
  fztr := r.fztr
  kptr := r.kptr
  fzkp := r.fzkp
theorem set_same {σ : L2.St} {i : Nat} {v : V} (h : σ[i]? = some (some v)) : σ.set i (some v) = σ := by
  apply List.ext_getElem?
  intro j
  by_cases e : i = j
  · subst e
    rw [List.getElem?_set_self (List.getElem?_eq_some_iff.mp h).1, h]
  · rw [List.getElem?_set_ne e]
/-- a name has a list or dict of its own -/
theorem Rel.setO (r : Rel G C s σ) {i : Nat} {c : Cell} {p : Addr} (h : CR G C c (C.H p)) (f : Fr C p) (d : ∀ (j : Nat) (c : Cell), s.e[j]? = some (.own c) → j ≠ i → σ[j]? ≠ some (some (.ref p))) : Rel G C { s with e := s.e.set i (.own c) } (σ.set i (some (.ref p))) where
  len := by simpa using r.len
  env := fun j y h' => by
    rcases set_val h' with ⟨rfl, e, hi⟩ | ⟨e, h'⟩
    · cases e
    · rw [List.getElem?_set_ne e]
      exact r.env j y h'
  own := fun j c' h' => by
    rcases set_val h' with ⟨rfl, e, hi⟩ | ⟨e, h'⟩
    · cases e
      exact ⟨p, by rw [List.getElem?_set_self (by rw [← r.len]; exact hi)], h, f.fz, f.ρ, fun _ => f.kp, f.rs⟩
    · rw [List.getElem?_set_ne e]
      exact r.own j c' h'
  apart := fun j l c1 d1 q h1 h2 h3 h4 => by
    rcases set_val h1 with ⟨rfl, e, hi⟩ | ⟨e1, h1⟩
    · rcases set_val h2 with ⟨rfl, e, hi⟩ | ⟨e2, h2⟩
      · rfl
      · rw [List.getElem?_set_self (by rw [← r.len]; exact hi)] at h3
        rw [List.getElem?_set_ne e2] at h4
        cases h3
        exact absurd h4 (d l _ h2 (Ne.symm e2))
    · rcases set_val h2 with ⟨rfl, e, hi⟩ | ⟨e2, h2⟩
      · rw [List.getElem?_set_self (by rw [← r.len]; exact hi)] at h4
        rw [List.getElem?_set_ne e1] at h3
        cases h4
        exact absurd h3 (d j _ h1 (Ne.symm e1))
      · rw [List.getElem?_set_ne e1] at h3
        rw [List.getElem?_set_ne e2] at h4
        exact r.apart j l c1 d1 q h1 h2 h3 h4
  hlen := r.hlen
  nd := r.nd
  cell := r.cell
  fztr := r.fztr
  kptr := r.kptr
  fzkp := r.fzkp
/-- a cell more -/
abbrev Cf.cell (C : Cf) (p : Addr) : Cf := { C with ρ := C.ρ ++ [p] }
theorem Le.cell {p : Addr} : Le C (C.cell p) where
  ρ := List.prefix_append _ _
  fz := fun _ h => h
  hf := fun _ _ => .of fun _ h => h
  kp := rfl
  rs := rfl
  hk := fun _ _ _ h => h
  ff := fun _ _ _ _ h => h
theorem Rel.toHeap (r : Rel G C s σ) {c : Cell} {p : Addr} (h : CR G C c (C.H p)) (f : Fr C p) (d : ∀ (j : Nat) (c : Cell), s.e[j]? = some (.own c) → σ[j]? ≠ some (some (.ref p))) : Rel G (C.cell p) { s with h := s.h ++ [c] } σ where
  len := r.len
  env := fun j y h' => let ⟨v, a, b⟩ := r.env j y h'; ⟨v, a, b.mono .cell⟩
  own := fun j c' h' => by
    obtain ⟨q, a, b, e, g, k⟩ := r.own j c' h'
    refine ⟨q, a, b.mono .cell, e, fun z => ?_, k⟩
    rcases List.mem_append.mp z with z | z
    · exact g z
    · have z : q = p := by simpa using z
      subst z
      exact d j c' h' a
  apart := r.apart
  hlen := by simp [r.hlen]
  nd := by
    refine List.nodup_append.mpr ⟨r.nd, by simp, fun a ha b hb => ?_⟩
    have hb : b = p := by simpa using hb
    subst hb
    exact fun z => f.ρ (z ▸ ha)
  cell := fun n c' q h1 h2 => by
    have hl := r.hlen
    by_cases hn : n < s.h.length
    · rw [List.getElem?_append_left hn] at h1
      rw [List.getElem?_append_left (by omega)] at h2
      obtain ⟨a, b, e⟩ := r.cell n c' q h1 h2
      exact ⟨a.mono .cell, b, e⟩
    · have hn' : n = s.h.length := by
        have := (List.getElem?_eq_some_iff.mp h1).1
        simp at this
        omega
      subst hn'
      simp at h1
      subst h1
      rw [hl] at h2
      simp at h2
      subst h2
      exact ⟨h.mono .cell, f.fz, fun _ => f.kp, f.rs⟩
  fztr := r.fztr
  kptr := r.kptr
  fzkp := r.fzkp
end

section
variable {G : Gl} {T : Tab} {F : Call} {k : Nat} {X : Cx} {ea eb ec : Expr} {pos : Pos} {a b c : IE}
theorem own_slot {C : Cf} {s : S} {σ : L2.St} (r : Rel G C s σ) {i : Nat} {c : Cell} (h : s.e[i]? = some (.own c)) (u : unlocked c = true) : ∃ p, σ[i]? = some (some (.ref p)) ∧ CR G C c (C.H p) ∧ Fr C p ∧ Rel G C { s with e := s.e.set i .no } σ ∧
    (∀ (j : Nat) (c : Cell), (s.e.set i .no)[j]? = some (.own c) → σ[j]? ≠ some (some (.ref p))) := by
  obtain ⟨p, h1, h2, h3, h4, h5⟩ := r.own i c h
  refine ⟨p, h1, h2, ⟨h3, h5.1 u, h4, h5.2⟩, r.drop i, fun j d hj z => ?_⟩
  rcases set_val hj with ⟨rfl, e, hi⟩ | ⟨e, h'⟩
  · cases e
  · exact e (r.apart i j c d p h h' h1 z)
theorem se_frz {x : Str} {pos : Pos} (i : Nat) (hN : X.N[i]? = some x := by rfl) (hv : Vis X.env.scope x := by first | exact Or.inl rfl | exact Or.inr (Or.inl rfl) | exact Or.inr (Or.inr rfl)) (hd : (x == ("__debug__" : Str)) = false := by decide)
    (hcd : (x == ("__classdict__" : Str)) = false := by decide) : PE X (.Name x pos) (EE G T F (.frz i)) := by
  refine PE.weak (pe_var hN hv hd hcd) fun σ H Q ⟨C, s, r, s', hH, rl, e, k⟩ => ?_
  unfold evalE at e
  unfold frzVar at e
  subst hH
  cases q : slotOf s i with
  | no => simp [q] at e
  | val x =>
    simp only [q, R.ok.injEq] at e
    obtain ⟨rfl, rfl⟩ := e
    obtain ⟨v, h1, h2⟩ := rl.env i x (slot_get q (by simp))
    exact ⟨v, h1, k C v (.refl C) rl h2⟩
  | own c =>
    cases u : unlocked c with
    | false => simp [q, u] at e
    | true =>
      simp only [q, u, if_true, R.ok.injEq] at e
      obtain ⟨rfl, rfl⟩ := e
      obtain ⟨p, h1, h2, f, r2, d⟩ := own_slot rl (slot_get q (by simp)) u
      have r3 := r2.ice f h2.tr d
      have v3 := imm_ok (C := C) h2 u
      have r4 := r3.setV (i := i) v3
      rw [set_same h1] at r4
      refine ⟨_, h1, k (C.ice p) _ .ice ?_ v3⟩
      have e5 : (s.e.set i .no).set i (.val (imm c)) = s.e.set i (.val (imm c)) := List.set_set ..
      rw [e5] at r4
      exact r4
theorem se_mv {x : Str} {pos : Pos} (i : Nat) (hN : X.N[i]? = some x := by rfl) (hv : Vis X.env.scope x := by first | exact Or.inl rfl | exact Or.inr (Or.inl rfl) | exact Or.inr (Or.inr rfl)) (hd : (x == ("__debug__" : Str)) = false := by decide)
    (hcd : (x == ("__classdict__" : Str)) = false := by decide) : PE X (.Name x pos) (EE G T F (.mv i)) := by
  refine PE.weak (pe_var hN hv hd hcd) fun σ H Q ⟨C, s, r, s', hH, rl, e, k⟩ => ?_
  unfold evalE at e
  unfold mvVar at e
  subst hH
  cases q : slotOf s i with
  | no => simp [q] at e
  | val x => simp [q] at e
  | own c =>
    cases u : unlocked c with
    | false => simp [q, u] at e
    | true =>
      simp only [q, u, if_true, R.ok.injEq] at e
      obtain ⟨rfl, rfl⟩ := e
      obtain ⟨p, h1, h2, f, r2, d⟩ := own_slot rl (slot_get q (by simp)) u
      have r3 := r2.toHeap h2 f d
      have v3 : VR G (C.cell p) (.ref s.h.length) (.ref p) := by
        unfold VR
        exact ⟨p, by show (C.ρ ++ [p])[s.h.length]? = some p; rw [rl.hlen]; simp, rfl⟩
      have r4 := r3.setV (i := i) v3
      rw [set_same h1] at r4
      refine ⟨_, h1, k (C.cell p) _ .cell ?_ v3⟩
      have e5 : (s.e.set i .no).set i (.val (.ref s.h.length)) = s.e.set i (.val (.ref s.h.length)) := List.set_set ..
      rw [e5] at r4
      exact r4
theorem se_heap (ha : PE X ea (EE G T F a)) : PE X ea (EE G T F (.heap a)) := by
  refine PE.weak ha fun σ H Q ⟨C, s, r, s', hH, rl, e, k⟩ => ?_
  unfold evalE at e
  obtain ⟨x, s1, e1, e⟩ := bind_ok e
  cases x with
  | v x => cases e
  | sl x => cases e
  | f c =>
    unfold toHeap at e
    simp only [R.ok.injEq] at e
    obtain ⟨rfl, rfl⟩ := e
    refine ⟨C, s, _, s1, hH, rl, e1, fun C1 v l r1 h1 => ?_⟩
    obtain ⟨p, rfl, h2, f, u, d⟩ := h1
    refine k (C1.cell p) (.ref p) (l.trans .cell) (r1.toHeap h2 f d) ?_
    show VR G _ (.ref _) _
    unfold VR
    exact ⟨p, by show (C1.ρ ++ [p])[s1.h.length]? = some p; rw [r1.hlen]; simp, rfl⟩
theorem se_neg (o : XO G k X) (ha : PE X ea (EE G T F a)) : PE X (.UnaryOp .USub ea pos) (EE G T F (.neg a)) := by
  refine PE.weak (pe_un un_neg ha) fun σ H Q ⟨C, s, r, s', hH, rl, e, kk⟩ => ?_
  unfold evalE at e
  obtain ⟨x, s1, e1, e⟩ := bind_ok e
  show EE G T F a σ H (fun x H1 => rU (fun i => .int (-i)) x H1 Q)
  cases q : deref s1 x with
  | int i =>
    rw [q] at e
    cases e
    refine EE_of_op hH rl e1 fun C1 v l1 r1 o1 => ?_
    have hx : NR G C1 (.int i) v := by
      cases x with
      | f cc =>
        exfalso
        unfold deref at q
        cases cc <;> simp [imm] at q
      | v y =>
        have := deref_ok r1 o1 (by show deref s' (.v y) ≠ .bad; rw [q]; simp)
        rw [show deref s' (opnd (.v y)) = deref s' (.v y) from rfl, q] at this
        exact this
      | sl y =>
        have := deref_ok r1 o1 (by show deref s' (.sl y) ≠ .bad; rw [q]; simp)
        rw [show deref s' (opnd (.sl y)) = deref s' (.sl y) from rfl, q] at this
        exact this
    cases hx.int
    exact ⟨i, rfl, kk C1 _ l1 r1 (show VR G C1 (.int (-i)) (.int (-i)) from VR.int)⟩
  | _ => rw [q] at e; cases e
/-! ### truth -/
theorem B_val {s s' : S} {r : Bool} (e : evalB T F a s = .ok r s') : (evalE T F a s).val = .ok (.bl r) s' := by
  unfold evalB at e
  obtain ⟨z, s3, e, e'⟩ := bind_ok e
  obtain ⟨e', rfl⟩ := opt_ok e'
  cases z with
  | bl b => cases e'; exact e
  | _ => cases e'
theorem val_B {s s' s2 : S} {x : Val} {r : Bool} (e : (evalE T F a s).val = .ok x s') (e2 : R.opt (asB x) s' = .ok r s2) : evalB T F a s = .ok r s' ∧ s2 = s' := by
  obtain ⟨e3, rfl⟩ := opt_ok e2
  unfold evalB
  rw [e]
  exact ⟨e2, rfl⟩
theorem se_chn (o : XO G k X) (o1 o2 : Cop) (ha : PE X ea (EE G T F a)) (hb : PE X eb (EE G T F b)) (hc : PE X ec (EE G T F c)) (hm : lastMarks [cop o1, cop o2] [eb, ec] = false := by with_unfolding_all rfl) :
    PE X (.Compare ea [cop o1, cop o2] [eb, ec] pos) (EE G T F (.chn o1 o2 a b c)) := by
  refine PE.weak (pe_chain OpR.any OpR.any ha hb hc hm) fun σ H Q ⟨C, s, r, s', hH, rl, e, kk⟩ => ?_
  unfold evalE at e
  obtain ⟨x, s1, e1, e⟩ := bind_ok e
  obtain ⟨y, s2, e2, e⟩ := bind_ok e
  obtain ⟨bb, s3, e3, e⟩ := bind_ok e
  obtain ⟨e3, e4⟩ := opt_ok e3
  subst e4
  show EE G T F a σ H (fun x H1 => EE G T F b σ H1 (fun y H2 => ∃ r : R2, OpR X _ r ∧ r x y H2 (fun z H3 => ∃ k, z = .bl k ∧ (if k = true then EE G T F c σ H3 (fun w' H4 => ∃ r : R2, OpR X _ r ∧ r y w' H4 Q) else Q (.bl false) H3))))
  refine EE_of_op hH rl e1 fun C1 v l1 r1 q1 => EE_of_op rfl r1 e2 fun C2 w l2 r2 q2 => ?_
  have hx := deref_ok r2 (OR.mono l2 q1) (ne_bad1 (cmp_bad1 o1) e3)
  have hy := deref_ok r2 q2 (ne_bad2 (cmp_bad2 o1) e3)
  refine cmp_ok o.K o.sys o.room o1 C2 _ _ v w bb _ hx hy e3 ⟨bb, rfl, ?_⟩
  cases bb with
  | false =>
    cases e
    rw [if_neg (by simp)]
    exact kk C2 _ (l1.trans l2) r2 (show VR G C2 (.bl false) (.bl false) from VR.bl)
  | true =>
    rw [if_pos rfl]
    obtain ⟨z, s4, e5, e⟩ := bind_ok e
    obtain ⟨e, e6⟩ := opt_ok e
    subst e6
    obtain ⟨b2, e7, e8⟩ := Option.map_eq_some_iff.mp e
    subst e8
    refine EE_of_op rfl r2 e5 fun C3 u l3 r3 q3 => ?_
    have hy := deref_ok r3 (OR.mono l3 q2) (ne_bad1 (cmp_bad1 o2) e7)
    have hz := deref_ok r3 q3 (ne_bad2 (cmp_bad2 o2) e7)
    exact cmp_ok o.K o.sys o.room o2 C3 _ _ w u b2 _ hy hz e7 (kk C3 _ ((l1.trans l2).trans l3) r3 (show VR G C3 (.bl b2) (.bl b2) from VR.bl))
end
end Rs
end
section
set_option maxRecDepth 100000
set_option maxHeartbeats 4000000
/-! Expressions: and, or, not, a if c else b; items and slices; arguments and displays. -/
namespace Rs
open PySem PySem.Spec PyProof.Rows L2
section
variable {G : Gl} {T : Tab} {F : Call} {k : Nat} {X : Cx} {ea eb ec : Expr} {pos : Pos} {a b c : IE} {rest : List Expr}
theorem test_ok {β : Type} {c : IE} {s s' : S} {K : Bool → S → R β} {r : β} (e : ((evalE T F c s).val.bind fun x s => (R.opt (asB x) s).bind K) = .ok r s') : ∃ kb s1, evalB T F c s = .ok kb s1 ∧ K kb s1 = .ok r s' := by
  obtain ⟨x, s1, e1, e0⟩ := bind_ok e
  obtain ⟨kb, s2, e2, e5⟩ := bind_ok e0
  obtain ⟨e3, e4⟩ := opt_ok e2
  subst e4
  refine ⟨kb, s2, ?_, e5⟩
  unfold evalB
  rw [e1]
  show R.opt (asB x) s2 = _
  rw [e3]
theorem B_of {c : IE} {s s' : S} {r : Bool} (e : (evalE T F c s).val = .ok (.bl r) s') : evalB T F c s = .ok r s' := by
  unfold evalB
  rw [e]
  rfl
theorem PW.weak {e : Expr} {t t' : TT} (h : PW X e t) (w : ∀ σ H Q, t' σ H Q → t σ H Q) : PW X e t' := ⟨fun wh pins s σ H Q I q => h.run wh pins s σ H Q I (w σ H Q q)⟩
/-- a test's value from its use as a value -/
theorem EE_test {c : IE} {σ : L2.St} {H : Hp} {Q : VK} {C : Cf} {s s' : S} {kb : Bool} (hH : C.H = H) (r : Rel G C s σ) (e : evalB T F c s = .ok kb s') (k : ∀ C', Le C C' → Rel G C' s' σ → Q (.bl kb) C'.H) : EE G T F c σ H Q :=
  EE_of_val hH r (B_val e) fun C' v l r' h => by
    unfold VR at h
    subst h
    exact k C' l r'
theorem EB_of {c : IE} {σ : L2.St} {H : Hp} {Q : Bool → Hp → Prop} {C : Cf} {s s' : S} {kb : Bool} (hH : C.H = H) (r : Rel G C s σ) (e : evalB T F c s = .ok kb s') (k : ∀ C', Le C C' → Rel G C' s' σ → Q kb C'.H) : EB G T F c σ H Q := ⟨C, s, kb, s', hH, r, e, k⟩
theorem se_and1 (ha : PE X ea (EE G T F a)) : PE X (.BoolOp .And [ea] pos) (EE G T F a) := pe_one ha
theorem se_or1 (ha : PE X ea (EE G T F a)) : PE X (.BoolOp .Or [ea] pos) (EE G T F a) := pe_one ha
theorem se_and (ha : PE X ea (EE G T F a)) (hb : PE X (.BoolOp .And (eb :: rest) pos) (EE G T F b)) : PE X (.BoolOp .And (ea :: eb :: rest) pos) (EE G T F (.and a b)) := by
  refine PE.weak (pe_and ha hb) fun σ H Q ⟨C, s, r, s', hH, rl, e, kk⟩ => ?_
  unfold evalE at e
  obtain ⟨kb, s1, e1, e⟩ := test_ok e
  show EE G T F a σ H (fun x H1 => ∃ c, x = .bl c ∧ if c = true then EE G T F b σ H1 Q else Q (.bl false) H1)
  refine EE_test hH rl e1 fun C1 l1 r1 => ⟨kb, rfl, ?_⟩
  cases kb with
  | false =>
    cases e
    rw [if_neg (by simp)]
    exact kk C1 _ l1 r1 (show VR G C1 (.bl false) (.bl false) from VR.bl)
  | true =>
    rw [if_pos rfl]
    exact ⟨C1, s1, r, s', rfl, r1, e, fun C2 v l2 r2 h2 => kk C2 v (l1.trans l2) r2 h2⟩
theorem se_or (ha : PE X ea (EE G T F a)) (hb : PE X (.BoolOp .Or (eb :: rest) pos) (EE G T F b)) : PE X (.BoolOp .Or (ea :: eb :: rest) pos) (EE G T F (.or a b)) := by
  refine PE.weak (pe_or ha hb) fun σ H Q ⟨C, s, r, s', hH, rl, e, kk⟩ => ?_
  unfold evalE at e
  obtain ⟨kb, s1, e1, e⟩ := test_ok e
  show EE G T F a σ H (fun x H1 => ∃ c, x = .bl c ∧ if c = true then Q (.bl true) H1 else EE G T F b σ H1 Q)
  refine EE_test hH rl e1 fun C1 l1 r1 => ⟨kb, rfl, ?_⟩
  cases kb with
  | true =>
    cases e
    rw [if_pos rfl]
    exact kk C1 _ l1 r1 (show VR G C1 (.bl true) (.bl true) from VR.bl)
  | false =>
    rw [if_neg (by simp)]
    exact ⟨C1, s1, r, s', rfl, r1, e, fun C2 v l2 r2 h2 => kk C2 v (l1.trans l2) r2 h2⟩
theorem se_not (ha : PE X ea (EE G T F a)) : PE X (.UnaryOp .Not ea pos) (EE G T F (.not a)) := by
  refine PE.weak (pe_not ha) fun σ H Q ⟨C, s, r, s', hH, rl, e, kk⟩ => ?_
  unfold evalE at e
  obtain ⟨kb, s1, e1, e⟩ := test_ok e
  cases e
  show EE G T F a σ H (fun x H1 => ∃ c, x = .bl c ∧ Q (.bl (!c)) H1)
  exact EE_test hH rl e1 fun C1 l1 r1 => ⟨kb, rfl, kk C1 _ l1 r1 (show VR G C1 (.bl (!kb)) (.bl (!kb)) from VR.bl)⟩
theorem st_and1 (ha : PT X ea (EB G T F a)) : PW X (.BoolOp .And [ea] pos) (EB G T F a) := pw_and1 ha
theorem st_or1 (ha : PT X ea (EB G T F a)) : PW X (.BoolOp .Or [ea] pos) (EB G T F a) := pw_or1 ha
theorem andB {s s' : S} {r : Bool} (e : evalB T F (.and a b) s = .ok r s') : ∃ kb s1, evalB T F a s = .ok kb s1 ∧ ((kb = false ∧ r = false ∧ s' = s1) ∨ (kb = true ∧ evalB T F b s1 = .ok r s')) := by
  have e := B_val e
  obtain ⟨x, e, ex⟩ := val_ok e
  unfold evalE at e
  obtain ⟨kb, s1, e1, e⟩ := test_ok e
  refine ⟨kb, s1, e1, ?_⟩
  cases kb with
  | false => cases e; cases ex; exact .inl ⟨rfl, rfl, rfl⟩
  | true =>
    refine .inr ⟨rfl, B_of ?_⟩
    have e6 : evalE T F b s1 = .ok x s' := e
    unfold R.val
    rw [e6]
    show R.opt (freeze x) s' = _
    rw [ex]
theorem orB {s s' : S} {r : Bool} (e : evalB T F (.or a b) s = .ok r s') : ∃ kb s1, evalB T F a s = .ok kb s1 ∧ ((kb = true ∧ r = true ∧ s' = s1) ∨ (kb = false ∧ evalB T F b s1 = .ok r s')) := by
  have e := B_val e
  obtain ⟨x, e, ex⟩ := val_ok e
  unfold evalE at e
  obtain ⟨kb, s1, e1, e⟩ := test_ok e
  refine ⟨kb, s1, e1, ?_⟩
  cases kb with
  | true => cases e; cases ex; exact .inl ⟨rfl, rfl, rfl⟩
  | false =>
    refine .inr ⟨rfl, B_of ?_⟩
    have e6 : evalE T F b s1 = .ok x s' := e
    unfold R.val
    rw [e6]
    show R.opt (freeze x) s' = _
    rw [ex]
theorem st_and (ha : PT X ea (EB G T F a)) (hb : PW X (.BoolOp .And (eb :: rest) pos) (EB G T F b)) : PW X (.BoolOp .And (ea :: eb :: rest) pos) (EB G T F (.and a b)) := by
  refine PW.weak (pw_and ha hb) fun σ H Q ⟨C, s, r, s', hH, rl, e, kk⟩ => ?_
  obtain ⟨kb, s1, e1, e⟩ := andB e
  show EB G T F a σ H (fun c H1 => if c = true then EB G T F b σ H1 Q else Q false H1)
  refine EB_of hH rl e1 fun C1 l1 r1 => ?_
  rcases e with ⟨rfl, rfl, rfl⟩ | ⟨rfl, e⟩
  · rw [if_neg (by simp)]
    exact kk C1 l1 r1
  · rw [if_pos rfl]
    exact EB_of rfl r1 e fun C2 l2 r2 => kk C2 (l1.trans l2) r2
theorem st_or (ha : PT X ea (EB G T F a)) (hb : PW X (.BoolOp .Or (eb :: rest) pos) (EB G T F b)) : PW X (.BoolOp .Or (ea :: eb :: rest) pos) (EB G T F (.or a b)) := by
  refine PW.weak (pw_or ha hb) fun σ H Q ⟨C, s, r, s', hH, rl, e, kk⟩ => ?_
  obtain ⟨kb, s1, e1, e⟩ := orB e
  show EB G T F a σ H (fun c H1 => if c = true then Q true H1 else EB G T F b σ H1 Q)
  refine EB_of hH rl e1 fun C1 l1 r1 => ?_
  rcases e with ⟨rfl, rfl, rfl⟩ | ⟨rfl, e⟩
  · rw [if_pos rfl]
    exact kk C1 l1 r1
  · rw [if_neg (by simp)]
    exact EB_of rfl r1 e fun C2 l2 r2 => kk C2 (l1.trans l2) r2
theorem st_not (ha : PT X ea (EB G T F a)) : PT X (.UnaryOp .Not ea pos) (EB G T F (.not a)) := by
  refine PT.weak (pt_not ha) fun σ H Q ⟨C, s, r, s', hH, rl, e, kk⟩ => ?_
  have e := B_val e
  obtain ⟨x, e, ex⟩ := val_ok e
  unfold evalE at e
  obtain ⟨kb, s1, e1, e⟩ := test_ok e
  cases e
  cases ex
  show EB G T F a σ H (fun c H1 => Q (!c) H1)
  exact EB_of hH rl e1 fun C1 l1 r1 => kk C1 l1 r1
theorem se_ite (hc : PT X ec (EB G T F c)) (ha : PE X ea (EE G T F a)) (hb : PE X eb (EE G T F b)) : PE X (.IfExp ec ea eb pos) (EE G T F (.ite c a b)) := by
  refine PE.weak (pe_ifExp hc ha hb) fun σ H Q ⟨C, s, r, s', hH, rl, e, kk⟩ => ?_
  unfold evalE at e
  obtain ⟨kb, s1, e1, e⟩ := test_ok e
  show EB G T F c σ H (fun c H1 => if c = true then EE G T F a σ H1 Q else EE G T F b σ H1 Q)
  refine EB_of hH rl e1 fun C1 l1 r1 => ?_
  cases kb with
  | true =>
    obtain ⟨x, s2, e2, e⟩ := bind_ok e
    cases e
    rw [if_pos rfl]
    exact EE_of_val rfl r1 e2 fun C2 v l2 r2 h2 => kk C2 v (l1.trans l2) r2 h2
  | false =>
    obtain ⟨x, s2, e2, e⟩ := bind_ok e
    cases e
    rw [if_neg (by simp)]
    exact EE_of_val rfl r1 e2 fun C2 v l2 r2 h2 => kk C2 v (l1.trans l2) r2 h2

/-! ### items -/
theorem IxR.any : IxR X (fun x y H Q => ∃ r : R2, IxR X r ∧ r x y H Q) := fun value slice pins s σ H x y v u Q I rx ry ⟨r, h, q⟩ hs => h value slice pins s σ H x y v u Q I rx ry q hs
theorem ix_dict (o : XO G k X) : IxR X (fun x y H Q => ∃ a v, x = .ref a ∧ DGet H a y (some v) ∧ Q v H) := by
  intro value slice pins s σ H x y v u Q I rx ry h hs
  obtain ⟨p, w, rfl, g, q⟩ := h
  cases rx
  have h5 := o.room.units
  exact tail_any (dict_typeIs I g) PySem.F.slot_dict_getitem.lookup (d_getItem (by omega) I g ry fun w' s' I' r' => ⟨w, H, I', r', q⟩) hs
theorem ixN_lt {n : Nat} {i : Int} {j : Nat} (h : ixN n i = some j) : j < n := (ixN_seq h).2.1
theorem atI_rel {C : Cf} {xs : List Val} {ys : List V} {i : Int} {x : Val} (r : VRs G C xs ys) (h : atI xs i = some x) : ∃ y, atI ys i = some y ∧ VR G C x y := by
  unfold atI at h ⊢
  rw [← r.length]
  obtain ⟨j, h1, h2⟩ := Option.bind_eq_some_iff.mp h
  rw [h1]
  exact r.get h2
theorem sub_ok (o : XO G k X) {C : Cf} {x y : Val} {v w : V} {z : Val} {Q : VK} (hx : NR G C x v) (hy : NR G C y w) (e : vsub x y = some z) (q : ∀ u, VR G C z u → Q u C.H) : ∃ r : R2, IxR X r ∧ r v w C.H Q := by
  unfold vsub at e
  split at e
  · obtain ⟨p, ys, rfl, hp, hr⟩ := hx
    cases hy.int
    obtain ⟨u, h1, h2⟩ := atI_rel hr e
    exact ⟨_, ix_list, p, ys, _, u, rfl, rfl, SqL.of hp, h1, q u h2⟩
  · obtain ⟨p, ys, rfl, hp, hr⟩ := hx.tup
    cases hy.int
    obtain ⟨u, h1, h2⟩ := atI_rel hr e
    exact ⟨_, ix_tup, p, ys, _, u, rfl, rfl, by rw [o.K]; exact hp, h1, q u h2⟩
  · split at e
    · rename_i hl
      obtain ⟨c, h1, rfl⟩ := Option.map_eq_some_iff.mp e
      cases hx.str
      cases hy.int
      exact ⟨_, ix_str, _, _, c, rfl, rfl, hl, h1, q _ .str⟩
    · cases e
  · split at e
    · rename_i kk h1
      obtain ⟨p, ks, rfl, hp, hr⟩ := hx
      cases keyV_ok hy h1
      have h2 := hr.get (kk := kk)
      rw [e] at h2
      obtain ⟨u, h3, h4⟩ := h2
      exact ⟨_, ix_dict o, p, u, rfl, .inl ⟨ks, kk, hp, rfl, h3.symm⟩, q u h4⟩
    · cases e
  · cases e
theorem vsub_bad (y : Val) : vsub .bad y = none := rfl
theorem se_sub (o : XO G k X) (ha : PE X ea (EE G T F a)) (hb : PE X eb (EE G T F b)) (hs : PlainIx eb := by intro _ _; rfl) : PE X (.Subscript ea eb pos) (EE G T F (.sub a b)) := by
  refine PE.weak (pe_ix IxR.any ha hb hs) fun σ H Q ⟨C, s, r, s', hH, rl, e, kk⟩ => ?_
  unfold evalE at e
  obtain ⟨x, s1, e1, e⟩ := bind_ok e
  obtain ⟨y, s2, e2, e⟩ := bind_ok e
  obtain ⟨e, e3⟩ := opt_ok e
  subst e3
  obtain ⟨z, e4, e5⟩ := Option.map_eq_some_iff.mp e
  subst e5
  show EE G T F a σ H (fun x H1 => EE G T F b σ H1 (fun y H2 => ∃ r : R2, IxR X r ∧ r x y H2 Q))
  refine EE_of_op hH rl e1 fun C1 v l1 r1 o1 => EE_of_val rfl r1 e2 fun C2 w l2 r2 o2 => ?_
  have hx := deref_ok r2 (OR.mono l2 o1) (ne_bad1 (op := vsub) vsub_bad e4)
  exact sub_ok o hx o2.nr e4 fun u hu => kk C2 u (l1.trans l2) r2 hu

/-! ### arguments -/
theorem sa_nil : PA X [] (tVs G (evalVs T F [])) := ⟨fun pos pins s σ H Q I ⟨C, s1, xs, s', hH, rl, e, kk⟩ => by
  unfold evalVs at e
  cases e
  subst hH
  exact pa_nil.run pos pins s σ C.H Q I (kk C [] (.refl C) rl VRs.nil)⟩
theorem PA.weak {es : List Expr} {t t' : TA} (h : PA X es t) (w : ∀ σ H Q, t' σ H Q → t σ H Q) : PA X es t' := ⟨fun pos pins s σ H Q I q => h.run pos pins s σ H Q I (w σ H Q q)⟩
theorem sa_cons {es : List Expr} {as : List IE} (ha : PE X ea (EE G T F a)) (hr : PA X es (tVs G (evalVs T F as))) (hs : starEach (ea :: es) X.env = (false, eval ea X.env) :: starEach es X.env := by rfl) : PA X (ea :: es) (tVs G (evalVs T F (a :: as))) := by
  refine PA.weak (pa_cons ha hr hs) fun σ H Q ⟨C, s, r, s', hH, rl, e, kk⟩ => ?_
  unfold evalVs at e
  obtain ⟨x, s1, e1, e⟩ := bind_ok e
  obtain ⟨xs, s2, e2, e⟩ := bind_ok e
  cases e
  show EE G T F a σ H (fun x H1 => tVs G (evalVs T F as) σ H1 (fun xs H2 => Q (x :: xs) H2))
  exact EE_of_val hH rl e1 fun C1 v l1 r1 h1 => ⟨C1, s1, xs, _, rfl, r1, e2, fun C2 vs l2 r2 h2 => kk C2 (v :: vs) (l1.trans l2) r2 (VRs.cons (h1.mono l2) h2)⟩
theorem so_nil : PA X [] (tOs G (evalOs T F [])) := ⟨fun pos pins s σ H Q I ⟨C, s1, xs, s', hH, rl, e, kk⟩ => by
  unfold evalOs at e
  cases e
  subst hH
  exact pa_nil.run pos pins s σ C.H Q I (kk C [] (.refl C) rl rfl)⟩
theorem so_cons {es : List Expr} {as : List IE} (ha : PE X ea (EE G T F a)) (hr : PA X es (tOs G (evalOs T F as))) (hs : starEach (ea :: es) X.env = (false, eval ea X.env) :: starEach es X.env := by rfl) : PA X (ea :: es) (tOs G (evalOs T F (a :: as))) := by
  refine PA.weak (pa_cons ha hr hs) fun σ H Q ⟨C, s, r, s', hH, rl, e, kk⟩ => ?_
  unfold evalOs at e
  obtain ⟨x, s1, e1, e⟩ := bind_ok e
  obtain ⟨xs, s2, e2, e⟩ := bind_ok e
  cases e
  show EE G T F a σ H (fun x H1 => tOs G (evalOs T F as) σ H1 (fun xs H2 => Q (x :: xs) H2))
  exact EE_of_op hH rl e1 fun C1 v l1 r1 h1 => ⟨C1, s1, xs, _, rfl, r1, e2, fun C2 vs l2 r2 h2 => kk C2 (v :: vs) (l1.trans l2) r2 ⟨v, vs, rfl, OR.mono l2 h1, h2⟩⟩
theorem se_tup {es : List Expr} {as : List IE} {x1 : Nat} (h : PA X es (tVs G (evalVs T F as))) (hl : as.length ≤ 1000 := by decide) : PE X (.Tuple es x1 pos) (EE G T F (.tup as)) := by
  refine PE.weak (pe_tup h) fun σ H Q ⟨C, s, r, s', hH, rl, e, kk⟩ => ?_
  unfold evalE at e
  obtain ⟨xs, s1, e1, e⟩ := bind_ok e
  cases e
  refine ⟨C, s, xs, _, hH, rl, e1, fun C1 vs l1 r1 h1 => ⟨?_, fun p n => out_t r1 h1 n fun C2 z l2 r2 h2 => kk C2 z (l1.trans l2) r2 h2⟩⟩
  rw [← h1.length]
  have : ∀ (as : List IE) (s : S) (xs : List Val) (s' : S), evalVs T F as s = .ok xs s' → xs.length = as.length := by
    intro as
    induction as with
    | nil => intro s xs s' e; unfold evalVs at e; cases e; rfl
    | cons a as ih =>
      intro s xs s' e
      unfold evalVs at e
      obtain ⟨x, s1, e1, e⟩ := bind_ok e
      obtain ⟨ys, s2, e2, e⟩ := bind_ok e
      cases e
      simp [ih _ _ _ e2]
  rw [this _ _ _ _ e1]
  exact Nat.le_trans hl (by decide)
theorem Vs_len : ∀ (as : List IE) (s : S) (xs : List Val) (s' : S), evalVs T F as s = .ok xs s' → xs.length = as.length
  | [], s, xs, s', e => by unfold evalVs at e; cases e; rfl
  | a :: as, s, xs, s', e => by
    unfold evalVs at e
    obtain ⟨x, s1, e1, e⟩ := bind_ok e
    obtain ⟨ys, s2, e2, e⟩ := bind_ok e
    cases e
    simp [Vs_len as _ _ _ e2]
theorem se_lst {es : List Expr} {as : List IE} (h : PA X es (tVs G (evalVs T F as))) (hl : as.length ≤ 1000 := by decide) : PE X (.List es pos) (EE G T F (.lst as)) := by
  refine PE.weak (pe_lst h) fun σ H Q ⟨C, s, r, s', hH, rl, e, kk⟩ => ?_
  unfold evalE at e
  obtain ⟨xs, s1, e1, e⟩ := bind_ok e
  cases e
  refine ⟨C, s, xs, _, hH, rl, e1, fun C1 vs l1 r1 h1 => ⟨?_, fun p n => out_l r1 h1 n fun C2 z l2 r2 h2 => kk C2 z (l1.trans l2) r2 h2⟩⟩
  rw [← h1.length, Vs_len _ _ _ _ e1]
  exact Nat.le_trans hl (by decide)
end
end Rs
end
section
set_option maxRecDepth 100000
set_option maxHeartbeats 4000000
/-! Built-in functions. -/
namespace Rs
open PySem PySem.Spec PyProof.Rows L2
def NRs (G : Gl) (C : Cf) : List Val → List V → Prop
  | [], vs => vs = []
  | x :: xs, vs => ∃ v r, vs = v :: r ∧ NR G C x v ∧ NRs G C xs r
def BiOk (G : Gl) (X : Cx) (f : Bi) (g : Value) : Prop :=
  ∀ (C : Cf) (s : S) (σ : L2.St) (xs : List Val) (vs : List V) (r : Rv) (Q : VK), Rel G C s σ → NRs G C xs vs → biop f xs = some r → (∀ C' z, Le C C' → Rel G C' s σ → RvR G C' s σ r z → Q z C'.H) → ∃ r2 : List V → Hp → VK → Prop, CallR X g r2 ∧ r2 vs C.H Q
section
variable {G : Gl} {T : Tab} {F : Call} {k : Nat} {X : Cx} {C : Cf} {s : S} {σ : L2.St} {Q : VK}
theorem NRs.one {x : Val} {vs : List V} (h : NRs G C [x] vs) : ∃ v, vs = [v] ∧ NR G C x v := by
  obtain ⟨v, r, e, a, b⟩ := h
  cases b
  exact ⟨v, e, a⟩
theorem NRs.two {x y : Val} {vs : List V} (h : NRs G C [x, y] vs) : ∃ v w, vs = [v, w] ∧ NR G C x v ∧ NR G C y w := by
  obtain ⟨v, r, e, a, b⟩ := h
  obtain ⟨w, e2, c⟩ := NRs.one b
  subst e2
  exact ⟨v, w, e, a, c⟩
theorem VRk.length {C : Cf} : ∀ {xs : List (Key × Val)} {ys : List (Key × V)}, VRk G C xs ys → xs.length = ys.length
  | [], ys, h => by unfold VRk at h; subst h; rfl
  | (j, x) :: xs, ys, h => by
    unfold VRk at h
    obtain ⟨y, r, e, a, b⟩ := h
    subst e
    simp [VRk.length b]
theorem CallR.lenD : CallR X (.builtin "len") (fun xs H Q => ∃ a kvs, xs = [.ref a] ∧ Rd H a (.dK kvs) ∧ Q (.int kvs.length) H) := by
  intro pins s σ H xs us Q I r h
  obtain ⟨a, kvs, rfl, e, q⟩ := h
  obtain ⟨u, rfl, rx⟩ := vals1 r
  cases rx
  exact d_len I e fun t s' I' => ⟨.int kvs.length, H, I', ⟨t, rfl⟩, q⟩
theorem bi_len (o : XO G k X) : BiOk G X .len (.builtin "len") := by
  intro C s σ xs vs r Q rl h e kk
  unfold biop at e
  split at e
  all_goals try contradiction
  all_goals (obtain ⟨v, rfl, hx⟩ := h.one)
  · cases e
    obtain ⟨p, ys, rfl, hp, hr⟩ := hx
    exact ⟨_, call_len, _, ys.length, rfl, .inl ⟨ys, SqL.of hp, rfl⟩, by rw [← hr.length]; exact out_v rl .int kk⟩
  · cases e
    obtain ⟨p, ys, rfl, hp, hr⟩ := hx.tup
    exact ⟨_, call_len, _, ys.length, rfl, .inr ⟨ys, by rw [o.K]; exact hp, rfl⟩, by rw [← hr.length]; exact out_v rl .int kk⟩
  · cases e
    obtain ⟨p, ks, rfl, hp, hr⟩ := hx
    exact ⟨_, CallR.lenD, p, ks, rfl, hp, by rw [← hr.length]; exact out_v rl .int kk⟩
  · cases e
    obtain ⟨p, rfl, hp⟩ := hx.scr
    exact ⟨_, call_len, _, _, rfl, .inl ⟨_, by rw [o.K]; exact hp, rfl⟩, by rw [List.length_map]; exact out_v rl .int kk⟩
  · split at e
    · rename_i hl
      cases e
      cases hx.str
      exact ⟨_, call_len, _, _, rfl, ⟨hl, rfl⟩, out_v rl .int kk⟩
    · cases e
theorem bi_abs : BiOk G X .abs (.builtin "abs") := by
  intro C s σ xs vs r Q rl h e kk
  unfold biop at e
  split at e
  all_goals try contradiction
  obtain ⟨v, rfl, hx⟩ := h.one
  cases e
  cases hx.int
  exact ⟨_, call_abs, _, rfl, out_v rl .int kk⟩
theorem intsOf_rel : ∀ {xs : List Val} {ys : List V} {ns : List Int}, VRs G C xs ys → intsOf xs = some ns → ys = ns.map V.int
  | [], ys, ns, h, e => by
    unfold VRs at h; unfold intsOf at e; cases e; subst h; rfl
  | x :: xs, ys, ns, h, e => by
    unfold VRs at h
    obtain ⟨y, r, e1, a, b⟩ := h
    subst e1
    cases x with
    | int i =>
      unfold intsOf at e
      obtain ⟨ms, e2, rfl⟩ := Option.map_eq_some_iff.mp e
      rw [intsOf_rel b e2]
      unfold VR at a
      rw [a]
      rfl
    | _ => unfold intsOf at e; cases e
theorem blsOf_rel : ∀ {xs : List Val} {ys : List V} {ns : List Bool}, VRs G C xs ys → blsOf xs = some ns → ys = ns.map V.bl
  | [], ys, ns, h, e => by
    unfold VRs at h; unfold blsOf at e; cases e; subst h; rfl
  | x :: xs, ys, ns, h, e => by
    unfold VRs at h
    obtain ⟨y, r, e1, a, b⟩ := h
    subst e1
    cases x with
    | bl i =>
      unfold blsOf at e
      obtain ⟨ms, e2, rfl⟩ := Option.map_eq_some_iff.mp e
      rw [blsOf_rel b e2]
      unfold VR at a
      rw [a]
      rfl
    | _ => unfold blsOf at e; cases e
theorem fold_min_mem : ∀ (ns : List Int) (n : Int), ns.foldl min n ∈ n :: ns ∧ ∀ y ∈ n :: ns, ns.foldl min n ≤ y
  | [], n => ⟨by simp, fun y h => by simp at h; subst h; exact Int.le_refl _⟩
  | m :: ns, n => by
    obtain ⟨h1, h2⟩ := fold_min_mem ns (min n m)
    refine ⟨?_, fun y hy => ?_⟩
    · show ns.foldl min (min n m) ∈ _
      rcases List.mem_cons.mp h1 with h | h
      · rw [h]
        by_cases hh : n ≤ m
        · rw [Int.min_eq_left hh]; simp
        · rw [Int.min_eq_right (by omega)]; simp
      · simp [h]
    · show ns.foldl min (min n m) ≤ y
      have h3 := h2 (min n m) (by simp)
      rcases List.mem_cons.mp hy with h | h
      · subst h; exact Int.le_trans h3 (Int.min_le_left _ _)
      · rcases List.mem_cons.mp h with h | h
        · subst h; exact Int.le_trans h3 (Int.min_le_right _ _)
        · exact h2 y (by simp [h])
theorem fold_max_mem : ∀ (ns : List Int) (n : Int), ns.foldl max n ∈ n :: ns ∧ ∀ y ∈ n :: ns, y ≤ ns.foldl max n
  | [], n => ⟨by simp, fun y h => by simp at h; subst h; exact Int.le_refl _⟩
  | m :: ns, n => by
    obtain ⟨h1, h2⟩ := fold_max_mem ns (max n m)
    refine ⟨?_, fun y hy => ?_⟩
    · show ns.foldl max (max n m) ∈ _
      rcases List.mem_cons.mp h1 with h | h
      · rw [h]
        by_cases hh : n ≤ m
        · rw [Int.max_eq_right hh]; simp
        · rw [Int.max_eq_left (by omega)]; simp
      · simp [h]
    · show y ≤ ns.foldl max (max n m)
      have h3 := h2 (max n m) (by simp)
      rcases List.mem_cons.mp hy with h | h
      · subst h; exact Int.le_trans (Int.le_max_left _ _) h3
      · rcases List.mem_cons.mp h with h | h
        · subst h; exact Int.le_trans (Int.le_max_right _ _) h3
        · exact h2 y (by simp [h])
theorem min_uniq {ns : List Int} {a b : Int} (ha : a ∈ ns ∧ ∀ y ∈ ns, a ≤ y) (hb : b ∈ ns) (hb2 : ∀ y, y ∈ ns → b ≤ y) : b = a := Int.le_antisymm (hb2 a ha.1) (ha.2 b hb)
theorem max_uniq {ns : List Int} {a b : Int} (ha : a ∈ ns ∧ ∀ y ∈ ns, y ≤ a) (hb : b ∈ ns) (hb2 : ∀ y, y ∈ ns → y ≤ b) : b = a := Int.le_antisymm (ha.2 b hb) (hb2 a ha.1)
theorem bi_max (o : XO G k X) : BiOk G X .max (.builtin "max") := by
  intro C s σ xs vs r Q rl h e kk
  unfold biop at e
  split at e
  all_goals try contradiction
  · obtain ⟨v, w, rfl, hx, hy⟩ := h.two
    cases e
    cases hx.int
    cases hy.int
    exact ⟨_, call_max2 o.calm, _, _, rfl, out_v rl .int kk⟩
  · obtain ⟨v, rfl, hx⟩ := h.one
    obtain ⟨x, e2, rfl⟩ := Option.map_eq_some_iff.mp e
    clear e
    have e := e2
    unfold vmax at e
    split at e
    · rename_i n ns hn
      cases e
      obtain ⟨p, ys, rfl, hp, hr⟩ := hx
      have := intsOf_rel hr hn
      subst this
      refine ⟨_, cr_max o.calm, p, n :: ns, rfl, SqL.of hp, by simp, fun m h1 h2 => ?_⟩
      rw [max_uniq (fold_max_mem ns n) h1 h2]
      exact out_v rl .int kk
    · cases e
theorem bi_sum (o : XO G k X) : BiOk G X .sum (.builtin "sum") := by
  intro C s σ xs vs r Q rl h e kk
  unfold biop at e
  split at e
  all_goals try contradiction
  obtain ⟨v, rfl, hx⟩ := h.one
  obtain ⟨ns, e2, rfl⟩ := Option.map_eq_some_iff.mp e
  clear e
  have e := e2
  obtain ⟨p, ys, rfl, hp, hr⟩ := hx
  have := intsOf_rel hr e
  subst this
  exact ⟨_, cr_sum o.calm, p, ns, rfl, SqL.of hp, out_v rl .int kk⟩
theorem bi_all (o : XO G k X) : BiOk G X .all (.builtin "all") := by
  intro C s σ xs vs r Q rl h e kk
  unfold biop at e
  split at e
  all_goals try contradiction
  obtain ⟨v, rfl, hx⟩ := h.one
  obtain ⟨ns, e2, rfl⟩ := Option.map_eq_some_iff.mp e
  clear e
  have e := e2
  obtain ⟨p, ys, rfl, hp, hr⟩ := hx
  have := blsOf_rel hr e
  subst this
  exact ⟨_, cr_all o.calm, p, ns, rfl, SqL.of hp, out_v rl .bl kk⟩
theorem bi_int : BiOk G X .int (.type "int") := by
  intro C s σ xs vs r Q rl h e kk
  unfold biop at e
  split at e
  all_goals try contradiction
  · obtain ⟨v, rfl, hx⟩ := h.one
    cases e
    cases hx.int
    exact ⟨_, call_int1, .inl ⟨_, rfl, out_v rl .int kk⟩⟩
  · obtain ⟨v, rfl, hx⟩ := h.one
    cases e
    cases hx.bl
    exact ⟨_, call_int1, .inr ⟨_, rfl, out_v rl .int kk⟩⟩
theorem bi_bool : BiOk G X .bool (.type "bool") := by
  intro C s σ xs vs r Q rl h e kk
  unfold biop at e
  split at e
  all_goals try contradiction
  obtain ⟨v, rfl, hx⟩ := h.one
  cases e
  cases hx.int
  exact ⟨_, call_bool1, .inl ⟨_, rfl, out_v rl .bl kk⟩⟩
theorem bi_str : BiOk G X .str (.type "str") := by
  intro C s σ xs vs r Q rl h e kk
  unfold biop at e
  split at e
  all_goals try contradiction
  obtain ⟨v, rfl, hx⟩ := h.one
  split at e
  · cases e
    cases hx.int
    exact ⟨_, call_str_int, _, rfl, by assumption, out_v rl .str kk⟩
  · cases e
theorem VRs.chars (x : Str) : VRs G C (signs x) (x.cps.toList.map fun c => V.str ⟨#[c]⟩) := VRs.map (fun c => VR.str) _
theorem vKey_rel (kk : Key) : VR G C (vKey kk) (kV kk) := by
  cases kk with
  | inl i => exact VR.int
  | inr x => exact VR.str
theorem VRk.keys : ∀ {xs : List (Key × Val)} {ys : List (Key × V)}, VRk G C xs ys → VRs G C (xs.map fun kv => vKey kv.1) (ys.map fun kv => kV kv.1)
  | [], ys, h => by unfold VRk at h; subst h; exact VRs.nil
  | (j, x) :: xs, ys, h => by
    unfold VRk at h
    obtain ⟨y, r, e, a, b⟩ := h
    subst e
    exact VRs.cons (vKey_rel j) (VRk.keys b)
theorem bi_list (o : XO G k X) : BiOk G X .list (.type "list") := by
  intro C s σ xs vs r Q rl h e kk
  unfold biop at e
  split at e
  all_goals try contradiction
  rename_i x
  obtain ⟨v, rfl, hx⟩ := h.one
  split at e
  · cases e
  · obtain ⟨ys, e2, rfl⟩ := Option.map_eq_some_iff.mp e
    clear e
    have e := e2
    rename_i hs
    unfold itemsV at e
    split at e
    · cases e
      obtain ⟨p, ys, rfl, hp, hr⟩ := hx
      exact ⟨_, call_list_of, p, ys, rfl, .inl (SqL.of hp), fun l n => out_l rl hr n kk⟩
    · cases e
      obtain ⟨p, ys, rfl, hp, hr⟩ := hx.tup
      exact ⟨_, call_list_of, p, ys, rfl, .inr (by rw [o.K]; exact hp), fun l n => out_l rl hr n kk⟩
    · exact absurd rfl (hs _)
    · cases e
      obtain ⟨p, ks, rfl, hp, hr⟩ := hx
      exact ⟨_, call_listD o.calm, p, ks, rfl, hp, fun l n => out_l rl hr.keys n kk⟩
    · cases e
theorem bi_tuple (o : XO G k X) : BiOk G X .tuple (.type "tuple") := by
  intro C s σ xs vs r Q rl h e kk
  unfold biop at e
  split at e
  all_goals try contradiction
  all_goals (obtain ⟨v, rfl, hx⟩ := h.one)
  · cases e
    obtain ⟨p, ys, rfl, hp, hr⟩ := hx
    exact ⟨_, call_tuple_of, p, ys, rfl, .inl ⟨SqL.of hp, fun l n => out_t rl hr n kk⟩⟩
  · cases e
    obtain ⟨p, ys, e1, hp, hr⟩ := hx.tup
    subst e1
    exact ⟨_, call_tuple_of, p, ys, rfl, .inr ⟨by rw [o.K]; exact hp, out_v rl (show VR G C (.tup _) _ from hx) kk⟩⟩
theorem pairs_rel : ∀ {xs : List Val} {ys : List V} {kvs : List (Key × Val)}, VRs G C xs ys → pairsV xs = some kvs → ∃ (ps : List Addr) (ks : List (Key × V)), ys = ps.map V.ref ∧ VRk G C kvs ks ∧ Paired (fun p (kv : Key × V) => SqT G.K C.H p [kV kv.1, kv.2]) ps ks
  | [], ys, kvs, h, e => by
    unfold VRs at h; unfold pairsV at e; cases e; subst h
    exact ⟨[], [], rfl, by unfold VRk; rfl, .nil⟩
  | x :: xs, ys, kvs, h, e => by
    unfold VRs at h
    obtain ⟨y, r, e1, a, b⟩ := h
    subst e1
    unfold pairsV at e
    split at e
    · rename_i heq; cases heq
    · rename_i kx vx rr heq
      cases heq
      split at e
      · rename_i kk r2 h1 h2
        cases e
        obtain ⟨ps, ks, rfl, h3, h4⟩ := pairs_rel b h2
        have a' : NR G C (.tup [kx, vx]) y := a
        obtain ⟨p, zs, rfl, hp, hz⟩ := a'.tup
        unfold VRs at hz
        obtain ⟨z1, zr, rfl, g1, hz⟩ := hz
        unfold VRs at hz
        obtain ⟨z2, zr2, rfl, g2, hz⟩ := hz
        unfold VRs at hz
        subst hz
        cases keyV_ok g1.nr h1
        refine ⟨p :: ps, (kk, z2) :: ks, rfl, ?_, .cons hp h4⟩
        unfold VRk
        exact ⟨z2, ks, rfl, g2, h3⟩
      · cases e
    · cases e
theorem VRk.any {kk : Key} : ∀ {xs : List (Key × Val)} {ys : List (Key × V)}, VRk G C xs ys → (xs.any fun kv => decide (kv.1 = kk)) = (ys.any fun kv => decide (kv.1 = kk))
  | [], ys, h => by unfold VRk at h; subst h; rfl
  | (j, x) :: xs, ys, h => by
    unfold VRk at h
    obtain ⟨y, r, e, a, b⟩ := h
    subst e
    simp only [List.any_cons]
    rw [VRk.any b]
theorem VRk.repl {kk : Key} {x : Val} {y : V} (hx : VR G C x y) : ∀ {xs : List (Key × Val)} {ys : List (Key × V)}, VRk G C xs ys → VRk G C (xs.map fun kv => if kv.1 = kk then (kv.1, x) else kv) (ys.map fun kv => if kv.1 = kk then (kv.1, y) else kv)
  | [], ys, h => by unfold VRk at h; subst h; show VRk G C [] []; unfold VRk; rfl
  | (j, z) :: xs, ys, h => by
    unfold VRk at h
    obtain ⟨w, r, e, a, b⟩ := h
    subst e
    simp only [List.map_cons]
    by_cases hj : j = kk
    · rw [if_pos hj, if_pos hj]
      unfold VRk
      exact ⟨_, _, rfl, hx, VRk.repl hx b⟩
    · rw [if_neg hj, if_neg hj]
      unfold VRk
      exact ⟨_, _, rfl, a, VRk.repl hx b⟩
theorem VRk.snoc {kk : Key} {x : Val} {y : V} (hx : VR G C x y) : ∀ {xs : List (Key × Val)} {ys : List (Key × V)}, VRk G C xs ys → VRk G C (xs ++ [(kk, x)]) (ys ++ [(kk, y)])
  | [], ys, h => by
    unfold VRk at h; subst h
    show VRk G C [(kk, x)] [(kk, y)]
    unfold VRk
    exact ⟨y, [], rfl, hx, by unfold VRk; rfl⟩
  | (j, z) :: xs, ys, h => by
    unfold VRk at h
    obtain ⟨w, r, e, a, b⟩ := h
    subst e
    show VRk G C ((j, z) :: (xs ++ [(kk, x)])) ((j, w) :: (r ++ [(kk, y)]))
    unfold VRk
    exact ⟨_, _, rfl, a, VRk.snoc hx b⟩
theorem VRk.put {kk : Key} {x : Val} {y : V} (hx : VR G C x y) {xs : List (Key × Val)} {ys : List (Key × V)} (h : VRk G C xs ys) : VRk G C (dput xs kk x) (putK ys kk y) := by
  unfold dput putK
  rw [h.any]
  by_cases c : (ys.any fun kv => decide (kv.1 = kk)) = true
  · rw [if_pos c, if_pos c]
    exact h.repl hx
  · rw [if_neg c, if_neg c]
    exact h.snoc hx
theorem VRk.drop {kk : Key} : ∀ {xs : List (Key × Val)} {ys : List (Key × V)}, VRk G C xs ys → VRk G C (ddrop xs kk) (dropK ys kk)
  | [], ys, h => by unfold VRk at h; subst h; show VRk G C [] []; unfold VRk; rfl
  | (j, z) :: xs, ys, h => by
    unfold VRk at h
    obtain ⟨w, r, e, a, b⟩ := h
    subst e
    have ih := VRk.drop (kk := kk) b
    unfold ddrop dropK at ih ⊢
    by_cases hj : j = kk
    · simp only [List.filter_cons, hj, ne_eq, not_true_eq_false, decide_false, Bool.false_eq_true, if_false]
      exact ih
    · simp only [List.filter_cons, hj, ne_eq, not_false_eq_true, decide_true, if_true]
      unfold VRk
      exact ⟨_, _, rfl, a, ih⟩
theorem VRk.merge : ∀ {ms : List (Key × Val)} {ns : List (Key × V)} {xs : List (Key × Val)} {ys : List (Key × V)}, VRk G C ms ns → VRk G C xs ys → VRk G C (dmerge xs ms) (mergeK ys ns)
  | [], ns, xs, ys, h, g => by unfold VRk at h; subst h; exact g
  | (j, z) :: ms, ns, xs, ys, h, g => by
    unfold VRk at h
    obtain ⟨w, r, e, a, b⟩ := h
    subst e
    exact VRk.merge (xs := dput xs j z) (ys := putK ys j w) b (VRk.put a g)
theorem VRk.nil : VRk G C [] [] := by unfold VRk; rfl
theorem bi_dict (o : XO G k X) : BiOk G X .dict (.type "dict") := by
  intro C s σ xs vs r Q rl h e kk
  unfold biop at e
  split at e
  all_goals try contradiction
  all_goals (obtain ⟨v, rfl, hx⟩ := h.one)
  · cases e
    obtain ⟨p, ks, rfl, hp, hr⟩ := hx
    exact ⟨_, call_dictD, p, ks, rfl, hp, fun l n => out_d rl hr n kk⟩
  · obtain ⟨kvs, e2, rfl⟩ := Option.map_eq_some_iff.mp e
    clear e
    have e := e2
    obtain ⟨p, ys, rfl, hp, hr⟩ := hx
    obtain ⟨ps, ks, rfl, h3, h4⟩ := pairs_rel hr e
    exact ⟨_, call_dictP o.calm, p, ps, ks, rfl, SqL.of hp, by rw [o.K]; exact h4, fun l n => out_d rl (h3.merge VRk.nil) n kk⟩
end
end Rs
end
section
set_option maxRecDepth 100000
set_option maxHeartbeats 4000000
/-! Calls of defs of the text. -/
namespace Rs
open PySem PySem.Spec PyProof.Rows L2
/-! ### places that stay while something runs -/
section
variable {G : Gl} {C C' : Cf} {s s' : S} {σ : L2.St}
/-- places of others from here on -/
abbrev Cf.keep (C : Cf) (Z : Addr → Prop) : Cf := { C with rs := fun p => C.rs p ∨ Z p }
theorem lv_keep {Z : Addr → Prop} : Lv C (C.keep Z) := ⟨List.prefix_rfl, fun _ h => h, fun _ _ => .of fun _ h => h⟩
theorem lv_rs {K : Addr → Prop} : Lv C { C with rs := K } := ⟨List.prefix_rfl, fun _ h => h, fun _ _ => .of fun _ h => h⟩
theorem le_back {Z : Addr → Prop} (l : Le (C.keep Z) C') : Le C { C' with rs := C.rs } where
  ρ := l.ρ
  fz := l.fz
  hf := l.hf
  kp := l.kp
  rs := rfl
  hk := fun p z => l.hk p (z.imp id .inl)
  ff := l.ff
/-- the slots' own places -/
def Own (s : S) (σ : L2.St) (p : Addr) : Prop := ∃ (i : Nat) (c : Cell), s.e[i]? = some (.own c) ∧ σ[i]? = some (some (.ref p))
theorem own_at (r : Rel G C s σ) {p : Addr} (h : Own s σ p) : C.H p ≠ none ∧ ¬ C.fz p ∧ p ∉ C.ρ := by
  obtain ⟨i, c, h1, h2⟩ := h
  obtain ⟨q, a, b, d, e, f⟩ := r.own i c h1
  rw [h2] at a
  cases a
  exact ⟨b.tr, d, e⟩
/-- into a call: no names, all that these names have stays -/
theorem Rel.enter (r : Rel G C s σ) : Rel G (C.keep (Own s σ)) ⟨[], s.h⟩ [] where
  len := rfl
  env := fun i x h => by simp at h
  own := fun i x h => by simp at h
  apart := fun i j c d p h => by simp at h
  hlen := r.hlen
  nd := r.nd
  cell := fun n c p h1 h2 => by
    obtain ⟨a, b, d⟩ := r.cell n c p h1 h2
    refine ⟨a.mono0 lv_keep, b, d.1, fun z => ?_⟩
    rcases z with z | z
    · exact d.2 z
    · exact (own_at r z).2.2 (List.mem_of_getElem? h2)
  fztr := r.fztr
  kptr := fun p z => by
    rcases z with z | z | z
    · exact r.kptr p (.inl z)
    · exact r.kptr p (.inr z)
    · exact (own_at r z).1
  fzkp := fun p h z => by
    rcases z with z | z | z
    · exact r.fzkp p h (.inl z)
    · exact r.fzkp p h (.inr z)
    · exact (own_at r z).2.1 h
theorem Rel.leave (r : Rel G C s σ) {e2 : List Slot} {h2 : List Cell} {σ2 : L2.St} (l : Le (C.keep (Own s σ)) C') (r2 : Rel G C' ⟨e2, h2⟩ σ2) : Rel G { C' with rs := C.rs } ⟨s.e, h2⟩ σ where
  len := r.len
  env := fun i x h => by
    obtain ⟨v, a, b⟩ := r.env i x h
    exact ⟨v, a, b.mono (le_back l)⟩
  own := fun i c h => by
    obtain ⟨p, a, b, d, e, f⟩ := r.own i c h
    have kz : (C.keep (Own s σ)).rs p := .inr ⟨i, c, h, a⟩
    have hk : C'.rs p := by rw [l.rs]; exact kz
    refine ⟨p, a, ?_, fun z => r2.fzkp p z (.inr hk), fun z => ?_, fun u => by rw [l.kp]; exact f.1 u, f.2⟩
    · cases q : C.H p with
      | none => exact absurd q b.tr
      | some o =>
        have e1 : C'.H p = some o := l.hk p (.inr kz) o q
        show CR G _ c (C'.H p)
        rw [e1, ← q]
        exact b.mono (le_back l)
    · obtain ⟨n, hn, e3⟩ := List.getElem_of_mem z
      have h1 : n < h2.length := by rw [show h2.length = C'.ρ.length from r2.hlen]; exact hn
      exact (r2.cell n h2[n] p (by simp [h1]) (by rw [List.getElem?_eq_getElem hn, e3])).2.2.2 hk
  apart := r.apart
  hlen := r2.hlen
  nd := r2.nd
  cell := fun n c p h1 h2 => by
    obtain ⟨a, b, d⟩ := r2.cell n c p h1 h2
    exact ⟨a.mono0 lv_rs, b, d.1, fun u => d.2 (by rw [l.rs]; exact .inl u)⟩
  fztr := r2.fztr
  kptr := fun p z => r2.kptr p (z.imp id fun z => by rw [l.rs]; exact .inl z)
  fzkp := fun p h z => r2.fzkp p h (z.imp id fun z => by rw [l.rs]; exact .inl z)
end
/-! ### what a def does -/
/-- a def's own law: the wanted end is reached wherever the interpreter's answer is handed out -/
def spI (G : Gl) (F : Call) (id np : Nat) : List V → Hp → VK → Prop := fun vs H Q => vs.length = np ∧ ∃ C xs h r s2, C.H = H ∧ Rel G C ⟨[], h⟩ [] ∧ VRs G C xs vs ∧ F id xs h = .ok r s2 ∧
  ∀ C' v, Le C C' → Rel G C' ⟨[], s2.h⟩ [] → VR G C' r v → Q v C'.H
abbrev SpG := List V → Hp → VK → Prop
/-- a def, called where no repr is under way -/
structure FnG (P : Program) (w : World) (K : PySem.W.Frag) (mg : Str → Option Value) (base : Heap) (k : Nat) (f : Addr) (fd : FuncData) (ps : List Str) (sp : SpG) : Prop where
  len : ∀ vs H Q, sp vs H Q → vs.length = ps.length
  run : ∀ (A : Around) (outer : List Env) (s : Shared) (H : Hp) (args : Args) (us : List Value) (vs : List V) (Q : VK), A.guards = some [] → Room k A → Env0 P w K mg base A outer s H → BindsTo s fd args (ps.zip us) → Vals vs us → sp vs H Q →
    codeAny (model P w) A (.call (.ref f) args) (fun r s' => ∃ u, r = .ok (.ret u) ∧ CE outer P w H s Q u s') s
section
variable {X : Cx} {k : Nat} {f : Addr} {fd : FuncData} {ps : List Str} {sp : SpG} {dvs : List V} {ds : List Value} {x m : Str} {p pos apos : Pos} {e o : Expr} {es : List Expr} {ta : TE} {t : TA}
theorem FnG.go {pins : List (Addr × Obj)} {σ : L2.St} {H : Hp} {s : Shared} {Q : VK} {us : List Value} {vs : List V} (F : FnG X.prog X.w X.K X.mg X.base k f fd ps sp) (gd : X.A.guards = some []) (hr : Room k X.A) (hb : Binds X.K fd ps ds) (hd : Vals dvs ds)
    (I : Inv X pins σ H s) (r : Vals vs us) (h : sp (vs ++ dvs) H Q) : wpAny (model X.prog X.w) X.A (call (.ref f) us) (EP X pins σ Q) X.xe s := by
  have both : Vals (vs ++ dvs) (us ++ ds) := r.append hd
  have many : (us ++ ds).length = ps.length := by rw [← F.len _ _ _ h, both.length]
  refine wpAny_call (codeAny_mono (F.run X.A X.stack s H ⟨us, []⟩ _ _ Q gd hr I.env0 (hb s us I.kIn many) both h) fun r s' hq => ?_)
  obtain ⟨u, rfl, hq⟩ := hq
  exact I.after hq
def tGo (sp : SpG) (dvs : List V) (t : TA) : TE := fun σ H Q => t σ H fun vs H1 => sp (vs ++ dvs) H1 Q
theorem pg_call (F : FnG X.prog X.w X.K X.mg X.base k f fd ps sp) (gd : X.A.guards = some []) (hr : Room k X.A) (hb : Binds X.K fd ps ds) (hd : Vals dvs ds) (hg : L2.Gl X x) (hm : X.mg x = some (.ref f)) (hk : PySem.W.keepIn X.K (.ref f) = true)
    (ha : PA X (e :: es) t) (hdb : (x == ("__debug__" : Str)) = false := by decide) (st1 : starEach (e :: es) X.env = (false, eval e X.env) :: starEach es X.env := by rfl) (st2 : (backTo pos (starEach es X.env)).any (·.1) = false := by rfl) :
    PE X (.Call (.Name x p) (e :: es) [] pos) (tGo sp dvs t) :=
  ⟨fun pins s σ H Q I h => wpAny_Call_Name_kw (ld_glob I hg hm (PySem.W.callWith_K (h₀ := X.base) I.ok.mod.kin hk (thn (ha.run pos pins s σ H _ I h) fun us s1 ⟨vs, H1, I1, r, q⟩ => ⟨I1.kIn, F.go gd hr hb hd I1 r q⟩) st1 st2) hdb)⟩
theorem pg_call0 (F : FnG X.prog X.w X.K X.mg X.base k f fd ps sp) (gd : X.A.guards = some []) (hr : Room k X.A) (hb : Binds X.K fd ps ds) (hd : Vals dvs ds) (hg : L2.Gl X x) (hm : X.mg x = some (.ref f)) (hk : PySem.W.keepIn X.K (.ref f) = true)
    (hdb : (x == ("__debug__" : Str)) = false := by decide) : PE X (.Call (.Name x p) [] [] pos) (tGo sp dvs tNil) :=
  ⟨fun pins s σ H Q I h => wpAny_Call_Name_kw (ld_glob I hg hm (PySem.W.callWith_K0 I.kIn hk (F.go (us := []) gd hr hb hd I .nil h)) hdb)⟩
end
/-! ### a def's body -/
theorem fnG_of {P : Program} {w : World} {K : PySem.W.Frag} {mg : Str → Option Value} {base : Heap} {k : Nat} {f : Addr} {x qual : Str} {params : Arguments} {body : List Stmt} {scope : Scope} {dvs : List V} {kws : List (Str × V)} {fd : FuncData}
    {N ps : List Str} {sp : SpG} (F : FunD K x qual params body scope dvs kws f fd) (S : FnScope N ps scope) (len : ∀ vs H Q, sp vs H Q → vs.length = ps.length)
    (hbody : ∀ (cdv : Value) (A : Around) (outer : List Env) (s : Shared) (H : Hp), A.guards = some [] → Room k (A.deeper (envOfC qual scope s.heap.objs.size f cdv)) →
      ∃ t, PSs (cxOf CX0 P w K mg base N qual scope f cdv A outer s H E0).nox body t ∧ ∀ (vs : List V) (Q : VK), sp vs H Q → t { nx := fun _ H' => Q .non H', rt := Q } (start N vs) H) : FnG P w K mg base (k + 1) f fd ps sp := by
  obtain ⟨oc, od, dV, kV, doc, pm, an, cdv, ct, osl, rfl, lk, hcd, _, _⟩ := F.ex
  refine ⟨len, fun A outer s H args us vs Q gd hr e0 hb r hsp => ?_⟩
  have hl := len _ _ _ hsp
  have KX : K.In s.heap := e0.mod.kin.keeps fun b o e => (e0.bs b o e).1
  have lim : s.heap.NoLimit := e0.mod.nolimit.keeps fun b o e => (e0.bs b o e).1
  have kinds : ∀ y ∈ ps.zip us, scope.names.lookup y.1 = some .local ∨ (scope.names.lookup y.1 = some .cell ∧ ((cellsFrom (s.heap.objs.size + 1) scope.names []).lookup y.1).isSome = true) := fun y hy => by
    rcases S.par y.1 (List.of_mem_zip (show (y.1, y.2) ∈ _ from hy)).1 with q | q
    · exact .inl q
    · exact .inr ⟨q, PySem.W.cellsFrom_some _ _ _ (.inl q)⟩
  refine codeAny_call_function hr.depth (KX _ _ lk) rfl S.co S.gen rfl (PySem.W.codeRec_of KX hcd) (hb _ _ _ _ (wpAny_newFunctionEnv_cells S.kind kinds fun env he s1 y => ?_))
  subst he
  refine ⟨lim.keeps y.toInCall.keep, codeAny_func ?_⟩
  obtain ⟨t, ht, hq⟩ := hbody cdv A outer s H gd (hr.deeper _)
  have I := inv_start (CX := CX0) (E := E0) S hr.hd e0 hl r y
  refine wpAny_mono ((PSs.nox ht).run [] s1 (start N vs) H _ I (hq vs Q hsp)) (fun fl s' hs => ?_) fun e s' hs => ?_
  · cases fl with
    | ret u =>
      obtain ⟨v, σ', H', J, rv, q⟩ := hs
      exact ⟨u, rfl, v, H', J.os, J.bare, J.base, J.hok, rv, q⟩
    | next =>
      obtain ⟨σ', H', J, q⟩ := hs
      exact ⟨.none, rfl, .non, H', J.os, J.bare, J.base, J.hok, rfl, q⟩
    | brk =>
      obtain ⟨_, _, _, q⟩ := hs
      exact q.elim
    | cont =>
      obtain ⟨_, _, _, q⟩ := hs
      exact q.elim
  · exact wpAny_mono (show wpAny _ _ _ _ _ _ from hs) (fun _ _ h => h.elim) fun _ _ h => h.elim
end Rs
end
section
set_option maxRecDepth 100000
set_option maxHeartbeats 4000000
/-! What is walked; for; comprehensions. -/
namespace Rs
open PySem PySem.Spec PyProof.Rows L2
section
variable {G : Gl} {C C' : Cf} {s s' : S} {σ σ' : L2.St}
/-! ### names forgotten -/
theorem Rel.slots (r : Rel G C s σ) {e : List Slot} (hl : e.length = σ'.length) (h : ∀ (j : Nat) (t : Slot), e[j]? = some t → t ≠ .no → s.e[j]? = some t ∧ σ'[j]? = σ[j]?) : Rel G C { s with e := e } σ' where
  len := hl
  env := fun j x q => by
    obtain ⟨a, b⟩ := h j _ q (by simp)
    rw [b]
    exact r.env j x a
  own := fun j x q => by
    obtain ⟨a, b⟩ := h j _ q (by simp)
    rw [b]
    exact r.own j x a
  apart := fun i j c d p h1 h2 h3 h4 => by
    obtain ⟨a1, b1⟩ := h i _ h1 (by simp)
    obtain ⟨a2, b2⟩ := h j _ h2 (by simp)
    rw [b1] at h3
    rw [b2] at h4
    exact r.apart i j c d p a1 a2 h3 h4
  hlen := r.hlen
  nd := r.nd
  cell := r.cell
  fztr := r.fztr
  kptr := r.kptr
  fzkp := r.fzkp
theorem wipeE_len (e : List Slot) : ∀ vs : List Nat, (wipeE e vs).length = e.length
  | [] => rfl
  | v :: vs => by unfold wipeE; rw [List.length_set, wipeE_len e vs]
theorem wipeE_at {e : List Slot} {j : Nat} {t : Slot} : ∀ {vs : List Nat}, (wipeE e vs)[j]? = some t → t ≠ .no → e[j]? = some t ∧ j ∉ vs
  | [], h, _ => ⟨h, by simp⟩
  | v :: vs, h, n => by
    unfold wipeE at h
    by_cases hv : v = j
    · subst hv
      by_cases hl : v < (wipeE e vs).length
      · rw [List.getElem?_set_self hl] at h
        exact absurd (Option.some.inj h).symm n
      · rw [List.getElem?_eq_none (by simpa using hl)] at h
        cases h
    · rw [List.getElem?_set_ne hv] at h
      obtain ⟨a, b⟩ := wipeE_at h n
      exact ⟨a, by simp only [List.mem_cons, not_or]; exact ⟨fun z => hv z.symm, b⟩⟩
theorem Rel.wipe (r : Rel G C s σ) (vs : List Nat) : Rel G C { s with e := wipeE s.e vs } (wipe σ vs) :=
  r.slots (by rw [wipeE_len, wipe_length]; exact r.len) fun j t h n => let ⟨a, b⟩ := wipeE_at h n; ⟨a, wipe_out b⟩
theorem restE_len (e0 e1 : List Slot) : ∀ vs : List Nat, (restE e0 e1 vs).length = e1.length
  | [] => rfl
  | v :: vs => by unfold restE; rw [List.length_set, restE_len e0 e1 vs]
theorem restE_at {e0 e1 : List Slot} {j : Nat} {t : Slot} : ∀ {vs : List Nat}, (restE e0 e1 vs)[j]? = some t → (j ∉ vs ∧ e1[j]? = some t) ∨ (j ∈ vs ∧ (t = .no ∨ ∃ x, t = .val x ∧ e0[j]? = some (.val x)))
  | [], h => .inl ⟨by simp, h⟩
  | v :: vs, h => by
    unfold restE at h
    by_cases hv : v = j
    · subst hv
      right
      refine ⟨by simp, ?_⟩
      by_cases hl : v < (restE e0 e1 vs).length
      · rw [List.getElem?_set_self hl] at h
        rw [List.getD_eq_getElem?_getD] at h
        cases q : e0[v]? with
        | none => rw [q] at h; exact .inl (Option.some.inj h).symm
        | some u =>
          rw [q] at h
          cases u with
          | val x => exact .inr ⟨x, (Option.some.inj h).symm, rfl⟩
          | _ => exact .inl (Option.some.inj h).symm
      · rw [List.getElem?_eq_none (by simpa using hl)] at h
        cases h
    · rw [List.getElem?_set_ne hv] at h
      rcases restE_at h with ⟨a, b⟩ | ⟨a, b⟩
      · exact .inl ⟨by simp only [List.mem_cons, not_or]; exact ⟨fun z => hv z.symm, a⟩, b⟩
      · exact .inr ⟨List.mem_cons_of_mem _ a, b⟩
/-- behind a comprehension: its names are those of before -/
theorem Rel.rest {C0 : Cf} {s0 : S} {vs : List Nat} (r0 : Rel G C0 s0 σ) (l : Lv C0 C) (r : Rel G C s (L2.wipe σ vs)) : Rel G C { s with e := restE s0.e s.e vs } σ where
  len := by rw [restE_len, r.len, wipe_length]
  env := fun j x q => by
    rcases restE_at q with ⟨a, b⟩ | ⟨a, b⟩
    · obtain ⟨v, h1, h2⟩ := r.env j x b
      exact ⟨v, by rw [wipe_out a] at h1; exact h1, h2⟩
    · rcases b with b | ⟨y, b, h⟩
      · cases b
      · cases b
        obtain ⟨v, h1, h2⟩ := r0.env j x h
        exact ⟨v, h1, h2.mono0 l⟩
  own := fun j x q => by
    rcases restE_at q with ⟨a, b⟩ | ⟨a, b⟩
    · obtain ⟨v, h1, h2⟩ := r.own j x b
      exact ⟨v, by rw [wipe_out a] at h1; exact h1, h2⟩
    · rcases b with b | ⟨y, b, h⟩
      · cases b
      · cases b
  apart := fun i j c d p h1 h2 h3 h4 => by
    rcases restE_at h1 with ⟨a1, b1⟩ | ⟨a1, b1⟩
    · rcases restE_at h2 with ⟨a2, b2⟩ | ⟨a2, b2⟩
      · exact r.apart i j c d p b1 b2 (by rw [wipe_out a1]; exact h3) (by rw [wipe_out a2]; exact h4)
      · rcases b2 with b | ⟨y, b, h⟩ <;> cases b
    · rcases b1 with b | ⟨y, b, h⟩ <;> cases b
  hlen := r.hlen
  nd := r.nd
  cell := r.cell
  fztr := r.fztr
  kptr := r.kptr
  fzkp := r.fzkp

/-! ### places walked -/
/-- the place of what is no value -/
def Pl (C : Cf) (σ : L2.St) (o : Rv) (p : Addr) : Prop := match o with
  | .v (.ref n) => C.ρ[n]? = some p
  | .sl i => σ[i]? = some (some (.ref p))
  | _ => False
abbrev Cf.hold (C : Cf) (Z : Addr → Prop) : Cf := { C with kp := fun p => C.kp p ∨ Z p }
theorem lv_hold {Z : Addr → Prop} : Lv C (C.hold Z) := ⟨List.prefix_rfl, fun _ h => h, fun _ _ => .of fun _ h => h⟩
theorem lv_kp {K : Addr → Prop} : Lv C { C with kp := K } := ⟨List.prefix_rfl, fun _ h => h, fun _ _ => .of fun _ h => h⟩
theorem le_unhold {Z : Addr → Prop} (l : Le (C.hold Z) C') : Le C { C' with kp := C.kp } where
  ρ := l.ρ
  fz := l.fz
  hf := l.hf
  kp := rfl
  rs := l.rs
  hk := fun p z => l.hk p (z.imp .inl id)
  ff := l.ff
theorem Rel.unhold {Z : Addr → Prop} (r : Rel G (C.hold Z) s σ) : Rel G C s σ where
  len := r.len
  env := fun i x h => let ⟨v, a, b⟩ := r.env i x h; ⟨v, a, b.mono0 lv_kp⟩
  own := fun i c h => let ⟨p, a, b, d, e, f⟩ := r.own i c h; ⟨p, a, b.mono0 lv_kp, d, e, fun u z => f.1 u (.inl z), f.2⟩
  apart := r.apart
  hlen := r.hlen
  nd := r.nd
  cell := fun n c p h1 h2 => let ⟨a, b, d⟩ := r.cell n c p h1 h2; ⟨a.mono0 lv_kp, b, fun u z => d.1 u (.inl z), d.2⟩
  fztr := r.fztr
  kptr := fun p z => r.kptr p (z.imp .inl id)
  fzkp := fun p h z => r.fzkp p h (z.imp .inl id)
theorem Rel.unhold' {Z K : Addr → Prop} (r : Rel G C s σ) (h : C.kp = fun p => K p ∨ Z p) : Rel G { C with kp := K } s σ :=
  Rel.unhold (C := { C with kp := K }) (Z := Z) (by
    have e : ({ C with kp := K } : Cf).hold Z = C := by
      cases C
      simp only at h
      subst h
      rfl
    rw [e]
    exact r)
/-- a list at a place is locked, unlocked -/
theorem lst_flag {xs : List Val} {a b : Bool} {o : Option HO} (h : CR G C (.lst xs a) o) : CR G C (.lst xs b) o := h
theorem Rel.flagH (r : Rel G C s σ) {n : Nat} {xs : List Val} {a b : Bool} {p : Addr} (h : s.h[n]? = some (.lst xs a)) (hp : C.ρ[n]? = some p) (k : b = false → ¬ C.kp p) : Rel G C { s with h := s.h.set n (.lst xs b) } σ where
  len := r.len
  env := r.env
  own := r.own
  apart := r.apart
  hlen := by simpa using r.hlen
  nd := r.nd
  cell := fun m c q h1 h2 => by
    have h1 : (s.h.set n (.lst xs b))[m]? = some c := h1
    by_cases e : n = m
    · subst e
      rw [hp] at h2
      cases h2
      have hn : n < s.h.length := (List.getElem?_eq_some_iff.mp h).1
      rw [List.getElem?_set_self hn] at h1
      cases h1
      obtain ⟨a, d, e, f⟩ := r.cell n _ p h hp
      exact ⟨lst_flag a, d, fun u => k (by simpa [free, unlocked] using u), f⟩
    · rw [List.getElem?_set_ne e] at h1
      exact r.cell m c q h1 h2
  fztr := r.fztr
  kptr := r.kptr
  fzkp := r.fzkp
theorem Rel.flagO (r : Rel G C s σ) {n : Nat} {xs : List Val} {a b : Bool} {p : Addr} (h : s.e[n]? = some (.own (.lst xs a))) (hp : σ[n]? = some (some (.ref p))) (k : b = false → ¬ C.kp p) : Rel G C { s with e := s.e.set n (.own (.lst xs b)) } σ where
  len := by simpa using r.len
  env := fun j x q => by
    rcases set_val q with ⟨rfl, e, hi⟩ | ⟨e, h'⟩
    · cases e
    · exact r.env j x h'
  own := fun j c q => by
    rcases set_val q with ⟨rfl, e, hi⟩ | ⟨e, h'⟩
    · cases e
      obtain ⟨q, a, b, d, e, f⟩ := r.own n _ h
      rw [hp] at a
      cases a
      exact ⟨p, hp, lst_flag b, d, e, fun u => k (by simpa [unlocked] using u), f.2⟩
    · exact r.own j c h'
  apart := fun i j c d q h1 h2 h3 h4 => by
    have f1 : ∃ c', s.e[i]? = some (.own c') := by
      rcases set_val h1 with ⟨rfl, e, hi⟩ | ⟨e, h'⟩
      · exact ⟨_, h⟩
      · exact ⟨_, h'⟩
    have f2 : ∃ c', s.e[j]? = some (.own c') := by
      rcases set_val h2 with ⟨rfl, e, hi⟩ | ⟨e, h'⟩
      · exact ⟨_, h⟩
      · exact ⟨_, h'⟩
    obtain ⟨_, g1⟩ := f1
    obtain ⟨_, g2⟩ := f2
    exact r.apart i j _ _ q g1 g2 h3 h4
  hlen := r.hlen
  nd := r.nd
  cell := r.cell
  fztr := r.fztr
  kptr := r.kptr
  fzkp := r.fzkp
theorem Rel.holdZ {Z : Addr → Prop} (r : Rel G C s σ) (h1 : ∀ p, Z p → C.H p ≠ none ∧ ¬ C.fz p) (h2 : ∀ (i : Nat) c p, s.e[i]? = some (.own c) → σ[i]? = some (some (.ref p)) → Z p → unlocked c = false)
    (h3 : ∀ (n : Nat) c p, s.h[n]? = some c → C.ρ[n]? = some p → Z p → free c = false) : Rel G (C.hold Z) s σ where
  len := r.len
  env := fun i x h => let ⟨v, a, b⟩ := r.env i x h; ⟨v, a, b.mono0 lv_hold⟩
  own := fun i c h => let ⟨p, a, b, d, e, f⟩ := r.own i c h; ⟨p, a, b.mono0 lv_hold, d, e, fun u z => z.elim (f.1 u) fun z => (nomatch (h2 i c p h a z).symm.trans u), f.2⟩
  apart := r.apart
  hlen := r.hlen
  nd := r.nd
  cell := fun n c p g1 g2 => let ⟨a, b, d⟩ := r.cell n c p g1 g2; ⟨a.mono0 lv_hold, b, fun u z => z.elim (d.1 u) fun z => (nomatch (h3 n c p g1 g2 z).symm.trans u), d.2⟩
  fztr := r.fztr
  kptr := fun p z => by
    rcases z with (z | z) | z
    · exact r.kptr p (.inl z)
    · exact (h1 p z).1
    · exact r.kptr p (.inr z)
  fzkp := fun p h z => by
    rcases z with (z | z) | z
    · exact r.fzkp p h (.inl z)
    · exact (h1 p z).2 h
    · exact r.fzkp p h (.inr z)
end
end Rs
end
section
set_option maxRecDepth 100000
set_option maxHeartbeats 4000000
/-! Sources of loops. -/
namespace Rs
open PySem PySem.Spec PyProof.Rows L2
section
variable {G : Gl} {C C' D : Cf} {s s' s0 : S} {σ σ' σ0 : L2.St}
def okS (s : S) (o : Rv) : Prop := match o with
  | .v (.ref n) => ∃ xs lk, s.h[n]? = some (.lst xs lk)
  | .v _ => True
  | .sl i => ∃ xs lk, s.e[i]? = some (.own (.lst xs lk))
  | .f _ => False
def Zs (C : Cf) (σ : L2.St) : List Rv → Addr → Prop
  | [], _ => False
  | o :: os, p => Pl C σ o p ∨ Zs C σ os p
theorem Zs.ref {os : List Rv} (hk : os.all (fun o => match o with | .sl _ => false | _ => true) = true) : ∀ p, Zs C σ os p → Zs C σ' os p := by
  induction os with
  | nil => exact fun _ h => h
  | cons o os ih =>
    intro p h
    obtain ⟨h1, h2⟩ := Bool.and_eq_true_iff.mp (show (_ && _) = true from hk)
    rcases h with h | h
    · left
      cases o with
      | sl i => cases h1
      | v x => cases x <;> exact h
      | f c => exact h
    · exact .inr (ih h2 p h)
theorem lock_one (r : Rel G C s σ) {o : Rv} (k : okS s o) : Rel G (C.hold (Pl C σ o)) (lockLoc s o) σ ∧ ∀ o', okS s o' → okS (lockLoc s o) o' := by
  cases o with
  | f c => exact k.elim
  | sl i =>
    obtain ⟨xs, lk, h⟩ := k
    obtain ⟨p, a, b, d, e, f⟩ := r.own i _ h
    have hi : i < s.e.length := (List.getElem?_eq_some_iff.mp h).1
    have e0 : lockLoc s (.sl i) = { s with e := s.e.set i (.own (.lst xs true)) } := by
      unfold lockLoc slotOf
      simp only [List.getD_eq_getElem?_getD, h]
      rfl
    rw [e0]
    refine ⟨(r.flagO h a (b := true) (by simp)).holdZ (fun q z => ?_) (fun j c q h1 h2 z => ?_) (fun m c q h1 h2 z => ?_), fun o' k' => ?_⟩
    · have z : σ[i]? = some (some (.ref q)) := z
      rw [a] at z
      cases z
      exact ⟨b.tr, d⟩
    · have z : σ[i]? = some (some (.ref q)) := z
      rcases set_val h1 with ⟨rfl, e, _⟩ | ⟨e, h'⟩
      · cases e; rfl
      · exact absurd (r.apart i j _ _ q h h' z h2) e
    · have z : σ[i]? = some (some (.ref q)) := z
      rw [a] at z
      cases z
      exact absurd (List.mem_of_getElem? h2) e
    · cases o' with
      | f c => exact k'.elim
      | v x => cases x <;> exact k'
      | sl j =>
        obtain ⟨ys, l2, h'⟩ := k'
        show ∃ xs lk, (s.e.set i _)[j]? = some (.own (.lst xs lk))
        by_cases e : i = j
        · subst e
          exact ⟨xs, true, by rw [List.getElem?_set_self hi]⟩
        · exact ⟨ys, l2, by rw [List.getElem?_set_ne e]; exact h'⟩
  | v x =>
    cases x with
    | ref n =>
      obtain ⟨xs, lk, h⟩ := k
      have hn : n < s.h.length := (List.getElem?_eq_some_iff.mp h).1
      have hp : C.ρ[n]? = some (C.ρ[n]'(by rw [← r.hlen]; exact hn)) := List.getElem?_eq_getElem _
      obtain ⟨b, d, f⟩ := r.cell n _ _ h hp
      have e0 : lockLoc s (.v (.ref n)) = { s with h := s.h.set n (.lst xs true) } := by
        unfold lockLoc
        simp only [h]
        rfl
      rw [e0]
      refine ⟨(r.flagH h hp (b := true) (by simp)).holdZ (fun q z => ?_) (fun j c q h1 h2 z => ?_) (fun m c q h1 h2 z => ?_), fun o' k' => ?_⟩
      · have z : C.ρ[n]? = some q := z
        rw [hp] at z
        cases z
        exact ⟨b.tr, d⟩
      · have z : C.ρ[n]? = some q := z
        obtain ⟨q', a', _, _, e', _⟩ := r.own j c h1
        rw [h2] at a'
        cases a'
        exact absurd (List.mem_of_getElem? z) e'
      · have z : C.ρ[n]? = some q := z
        have h1 : (s.h.set n (.lst xs true))[m]? = some c := h1
        have e : n = m := by
          have g1 := (List.getElem?_eq_some_iff.mp z).1
          exact (List.getElem?_inj g1 r.nd).mp (z.trans h2.symm)
        subst e
        rw [List.getElem?_set_self hn] at h1
        cases h1
        rfl
      · cases o' with
        | f c => exact k'.elim
        | sl j => exact k'
        | v x =>
          cases x with
          | ref m =>
            obtain ⟨ys, l2, h'⟩ := k'
            show ∃ xs lk, (s.h.set n _)[m]? = some (.lst xs lk)
            by_cases e : n = m
            · subst e
              exact ⟨xs, true, by rw [List.getElem?_set_self hn]⟩
            · exact ⟨ys, l2, by rw [List.getElem?_set_ne e]; exact h'⟩
          | _ => exact k'
    | _ =>
      refine ⟨?_, fun _ h => h⟩
      exact r.holdZ (fun _ z => z.elim) (fun _ _ _ _ _ z => z.elim) fun _ _ _ _ _ z => z.elim
theorem hold_hold {Y Z : Addr → Prop} : (C.hold Y).hold Z = C.hold fun p => Y p ∨ Z p := by
  show ({ C with kp := _ } : Cf) = _
  have e : (fun p => (C.kp p ∨ Y p) ∨ Z p) = fun p => C.kp p ∨ Y p ∨ Z p := funext fun p => propext or_assoc
  simp only [Cf.hold, e]
theorem lock_all : ∀ {os : List Rv} {C : Cf} {s : S}, Rel G C s σ → (∀ o ∈ os, okS s o) → Rel G (C.hold (Zs C σ os)) (lockAll s os) σ
  | [], C, s, r, _ => r.holdZ (fun _ z => z.elim) (fun _ _ _ _ _ z => z.elim) fun _ _ _ _ _ z => z.elim
  | o :: os, C, s, r, k => by
    obtain ⟨r1, k1⟩ := lock_one r (k o (by simp))
    have r2 := lock_all (os := os) r1 fun o' h => k1 o' (k o' (by simp [h]))
    rw [hold_hold] at r2
    have e : ∀ (os : List Rv) (p : Addr), Zs (C.hold (Pl C σ o)) σ os p = Zs C σ os p := fun os p => by
      induction os with
      | nil => rfl
      | cons a as ih =>
        show (Pl (C.hold (Pl C σ o)) σ a p ∨ _) = (Pl C σ a p ∨ _)
        rw [ih]
        cases a with
        | v x => cases x <;> rfl
        | _ => rfl
    have e2 : (fun p => Pl C σ o p ∨ Zs (C.hold (Pl C σ o)) σ os p) = Zs C σ (o :: os) := funext fun p => by rw [e]; rfl
    rw [e2] at r2
    exact r2
theorem un_one (r0 : Rel G C s0 σ0) {o : Rv} (k : okS s0 o) (r : Rel G D s σ) (hk : D.kp = C.kp) (same : ∀ p, Pl C σ0 o p → Pl D σ o p ∧ D.H p = C.H p) : Rel G D (unlockLoc s0 s o) σ := by
  cases o with
  | f c => exact k.elim
  | sl i =>
    obtain ⟨xs, lk, h⟩ := k
    obtain ⟨p, a, b, d, e, f⟩ := r0.own i _ h
    obtain ⟨hp, eH⟩ := same p a
    have hp : σ[i]? = some (some (.ref p)) := hp
    unfold unlockLoc
    simp only [h]
    cases q : s.e[i]? with
    | none => simp only [q]; exact r
    | some t =>
      cases t with
      | own c =>
        simp only [q]
        by_cases u : unlocked (.lst xs lk) = true
        · rw [if_pos u]
          obtain ⟨p', a', b', d', e', f'⟩ := r.own i c q
          rw [hp] at a'
          cases a'
          obtain ⟨ys, e1, _⟩ := b
          rw [eH, e1] at b'
          cases c with
          | lst zs l2 => exact r.flagO q hp (b := false) fun _ z => f.1 u (by rw [← hk]; exact z)
          | dct zs l2 => cases l2 <;> (obtain ⟨_, b'⟩ := b' <;> first | (obtain ⟨_, b', _⟩ := b'; cases b') | (obtain ⟨b', _⟩ := b'; cases b'))
          | ins _ _ => obtain ⟨_, _, b', _⟩ := b'; cases b'
        · rw [if_neg u]
          exact r
      | _ => simp only [q]; exact r
  | v x =>
    cases x with
    | ref n =>
      obtain ⟨xs, lk, h⟩ := k
      have hn : n < s0.h.length := (List.getElem?_eq_some_iff.mp h).1
      have hp : C.ρ[n]? = some (C.ρ[n]'(by rw [← r0.hlen]; exact hn)) := List.getElem?_eq_getElem _
      obtain ⟨b, d, f⟩ := r0.cell n _ _ h hp
      obtain ⟨hp2, eH⟩ := same _ hp
      have hp2 : D.ρ[n]? = some (C.ρ[n]'(by rw [← r0.hlen]; exact hn)) := hp2
      unfold unlockLoc
      simp only [h]
      cases q : s.h[n]? with
      | none => simp only [q]; exact r
      | some c =>
        simp only [q]
        by_cases u : unlocked (.lst xs lk) = true
        · rw [if_pos u]
          obtain ⟨b', d', f'⟩ := r.cell n c _ q hp2
          obtain ⟨ys, e1, _⟩ := b
          rw [eH, e1] at b'
          cases c with
          | lst zs l2 => exact r.flagH q hp2 (b := false) fun _ z => f.1 u (by rw [← hk]; exact z)
          | dct zs l2 => cases l2 <;> (obtain ⟨_, b'⟩ := b' <;> first | (obtain ⟨_, b', _⟩ := b'; cases b') | (obtain ⟨b', _⟩ := b'; cases b'))
          | ins _ _ => obtain ⟨_, _, b', _⟩ := b'; cases b'
        · rw [if_neg u]
          exact r
    | _ => exact r
theorem un_all (r0 : Rel G C s0 σ0) (hk : D.kp = C.kp) : ∀ {os : List Rv} {s : S}, (∀ o ∈ os, okS s0 o) → Rel G D s σ → (∀ o ∈ os, ∀ p, Pl C σ0 o p → Pl D σ o p ∧ D.H p = C.H p) → Rel G D (unlockAll s0 s os) σ
  | [], s, _, r, _ => r
  | o :: os, s, k, r, h => un_all r0 hk (os := os) (fun o' h' => k o' (by simp [h'])) (un_one r0 (k o (by simp)) r hk (h o (by simp))) fun o' h' => h o' (by simp [h'])
/-- what a source yields, turn by turn -/
def TW (G : Gl) (C1 : Cf) (Z : Addr → Prop) (items : List Val) (J : It) : Prop := ∃ Gd Y, Walk J items.length Gd Y ∧ (∀ C2, Lv C1 C2 → (∀ p, Z p → C2.H p = C1.H p) → Gd C2.H) ∧
  ∀ i C2 H' x v s2 σ2, items[i]? = some x → Lv C1 C2 → (∀ p, Z p → C2.H p = C1.H p) → Rel G C2 s2 σ2 → Y i C2.H v H' → ∃ C3, C3.H = H' ∧ Le C2 C3 ∧ Rel G C3 s2 σ2 ∧ VR G C3 x v
def tW (G : Gl) (k : Sk) (f : S → R (List Rv)) : TI := fun σ H R => ∃ C s os s' items, C.H = H ∧ Rel G C s σ ∧ f s = .ok os s' ∧ srcItems k (os.map (deref s')) = some items ∧
  ∀ C1 J, Le C C1 → Rel G C1 s' σ → (∀ o ∈ os, okS s' o) → TW G C1 (Zs C1 σ os) items J → R J C1.H
theorem PI.or {X : Cx} {tg e : Expr} {w1 w2 : TI} (h1 : PI X tg e w1) (h2 : PI X tg e w2) : PI X tg e (fun σ H R => w1 σ H R ∨ w2 σ H R) := ⟨fun pins s σ H R I h => h.elim (h1.run pins s σ H R I) (h2.run pins s σ H R I)⟩
theorem PI.weak {X : Cx} {tg e : Expr} {w1 w2 : TI} (h1 : PI X tg e w1) (h2 : ∀ σ H R, w2 σ H R → w1 σ H R) : PI X tg e w2 := ⟨fun pins s σ H R I h => h1.run pins s σ H R I (h2 σ H R h)⟩
theorem src_l (r : Rel G C s σ) {o : Rv} {v : V} {xs : List Val} (h : OR G C s σ o v) (e : deref s o = .lst xs) : ∃ p ys, v = .ref p ∧ C.H p = some (.lst ys) ∧ VRs G C xs ys ∧ okS s o ∧
    (∀ C2, Lv C C2 → (∀ q, Pl C σ o q → C2.H q = C.H q) → C2.H p = some (.lst ys)) := by
  cases o with
  | f c => exact h.elim
  | sl i =>
    have h : σ[i]? = some (some v) := h
    unfold deref at e
    cases q : s.e[i]? with
    | none => simp [q] at e
    | some t =>
      cases t with
      | own c =>
        simp only [q] at e
        obtain ⟨p, a, b, d⟩ := r.own i c q
        rw [h] at a
        cases a
        cases c with
        | lst zs lk =>
          cases e
          obtain ⟨ys, e1, e2⟩ := b
          exact ⟨p, ys, rfl, e1, e2, ⟨xs, lk, q⟩, fun C2 l k => by rw [k p h]; exact e1⟩
        | _ => cases e
      | _ => simp [q] at e
  | v x =>
    cases x with
    | ref n =>
      have h : VR G C (.ref n) v := h
      unfold VR at h
      obtain ⟨p, hp, rfl⟩ := h
      unfold deref at e
      cases q : s.h[n]? with
      | none => simp [q] at e
      | some c =>
        cases c with
        | lst zs lk =>
          simp only [q] at e
          cases e
          obtain ⟨⟨ys, e1, e2⟩, _⟩ := r.cell n _ p q hp
          exact ⟨p, ys, rfl, e1, e2, ⟨xs, lk, q⟩, fun C2 l k => by rw [k p hp]; exact e1⟩
        | _ => simp [q] at e
    | lst zs =>
      cases e
      have h : VR G C (.lst xs) v := h
      unfold VR at h
      obtain ⟨p, ys, rfl, f, hp, hr⟩ := h
      exact ⟨p, ys, rfl, hp, hr, trivial, fun C2 l _ => (l.hf p f).l ys hp⟩
    | _ => cases e
theorem lv_trans {A B C : Cf} (a : Lv A B) (b : Lv B C) : Lv A C := ⟨a.ρ.trans b.ρ, fun p h => b.fz p (a.fz p h), fun p h => (a.hf p h).trans (b.hf p (a.fz p h))⟩
theorem TW.seq {Z : Addr → Prop} {J : It} {xs : List Val} {ys : List V} {Gd : Hp → Prop} (w : Walk J ys.length Gd (YAt ys)) (h : VRs G C xs ys) (hG : ∀ C2, Lv C C2 → (∀ p, Z p → C2.H p = C.H p) → Gd C2.H) : TW G C Z xs J := by
  refine ⟨Gd, YAt ys, by rw [h.length]; exact w, hG, fun i C2 H' x v s2 σ2 hx l _ r y => ?_⟩
  obtain ⟨rfl, hy⟩ := y
  obtain ⟨v', h1, h2⟩ := h.get hx
  rw [hy] at h1
  cases h1
  exact ⟨C2, rfl, .refl _, r, h2.mono0 l⟩
theorem TW.pairs {Z : Addr → Prop} {J : It} {fx fz : Nat → Option V} {Gd : Hp → Prop} {n : Nat} {items : List Val} (hn : items.length = n) (w : Walk J n Gd (YPair fx fz))
    (hi : ∀ i x, items[i]? = some x → ∃ a b, x = .tup [a, b] ∧ ∀ u v, fx i = some u → fz i = some v → VR G C a u ∧ VR G C b v) (hG : ∀ C2, Lv C C2 → (∀ p, Z p → C2.H p = C.H p) → Gd C2.H) : TW G C Z items J := by
  refine ⟨Gd, _, by rw [hn]; exact w, hG, fun i C2 H' x v s2 σ2 hx l _ r y => ?_⟩
  obtain ⟨T, u, z, rfl, hT, rfl, h1, h2⟩ := y
  obtain ⟨a, b, rfl, hv⟩ := hi i x hx
  obtain ⟨va, vb⟩ := hv u z h1 h2
  have f := r.fresh hT
  have r1 := r.new (o := .tup [u, z]) hT
  refine ⟨(C2.new T (.tup [u, z])).ice T, rfl, (Le.new hT).trans .ice, r1.ice ⟨f.fz, f.kp, f.ρ, f.rs⟩ (by show upd _ _ _ _ ≠ none; rw [upd_same]; simp) fun i c h z => own_tr r h z hT, ?_⟩
  have l2 : Lv C ((C2.new T (.tup [u, z])).ice T) := lv_trans l ((Le.new hT).trans .ice).toLv
  show VR G _ (.tup _) _
  unfold VR
  exact ⟨T, _, rfl, .inl ⟨.inr rfl, upd_same⟩, VRs.cons (va.mono0 l2) (VRs.cons (vb.mono0 l2) VRs.nil)⟩
end
section
variable {G : Gl} {T : Tab} {F : Call} {k : Nat} {X : Cx} {tg e ea eb : Expr} {pos p tpos : Pos} {a b : IE}
theorem so_one {a : IE} {s s' : S} {os : List Rv} (h : evalOs T F [a] s = .ok os s') : ∃ x, evalE T F a s = .ok x s' ∧ os = [opnd x] := by
  unfold evalOs at h
  obtain ⟨x, s1, e1, h⟩ := bind_ok h
  obtain ⟨ys, s2, e2, h⟩ := bind_ok h
  unfold evalOs at e2
  cases e2
  cases h
  exact ⟨x, e1, rfl⟩
theorem pw_it (o : XO G k X) (ha : PE X e (EE G T F a)) : PI X tg e (tW G .it (evalOs T F [a])) := by
  refine PI.weak (PI.or (pi_list ha) (PI.or (pi_tup ha) (pi_str ha))) fun σ H R ⟨C, s, os, s', items, hH, rl, ev, hi, kk⟩ => ?_
  obtain ⟨x, e1, rfl⟩ := so_one ev
  simp only [List.map_cons, List.map_nil] at hi
  generalize hd : deref s' (opnd x) = y at hi
  unfold srcItems at hi
  split at hi
  all_goals try contradiction
  · rename_i _ _ xs heq
    cases hi
    cases heq
    left
    show EE G T F a σ H (fun x H1 => ∃ a, x = .ref a ∧ (∃ xs, SqL X.K H1 a xs) ∧ R (Itl X.K a) H1)
    refine EE_of_op hH rl e1 fun C1 v l1 r1 o1 => ?_
    obtain ⟨p, ys, rfl, hp, hr, hok, hG⟩ := src_l r1 o1 hd
    refine ⟨p, rfl, ⟨ys, SqL.of hp⟩, kk C1 _ l1 r1 (fun o ho => by rw [List.mem_singleton.mp ho]; exact hok) ?_⟩
    exact TW.seq walk_list hr fun C2 l h => SqL.of (hG C2 l fun q z => h q (.inl z))
  · rename_i _ _ xs heq
    cases hi
    cases heq
    right; left
    show EE G T F a σ H (fun x H1 => ∃ a, x = .ref a ∧ (∃ xs, SqT X.K H1 a xs) ∧ R (Itt X.K a) H1)
    refine EE_of_op hH rl e1 fun C1 v l1 r1 o1 => ?_
    have hx : opnd x = .v (.tup items) := by
      cases x with
      | v z =>
        cases z with
        | ref n =>
          unfold opnd deref at hd
          cases q : s'.h[n]? with
          | none => simp [q] at hd
          | some c => cases c <;> simp [q] at hd
        | _ => first | (cases hd; rfl) | cases hd
      | f c => unfold opnd at hd; cases c <;> cases hd
      | sl i =>
        unfold opnd deref at hd
        cases q : s'.e[i]? with
        | none => simp [q] at hd
        | some t => cases t with
          | own c => cases c <;> simp [q, imm] at hd
          | _ => simp [q] at hd
    rw [hx] at o1
    have o1 : VR G C1 (.tup items) v := o1
    unfold VR at o1
    obtain ⟨p, ys, rfl, hp, hr⟩ := o1
    have st : ∀ C2, Lv C1 C2 → SqT X.K C2.H p ys := fun C2 l => by
      rw [o.K]
      rcases hp with hp | ⟨ob, its, n, h1, h2, h3, h4, h5⟩
      · exact .inl (.inl ((l.hf p hp.1).t ys hp.2))
      · exact .inr ⟨ob, its, n, h1, h2, h3, h4, h5⟩
    exact ⟨p, rfl, ⟨ys, st C1 ⟨List.prefix_rfl, fun _ h => h, fun _ _ => .of fun _ h => h⟩⟩, kk C1 _ l1 r1 (fun o ho => by rw [List.mem_singleton.mp ho, hx]; trivial) (TW.seq walk_tup hr fun C2 l _ => st C2 l)⟩
  · rename_i _ _ z _ heq
    cases hi
    cases heq
    right; right
    show EE G T F a σ H (fun v H1 => ∃ x, v = .str x ∧ R (Its x) H1)
    refine EE_of_op hH rl e1 fun C1 v l1 r1 o1 => ?_
    have hx : opnd x = .v (.str z) := by
      cases x with
      | v z =>
        cases z with
        | ref n =>
          unfold opnd deref at hd
          cases q : s'.h[n]? with
          | none => simp [q] at hd
          | some c => cases c <;> simp [q] at hd
        | _ => first | (cases hd; rfl) | cases hd
      | f c => unfold opnd at hd; cases c <;> cases hd
      | sl i =>
        unfold opnd deref at hd
        cases q : s'.e[i]? with
        | none => simp [q] at hd
        | some t => cases t with
          | own c => cases c <;> simp [q, imm] at hd
          | _ => simp [q] at hd
    rw [hx] at o1
    have o1 : VR G C1 (.str z) v := o1
    unfold VR at o1
    subst o1
    refine ⟨z, rfl, kk C1 _ l1 r1 (fun o ho => by rw [List.mem_singleton.mp ho, hx]; trivial) ⟨fun _ => True, fun i H v H' => H' = H ∧ ∃ c, z.cps[i]? = some c ∧ v = .str ⟨#[c]⟩, ?_, fun _ _ _ => trivial, ?_⟩⟩
    · have e : (signs z).length = z.cps.size := by unfold signs; simp
      rw [e]
      exact walk_str
    · intro i C2 H' x v s2 σ2 hx l _ r y
      obtain ⟨rfl, c, hc, rfl⟩ := y
      refine ⟨C2, rfl, .refl _, r, ?_⟩
      unfold signs at hx
      rw [List.getElem?_map, Array.getElem?_toList, hc] at hx
      cases hx
      exact VR.str
end
end Rs
end
section
set_option maxRecDepth 100000
set_option maxHeartbeats 4000000
/-! Sources of loops, patterns, loops. -/
namespace Rs
open PySem PySem.Spec PyProof.Rows L2
section
variable {G : Gl} {C C' D : Cf} {s s' s0 : S} {σ σ' σ0 : L2.St}
theorem int_of (r : Rel G C s σ) {o : Rv} {v : V} {i : Int} (h : OR G C s σ o v) (e : deref s o = .int i) : v = .int i ∧ okS s o := by
  have h1 := deref_ok r h (by rw [e]; simp)
  rw [e] at h1
  have h1 : VR G C (.int i) v := h1
  unfold VR at h1
  refine ⟨h1, ?_⟩
  cases o with
  | f c => exact h.elim
  | sl j =>
    unfold deref at e
    cases q : s.e[j]? with
    | none => simp [q] at e
    | some t => cases t with
      | own c => cases c <;> simp [q, imm] at e
      | _ => simp [q] at e
  | v x =>
    cases x with
    | ref n =>
      unfold deref at e
      cases q : s.h[n]? with
      | none => simp [q] at e
      | some c => cases c <;> simp [q] at e
    | _ => trivial
theorem range_get {lo : Int} {n i : Nat} {x : Val} (h : (rangeV lo n)[i]? = some x) : x = .int (lo + (i : Int)) := by
  unfold rangeV at h
  by_cases q : i < n
  · rw [List.getElem?_map, List.getElem?_range q] at h
    cases h; rfl
  · rw [List.getElem?_eq_none (by simp; omega)] at h
    cases h
theorem TW.rng {Z : Addr → Prop} {lo : Int} {n : Nat} : TW G C Z (rangeV lo n) (Itr lo n) := by
  refine ⟨fun _ => True, YFn fun i => .int (lo + i), ?_, fun _ _ _ => trivial, fun i C2 H' x v s2 σ2 hx l _ r y => ?_⟩
  · have e : (rangeV lo n).length = n := by unfold rangeV; simp
    rw [e]
    exact walk_range
  · obtain ⟨rfl, rfl⟩ := y
    rw [range_get hx]
    exact ⟨C2, rfl, .refl _, r, VR.int⟩
theorem enum_len : ∀ (i : Nat) (xs : List Val), (enumV i xs).length = xs.length
  | _, [] => rfl
  | i, x :: xs => by unfold enumV; simp [enum_len]
theorem enum_get : ∀ (j : Nat) (xs : List Val) (i : Nat) (x : Val), (enumV j xs)[i]? = some x → ∃ y, xs[i]? = some y ∧ x = .tup [.int ((j + i : Nat) : Int), y]
  | _, [], _, _, h => by simp [enumV] at h
  | j, y :: ys, 0, x, h => by
    unfold enumV at h
    simp at h
    exact ⟨y, rfl, h.symm⟩
  | j, y :: ys, i + 1, x, h => by
    unfold enumV at h
    obtain ⟨z, h1, h2⟩ := enum_get (j + 1) ys i x (by simpa using h)
    exact ⟨z, by simpa using h1, by rw [h2]; congr 4; omega⟩
theorem zip_len : ∀ xs ys : List Val, (zipV xs ys).length = min xs.length ys.length
  | [], ys => by unfold zipV; simp
  | x :: xs, [] => by unfold zipV; simp
  | x :: xs, y :: ys => by unfold zipV; simp [zip_len]
theorem zip_get : ∀ (xs ys : List Val) (i : Nat) (x : Val), (zipV xs ys)[i]? = some x → ∃ a b, xs[i]? = some a ∧ ys[i]? = some b ∧ x = .tup [a, b]
  | [], ys, i, x, h => by unfold zipV at h; simp at h
  | y :: ys, [], i, x, h => by unfold zipV at h; simp at h
  | a :: xs, b :: ys, 0, x, h => by unfold zipV at h; simp at h; exact ⟨a, b, rfl, rfl, h.symm⟩
  | a :: xs, b :: ys, i + 1, x, h => by
    unfold zipV at h
    obtain ⟨c, d, h1, h2, h3⟩ := zip_get xs ys i x (by simpa using h)
    exact ⟨c, d, by simpa using h1, by simpa using h2, h3⟩
end
section
variable {G : Gl} {T : Tab} {F : Call} {k : Nat} {X : Cx} {tg e ea eb : Expr} {pos p tpos : Pos} {a b : IE}
theorem smallI_ok {i : Int} (h : smallI i = true) : -(2 ^ 62) ≤ i ∧ i < 2 ^ 62 := by
  obtain ⟨h1, h2⟩ := Bool.and_eq_true_iff.mp h
  exact ⟨of_decide_eq_true h1, of_decide_eq_true h2⟩
theorem so_two {a b : IE} {s s' : S} {os : List Rv} (h : evalOs T F [a, b] s = .ok os s') : ∃ x y, os = [x, y] := by
  unfold evalOs at h
  obtain ⟨x, s1, e1, h⟩ := bind_ok h
  obtain ⟨ys, s2, e2, h⟩ := bind_ok h
  obtain ⟨y, e3, rfl⟩ := so_one e2
  cases h
  exact ⟨_, _, rfl⟩
theorem pw_rng1 (o : XO G k X) (hg : L2.Gl X "range") (hm : X.mg "range" = none) (ha : PA X [ea] (tOs G (evalOs T F [a]))) (hs : starEach [ea] X.env = [(false, eval ea X.env)] := by rfl) : PI X tg (.Call (.Name "range" p) [ea] [] pos) (tW G .rng (evalOs T F [a])) := by
  refine PI.weak (pi_range1 hg hm ha hs) fun σ H R ⟨C, s, os, s', items, hH, rl, ev, hi, kk⟩ => ?_
  refine ⟨C, s, os, s', hH, rl, ev, fun C1 vs l1 r1 h1 => ?_⟩
  obtain ⟨x, e1, rfl⟩ := so_one ev
  obtain ⟨v, r, rfl, h2, h3⟩ := h1
  cases h3
  simp only [List.map_cons, List.map_nil] at hi
  generalize hd : deref s' (opnd x) = y at hi
  cases y with
  | int j =>
    unfold srcItems at hi
    simp only at hi
    split at hi
    · rename_i hs
      cases hi
      obtain ⟨rfl, ok⟩ := int_of r1 h2 hd
      exact ⟨j, rfl, (smallI_ok hs).1, (smallI_ok hs).2, kk C1 _ l1 r1 (fun o ho => by rw [List.mem_singleton.mp ho]; exact ok) TW.rng⟩
    · cases hi
  | _ => unfold srcItems at hi; cases hi
theorem pw_rng2 (o : XO G k X) (hg : L2.Gl X "range") (hm : X.mg "range" = none) (ha : PA X [ea, eb] (tOs G (evalOs T F [a, b]))) (hs : starEach [ea, eb] X.env = [(false, eval ea X.env), (false, eval eb X.env)] := by rfl) (hs2 : starEach [eb] X.env = [(false, eval eb X.env)] := by rfl) :
    PI X tg (.Call (.Name "range" p) [ea, eb] [] pos) (tW G .rng (evalOs T F [a, b])) := by
  refine PI.weak (pi_range2 hg hm ha hs hs2) fun σ H R ⟨C, s, os, s', items, hH, rl, ev, hi, kk⟩ => ?_
  refine ⟨C, s, os, s', hH, rl, ev, fun C1 vs l1 r1 h1 => ?_⟩
  obtain ⟨x, y, rfl⟩ := so_two ev
  obtain ⟨v, r, rfl, h2, h3⟩ := h1
  obtain ⟨w, r, rfl, h3, h4⟩ := h3
  cases h4
  simp only [List.map_cons, List.map_nil] at hi
  generalize hd : deref s' x = xx at hi
  generalize hd2 : deref s' y = yy at hi
  cases xx with
  | int i =>
    cases yy with
    | int j =>
      unfold srcItems at hi
      simp only at hi
      split at hi
      · rename_i hs
        cases hi
        obtain ⟨hs1, hs2⟩ := Bool.and_eq_true_iff.mp hs
        obtain ⟨rfl, ok⟩ := int_of r1 h2 hd
        obtain ⟨rfl, ok2⟩ := int_of r1 h3 hd2
        refine ⟨i, j, rfl, ⟨(smallI_ok hs1).1, (smallI_ok hs1).2, (smallI_ok hs2).1, (smallI_ok hs2).2⟩, kk C1 _ l1 r1 (fun o ho => ?_) TW.rng⟩
        rcases List.mem_cons.mp ho with rfl | ho
        · exact ok
        · rw [List.mem_singleton.mp ho]; exact ok2
      · cases hi
    | _ => unfold srcItems at hi; cases hi
  | _ => unfold srcItems at hi; cases yy <;> cases hi
theorem pw_enum {elts : List Expr} {kk : Nat} (o : XO G k X) (hg : L2.Gl X "enumerate") (hm : X.mg "enumerate" = none) (ha : PA X [ea] (tOs G (evalOs T F [a]))) (hs : starEach [ea] X.env = [(false, eval ea X.env)] := by rfl) :
    PI X (.Tuple elts kk tpos) (.Call (.Name "enumerate" p) [ea] [] pos) (tW G .enum (evalOs T F [a])) := by
  refine PI.weak (pi_enum hg hm ha hs) fun σ H R ⟨C, s, os, s', items, hH, rl, ev, hi, kk⟩ => ?_
  refine ⟨C, s, os, s', hH, rl, ev, fun C1 vs l1 r1 h1 => ?_⟩
  obtain ⟨x, e1, rfl⟩ := so_one ev
  obtain ⟨v, r, rfl, h2, h3⟩ := h1
  cases h3
  simp only [List.map_cons, List.map_nil] at hi
  generalize hd : deref s' (opnd x) = y at hi
  cases y with
  | lst xs =>
    cases hi
    obtain ⟨q, ys, rfl, hp, hr, hok, hG⟩ := src_l r1 h2 hd
    refine ⟨q, ys, rfl, SqL.of hp, kk C1 _ l1 r1 (fun o ho => by rw [List.mem_singleton.mp ho]; exact hok) ?_⟩
    refine TW.pairs (n := ys.length) (by rw [enum_len]; exact hr.length) walk_enum (fun i x hx => ?_) fun C2 l h => SqL.of (hG C2 l fun q z => h q (.inl z))
    obtain ⟨y, h1, rfl⟩ := enum_get _ _ _ _ hx
    refine ⟨_, _, rfl, fun u v hu hv => ?_⟩
    obtain ⟨z, hz, hz2⟩ := hr.get h1
    rw [hv] at hz
    cases hz
    cases hu
    exact ⟨by rw [Nat.zero_add]; exact VR.int, hz2⟩
  | _ => unfold srcItems at hi; cases hi
theorem pw_zip {elts : List Expr} {kk : Nat} (o : XO G k X) (hg : L2.Gl X "zip") (hm : X.mg "zip" = none) (ha : PA X [ea, eb] (tOs G (evalOs T F [a, b]))) (hs : starEach [ea, eb] X.env = (false, eval ea X.env) :: starEach [eb] X.env := by rfl)
    (hpl : (backTo pos (starEach [eb] X.env)).any (·.1) = false := by rfl) : PI X (.Tuple elts kk tpos) (.Call (.Name "zip" p) [ea, eb] [] pos) (tW G .zip (evalOs T F [a, b])) := by
  refine PI.weak (pi_zip hg hm ha hs hpl) fun σ H R ⟨C, s, os, s', items, hH, rl, ev, hi, kk⟩ => ?_
  refine ⟨C, s, os, s', hH, rl, ev, fun C1 vs l1 r1 h1 => ?_⟩
  obtain ⟨x, y, rfl⟩ := so_two ev
  obtain ⟨v, r, rfl, h2, h3⟩ := h1
  obtain ⟨w, r, rfl, h3, h4⟩ := h3
  cases h4
  simp only [List.map_cons, List.map_nil] at hi
  generalize hd : deref s' x = xx at hi
  generalize hd2 : deref s' y = yy at hi
  cases xx with
  | lst xs =>
    cases yy with
    | lst zs =>
      cases hi
      obtain ⟨q, ys, rfl, hp, hr, hok, hG⟩ := src_l r1 h2 hd
      obtain ⟨q2, ys2, rfl, hp2, hr2, hok2, hG2⟩ := src_l r1 h3 hd2
      refine ⟨q, q2, ys, ys2, rfl, SqL.of hp, SqL.of hp2, kk C1 _ l1 r1 (fun o ho => ?_) ?_⟩
      · rcases List.mem_cons.mp ho with rfl | ho
        · exact hok
        · rw [List.mem_singleton.mp ho]; exact hok2
      · refine TW.pairs (n := min ys.length ys2.length) (by rw [zip_len, hr.length, hr2.length]) (walk_zip rfl) (fun i x hx => ?_) fun C2 l h => ⟨SqL.of (hG C2 l fun q z => h q (.inl z)), SqL.of (hG2 C2 l fun q z => h q (.inr (.inl z)))⟩
        obtain ⟨a, b, h1, h2, rfl⟩ := zip_get _ _ _ _ hx
        refine ⟨_, _, rfl, fun u v hu hv => ?_⟩
        obtain ⟨z, hz, hz2⟩ := hr.get h1
        obtain ⟨z', hz', hz2'⟩ := hr2.get h2
        rw [hu] at hz
        rw [hv] at hz'
        cases hz
        cases hz'
        exact ⟨hz2, hz2'⟩
    | _ => unfold srcItems at hi; cases hi
  | _ => unfold srcItems at hi; cases yy <;> cases hi

/-! ### patterns -/
mutual
def pnames : Pat → List Nat
  | .nm i => [i]
  | .tp ps => pnamess ps
def pnamess : List Pat → List Nat
  | [] => []
  | p :: ps => pnames p ++ pnamess ps
end
theorem wipe_in {j : Nat} : ∀ {σ : L2.St} {vs : List Nat}, j ∈ vs → (L2.wipe σ vs)[j]? = if j < σ.length then some none else none
  | σ, [], h => by simp at h
  | σ, w :: ws, h => by
    unfold L2.wipe
    by_cases e : w = j
    · subst e
      by_cases hl : w < σ.length
      · rw [List.getElem?_set_self (by rw [wipe_length]; exact hl), if_pos hl]
      · rw [if_neg hl, List.getElem?_eq_none]
        rw [List.length_set, wipe_length]
        omega
    · rw [List.getElem?_set_ne e]
      rcases List.mem_cons.mp h with h | h
      · exact absurd h.symm e
      · exact wipe_in h
theorem wipe_set {σ : L2.St} {vs : List Nat} {i : Nat} {v : Option V} (h : i ∈ vs) : L2.wipe (σ.set i v) vs = L2.wipe σ vs := by
  apply List.ext_getElem?
  intro j
  by_cases hj : j ∈ vs
  · rw [wipe_in hj, wipe_in hj]
    simp
  · rw [wipe_out hj, wipe_out hj, List.getElem?_set_ne fun e => hj (by rw [← e]; exact h)]
theorem wipe_wipe {σ : L2.St} {vs : List Nat} : L2.wipe (L2.wipe σ vs) vs = L2.wipe σ vs := by
  apply List.ext_getElem?
  intro j
  by_cases hj : j ∈ vs
  · rw [wipe_in hj, wipe_in hj, wipe_length]
  · rw [wipe_out hj]
/-- a pattern is given a value -/
def gP (G : Gl) (p : Pat) : TG := fun v σ H Q => ∃ C s x e', C.H = H ∧ Rel G C s σ ∧ VR G C x v ∧ patSet p x s.e = some e' ∧ ∀ σ', Rel G C { s with e := e' } σ' → (∀ vs, (∀ i ∈ pnames p, i ∈ vs) → L2.wipe σ' vs = L2.wipe σ vs) → Q σ' H
def gPs (G : Gl) (ps : List Pat) : TGs := fun vs σ H Q => ∃ C s xs e', C.H = H ∧ Rel G C s σ ∧ VRs G C xs vs ∧ patSets ps xs s.e = some e' ∧ ∀ σ', Rel G C { s with e := e' } σ' → (∀ vs, (∀ i ∈ pnamess ps, i ∈ vs) → L2.wipe σ' vs = L2.wipe σ vs) → Q σ' H
theorem PG.weak {t t' : TG} (h : PG X e t) (w : ∀ v σ H Q, t' v σ H Q → t v σ H Q) : PG X e t' := ⟨fun pins s σ H v u Q I r q => h.run pins s σ H v u Q I r (w v σ H Q q)⟩
theorem PGs.weak {es : List Expr} {t t' : TGs} (h : PGs X es t) (w : ∀ v σ H Q, t' v σ H Q → t v σ H Q) : PGs X es t' := ⟨fun pins s σ H v u Q I r q => h.run pins s σ H v u Q I r (w v σ H Q q)⟩
theorem sp_nm {x : Str} (o : XO G k X) (i : Nat) (hi : X.N[i]? = some x := by rfl) (hx : Loc X.env.scope x := by first | exact .inl rfl | exact .inr rfl) (hf : X.fn x = true ∨ X.env.scope.names.lookup x = some .local := by first | exact .inl rfl | exact .inr rfl) : PG X (.Name x pos) (gP G (.nm i)) := by
  refine PG.weak (pg_name o.nd hi hx hf) fun v σ H Q ⟨C, s, z, e', hH, rl, h, e, kk⟩ => ?_
  unfold patSet at e
  cases e
  exact kk _ (rl.setV h) fun vs hv => wipe_set (hv i (by unfold pnames; simp))
theorem sps_nil : PGs X [] (gPs G []) := by
  refine PGs.weak pgs_nil fun v σ H Q ⟨C, s, z, e', hH, rl, h, e, kk⟩ => ?_
  cases z with
  | nil => unfold patSets at e; cases e; unfold VRs at h; exact ⟨h, kk σ rl fun _ _ => rfl⟩
  | cons a b => unfold patSets at e; cases e
theorem sps_cons {es : List Expr} {p : Pat} {ps : List Pat} (h1 : PG X e (gP G p)) (h2 : PGs X es (gPs G ps)) (hs : (assignEach (e :: es) X.env).map (·.2) = assign e X.env :: (assignEach es X.env).map (·.2) := by rfl) : PGs X (e :: es) (gPs G (p :: ps)) := by
  refine PGs.weak (pgs_cons h1 h2 hs) fun v σ H Q ⟨C, s, z, e', hH, rl, h, e, kk⟩ => ?_
  cases z with
  | nil => unfold patSets at e; cases e
  | cons a as =>
    unfold patSets at e
    unfold VRs at h
    obtain ⟨y, r, rfl, h1, h2⟩ := h
    cases q : patSet p a s.e with
    | none => simp [q] at e
    | some e1 =>
      simp only [q] at e
      refine ⟨y, r, rfl, C, s, a, e1, hH, rl, h1, q, fun σ1 rl1 w1 => ?_⟩
      refine ⟨C, _, as, e', hH, rl1, h2, e, fun σ2 rl2 w2 => kk σ2 rl2 fun vs hv => ?_⟩
      rw [w2 vs fun i hi => hv i (by unfold pnamess; simp [hi]), w1 vs fun i hi => hv i (by unfold pnamess; simp [hi])]
theorem sp_tp {es : List Expr} {kt : Nat} {ps : List Pat} (o : XO G k X) (h : PGs X es (gPs G ps)) (hn : (assignEach es X.env).length = ps.length := by rfl) (hst : (assignEach es X.env).findIdx? (·.1) = none := by rfl) : PG X (.Tuple es kt pos) (gP G (.tp ps)) := by
  refine PG.weak (pg_tup o.calm h hn hst) fun v σ H Q ⟨C, s, z, e', hH, rl, h, e, kk⟩ => ?_
  unfold patSet at e
  cases z with
  | tup vs =>
    simp only at e
    unfold VR at h
    obtain ⟨p, ys, rfl, hp, hr⟩ := h
    have len : ∀ (ps : List Pat) (xs : List Val) (e e' : List Slot), patSets ps xs e = some e' → xs.length = ps.length := by
      intro ps
      induction ps with
      | nil => intro xs e e' h; cases xs <;> unfold patSets at h <;> first | rfl | cases h
      | cons p ps ih =>
        intro xs e e' h
        cases xs with
        | nil => unfold patSets at h; cases h
        | cons x xs =>
          unfold patSets at h
          split at h
          · simp [ih _ _ _ h]
          · cases h
    refine ⟨p, ys, rfl, ?_, by rw [← hr.length]; exact len _ _ _ _ e, C, s, vs, e', hH, rl, hr, e, fun σ' r' w => kk σ' r' fun ws hw => w ws fun i hi => hw i (by unfold pnames; exact hi)⟩
    rw [o.K, ← hH]
    rcases hp with hp | hp
    · exact .inl (.inl hp.2)
    · exact .inr (by obtain ⟨ob, its, n, h1, h2, h3, h4, h5⟩ := hp; exact ⟨ob, its, n, h1, h2, h3, h4, h5⟩)
  | _ => cases e
end
end Rs
end
section
set_option maxRecDepth 100000
set_option maxHeartbeats 4000000
/-! Loops and comprehensions. -/
namespace Rs
open PySem PySem.Spec PyProof.Rows L2
def endF (G : Gl) (D : Ends) (fl : Fl) (C' : Cf) (σ' : L2.St) : Prop := match fl with
  | .nx => D.nx σ' C'.H
  | .bk => D.bk σ' C'.H
  | .ct => D.ct σ' C'.H
  | .rt v => ∀ u, VR G C' v u → D.rt u C'.H
/-- a statement -/
def tS (G : Gl) (f : S → R Fl) : TS := fun D σ H => ∃ C s fl s', C.H = H ∧ Rel G C s σ ∧ f s = .ok fl s' ∧ ∀ C' σ', Le C C' → Rel G C' s' σ' → endF G D fl C' σ'
section
variable {G : Gl} {C C' D E : Cf} {s s' s0 : S} {σ σ' σ0 : L2.St}
theorem hold_same {Z : Addr → Prop} (rh : Rel G (C.hold Z) s σ) (l : Le (C.hold Z) D) : ∀ p, Z p → D.H p = C.H p := fun p z => by
  cases q : C.H p with
  | none => exact absurd q (rh.kptr p (.inl (.inr z)))
  | some o => exact l.hk p (.inl (.inr z)) o q
theorem zs_mem {os : List Rv} {o : Rv} {p : Addr} (h : o ∈ os) (hp : Pl C σ o p) : Zs C σ os p := by
  induction os with
  | nil => simp at h
  | cons a as ih =>
    rcases List.mem_cons.mp h with rfl | h
    · exact .inl hp
    · exact .inr (ih h)
theorem pl_le {o : Rv} {p : Addr} (l : Lv C D) (h : Pl C σ o p) (hσ : σ' = σ ∨ ∀ i, o ≠ .sl i) : Pl D σ' o p := by
  cases o with
  | f c => exact h
  | sl i =>
    rcases hσ with rfl | hσ
    · exact h
    · exact absurd rfl (hσ i)
  | v x =>
    cases x with
    | ref n =>
      have h : C.ρ[n]? = some p := h
      obtain ⟨t, ht⟩ := l.ρ
      show D.ρ[n]? = some p
      rw [← ht, List.getElem?_append_left (List.getElem?_eq_some_iff.mp h).1]
      exact h
    | _ => exact h
theorem noSl_ok {os : List Rv} (h : noSl os = true) {o : Rv} (ho : o ∈ os) : ∀ i, o ≠ .sl i := fun i e => by
  have := List.all_eq_true.mp h o ho
  rw [e] at this
  cases this
theorem Rel.unkeep {K : Addr → Prop} (r : Rel G C s σ) (h : ∀ p, K p → C.rs p) : Rel G { C with rs := K } s σ where
  len := r.len
  env := fun i x h => let ⟨v, a, b⟩ := r.env i x h; ⟨v, a, b.mono0 lv_rs⟩
  own := fun i c h1 => let ⟨p, a, b, d, e, f⟩ := r.own i c h1; ⟨p, a, b.mono0 lv_rs, d, e, f.1, fun z => f.2 (h p z)⟩
  apart := r.apart
  hlen := r.hlen
  nd := r.nd
  cell := fun n c p h1 h2 => let ⟨a, b, d⟩ := r.cell n c p h1 h2; ⟨a.mono0 lv_rs, b, d.1, fun z => d.2 (h p z)⟩
  fztr := r.fztr
  kptr := fun p z => r.kptr p (z.imp id (h p))
  fzkp := fun p h1 z => r.fzkp p h1 (z.imp id (h p))
theorem Rel.keepOne (r : Rel G C s σ) {q : Addr} (f : Fr C q) (t : C.H q ≠ none) (ho : ∀ (i : Nat) c, s.e[i]? = some (.own c) → σ[i]? ≠ some (some (.ref q))) : Rel G (C.keep (· = q)) s σ where
  len := r.len
  env := fun i x h => let ⟨v, a, b⟩ := r.env i x h; ⟨v, a, b.mono0 lv_rs⟩
  own := fun i c h1 => let ⟨p, a, b, d, e, g⟩ := r.own i c h1; ⟨p, a, b.mono0 lv_rs, d, e, g.1, fun z => z.elim g.2 fun z => ho i c h1 (by rw [a, z])⟩
  apart := r.apart
  hlen := r.hlen
  nd := r.nd
  cell := fun n c p h1 h2 => let ⟨a, b, d⟩ := r.cell n c p h1 h2; ⟨a.mono0 lv_rs, b, d.1, fun z => z.elim d.2 fun z => f.ρ (by rw [← z]; exact List.mem_of_getElem? h2)⟩
  fztr := r.fztr
  kptr := fun p z => by
    rcases z with z | z | z
    · exact r.kptr p (.inl z)
    · exact r.kptr p (.inr z)
    · have z : p = q := z
      rw [z]
      exact t
  fzkp := fun p h1 z => by
    rcases z with z | z | z
    · exact r.fzkp p h1 (.inl z)
    · exact r.fzkp p h1 (.inr z)
    · have z : p = q := z
      rw [z] at h1
      exact f.fz h1
abbrev Cf.put (C : Cf) (q : Addr) (o : HO) : Cf := { C with H := upd C.H q o }
theorem lv_put {q : Addr} {o : HO} (n : ¬ C.fz q) : Lv C (C.put q o) := ⟨List.prefix_rfl, fun _ h => h, fun p h => .of fun u e => by
  show upd C.H q o p = _
  rw [upd_ne fun z => n (by rw [← z]; exact h)]
  exact e⟩
theorem Rel.putR (r : Rel G C s σ) {q : Addr} {o : HO} (h : C.rs q) : Rel G (C.put q o) s σ :=
  have nf : ¬ C.fz q := fun z => r.fzkp q z (.inr h)
  { len := r.len
    env := fun i x h1 => let ⟨v, a, b⟩ := r.env i x h1; ⟨v, a, b.mono0 (lv_put nf)⟩
    own := fun i c h1 => by
      obtain ⟨p, a, b, d, e, g⟩ := r.own i c h1
      refine ⟨p, a, ?_, d, e, g⟩
      show CR G _ c (upd C.H q o p)
      rw [upd_ne fun z => g.2 (by rw [z]; exact h)]
      exact b.mono0 (lv_put nf)
    apart := r.apart
    hlen := r.hlen
    nd := r.nd
    cell := fun n c p h1 h2 => by
      obtain ⟨a, b, d⟩ := r.cell n c p h1 h2
      refine ⟨?_, b, d⟩
      show CR G _ c (upd C.H q o p)
      rw [upd_ne fun z => d.2 (by rw [z]; exact h)]
      exact a.mono0 (lv_put nf)
    fztr := fun p z => by
      show upd C.H q o p ≠ none
      rw [upd_ne fun e => nf (by rw [← e]; exact z)]
      exact r.fztr p z
    kptr := fun p z => by
      show upd C.H q o p ≠ none
      by_cases e : p = q
      · rw [e, upd_same]; simp
      · rw [upd_ne e]
        exact r.kptr p z
    fzkp := r.fzkp }
end
section
variable {G : Gl} {T : Tab} {F : Call} {k : Nat} {X : Cx} {tg e : Expr} {pos : Pos}
theorem PS.weak {st : Stmt} {t t' : TS} (h : PS X st t) (w : ∀ D σ H, t' D σ H → t D σ H) : PS X st t' := ⟨fun pins s σ H D I q => h.run pins s σ H D I (w D σ H q)⟩
theorem PSs.weak {st : List Stmt} {t t' : TS} (h : PSs X st t) (w : ∀ D σ H, t' D σ H → t D σ H) : PSs X st t' := ⟨fun pins s σ H D I q => h.run pins s σ H D I (w D σ H q)⟩
theorem drop_get {α : Type} {xs : List α} {i : Nat} (h : i < xs.length) : xs.drop i = xs[i] :: xs.drop (i + 1) := by simp
theorem forL_ct {st : Val → List Slot → Option (List Slot)} {body : S → R Fl} {x : Val} {xs : List Val} {s : S} {fl : Fl} {s2 : S} (h : forL st body (x :: xs) s = .ok fl s2) :
    ∃ e fb sb, st x s.e = some e ∧ body { s with e := e } = .ok fb sb ∧ ((fb = .nx ∨ fb = .ct) ∧ forL st body xs sb = .ok fl s2 ∨ (fb = .bk ∧ fl = .nx ∧ s2 = sb) ∨ ∃ v, fb = .rt v ∧ fl = .rt v ∧ s2 = sb) := by
  unfold forL at h
  cases q : st x s.e with
  | none => simp [q] at h
  | some e =>
    simp only [q] at h
    cases q2 : body { s with e := e } with
    | bad => simp [q2] at h
    | exc c p s => simp [q2] at h
    | ok fb sb =>
      rw [q2] at h
      refine ⟨e, fb, sb, rfl, q2, ?_⟩
      cases fb with
      | nx => exact .inl ⟨.inl rfl, h⟩
      | ct => exact .inl ⟨.inr rfl, h⟩
      | bk => simp only [R.ok.injEq] at h; exact .inr (.inl ⟨rfl, h.1.symm, h.2.symm⟩)
      | rt v => simp only [R.ok.injEq] at h; exact .inr (.inr ⟨v, rfl, h.1.symm, h.2.symm⟩)
theorem ss_for (o : XO G k X) {iter : Expr} {body : List Stmt} {p : Pat} {sk : Sk} {src : List IE} {b : List IS} (hi : PI X tg iter (tW G sk (evalOs T F src))) (hg : PG X tg (gP G p)) (hb : PSs X body (tS G (execSs T F b)))
    (hp : PassesOwn (model X.prog X.w) X.A X.env X.xe) (hs : ∀ x, foldedSetIterable iter X.env x = pure x := by intro _; rfl) : PS X (.For tg iter body [] pos) (tS G (execS T F (.for_ p sk src b))) := by
  refine PS.weak (ps_for hp o.calm hi hg hb hs) fun D σ H ⟨C, s, fl, s', hH, rl, ev, kk⟩ => ?_
  unfold execS at ev
  obtain ⟨os, s1, e1, ev⟩ := bind_ok ev
  cases q1 : noSl os with
  | false => simp [q1] at ev
  | true =>
    cases q2 : srcItems sk (os.map (deref s1)) with
    | none => simp [q1, q2] at ev
    | some items =>
      simp only [q1, q2] at ev
      obtain ⟨fl', s2, e2, ev⟩ := bind_ok ev
      simp only [R.ok.injEq] at ev
      obtain ⟨rfl, rfl⟩ := ev
      refine ⟨C, s, os, s1, items, hH, rl, e1, q2, fun C1 J l1 r1 hok tw => ?_⟩
      have rh := lock_all r1 hok
      have fin : ∀ Ce σe, Le (C1.hold (Zs C1 σ os)) Ce → Rel G Ce s2 σe → endF G D fl' Ce σe := fun Ce σe le re => by
        have re2 : Rel G { Ce with kp := C1.kp } (unlockAll s1 s2 os) σe :=
          un_all (D := { Ce with kp := C1.kp }) r1 rfl hok (re.unhold' le.kp) fun o ho p z => ⟨pl_le (le_unhold le).toLv z (.inr (noSl_ok q1 ho)), hold_same rh le p (zs_mem ho z)⟩
        have z := kk _ σe (l1.trans (le_unhold le)) re2
        cases fl' with
        | rt v => exact fun u hu => z u (hu.mono0 lv_kp)
        | _ => exact z
      obtain ⟨Gd, Y, w, hG, hY⟩ := tw
      have keep : ∀ {Ci : Cf}, Le (C1.hold (Zs C1 σ os)) Ci → Lv C1 Ci ∧ ∀ p, Zs C1 σ os p → Ci.H p = C1.H p := fun l => ⟨lv_trans lv_hold l.toLv, hold_same rh l⟩
      refine for_it w (fun i σi Hi => ∃ Ci si, Ci.H = Hi ∧ Le (C1.hold (Zs C1 σ os)) Ci ∧ Rel G Ci si σi ∧ forL (patSet p) (execSs T F b) (items.drop i) si = .ok fl' s2) ⟨_, _, rfl, .refl _, rh, e2⟩ ?_ ?_ ?_
      · rintro i σi Hi hi ⟨Ci, si, rfl, l, _, _⟩
        exact hG Ci (keep l).1 (keep l).2
      · rintro i x σi Hi H' hi ⟨Ci, si, rfl, l, ri, fi⟩ y
        rw [drop_get hi] at fi
        obtain ⟨e, fb, sb, g1, g2, g3⟩ := forL_ct fi
        obtain ⟨C3, rfl, l3, r3, v3⟩ := hY i Ci H' items[i] x si σi (by simp [hi]) (keep l).1 (keep l).2 ri y
        refine ⟨C3, si, _, e, rfl, r3, v3, g1, fun σ4 r4 _ => ⟨C3, _, fb, sb, rfl, r4, g2, fun C5 σ5 l5 r5 => ?_⟩⟩
        have l6 := (l.trans l3).trans l5
        rcases g3 with ⟨h, g⟩ | ⟨h, rfl, rfl⟩ | ⟨v, h, rfl, rfl⟩
        · rcases h with rfl | rfl
          · exact ⟨C5, sb, rfl, l6, r5, g⟩
          · exact ⟨C5, sb, rfl, l6, r5, g⟩
        · subst h
          exact fin C5 σ5 l6 r5
        · subst h
          exact fin C5 σ5 l6 r5
      · rintro σi Hi ⟨Ci, si, rfl, l, ri, fi⟩
        rw [List.drop_length] at fi
        unfold forL at fi
        simp only [R.ok.injEq] at fi
        obtain ⟨rfl, rfl⟩ := fi
        exact fin Ci σi l ri
end
end Rs
end
section
set_option maxRecDepth 100000
set_option maxHeartbeats 4000000
/-! Comprehensions. -/
namespace Rs
open PySem PySem.Spec PyProof.Rows L2
section
variable {G : Gl} {T : Tab} {F : Call} {k : Nat} {X : Cx} {tg e : Expr} {pos : Pos}
theorem XO.blk (o : XO G k X) (s : Shared) (H : Hp) (scope : Scope) (cenv : Env) (fp : List Addr) : XO G k (X.blk s H scope cenv fp) := ⟨o.K, o.sys, o.calm, o.nd, o.room, o.gd, rfl⟩
theorem lv_two {C : Cf} {K K' : Addr → Prop} : Lv C { C with kp := K, rs := K' } := ⟨List.prefix_rfl, fun _ h => h, fun _ _ => .of fun _ h => h⟩
/-- tests -/
theorem sts_nil : PTs X [] (tBo G (evalTs T F [])) := ⟨fun pins s σ H Q I ⟨C, s1, b, s', hH, rl, e, kk⟩ => by
  unfold evalTs at e
  cases e
  subst hH
  exact pts_nil.run pins s σ C.H Q I (kk C (.refl C) rl)⟩
theorem sts_one {c : Expr} {a : IE} (h : PT X c (EB G T F a)) : PTs X [c] (tBo G (evalTs T F [a])) := ⟨fun pins s σ H Q I ⟨C, s1, b, s', hH, rl, e, kk⟩ => by
  refine (pts_one h).run pins s σ H Q I ⟨C, s1, b, s', hH, rl, ?_, kk⟩
  unfold evalTs at e
  unfold evalB
  obtain ⟨x, s2, e1, e⟩ := bind_ok e
  obtain ⟨y, s3, e2, e⟩ := bind_ok e
  rw [e1]
  obtain ⟨e3, rfl⟩ := opt_ok e2
  cases y with
  | true => unfold evalTs at e; cases e; exact e2
  | false => cases e; exact e2⟩
/-- one turn of a comprehension -/
theorem compL_step {α : Type} {st : Val → List Slot → Option (List Slot)} {tst : S → R Bool} {elt : S → R α} {vs : List Nat} {put : List α → α → Option (List α)} {x : Val} {xs : List Val} {s s2 : S} {acc r : List α}
    (h : compL st tst elt vs put (x :: xs) s acc = .ok r s2) : ∃ e b s1, st x s.e = some e ∧ tst { s with e := e } = .ok b s1 ∧
      ((b = false ∧ compL st tst elt vs put xs { s1 with e := wipeE s1.e vs } acc = .ok r s2) ∨
        (b = true ∧ ∃ y s3 acc', elt s1 = .ok y s3 ∧ put acc y = some acc' ∧ compL st tst elt vs put xs { s3 with e := wipeE s3.e vs } acc' = .ok r s2)) := by
  unfold compL at h
  cases q : st x s.e with
  | none => simp [q] at h
  | some e =>
    simp only [q] at h
    obtain ⟨b, s1, e1, h⟩ := bind_ok h
    refine ⟨e, b, s1, rfl, e1, ?_⟩
    cases b with
    | false => exact .inl ⟨rfl, h⟩
    | true =>
      right
      obtain ⟨y, s3, e2, h⟩ := bind_ok h
      cases q2 : put acc y with
      | none => simp [q2] at h
      | some acc' =>
        simp only [q2] at h
        exact ⟨rfl, y, s3, acc', e2, q2, h⟩
/-- the turns, from a reading B in which what is walked is held -/
theorem tLc_core {p : Pat} {conds : List IE} {elt : IE} {vs : List Nat} (hv : ∀ i ∈ pnames p, i ∈ vs) {σ : L2.St} {Q : VK} {B : Cf} {sl s2 : S} {J : It} {items acc : List Val} {Gd : Hp → Prop} {Y : Nat → Hp → V → Hp → Prop} (rh : Rel G B sl σ) (w : Walk J items.length Gd Y)
    (hG : ∀ C2 : Cf, Le B { C2 with rs := B.rs } → Gd C2.H)
    (hY : ∀ i (C2 : Cf) H' x v s2 σ2, items[i]? = some x → Le B { C2 with rs := B.rs } → Rel G C2 s2 σ2 → Y i C2.H v H' → ∃ C3, C3.H = H' ∧ Le C2 C3 ∧ Rel G C3 s2 σ2 ∧ VR G C3 x v)
    (e2 : compL (patSet p) (evalTs T F conds) (fun s => (evalE T F elt s).val) vs putL items { sl with e := wipeE sl.e vs } [] = .ok acc s2)
    (fin : ∀ D Ci ys, B.H D = none → Le B { Ci with rs := B.rs } → (Ci.rs = fun p => B.rs p ∨ p = D) → Rel G Ci s2 (L2.wipe σ vs) → Ci.H D = some (.lst ys) → VRs G Ci acc ys → Q (.ref D) Ci.H) :
    tLc (fun _ H R => R J H) (gP G p) (tBo G (evalTs T F conds)) (EE G T F elt) vs σ B.H Q := by
  intro D hD
  have fD := rh.fresh (p := D) hD
  refine lc_it w (Qd := fun H => Q (.ref D) H) (fun i Hi => ∃ Ci si acci ysi, Ci.H = Hi ∧ Le B { Ci with rs := B.rs } ∧ (Ci.rs = fun p => B.rs p ∨ p = D) ∧ Rel G Ci si (L2.wipe σ vs) ∧ Hi D = some (.lst ysi) ∧ VRs G Ci acci ysi ∧
    compL (patSet p) (evalTs T F conds) (fun s => (evalE T F elt s).val) vs putL (items.drop i) si acci = .ok acc s2) ?_ ?_ ?_ ?_
  · have rn := rh.new (o := .lst []) hD
    have rk : Rel G ((B.new D (.lst [])).keep (· = D)) sl σ := rn.keepOne ⟨fD.fz, fD.kp, fD.ρ, fD.rs⟩ (by show upd _ _ _ _ ≠ none; rw [upd_same]; simp) fun i c h z => own_tr rh h z hD
    exact ⟨(B.new D (.lst [])).keep (· = D), _, [], [], rfl, Le.new (C := B) hD, rfl, rk.wipe vs, upd_same, VRs.nil, e2⟩
  · rintro i Hi hi ⟨Ci, si, acci, ysi, rfl, l, _⟩
    exact hG Ci l
  · rintro i x Hi H' hi ⟨Ci, si, acci, ysi, rfl, l, hrs, ri, hDi, va, ci⟩ y
    rw [drop_get hi] at ci
    obtain ⟨e, b, s3, g1, g2, g3⟩ := compL_step ci
    obtain ⟨C3, rfl, l3, r3, v3⟩ := hY i Ci H' items[i] x si _ (by simp [hi]) l ri y
    have kD : Ci.rs D := by rw [hrs]; exact .inr rfl
    -- what a turn leaves
    have step : ∀ {C4 : Cf}, Le Ci C4 → Le B { C4 with rs := B.rs } ∧ C4.rs = (fun p => B.rs p ∨ p = D) ∧ C4.H D = some (.lst ysi) := fun {C4} l4 =>
      ⟨⟨⟨l.ρ.trans l4.ρ, fun p h => l4.fz p (l.fz p h), fun p h => (l.hf p h).trans (l4.hf p (l.fz p h))⟩, l4.kp.trans l.kp, rfl, fun p h o e => l4.hk p (h.imp (fun h => by rw [show Ci.kp = _ from l.kp]; exact h) fun h => by rw [hrs]; exact .inl h) o (l.hk p h o e), fun p h x u e => l4.ff p (l.fz p h) x u (l.ff p h x u e)⟩,
        l4.rs.trans hrs, l4.hk D (.inr kD) _ hDi⟩
    refine ⟨C3, si, _, e, rfl, r3, v3, g1, fun σ4 r4 w4 => ?_⟩
    have w4 : L2.wipe σ4 vs = L2.wipe σ vs := by rw [w4 vs hv, wipe_wipe]
    refine ⟨w4, C3, _, b, s3, rfl, r4, g2, fun C5 l5 r5 => ?_⟩
    rcases g3 with ⟨rfl, g⟩ | ⟨rfl, yv, s4, acc', g4, g5, g⟩
    · rw [if_neg (by simp)]
      obtain ⟨h1, h2, h3⟩ := step (l3.trans l5)
      exact ⟨C5, _, acci, ysi, rfl, h1, h2, by rw [← w4]; exact r5.wipe vs, h3, va.mono (l3.trans l5), g⟩
    · rw [if_pos rfl]
      refine EE_of_val rfl r5 g4 fun C6 v l6 r6 v6 => ?_
      have l36 := (l3.trans l5).trans l6
      obtain ⟨h1, h2, h3⟩ := step l36
      have hlen := (va.mono l36).length
      unfold putL at g5
      split at g5
      · rename_i hz
        cases g5
        have kD6 : C6.rs D := by rw [h2]; exact .inr rfl
        have nf : ¬ C6.fz D := fun z => r6.fzkp D z (.inr kD6)
        refine ⟨ysi, h3, by rw [← hlen]; exact hz, C6.put D (.lst (ysi ++ [v])), _, _, _, rfl, ?_, h2, by rw [← w4]; exact (r6.putR kD6).wipe vs, upd_same, (((va.mono l36).append (VRs.cons v6 VRs.nil)).mono0 (lv_put nf)), g⟩
        refine ⟨⟨h1.ρ, h1.fz, fun p h => (h1.hf p h).trans ((lv_put nf).hf p (h1.fz p h))⟩, h1.kp, rfl, fun p h o e => ?_, fun p h x u e => by
          have e2 : C6.H p = _ := h1.ff p h x u e
          show upd C6.H D _ p = _
          rw [upd_ne fun z => by rw [z, hD] at e; cases e]
          exact e2⟩
        have e2 : C6.H p = some o := h1.hk p h o e
        show upd C6.H D _ p = _
        rw [upd_ne fun z => by rw [z, hD] at e; cases e]
        exact e2
      · cases g5
  · rintro Hi ⟨Ci, si, acci, ysi, rfl, l, hrs, ri, hDi, va, ci⟩
    rw [List.drop_length] at ci
    unfold compL at ci
    simp only [R.ok.injEq] at ci
    obtain ⟨rfl, rfl⟩ := ci
    exact fin D Ci ysi hD l hrs ri hDi va
/-- the new list, as it is handed out -/
theorem new_out {C1 E : Cf} {s : S} {σ : L2.St} {D : Addr} {acc : List Val} {ys : List V} (hD : C1.H D = none) (r1 : ∃ s1, Rel G C1 s1 σ) (hkp : E.kp = C1.kp) (r4 : Rel G E s σ) (kD : E.rs D) (hDi : E.H D = some (.lst ys)) (va : VRs G E acc ys) : RvR G { E with rs := C1.rs } s σ (.f (.lst acc false)) (.ref D) := by
  obtain ⟨s1, r1⟩ := r1
  refine ⟨D, rfl, ⟨ys, hDi, va.mono0 lv_rs⟩, ⟨fun z => r4.fzkp D z (.inr kD), fun z => notkp r1 hD (by rw [← hkp]; exact z), fun z => ?_, notrs r1 hD⟩, rfl, fun i c h z => ?_⟩
  · obtain ⟨n, hn, e3⟩ := List.getElem_of_mem (show D ∈ E.ρ from z)
    have h1 : n < s.h.length := by rw [r4.hlen]; exact hn
    exact (r4.cell n _ D (List.getElem?_eq_getElem h1) (by rw [List.getElem?_eq_getElem hn, e3])).2.2.2 kD
  · obtain ⟨q, a, _, _, _, f⟩ := r4.own i c h
    rw [z] at a
    cases a
    exact f.2 kD
theorem tLc_of {p : Pat} {sk : Sk} {src conds : List IE} {elt : IE} {vs : List Nat} (hv : ∀ i ∈ pnames p, i ∈ vs) {σ : L2.St} {H : Hp} {Q : VK} (h : EE G T F (.lc elt p sk src conds vs) σ H Q) :
    tLc (tW G sk (evalOs T F src)) (gP G p) (tBo G (evalTs T F conds)) (EE G T F elt) vs σ H Q := by
  obtain ⟨C, s, x, s', hH, rl, ev, kk⟩ := h
  unfold evalE at ev
  obtain ⟨os, s1, e1, ev⟩ := bind_ok ev
  cases q2 : srcItems sk (os.map (deref s1)) with
  | none => simp [q2] at ev
  | some items =>
    simp only [q2] at ev
    obtain ⟨acc, s2, e2, ev⟩ := bind_ok ev
    simp only [R.ok.injEq] at ev
    obtain ⟨rfl, rfl⟩ := ev
    refine ⟨C, s, os, s1, items, hH, rl, e1, q2, fun C1 J l1 r1 hok tw => ?_⟩
    have rh := lock_all r1 hok
    obtain ⟨Gd, Y, w, hG, hY⟩ := tw
    have kz : ∀ {C2 : Cf}, Le (C1.hold (Zs C1 σ os)) { C2 with rs := C1.rs } → Lv C1 C2 ∧ ∀ p, Zs C1 σ os p → C2.H p = C1.H p := fun {C2} l => ⟨⟨l.ρ, l.fz, l.hf⟩, hold_same (D := { C2 with rs := C1.rs }) rh l⟩
    refine tLc_core (B := C1.hold (Zs C1 σ os)) hv rh w (fun C2 l => hG C2 (kz l).1 (kz l).2) (fun i C2 H' x v s2 σ2 hx l r y => hY i C2 H' x v s2 σ2 hx (kz l).1 (kz l).2 r y) e2 fun D Ci ysi hD l hrs ri hDi va => ?_
    have lv : Lv C1 Ci := ⟨l.ρ, l.fz, l.hf⟩
    have r2 := r1.rest lv ri
    have r3 : Rel G { Ci with kp := C1.kp } { s2 with e := restE s1.e s2.e vs } σ := r2.unhold' l.kp
    have r4 : Rel G { Ci with kp := C1.kp } (unlockAll s1 { s2 with e := restE s1.e s2.e vs } os) σ :=
      un_all (D := { Ci with kp := C1.kp }) r1 rfl hok r3 fun o ho p z => ⟨pl_le (D := { Ci with kp := C1.kp }) ⟨l.ρ, l.fz, l.hf⟩ z (.inl rfl), hold_same (D := { Ci with rs := C1.rs }) rh l p (zs_mem ho z)⟩
    have kD : Ci.rs D := by rw [hrs]; exact .inr rfl
    have r5 : Rel G { Ci with kp := C1.kp, rs := C1.rs } (unlockAll s1 { s2 with e := restE s1.e s2.e vs } os) σ := r4.unkeep fun p h => by show Ci.rs p; rw [hrs]; exact .inl h
    have lE : Le C1 { Ci with kp := C1.kp, rs := C1.rs } := le_unhold (C' := { Ci with rs := C1.rs }) l
    exact kk { Ci with kp := C1.kp, rs := C1.rs } (.ref D) (l1.trans lE) r5 (new_out (E := { Ci with kp := C1.kp }) hD ⟨_, r1⟩ rfl r4 kD hDi (va.mono0 lv_kp))
theorem se_lc {iter elt : Expr} {ifs : List Expr} {scope : Scope} {own : List (Str × Nat)} {p : Pat} {sk : Sk} {src conds : List IE} {a : IE} (o : XO G k X) (hi : PI X tg iter (tW G sk (evalOs T F src))) (ok : BlkOk X.N X.env.scope scope own)
    (hg : ∀ (s : Shared) (H : Hp) (C : Addr) (cl : List (Str × Addr)) (fp : List Addr), PG (X.blk s H scope (compEnvC scope cl C X.env) fp) tg (gP G p)) (ht : ∀ (s : Shared) (H : Hp) (C : Addr) (cl : List (Str × Addr)) (fp : List Addr), PTs (X.blk s H scope (compEnvC scope cl C X.env) fp) ifs (tBo G (evalTs T F conds)))
    (he : ∀ (s : Shared) (H : Hp) (C : Addr) (cl : List (Str × Addr)) (fp : List Addr), PE (X.blk s H scope (compEnvC scope cl C X.env) fp) elt (EE G T F a)) (hv : ∀ i ∈ pnames p, i ∈ own.map (·.2)) (hs : ∀ x, foldedSetIterable iter X.env x = pure x := by intro _; rfl) :
    PE X (.ListComp elt [⟨tg, iter, ifs, 0⟩] scope pos) (EE G T F (.lc a p sk src conds (own.map (·.2)))) :=
  PE.weak (pe_lc o.calm o.nd hi ok hg ht he hs) fun σ H Q h => tLc_of hv h
end
end Rs
end
section
set_option maxRecDepth 100000
set_option maxHeartbeats 4000000
/-! Things that change; methods of built-in types. -/
namespace Rs
open PySem PySem.Spec PyProof.Rows L2
section
variable {G : Gl} {C C' D : Cf} {s s' : S} {σ σ' : L2.St}
theorem slot_own {s : S} {i : Nat} {d : Cell} (h : slotOf s i = .own d) : s.e[i]? = some (.own d) := slot_get h (by simp)
theorem Rel.changeO (r : Rel G C s σ) {i : Nat} {d c : Cell} {p : Addr} {u : HO} (h : s.e[i]? = some (.own d)) (hu : unlocked d = true ∨ ¬ C.kp p) (hp : σ[i]? = some (some (.ref p))) (hc : CR G C c (some u)) : Le C (C.put p u) ∧ Rel G (C.put p u) { s with e := s.e.set i (.own c) } σ := by
  obtain ⟨q, a, b, nf, nρ, nk⟩ := r.own i d h
  rw [hp] at a
  cases a
  have nk1 : ¬ C.kp p := hu.elim nk.1 id
  have lv : Lv C (C.put p u) := lv_put nf
  have le : Le C (C.put p u) := ⟨lv, rfl, rfl, fun q h o e => by
    show upd C.H p u q = _
    rw [upd_ne fun z => by rw [z] at h; exact h.elim nk1 nk.2]
    exact e, fun q h b w e => by
    show upd C.H p u q = _
    rw [upd_ne fun z => nf (by rw [← z]; exact h)]
    exact e⟩
  refine ⟨le, { len := by simpa using r.len, env := fun j x h' => ?_, own := fun j c' h' => ?_, apart := fun j l c1 d1 q h1 h2 h3 h4 => ?_, hlen := r.hlen, nd := r.nd, cell := fun n c' q h1 h2 => ?_, fztr := fun q z => ?_, kptr := fun q z => ?_, fzkp := r.fzkp }⟩
  · rcases set_val h' with ⟨rfl, e, hi⟩ | ⟨e, h'⟩
    · cases e
    · obtain ⟨v, h1, h2⟩ := r.env j x h'
      exact ⟨v, h1, h2.mono0 lv⟩
  · rcases set_val h' with ⟨rfl, e, hi⟩ | ⟨e, h'⟩
    · cases e
      refine ⟨p, hp, ?_, nf, nρ, fun _ => nk1, nk.2⟩
      show CR G _ c (upd C.H p u p)
      rw [upd_same]
      exact hc.mono0 lv
    · obtain ⟨q, a, b, d, e', f⟩ := r.own j c' h'
      refine ⟨q, a, ?_, d, e', f⟩
      show CR G _ c' (upd C.H p u q)
      rw [upd_ne fun z => e (r.apart i j _ _ p h h' hp (by rw [← z]; exact a))]
      exact b.mono0 lv
  · have f1 : ∃ c', s.e[j]? = some (.own c') := by
      rcases set_val h1 with ⟨rfl, e, hi⟩ | ⟨e, h'⟩
      · exact ⟨_, h⟩
      · exact ⟨_, h'⟩
    have f2 : ∃ c', s.e[l]? = some (.own c') := by
      rcases set_val h2 with ⟨rfl, e, hi⟩ | ⟨e, h'⟩
      · exact ⟨_, h⟩
      · exact ⟨_, h'⟩
    obtain ⟨_, g1⟩ := f1
    obtain ⟨_, g2⟩ := f2
    exact r.apart j l _ _ q g1 g2 h3 h4
  · obtain ⟨a, b, d⟩ := r.cell n c' q h1 h2
    refine ⟨?_, b, d⟩
    show CR G _ c' (upd C.H p u q)
    rw [upd_ne fun z => nρ (by rw [← z]; exact List.mem_of_getElem? h2)]
    exact a.mono0 lv
  · show upd C.H p u q ≠ none
    by_cases e : q = p
    · rw [e, upd_same]; simp
    · rw [upd_ne e]; exact r.fztr q z
  · show upd C.H p u q ≠ none
    by_cases e : q = p
    · rw [e, upd_same]; simp
    · rw [upd_ne e]; exact r.kptr q z
theorem Rel.changeH (r : Rel G C s σ) {i : Nat} {d c : Cell} {p : Addr} {u : HO} (h : s.h[i]? = some d) (hu : unlocked d = true ∨ ¬ C.kp p) (hp : C.ρ[i]? = some p) (hc : CR G C c (some u)) : Le C (C.put p u) ∧ Rel G (C.put p u) { s with h := s.h.set i c } σ := by
  obtain ⟨b, nf, nk⟩ := r.cell i d p h hp
  have nk1 : ¬ C.kp p := hu.elim (fun u => nk.1 (free_of u)) id
  have lv : Lv C (C.put p u) := lv_put nf
  have le : Le C (C.put p u) := ⟨lv, rfl, rfl, fun q h o e => by
    show upd C.H p u q = _
    rw [upd_ne fun z => by rw [z] at h; exact h.elim nk1 nk.2]
    exact e, fun q h b w e => by
    show upd C.H p u q = _
    rw [upd_ne fun z => nf (by rw [← z]; exact h)]
    exact e⟩
  refine ⟨le, { len := r.len, env := fun j x h' => ?_, own := fun j c' h' => ?_, apart := r.apart, hlen := by simpa using r.hlen, nd := r.nd, cell := fun n c' q h1 h2 => ?_, fztr := fun q z => ?_, kptr := fun q z => ?_, fzkp := r.fzkp }⟩
  · obtain ⟨v, h1, h2⟩ := r.env j x h'
    exact ⟨v, h1, h2.mono0 lv⟩
  · obtain ⟨q, a, b, d, e', f⟩ := r.own j c' h'
    refine ⟨q, a, ?_, d, e', f⟩
    show CR G _ c' (upd C.H p u q)
    rw [upd_ne fun z => e' (by rw [z]; exact List.mem_of_getElem? hp)]
    exact b.mono0 lv
  · have h1 : (s.h.set i c)[n]? = some c' := h1
    by_cases e : i = n
    · subst e
      have h2 : C.ρ[i]? = some q := h2
      rw [hp] at h2
      cases h2
      rw [List.getElem?_set_self (List.getElem?_eq_some_iff.mp h).1] at h1
      cases h1
      refine ⟨?_, nf, fun _ => nk1, nk.2⟩
      show CR G _ c (upd C.H p u p)
      rw [upd_same]
      exact hc.mono0 lv
    · rw [List.getElem?_set_ne e] at h1
      obtain ⟨a, b, d⟩ := r.cell n c' q h1 h2
      refine ⟨?_, b, d⟩
      show CR G _ c' (upd C.H p u q)
      rw [upd_ne fun z => e ((List.getElem?_inj (List.getElem?_eq_some_iff.mp hp).1 r.nd).mp (by rw [hp, ← z]; exact h2.symm))]
      exact a.mono0 lv
  · show upd C.H p u q ≠ none
    by_cases e : q = p
    · rw [e, upd_same]; simp
    · rw [upd_ne e]; exact r.fztr q z
  · show upd C.H p u q ≠ none
    by_cases e : q = p
    · rw [e, upd_same]; simp
    · rw [upd_ne e]; exact r.kptr q z
/-- what stands at a place, changed -/
theorem loc_ok (r : Rel G C s σ) {o : Rv} {v : V} {c : Cell} (h : OR G C s σ o v) (e : setLoc s o c = some s') : ∃ p d, v = .ref p ∧ unlocked d = true ∧ deref s o = imm d ∧ CR G C d (C.H p) ∧ ∀ u, CR G C c (some u) → Le C (C.put p u) ∧ Rel G (C.put p u) s' σ := by
  cases o with
  | f c => exact h.elim
  | sl i =>
    have h : σ[i]? = some (some v) := h
    unfold setLoc at e
    cases q : slotOf s i with
    | own d =>
      simp only [q] at e
      cases u : unlocked d with
      | false => simp [u] at e
      | true =>
        simp only [u, if_true, Option.some.injEq] at e
        subst e
        have q' := slot_own q
        obtain ⟨p, a, b, _⟩ := r.own i d q'
        rw [h] at a
        cases a
        exact ⟨p, d, rfl, u, by unfold deref; simp only [q'], b, fun _ hc => r.changeO q' (.inl u) h hc⟩
    | _ => simp [q] at e
  | v x =>
    cases x with
    | ref n =>
      have h : VR G C (.ref n) v := h
      unfold VR at h
      obtain ⟨p, hp, rfl⟩ := h
      unfold setLoc at e
      cases q : s.h[n]? with
      | none => simp [q] at e
      | some d =>
        simp only [q] at e
        cases u : unlocked d with
        | false => simp [u] at e
        | true =>
          simp only [u, if_true, Option.some.injEq] at e
          subst e
          refine ⟨p, d, rfl, u, ?_, (r.cell n d p q hp).1, fun _ hc => r.changeH q (.inl u) hp hc⟩
          cases d with
          | lst zs lk => unfold deref imm; simp only [q]
          | dct zs lk => unfold deref imm; simp only [q]
          | ins _ _ => cases u
    | _ => cases e
theorem loc_lst (r : Rel G C s σ) {o : Rv} {v : V} {c : Cell} {xs : List Val} (h : OR G C s σ o v) (e : setLoc s o c = some s') (d : deref s o = .lst xs) : ∃ p ys, v = .ref p ∧ C.H p = some (.lst ys) ∧ VRs G C xs ys ∧ ∀ u, CR G C c (some u) → Le C (C.put p u) ∧ Rel G (C.put p u) s' σ := by
  obtain ⟨p, c', rfl, u, e2, hc, k⟩ := loc_ok r h e
  rw [d] at e2
  cases c' with
  | lst zs lk => cases e2; obtain ⟨ys, h1, h2⟩ := hc; exact ⟨p, ys, rfl, h1, h2, k⟩
  | _ => cases e2
theorem loc_dct (r : Rel G C s σ) {o : Rv} {v : V} {c : Cell} {xs : List (Key × Val)} (h : OR G C s σ o v) (e : setLoc s o c = some s') (d : deref s o = .dct xs) : ∃ p ys, v = .ref p ∧ C.H p = some (.dK ys) ∧ VRk G C xs ys ∧ ∀ u, CR G C c (some u) → Le C (C.put p u) ∧ Rel G (C.put p u) s' σ := by
  obtain ⟨p, c', rfl, u, e2, hc, k⟩ := loc_ok r h e
  rw [d] at e2
  cases c' with
  | dct zs lk =>
    cases e2
    cases lk with
    | false => obtain ⟨ys, h1, h2⟩ := hc; exact ⟨p, ys, rfl, h1, h2, k⟩
    | true => cases u
  | _ => cases e2
end
section
variable {G : Gl} {T : Tab} {F : Call} {k : Nat} {X : Cx} {e eo : Expr} {es : List Expr} {pos apos cpos : Pos} {a : IE} {as : List IE}
/-- a method's law -/
def MtOk (G : Gl) (m : Mt) (r : V → List V → Hp → VK → Prop) : Prop :=
  ∀ (C : Cf) (s : S) (σ : L2.St) (o : Rv) (v : V) (xs : List Val) (vs : List V) (ret : Rv) (oc : Option Cell) (s' : S) (Q : VK), Rel G C s σ → OR G C s σ o v → VRs G C xs vs → mtop m (deref s o) xs = some (ret, oc) → putLoc s o oc = some s' →
    (∀ C' z, Le C C' → Rel G C' s' σ → RvR G C' s' σ ret z → Q z C'.H) → r v vs C.H Q
theorem ty_list {C : Cf} {s : S} {σ : L2.St} {o : Rv} {v : V} {xs : List Val} {K : PySem.W.Frag} (r : Rel G C s σ) (h : OR G C s σ o v) (e : deref s o = .lst xs) : tyV K "list" v C.H := by
  obtain ⟨p, ys, rfl, hp, _⟩ := src_l r h e
  exact .inl ⟨rfl, ys, SqL.of hp⟩
theorem mt_all {m : Mt} {Ty : String} {r : V → List V → Hp → VK → Prop} (ok : MtOk G m r) (ty : ∀ (C : Cf) (s : S) (σ : L2.St) (o : Rv) (v : V), Rel G C s σ → OR G C s σ o v → mkind m (deref s o) = true → tyV X.K Ty v C.H)
    {σ : L2.St} {H : Hp} {Q : VK} (h : EE G T F (.mt m a as) σ H Q) : tBM X.K Ty r (EE G T F a) (tVs G (evalVs T F as)) σ H Q := by
  obtain ⟨C, s, x, s', hH, rl, ev, kk⟩ := h
  unfold evalE at ev
  obtain ⟨x1, s1, e1, ev⟩ := bind_ok ev
  cases q : mkind m (deref s1 (opnd x1)) with
  | false => simp [q] at ev
  | true =>
    simp only [q] at ev
    obtain ⟨vs, s2, e2, ev⟩ := bind_ok ev
    cases q2 : mtop m (deref s2 (opnd x1)) vs with
    | none => simp [q2] at ev
    | some ro =>
      obtain ⟨ret, oc⟩ := ro
      simp only [q2] at ev
      cases q3 : putLoc s2 (opnd x1) oc with
      | none => simp [q3] at ev
      | some s3 =>
        simp only [q3, R.ok.injEq] at ev
        obtain ⟨rfl, rfl⟩ := ev
        show EE G T F a σ H (fun x H1 => tyV X.K Ty x H1 ∧ tVs G (evalVs T F as) σ H1 fun xs H2 => r x xs H2 Q)
        refine EE_of_op hH rl e1 fun C1 v l1 r1 o1 => ⟨ty C1 s1 σ _ v r1 o1 q, C1, s1, vs, s2, rfl, r1, e2, fun C2 ws l2 r2 h2 => ?_⟩
        exact ok C2 s2 σ _ v vs ws ret oc s3 Q r2 (OR.mono l2 o1) h2 q2 q3 fun C3 z l3 r3 h3 => kk C3 z ((l1.trans l2).trans l3) r3 h3
theorem mto_append : MtOk G .append rAppend := by
  intro C s σ o v xs vs ret oc s' Q r h hv e p kk
  unfold mtop at e
  split at e
  all_goals try contradiction
  rename_i zs y hd
  split at e
  · rename_i hl
    cases e
    obtain ⟨p, ys, rfl, hp, hr, k⟩ := loc_lst r h p hd
    unfold VRs at hv
    obtain ⟨w, t, rfl, hw, hv⟩ := hv
    unfold VRs at hv
    subst hv
    refine ⟨p, ys, w, rfl, rfl, hp, by rw [← hr.length]; exact hl, ?_⟩
    obtain ⟨l, r2⟩ := k (.lst (ys ++ [w])) ⟨_, rfl, hr.append (VRs.cons hw VRs.nil)⟩
    exact kk _ _ l r2 (show VR G (C.put p (.lst (ys ++ [w]))) .non .non from VR.non)
  · cases e
theorem mto_pop : MtOk G .pop rPopAt := by
  intro C s σ o v xs vs ret oc s' Q r h hv e p kk
  unfold mtop at e
  split at e
  all_goals try contradiction
  rename_i zs i _ hd
  split at e
  · rename_i hl
    cases q : ixN zs.length i with
    | none => simp [q] at e
    | some j =>
      cases q2 : zs[j]? with
      | none => simp [q, q2] at e
      | some y =>
        simp only [q, q2, Option.some.injEq] at e
        cases e
        obtain ⟨p, ys, rfl, hp, hr, k⟩ := loc_lst r h p hd
        unfold VRs at hv
        obtain ⟨w, t, rfl, hw, hv⟩ := hv
        unfold VRs at hv
        subst hv
        unfold VR at hw
        subst hw
        obtain ⟨w, hw, hw2⟩ := hr.get q2
        refine ⟨p, ys, i, j, w, rfl, rfl, hp, hl.1, hl.2, by rw [← hr.length]; exact (ixN_seq q).1, hw, ?_⟩
        obtain ⟨l, r2⟩ := k (.lst (ys.eraseIdx j)) ⟨_, rfl, hr.eraseIdx j⟩
        exact kk _ _ l r2 (show VR G (C.put p (.lst (ys.eraseIdx j))) y w from hw2.mono l)
  · cases e
theorem se_append (ha : PE X eo (EE G T F a)) (hs : PA X (e :: es) (tVs G (evalVs T F as))) (hb : attributeBase eo "append" X.env (eval eo X.env) = eval eo X.env := by rfl)
    (hf : ((backTo cpos (starEach (e :: es) X.env)).all (fun x => !x.1) && (backToKw cpos (keywordEach [] X.env)).all (fun x => x.1.isSome) && decide ((e :: es).length + ([] : List Keyword).length + (if ([] : List Keyword).isEmpty then 0 else 1) < 30)) = true := by rfl)
    (hl : (apos.endLine == cpos.line) = true := by rfl) (h1 : starEach (e :: es) X.env = (false, eval e X.env) :: starEach es X.env := by rfl) (h2 : (backTo cpos (starEach es X.env)).any (·.1) = false := by rfl) :
    PE X (.Call (.Attribute eo "append" apos) (e :: es) [] cpos) (EE G T F (.mt .append a as)) :=
  PE.weak (pe_bm PySem.F.plainAttrs_list PySem.F.slot_list_append PySem.F.type_list_append mt_append ha hs hb hf hl h1 h2) fun σ H Q h => mt_all mto_append (fun C s σ o v r h1 h2 => by
    cases q : deref s o with
    | lst xs => exact ty_list r h1 q
    | _ => rw [q] at h2; cases h2) h
theorem se_pop (ha : PE X eo (EE G T F a)) (hs : PA X (e :: es) (tVs G (evalVs T F as))) (hb : attributeBase eo "pop" X.env (eval eo X.env) = eval eo X.env := by rfl)
    (hf : ((backTo cpos (starEach (e :: es) X.env)).all (fun x => !x.1) && (backToKw cpos (keywordEach [] X.env)).all (fun x => x.1.isSome) && decide ((e :: es).length + ([] : List Keyword).length + (if ([] : List Keyword).isEmpty then 0 else 1) < 30)) = true := by rfl)
    (hl : (apos.endLine == cpos.line) = true := by rfl) (h1 : starEach (e :: es) X.env = (false, eval e X.env) :: starEach es X.env := by rfl) (h2 : (backTo cpos (starEach es X.env)).any (·.1) = false := by rfl) :
    PE X (.Call (.Attribute eo "pop" apos) (e :: es) [] cpos) (EE G T F (.mt .pop a as)) :=
  PE.weak (pe_bm PySem.F.plainAttrs_list PySem.F.slot_list_pop PySem.F.type_list_pop mt_popAt ha hs hb hf hl h1 h2) fun σ H Q h => mt_all mto_pop (fun C s σ o v r h1 h2 => by
    cases q : deref s o with
    | lst xs => exact ty_list r h1 q
    | _ => rw [q] at h2; cases h2) h
end
end Rs
end
section
set_option maxRecDepth 100000
set_option maxHeartbeats 4000000
/-! Statements. -/
namespace Rs
open PySem PySem.Spec PyProof.Rows L2
section
variable {G : Gl} {T : Tab} {F : Call} {k : Nat} {X : Cx} {e ea eb eo ei : Expr} {pos tpos py : Pos} {a b c o : IE} {st : Stmt} {rest : List Stmt} {p q : IS} {ps qs : List IS} {y z : Str}
abbrev SS (G : Gl) (T : Tab) (F : Call) (p : IS) : TS := tS G (execS T F p)
abbrev SSs (G : Gl) (T : Tab) (F : Call) (p : List IS) : TS := tS G (execSs T F p)
theorem ss_nil : PSs X [] (SSs G T F []) := by
  refine PSs.weak pss_nil fun D σ H ⟨C, s, fl, s', hH, rl, e, kk⟩ => ?_
  unfold execSs at e
  cases e
  subst hH
  exact kk C σ (.refl C) rl
theorem ss_cons (h1 : PS X st (SS G T F p)) (h2 : PSs X rest (SSs G T F ps)) : PSs X (st :: rest) (SSs G T F (p :: ps)) := by
  refine PSs.weak (pss_cons h1 h2) fun D σ H ⟨C, s, fl, s', hH, rl, e, kk⟩ => ?_
  unfold execSs at e
  cases q : execS T F p s with
  | bad => simp [q] at e
  | exc c v s1 => simp [q] at e
  | ok f1 s1 =>
    rw [q] at e
    refine ⟨C, s, f1, s1, hH, rl, q, fun C1 σ1 l1 r1 => ?_⟩
    cases f1 with
    | nx => exact ⟨C1, s1, fl, s', rfl, r1, e, fun C2 σ2 l2 r2 => kk C2 σ2 (l1.trans l2) r2⟩
    | bk => simp only [R.ok.injEq] at e; obtain ⟨rfl, rfl⟩ := e; exact kk C1 σ1 l1 r1
    | ct => simp only [R.ok.injEq] at e; obtain ⟨rfl, rfl⟩ := e; exact kk C1 σ1 l1 r1
    | rt v => simp only [R.ok.injEq] at e; obtain ⟨rfl, rfl⟩ := e; exact kk C1 σ1 l1 r1
theorem ss_pass : PS X (.Pass pos) (SS G T F .pas) := by
  refine PS.weak ps_pass fun D σ H ⟨C, s, fl, s', hH, rl, e, kk⟩ => ?_
  unfold execS at e
  cases e
  subst hH
  exact kk C σ (.refl C) rl
theorem ss_doc {x j pos pos'} : PS X (.Expr (.Constant (.str x) j pos) pos') (SS G T F .pas) := by
  refine PS.weak ps_doc fun D σ H ⟨C, s, fl, s', hH, rl, e, kk⟩ => ?_
  unfold execS at e
  cases e
  subst hH
  exact kk C σ (.refl C) rl
theorem ss_bk : PS X (.Break pos) (SS G T F .bk) := by
  refine PS.weak ps_break fun D σ H ⟨C, s, fl, s', hH, rl, e, kk⟩ => ?_
  unfold execS at e
  cases e
  subst hH
  exact kk C σ (.refl C) rl
theorem ss_ct : PS X (.Continue pos) (SS G T F .ct) := by
  refine PS.weak ps_continue fun D σ H ⟨C, s, fl, s', hH, rl, e, kk⟩ => ?_
  unfold execS at e
  cases e
  subst hH
  exact kk C σ (.refl C) rl
theorem ss_nev : PS X st (SS G T F .nev) := by
  refine PS.weak ps_never fun D σ H ⟨C, s, fl, s', hH, rl, e, kk⟩ => ?_
  unfold execS at e
  cases e
theorem ss_retN : PS X (.Return none pos) (SS G T F .retN) := by
  refine PS.weak ps_retN fun D σ H ⟨C, s, fl, s', hH, rl, e, kk⟩ => ?_
  unfold execS at e
  cases e
  subst hH
  exact kk C σ (.refl C) rl .non VR.non
theorem ss_ret (ha : PE X e (EE G T F a)) : PS X (.Return (some e) pos) (SS G T F (.ret a)) := by
  refine PS.weak (ps_ret ha) fun D σ H ⟨C, s, fl, s', hH, rl, e, kk⟩ => ?_
  unfold execS at e
  obtain ⟨x, s1, e1, e⟩ := bind_ok e
  cases e
  show EE G T F a σ H D.rt
  exact EE_of_val hH rl e1 fun C1 v l1 r1 h1 => kk C1 σ l1 r1 v h1
theorem ss_ex (ha : PE X e (EE G T F a)) (hs : swapsWith e none pos.line X.env = pure false := by rfl) : PS X (.Expr e pos) (SS G T F (.ex a)) := by
  refine PS.weak (ps_expr ha hs) fun D σ H ⟨C, s, fl, s', hH, rl, e, kk⟩ => ?_
  unfold execS at e
  obtain ⟨x, s1, e1, e⟩ := bind_ok e
  cases e
  exact ⟨C, s, x, _, hH, rl, e1, fun C1 v l1 r1 h1 => kk C1 σ l1 r1⟩
theorem ss_if {c : IE} (hc : PT X e (EB G T F c)) (h1 : PSs X rest (SSs G T F ps)) {rest2 : List Stmt} (h2 : PSs X rest2 (SSs G T F qs)) : PS X (.If e rest rest2 pos) (SS G T F (.ite c ps qs)) := by
  refine PS.weak (ps_if hc h1 h2) fun D σ H ⟨C, s, fl, s', hH, rl, e, kk⟩ => ?_
  unfold execS at e
  obtain ⟨kb, s1, e1, e⟩ := bind_ok e
  refine ⟨C, s, kb, s1, hH, rl, e1, fun C1 l1 r1 => ?_⟩
  cases kb with
  | true => rw [if_pos rfl]; exact ⟨C1, s1, fl, s', rfl, r1, e, fun C2 σ2 l2 r2 => kk C2 σ2 (l1.trans l2) r2⟩
  | false => rw [if_neg (by simp)]; exact ⟨C1, s1, fl, s', rfl, r1, e, fun C2 σ2 l2 r2 => kk C2 σ2 (l1.trans l2) r2⟩
theorem whileL_step {tst : S → R Bool} {body : S → R Fl} {n : Nat} {s : S} {fl : Fl} {s2 : S} (h : whileL tst body n s = .ok fl s2) : ∃ m b s1, n = m + 1 ∧ tst s = .ok b s1 ∧ ((b = false ∧ fl = .nx ∧ s2 = s1) ∨ (b = true ∧ ∃ fb sb, body s1 = .ok fb sb ∧
    (((fb = .nx ∨ fb = .ct) ∧ whileL tst body m sb = .ok fl s2) ∨ (fb = .bk ∧ fl = .nx ∧ s2 = sb) ∨ ∃ v, fb = .rt v ∧ fl = .rt v ∧ s2 = sb))) := by
  cases n with
  | zero => unfold whileL at h; cases h
  | succ m =>
    unfold whileL at h
    obtain ⟨b, s1, e1, h⟩ := bind_ok h
    refine ⟨m, b, s1, rfl, e1, ?_⟩
    cases b with
    | false => cases h; exact .inl ⟨rfl, rfl, rfl⟩
    | true =>
      right
      refine ⟨rfl, ?_⟩
      cases q : body s1 with
      | bad => simp [q] at h
      | exc c p s => simp [q] at h
      | ok fb sb =>
        rw [q] at h
        refine ⟨fb, sb, rfl, ?_⟩
        cases fb with
        | nx => exact .inl ⟨.inl rfl, h⟩
        | ct => exact .inl ⟨.inr rfl, h⟩
        | bk => simp only [R.ok.injEq] at h; exact .inr (.inl ⟨rfl, h.1.symm, h.2.symm⟩)
        | rt v => simp only [R.ok.injEq] at h; exact .inr (.inr ⟨v, rfl, h.1.symm, h.2.symm⟩)
theorem ss_while {c : IE} (hc : PT X e (EB G T F c)) (h1 : PSs X rest (SSs G T F ps)) (hp : PassesOwn (model X.prog X.w) X.A X.env X.xe) : PS X (.While e rest [] pos) (SS G T F (.whl c ps)) := by
  refine PS.weak (ps_while hp hc h1) fun D σ H ⟨C, s, fl, s', hH, rl, e, kk⟩ => ?_
  unfold execS at e
  refine ⟨fun m σi Hi => ∃ Ci si, Ci.H = Hi ∧ Le C Ci ∧ Rel G Ci si σi ∧ whileL (evalB T F c) (execSs T F ps) m si = .ok fl s', ⟨T.fuel, C, s, hH, .refl C, rl, e⟩, ?_⟩
  rintro n σi Hi ⟨Ci, si, rfl, li, ri, ei⟩
  obtain ⟨m, b, s1, rfl, e1, h⟩ := whileL_step ei
  refine ⟨Ci, si, b, s1, rfl, ri, e1, fun C1 l1 r1 => ?_⟩
  rcases h with ⟨rfl, rfl, rfl⟩ | ⟨rfl, fb, sb, e2, h⟩
  · rw [if_neg (by simp)]
    exact kk C1 σi (li.trans l1) r1
  · rw [if_pos rfl]
    refine ⟨fun σ' H' => ∃ C' s', C'.H = H' ∧ Le C C' ∧ Rel G C' s' σ' ∧ whileL (evalB T F c) (execSs T F ps) m s' = .ok fl _, fun σ' H' ⟨C', s2, h1, h2, h3, h4⟩ => ⟨m, by omega, C', s2, h1, h2, h3, h4⟩, C1, s1, fb, sb, rfl, r1, e2, fun C2 σ2 l2 r2 => ?_⟩
    have l := (li.trans l1).trans l2
    rcases h with ⟨h, g⟩ | ⟨h, rfl, rfl⟩ | ⟨v, h, rfl, rfl⟩
    · rcases h with rfl | rfl
      · exact ⟨C2, sb, rfl, l, r2, g⟩
      · exact ⟨C2, sb, rfl, l, r2, g⟩
    · subst h
      exact kk C2 σ2 l r2
    · subst h
      exact kk C2 σ2 l r2
/-! ### names -/
theorem asg_nm {i : Nat} {D : Ends} {σ : L2.St} {H : Hp} (h : SS G T F (.asg (.nm i) a) D σ H) : EE G T F a σ H fun x H1 => D.nx (σ.set i (some x)) H1 := by
  obtain ⟨C, s, fl, s', hH, rl, e, kk⟩ := h
  unfold execS at e
  obtain ⟨x, s1, e1, e⟩ := bind_ok e
  obtain ⟨_, s2, e2, e⟩ := bind_ok e
  unfold tgtSet at e2
  cases e2
  cases e
  exact EE_of_val hH rl e1 fun C1 v l1 r1 h1 => kk C1 _ l1 (r1.setV h1)
theorem own_nm {i : Nat} {D : Ends} {σ : L2.St} {H : Hp} (h : SS G T F (.own i a) D σ H) : EE G T F a σ H fun x H1 => D.nx (σ.set i (some x)) H1 := by
  obtain ⟨C, s, fl, s', hH, rl, e, kk⟩ := h
  unfold execS at e
  obtain ⟨x, s1, e1, e⟩ := bind_ok e
  cases x with
  | v x => cases e
  | sl x => cases e
  | f c =>
    cases e
    refine ⟨C, s, _, _, hH, rl, e1, fun C1 v l1 r1 h1 => ?_⟩
    obtain ⟨p, rfl, hc, f, u, d⟩ := h1
    exact kk C1 _ l1 (r1.setO hc f fun j c h _ => d j c h)
theorem ss_set (ox : XO G k X) (i : Nat) (ha : PE X e (EE G T F a)) (hi : X.N[i]? = some y := by rfl) (hx : Loc X.env.scope y := by first | exact .inl rfl | exact .inr rfl) (hs : swapsWith e (some (.Name y py)) pos.line X.env = pure false := by rfl)
    (hf : X.fn y = true ∨ X.env.scope.names.lookup y = some .local := by first | exact .inl rfl | exact .inr rfl) : PS X (.Assign [.Name y py] e pos) (SS G T F (.asg (.nm i) a)) :=
  PS.weak (ps_set ox.nd hi hx ha hs hf) fun D σ H h => asg_nm h
theorem ss_own (ox : XO G k X) (i : Nat) (ha : PE X e (EE G T F a)) (hi : X.N[i]? = some y := by rfl) (hx : Loc X.env.scope y := by first | exact .inl rfl | exact .inr rfl) (hs : swapsWith e (some (.Name y py)) pos.line X.env = pure false := by rfl)
    (hf : X.fn y = true ∨ X.env.scope.names.lookup y = some .local := by first | exact .inl rfl | exact .inr rfl) : PS X (.Assign [.Name y py] e pos) (SS G T F (.own i a)) :=
  PS.weak (ps_set ox.nd hi hx ha hs hf) fun D σ H h => own_nm h
section
variable {tg iter elt : Expr} {ifs : List Expr} {scope : Scope} {own : List (Str × Nat)} {pt : Pat} {sk : Sk} {src conds : List IE} {spos : Pos}
theorem ss_setLc (ox : XO G k X) (i : Nat) (hi : PI X tg iter (tW G sk (evalOs T F src))) (ok : BlkOk X.N X.env.scope scope own)
    (hg : ∀ (s : Shared) (H : Hp) (C : Addr) (cl : List (Str × Addr)) (fp : List Addr), PG (X.blk s H scope (compEnvC scope cl C X.env) fp) tg (gP G pt)) (ht : ∀ (s : Shared) (H : Hp) (C : Addr) (cl : List (Str × Addr)) (fp : List Addr), PTs (X.blk s H scope (compEnvC scope cl C X.env) fp) ifs (tBo G (evalTs T F conds)))
    (he : ∀ (s : Shared) (H : Hp) (C : Addr) (cl : List (Str × Addr)) (fp : List Addr), PE (X.blk s H scope (compEnvC scope cl C X.env) fp) elt (EE G T F a)) (hv : ∀ i ∈ pnames pt, i ∈ own.map (·.2)) (hsw : swapsWith (.ListComp elt [⟨tg, iter, ifs, 0⟩] scope pos) (some (.Name y py)) spos.line X.env = pure true)
    (hy : X.N[i]? = some y := by rfl) (hyl : X.env.scope.names.lookup y = some .local := by rfl) (hs : ∀ x, foldedSetIterable iter X.env x = pure x := by intro _; rfl) :
    PS X (.Assign [.Name y py] (.ListComp elt [⟨tg, iter, ifs, 0⟩] scope pos) spos) (SS G T F (.asg (.nm i) (.lc a pt sk src conds (own.map (·.2))))) :=
  PS.weak (ps_setLc ox.calm ox.nd hy hyl hsw hi ok hg ht he hs) fun D σ H h => tLc_of hv (asg_nm h)
theorem ss_ownLc (ox : XO G k X) (i : Nat) (hi : PI X tg iter (tW G sk (evalOs T F src))) (ok : BlkOk X.N X.env.scope scope own)
    (hg : ∀ (s : Shared) (H : Hp) (C : Addr) (cl : List (Str × Addr)) (fp : List Addr), PG (X.blk s H scope (compEnvC scope cl C X.env) fp) tg (gP G pt)) (ht : ∀ (s : Shared) (H : Hp) (C : Addr) (cl : List (Str × Addr)) (fp : List Addr), PTs (X.blk s H scope (compEnvC scope cl C X.env) fp) ifs (tBo G (evalTs T F conds)))
    (he : ∀ (s : Shared) (H : Hp) (C : Addr) (cl : List (Str × Addr)) (fp : List Addr), PE (X.blk s H scope (compEnvC scope cl C X.env) fp) elt (EE G T F a)) (hv : ∀ i ∈ pnames pt, i ∈ own.map (·.2)) (hsw : swapsWith (.ListComp elt [⟨tg, iter, ifs, 0⟩] scope pos) (some (.Name y py)) spos.line X.env = pure true)
    (hy : X.N[i]? = some y := by rfl) (hyl : X.env.scope.names.lookup y = some .local := by rfl) (hs : ∀ x, foldedSetIterable iter X.env x = pure x := by intro _; rfl) :
    PS X (.Assign [.Name y py] (.ListComp elt [⟨tg, iter, ifs, 0⟩] scope pos) spos) (SS G T F (.own i (.lc a pt sk src conds (own.map (·.2))))) :=
  PS.weak (ps_setLc ox.calm ox.nd hy hyl hsw hi ok hg ht he hs) fun D σ H h => tLc_of hv (own_nm h)
end
/-! ### targets -/
/-- a target is given a value -/
def gT (G : Gl) (T : Tab) (F : Call) (t : Tgt) : TG := fun v σ H Q => ∃ C s x s', C.H = H ∧ Rel G C s σ ∧ VR G C x v ∧ tgtSet T F t x s = .ok () s' ∧ ∀ C' σ', Le C C' → Rel G C' s' σ' → Q σ' C'.H
def gTs (G : Gl) (T : Tab) (F : Call) (t : List Tgt) : TGs := fun vs σ H Q => ∃ C s xs s', C.H = H ∧ Rel G C s σ ∧ VRs G C xs vs ∧ tgtSets T F t xs s = .ok () s' ∧ ∀ C' σ', Le C C' → Rel G C' s' σ' → Q σ' C'.H
theorem ss_asg {t : Tgt} {tg : Expr} (ha : PE X e (EE G T F a)) (hg : PG X tg (gT G T F t)) (hs : swapsWithSole [tg] e pos.line X.env = pure false := by rfl) (hw : swappedStores [tg] e X.env = pure none := by rfl)
    (h1 : (assignEach [tg] X.env).map (·.2) = [assign tg X.env] := by rfl) : PS X (.Assign [tg] e pos) (SS G T F (.asg t a)) := by
  refine PS.weak (ps_asg ha hg hs hw h1) fun D σ H ⟨C, s, fl, s', hH, rl, ev, kk⟩ => ?_
  unfold execS at ev
  obtain ⟨x, s1, e1, ev⟩ := bind_ok ev
  obtain ⟨_, s2, e2, ev⟩ := bind_ok ev
  cases ev
  show EE G T F a σ H fun x H1 => gT G T F t x σ H1 D.nx
  exact EE_of_val hH rl e1 fun C1 v l1 r1 h1 => ⟨C1, s1, x, _, rfl, r1, h1, e2, fun C2 σ2 l2 r2 => kk C2 σ2 (l1.trans l2) r2⟩
theorem gt_nm (ox : XO G k X) (i : Nat) (hi : X.N[i]? = some y := by rfl) (hx : Loc X.env.scope y := by first | exact .inl rfl | exact .inr rfl) (hf : X.fn y = true ∨ X.env.scope.names.lookup y = some .local := by first | exact .inl rfl | exact .inr rfl) : PG X (.Name y pos) (gT G T F (.nm i)) := by
  refine PG.weak (pg_name ox.nd hi hx hf) fun v σ H Q ⟨C, s, z, s', hH, rl, h, e, kk⟩ => ?_
  unfold tgtSet at e
  cases e
  subst hH
  exact kk C _ (.refl C) (rl.setV h)
theorem gts_nil : PGs X [] (gTs G T F []) := by
  refine PGs.weak pgs_nil fun v σ H Q ⟨C, s, z, s', hH, rl, h, e, kk⟩ => ?_
  cases z with
  | nil => unfold tgtSets at e; cases e; subst hH; unfold VRs at h; exact ⟨h, kk C σ (.refl C) rl⟩
  | cons a b => unfold tgtSets at e; cases e
theorem gts_cons {es : List Expr} {t : Tgt} {ts : List Tgt} (h1 : PG X e (gT G T F t)) (h2 : PGs X es (gTs G T F ts)) (hs : (assignEach (e :: es) X.env).map (·.2) = assign e X.env :: (assignEach es X.env).map (·.2) := by rfl) : PGs X (e :: es) (gTs G T F (t :: ts)) := by
  refine PGs.weak (pgs_cons h1 h2 hs) fun v σ H Q ⟨C, s, z, s', hH, rl, h, e, kk⟩ => ?_
  cases z with
  | nil => unfold tgtSets at e; cases e
  | cons a as =>
    unfold tgtSets at e
    obtain ⟨_, s1, e1, e⟩ := bind_ok e
    unfold VRs at h
    obtain ⟨y, r, rfl, h1, h2⟩ := h
    exact ⟨y, r, rfl, C, s, a, s1, hH, rl, h1, e1, fun C1 σ1 l1 r1 => ⟨C1, s1, as, s', rfl, r1, h2.mono l1, e, fun C2 σ2 l2 r2 => kk C2 σ2 (l1.trans l2) r2⟩⟩
theorem tgt_len : ∀ (ts : List Tgt) (xs : List Val) (s s' : S), tgtSets T F ts xs s = .ok () s' → xs.length = ts.length
  | [], [], _, _, _ => rfl
  | [], _ :: _, _, _, h => by unfold tgtSets at h; cases h
  | _ :: _, [], _, _, h => by unfold tgtSets at h; cases h
  | t :: ts, x :: xs, s, s', h => by
    unfold tgtSets at h
    obtain ⟨_, s1, e1, h⟩ := bind_ok h
    simp [tgt_len ts xs s1 s' h]
theorem gt_tp {es : List Expr} {kt : Nat} {ts : List Tgt} (ox : XO G k X) (h : PGs X es (gTs G T F ts)) (hn : (assignEach es X.env).length = ts.length := by rfl) (hst : (assignEach es X.env).findIdx? (·.1) = none := by rfl) : PG X (.Tuple es kt pos) (gT G T F (.tp ts)) := by
  refine PG.weak (pg_tup ox.calm h hn hst) fun v σ H Q ⟨C, s, z, s', hH, rl, h, e, kk⟩ => ?_
  unfold tgtSet at e
  cases z with
  | tup vs =>
    simp only at e
    unfold VR at h
    obtain ⟨p, ys, rfl, hp, hr⟩ := h
    refine ⟨p, ys, rfl, ?_, by rw [← hr.length]; exact tgt_len _ _ _ _ e, C, s, vs, s', hH, rl, hr, e, kk⟩
    rw [ox.K, ← hH]
    rcases hp with hp | hp
    · exact .inl (.inl hp.2)
    · exact .inr (by obtain ⟨ob, its, n, h1, h2, h3, h4, h5⟩ := hp; exact ⟨ob, its, n, h1, h2, h3, h4, h5⟩)
  | _ => cases e
end
end Rs
end
section
set_option maxRecDepth 100000
set_option maxHeartbeats 4000000
/-! Built-in functions: min, sorted, repr; their calls. -/
namespace Rs
open PySem PySem.Spec PyProof.Rows L2
theorem CallR.any {X : Cx} {g : Value} : CallR X g (fun xs H Q => ∃ r : List V → Hp → VK → Prop, CallR X g r ∧ r xs H Q) := fun pins s σ H xs us Q I r ⟨_, h, q⟩ => h pins s σ H xs us Q I r q
theorem toDs_each : ∀ {xs : List Val} {ds : List PyData}, toDs xs = some ds → ds = xs.map dD ∧ ∀ x ∈ xs, toD x = some (dD x)
  | [], ds, h => by unfold toDs at h; cases h; exact ⟨rfl, by simp⟩
  | x :: xs, ds, h => by
    unfold toDs at h
    cases q : toD x with
    | none => simp [q] at h
    | some d =>
      cases q2 : toDs xs with
      | none => simp [q, q2] at h
      | some es =>
        simp only [q, q2, Option.some.injEq] at h
        obtain ⟨h1, h2⟩ := toDs_each q2
        have e : dD x = d := by unfold dD; rw [q]; rfl
        subst h
        refine ⟨by rw [h1, List.map_cons, e], fun y hy => ?_⟩
        rcases List.mem_cons.mp hy with rfl | hy
        · rw [q, e]
        · exact h2 y hy
mutual
theorem toD_inj : ∀ {x y : Val} {d : PyData}, toD x = some d → toD y = some d → x = y
  | .non, y, d, h, k => by unfold toD at h; cases h; exact (toD_none k).symm
  | .bl b, y, d, h, k => by unfold toD at h; cases h; exact (toD_bool k).symm
  | .int b, y, d, h, k => by unfold toD at h; cases h; exact (toD_int k).symm
  | .str b, y, d, h, k => by unfold toD at h; cases h; exact (toD_str k).symm
  | .lst xs, y, d, h, k => by
    unfold toD at h
    cases q : toDs xs with
    | none => simp [q] at h
    | some ds =>
      simp only [q, Option.some.injEq] at h
      subst h
      obtain ⟨ys, rfl, hy⟩ := toD_lst k
      rw [toDs_inj q hy]
  | .tup xs, y, d, h, k => by
    unfold toD at h
    cases q : toDs xs with
    | none => simp [q] at h
    | some ds =>
      simp only [q, Option.some.injEq] at h
      subst h
      obtain ⟨ys, rfl, hy⟩ := toD_tup k
      rw [toDs_inj q hy]
  | .dct xs, y, d, h, k => by
    unfold toD at h
    cases q : toDk xs with
    | none => simp [q] at h
    | some ds =>
      simp only [q, Option.some.injEq] at h
      subst h
      obtain ⟨ys, rfl, hy⟩ := toD_dct k
      rw [toDk_inj q hy]
  | .ref _, y, d, h, k => by unfold toD at h; cases h
  | .scr _, y, d, h, k => by unfold toD at h; cases h
  | .bad, y, d, h, k => by unfold toD at h; cases h
theorem toDs_inj : ∀ {xs ys : List Val} {d : List PyData}, toDs xs = some d → toDs ys = some d → xs = ys
  | [], ys, d, h, k => by
    unfold toDs at h; cases h
    cases ys with
    | nil => rfl
    | cons y ys =>
      unfold toDs at k
      cases q : toD y with
      | none => simp [q] at k
      | some d => cases q2 : toDs ys <;> simp [q, q2] at k
  | x :: xs, ys, d, h, k => by
    unfold toDs at h
    cases q : toD x with
    | none => simp [q] at h
    | some e =>
      cases q2 : toDs xs with
      | none => simp [q, q2] at h
      | some es =>
        simp only [q, q2, Option.some.injEq] at h
        subst h
        cases ys with
        | nil => unfold toDs at k; cases k
        | cons y ys =>
          unfold toDs at k
          cases r : toD y with
          | none => simp [r] at k
          | some f =>
            cases r2 : toDs ys with
            | none => simp [r, r2] at k
            | some fs =>
              simp only [r, r2, Option.some.injEq, List.cons.injEq] at k
              obtain ⟨rfl, rfl⟩ := k
              rw [toD_inj q r, toDs_inj q2 r2]
theorem toDk_inj : ∀ {xs ys : List (Key × Val)} {d : List (PyData × PyData)}, toDk xs = some d → toDk ys = some d → xs = ys
  | [], ys, d, h, k => by
    unfold toDk at h; cases h
    cases ys with
    | nil => rfl
    | cons y ys =>
      obtain ⟨y1, y2⟩ := y
      unfold toDk at k
      cases q : toD y2 with
      | none => simp [q] at k
      | some d => cases q2 : toDk ys <;> simp [q, q2] at k
  | (x1, x) :: xs, ys, d, h, k => by
    unfold toDk at h
    cases q : toD x with
    | none => simp [q] at h
    | some e =>
      cases q2 : toDk xs with
      | none => simp [q, q2] at h
      | some es =>
        simp only [q, q2, Option.some.injEq] at h
        subst h
        cases ys with
        | nil => unfold toDk at k; cases k
        | cons y ys =>
          obtain ⟨y1, y⟩ := y
          unfold toDk at k
          cases r : toD y with
          | none => simp [r] at k
          | some f =>
            cases r2 : toDk ys with
            | none => simp [r, r2] at k
            | some fs =>
              simp only [r, r2, Option.some.injEq, List.cons.injEq, Prod.mk.injEq] at k
              obtain ⟨⟨h1, rfl⟩, rfl⟩ := k
              have e1 : x1 = y1 := by
                cases x1 <;> cases y1 <;> simp at h1 <;> rw [h1]
              rw [toD_inj q r, toDk_inj q2 r2, e1]
theorem toD_none : ∀ {y : Val}, toD y = some .none → y = .non
  | .non, _ => rfl
  | .bl _, h => by unfold toD at h; cases h
  | .int _, h => by unfold toD at h; cases h
  | .str _, h => by unfold toD at h; cases h
  | .lst xs, h => by unfold toD at h; cases q : toDs xs <;> simp [q] at h
  | .tup xs, h => by unfold toD at h; cases q : toDs xs <;> simp [q] at h
  | .dct xs, h => by unfold toD at h; cases q : toDk xs <;> simp [q] at h
  | .ref _, h => by unfold toD at h; cases h
  | .scr _, h => by unfold toD at h; cases h
  | .bad, h => by unfold toD at h; cases h
theorem toD_bool : ∀ {y : Val} {b : Bool}, toD y = some (.bool b) → y = .bl b
  | .non, _, h => by unfold toD at h; cases h
  | .bl _, _, h => by unfold toD at h; cases h; rfl
  | .int _, _, h => by unfold toD at h; cases h
  | .str _, _, h => by unfold toD at h; cases h
  | .lst xs, _, h => by unfold toD at h; cases q : toDs xs <;> simp [q] at h
  | .tup xs, _, h => by unfold toD at h; cases q : toDs xs <;> simp [q] at h
  | .dct xs, _, h => by unfold toD at h; cases q : toDk xs <;> simp [q] at h
  | .ref _, _, h => by unfold toD at h; cases h
  | .scr _, _, h => by unfold toD at h; cases h
  | .bad, _, h => by unfold toD at h; cases h
theorem toD_int : ∀ {y : Val} {b : Int}, toD y = some (.int b) → y = .int b
  | .non, _, h => by unfold toD at h; cases h
  | .bl _, _, h => by unfold toD at h; cases h
  | .int _, _, h => by unfold toD at h; cases h; rfl
  | .str _, _, h => by unfold toD at h; cases h
  | .lst xs, _, h => by unfold toD at h; cases q : toDs xs <;> simp [q] at h
  | .tup xs, _, h => by unfold toD at h; cases q : toDs xs <;> simp [q] at h
  | .dct xs, _, h => by unfold toD at h; cases q : toDk xs <;> simp [q] at h
  | .ref _, _, h => by unfold toD at h; cases h
  | .scr _, _, h => by unfold toD at h; cases h
  | .bad, _, h => by unfold toD at h; cases h
theorem toD_str : ∀ {y : Val} {b : Str}, toD y = some (.str b) → y = .str b
  | .non, _, h => by unfold toD at h; cases h
  | .bl _, _, h => by unfold toD at h; cases h
  | .int _, _, h => by unfold toD at h; cases h
  | .str _, _, h => by unfold toD at h; cases h; rfl
  | .lst xs, _, h => by unfold toD at h; cases q : toDs xs <;> simp [q] at h
  | .tup xs, _, h => by unfold toD at h; cases q : toDs xs <;> simp [q] at h
  | .dct xs, _, h => by unfold toD at h; cases q : toDk xs <;> simp [q] at h
  | .ref _, _, h => by unfold toD at h; cases h
  | .scr _, _, h => by unfold toD at h; cases h
  | .bad, _, h => by unfold toD at h; cases h
theorem toD_lst : ∀ {y : Val} {ds : List PyData}, toD y = some (.list ds) → ∃ ys, y = .lst ys ∧ toDs ys = some ds
  | .non, _, h => by unfold toD at h; cases h
  | .bl _, _, h => by unfold toD at h; cases h
  | .int _, _, h => by unfold toD at h; cases h
  | .str _, _, h => by unfold toD at h; cases h
  | .lst xs, _, h => by
    unfold toD at h
    cases q : toDs xs with
    | none => simp [q] at h
    | some ds => simp only [q, Option.some.injEq, PyData.list.injEq] at h; subst h; exact ⟨xs, rfl, q⟩
  | .tup xs, _, h => by unfold toD at h; cases q : toDs xs <;> simp [q] at h
  | .dct xs, _, h => by unfold toD at h; cases q : toDk xs <;> simp [q] at h
  | .ref _, _, h => by unfold toD at h; cases h
  | .scr _, _, h => by unfold toD at h; cases h
  | .bad, _, h => by unfold toD at h; cases h
theorem toD_tup : ∀ {y : Val} {ds : List PyData}, toD y = some (.tuple ds) → ∃ ys, y = .tup ys ∧ toDs ys = some ds
  | .non, _, h => by unfold toD at h; cases h
  | .bl _, _, h => by unfold toD at h; cases h
  | .int _, _, h => by unfold toD at h; cases h
  | .str _, _, h => by unfold toD at h; cases h
  | .lst xs, _, h => by unfold toD at h; cases q : toDs xs <;> simp [q] at h
  | .tup xs, _, h => by
    unfold toD at h
    cases q : toDs xs with
    | none => simp [q] at h
    | some ds => simp only [q, Option.some.injEq, PyData.tuple.injEq] at h; subst h; exact ⟨xs, rfl, q⟩
  | .dct xs, _, h => by unfold toD at h; cases q : toDk xs <;> simp [q] at h
  | .ref _, _, h => by unfold toD at h; cases h
  | .scr _, _, h => by unfold toD at h; cases h
  | .bad, _, h => by unfold toD at h; cases h
theorem toD_dct : ∀ {y : Val} {ds : List (PyData × PyData)}, toD y = some (.dict ds) → ∃ ys, y = .dct ys ∧ toDk ys = some ds
  | .non, _, h => by unfold toD at h; cases h
  | .bl _, _, h => by unfold toD at h; cases h
  | .int _, _, h => by unfold toD at h; cases h
  | .str _, _, h => by unfold toD at h; cases h
  | .lst xs, _, h => by unfold toD at h; cases q : toDs xs <;> simp [q] at h
  | .tup xs, _, h => by unfold toD at h; cases q : toDs xs <;> simp [q] at h
  | .dct xs, _, h => by
    unfold toD at h
    cases q : toDk xs with
    | none => simp [q] at h
    | some ds => simp only [q, Option.some.injEq, PyData.dict.injEq] at h; subst h; exact ⟨xs, rfl, q⟩
  | .ref _, _, h => by unfold toD at h; cases h
  | .scr _, _, h => by unfold toD at h; cases h
  | .bad, _, h => by unfold toD at h; cases h
end
theorem minD_mem : ∀ (xs : List PyData) (x : PyData), PySem.W.minD x xs ∈ x :: xs
  | [], x => by unfold PySem.W.minD; simp
  | y :: ys, x => by
    have h := minD_mem ys (if PySem.W.dataLt y x then y else x)
    show PySem.W.minD (if PySem.W.dataLt y x then y else x) ys ∈ _
    rcases List.mem_cons.mp h with h | h
    · rw [h]; split <;> simp
    · simp [h]
theorem best_minD : ∀ (xs : List Val) (x : Val), (∀ y ∈ x :: xs, toD y = some (dD y)) → toD (xs.foldl (fun b y => if PySem.W.dataLt (dD y) (dD b) then y else b) x) = some (PySem.W.minD (dD x) (xs.map dD))
  | [], x, h => h x (by simp)
  | y :: ys, x, h => by
    have e : dD (if PySem.W.dataLt (dD y) (dD x) then y else x) = if PySem.W.dataLt (dD y) (dD x) then dD y else dD x := by split <;> rfl
    have := best_minD ys (if PySem.W.dataLt (dD y) (dD x) then y else x) (fun z hz => by
      rcases List.mem_cons.mp hz with hz | hz
      · rw [hz]; split <;> exact h _ (by simp)
      · exact h z (by simp [hz]))
    rw [e] at this
    exact this
theorem allAlike_ok {ds : List PyData} (h : allAlike ds = true) : ∀ d ∈ ds, ∀ e ∈ ds, PySem.W.alike d e = true := fun d hd e he => by
  unfold allAlike at h
  exact List.all_eq_true.mp (List.all_eq_true.mp h d hd) e he
section
variable {G : Gl} {T : Tab} {F : Call} {k : Nat} {X : Cx} {C : Cf} {s : S} {σ : L2.St} {Q : VK}
theorem depthAll_le : ∀ {ds : List PyData} {n : Nat}, (∀ d ∈ ds, d.depth ≤ n) → PyData.depthAll ds ≤ n
  | [], n, _ => by unfold PyData.depthAll; exact Nat.zero_le _
  | d :: ds, n, h => by
    unfold PyData.depthAll
    exact Nat.max_le.mpr ⟨h d (by simp), depthAll_le fun e he => h e (by simp [he])⟩
/-- min of a list of data -/
theorem call_minD (o : XO G k X) : CallR X (.builtin "min") (fun vs H Q => ∃ C p xs ys r, C.H = H ∧ vs = [.ref p] ∧ H p = some (.lst ys) ∧ VRs G C xs ys ∧ vmin xs = some r ∧ intsOf xs = none ∧ ∀ v, VR G C r v → Q v H) := by
  intro pins s σ H vs us Q I r h
  obtain ⟨C, p, xs, ys, rr, hH, rfl, hp, hr, hm, hi, q⟩ := h
  subst hH
  rw [Vals.ref1 r]
  unfold vmin at hm
  rw [hi] at hm
  simp only at hm
  cases q1 : toDs xs with
  | none => simp [q1] at hm
  | some ds =>
    simp only [q1] at hm
    split at hm
    · rename_i hc
      obtain ⟨hc1, hc⟩ := Bool.and_eq_true_iff.mp hc
      obtain ⟨hc2, hc3⟩ := Bool.and_eq_true_iff.mp hc
      cases xs with
      | nil => cases hm
      | cons x xs =>
        obtain ⟨e1, e2⟩ := toDs_each q1
        unfold best at hm
        simp only [Option.some.injEq] at hm
        have hb := best_minD xs x e2
        rw [hm] at hb
        obtain ⟨its, rv, pl, hz⟩ := I.list (SqL.of hp)
        obtain ⟨as, rd, _⟩ := VRs.reads I o.K o.sys (x :: xs) ys its ds hr rv q1
        rw [e1, List.map_cons] at rd
        have al := allAlike_ok hc1
        rw [e1] at al
        have nn : ∀ d ∈ (x :: xs).map dD, d ≠ .none := fun d hd z => by
          have := List.all_eq_true.mp hc3 d (by rw [e1]; exact hd)
          rw [z] at this
          cases this
        have dp : PyData.depthAll ((x :: xs).map dD) ≤ 60 := depthAll_le fun d hd => (okD_iff (List.all_eq_true.mp hc2 d (by rw [e1]; exact hd))).2
        refine PySem.W.min_list_data (vs := its.toArray) (I.ok.hd o.calm) pl.isList (by simpa using rd) ⟨al, nn⟩ (by have := o.room.un; have h2 : PyData.depthAll (dD x :: xs.map dD) ≤ 60 := dp; omega) fun i v h' tk bs hv hr2 hk => ?_
        have hv : its[i]? = some v := by simpa using hv
        have hy : ∃ y, ys[i]? = some y ∧ RelV y v := by
          cases e : ys[i]? with
          | none => rw [rv.none_of e] at hv; cases hv
          | some y =>
            obtain ⟨u, h1, h2⟩ := rv.get e
            rw [hv] at h1
            cases h1
            exact ⟨y, rfl, h2⟩
        obtain ⟨y, hy, ry⟩ := hy
        have hx : ∃ z, (x :: xs)[i]? = some z := by
          have hl := hr.length
          have := (List.getElem?_eq_some_iff.mp hy).1
          exact ⟨(x :: xs)[i]'(by omega), List.getElem?_eq_getElem _⟩
        obtain ⟨z, hx⟩ := hx
        obtain ⟨y', hy', hvr⟩ := hr.get hx
        rw [hy] at hy'
        cases hy'
        have hz := e2 z (List.mem_of_getElem? hx)
        obtain ⟨as2, rd2, _⟩ := VR.reads I o.K o.sys z y v (dD z) hvr ry hz
        have mm : PySem.W.minD (dD x) (xs.map dD) ∈ (x :: xs).map dD := minD_mem _ _
        have e3 := PySem.W.alike_unique _ _ v as2 bs (al _ (List.mem_map.mpr ⟨z, List.mem_of_getElem? hx, rfl⟩) _ mm) (PyProof.Rows.Reads.keeps hk rd2) hr2
        have e4 : z = rr := toD_inj (by rw [hz, e3]) hb
        subst e4
        exact ⟨y, C.H, I.kept hk, ry, q y hvr⟩
    · cases hm
theorem bi_min (o : XO G k X) : BiOk G X .min (.builtin "min") := by
  intro C s σ xs vs r Q rl h e kk
  unfold biop at e
  split at e
  all_goals try contradiction
  · obtain ⟨v, w, rfl, hx, hy⟩ := h.two
    cases e
    cases hx.int
    cases hy.int
    exact ⟨_, call_min2 o.calm, _, _, rfl, out_v rl .int kk⟩
  · rename_i zs _
    obtain ⟨v, rfl, hx⟩ := h.one
    obtain ⟨x, e2, rfl⟩ := Option.map_eq_some_iff.mp e
    clear e
    have e := e2
    obtain ⟨p, ys, rfl, hp, hr⟩ := hx
    cases hi : intsOf zs with
    | some ns =>
      unfold vmin at e
      rw [hi] at e
      cases ns with
      | nil =>
        simp only at e
        cases zs with
        | nil => unfold toDs best at e; simp at e
        | cons a b =>
          cases a <;> unfold intsOf at hi <;> first | cases hi | (cases q : intsOf b <;> simp [q] at hi)
      | cons n ns =>
        simp only [Option.some.injEq] at e
        subst e
        have := intsOf_rel hr hi
        subst this
        refine ⟨_, cr_min o.calm, p, n :: ns, rfl, SqL.of hp, by simp, fun m h1 h2 => ?_⟩
        rw [min_uniq (fold_min_mem ns n) h1 h2]
        exact out_v rl .int kk
    | none => exact ⟨_, call_minD o, C, p, zs, ys, x, rfl, rfl, hp, hr, e, hi, fun v hv => out_v rl hv kk⟩
end
end Rs
end
section
set_option maxRecDepth 100000
set_option maxHeartbeats 4000000
/-! Built-in functions: sorted, repr; their calls. -/
namespace Rs
open PySem PySem.Spec PyProof.Rows L2
section
variable {G : Gl} {T : Tab} {F : Call} {k : Nat} {X : Cx} {C : Cf} {s : S} {σ : L2.St} {Q : VK}
theorem each_rel {R : Value → Val → Prop} : ∀ {out : List Value} {xs : List Val}, PySem.W.EachIs R out xs → (∀ u x, R u x → ∃ v, VR G C x v ∧ RelV v u) → ∃ vs, VRs G C xs vs ∧ Vals vs out
  | _, _, .nil, _ => ⟨[], VRs.nil, .nil⟩
  | _, _, .cons h t, f => by
    obtain ⟨v, h1, h2⟩ := f _ _ h
    obtain ⟨vs, h3, h4⟩ := each_rel t f
    exact ⟨v :: vs, VRs.cons h1 h3, .cons h2 h4⟩
theorem rel_each : ∀ {xs : List Val} {vs : List V} {us : List Value}, VRs G C xs vs → Vals vs us → PySem.W.EachIs (fun u x => ∃ v, VR G C x v ∧ RelV v u) us xs
  | [], vs, us, h, r => by unfold VRs at h; subst h; cases r; exact .nil
  | x :: xs, vs, us, h, r => by
    unfold VRs at h
    obtain ⟨y, t, rfl, h1, h2⟩ := h
    cases r with
    | cons r1 r2 => exact .cons ⟨y, h1, r1⟩ (rel_each h2 r2)
theorem each_imp {α β : Type} {R R' : α → β → Prop} : ∀ {as : List α} {bs : List β}, PySem.W.EachIs R as bs → (∀ a b, b ∈ bs → R a b → R' a b) → PySem.W.EachIs R' as bs
  | _, _, .nil, _ => .nil
  | _, _, .cons h t, f => .cons (f _ _ (by simp) h) (each_imp t fun a b hb => f a b (by simp [hb]))
theorem sortable_ok {ds : List PyData} (h : sortable ds = true) : PySem.W.Sortable ds := by
  unfold sortable at h
  rcases Bool.or_eq_true_iff.mp h with h | h
  · refine .inl fun d hd => ?_
    have := List.all_eq_true.mp h d hd
    split at this
    · exact ⟨_, _, rfl⟩
    · cases this
  · refine .inr fun d hd => ?_
    have := List.all_eq_true.mp h d hd
    cases d <;> simp at this ⊢
/-- sorted of a list of data -/
theorem call_sortedL (o : XO G k X) : CallR X (.builtin "sorted") (fun vs H Q => ∃ C p xs ys r, C.H = H ∧ vs = [.ref p] ∧ H p = some (.lst ys) ∧ VRs G C xs ys ∧ vsort xs = some r ∧ ∀ l zs, H l = none → VRs G C r zs → Q (.ref l) (upd H l (.lst zs))) := by
  intro pins s σ H vs us Q I r h
  obtain ⟨C, p, xs, ys, rr, hH, rfl, hp, hr, hm, q⟩ := h
  subst hH
  rw [Vals.ref1 r]
  unfold vsort at hm
  rw [isort_data] at hm
  cases q1 : toDs xs with
  | none => simp [q1] at hm
  | some ds =>
    simp only [q1] at hm
    split at hm
    · rename_i hc
      cases hm
      obtain ⟨hc1, hc⟩ := Bool.and_eq_true_iff.mp hc
      obtain ⟨hc2, hc⟩ := Bool.and_eq_true_iff.mp hc
      obtain ⟨hc3, hc4⟩ := Bool.and_eq_true_iff.mp hc
      obtain ⟨e1, e2⟩ := toDs_each q1
      obtain ⟨its, rv, pl, hz⟩ := I.list (SqL.of hp)
      have al := allAlike_ok hc1
      rw [e1] at al
      have so := sortable_ok hc2
      rw [e1] at so
      have hE := rel_each hr rv
      refine PySem.W.sorted_data (R := fun u x => ∃ v, VR G C x v ∧ RelV v u) (enc := dD) pl.isList hE (each_imp hE fun u x hx ⟨v, h1, h2⟩ => ?_) al so (of_decide_eq_true hc4) (fun b hb => ?_) fun out ho eo => ?_
      · obtain ⟨as, rd, _⟩ := VR.reads I o.K o.sys x v u (dD x) h1 h2 (e2 x hx)
        exact ⟨as, rd⟩
      · have := o.room.un
        have h2 : (dD b).depth ≤ 60 := (okD_iff (List.all_eq_true.mp hc3 (dD b) (by rw [e1]; exact List.mem_map.mpr ⟨b, hb, rfl⟩))).2
        omega
      · obtain ⟨zs, hz1, hz2⟩ := each_rel (G := G) (C := C) eo fun _ _ h => h
        obtain ⟨ep, he'⟩ := PyProof.Rows.sortedAll_at s.heap its out.toArray
        have hlen : zs.length ≤ sizeLine := by
          rw [← hz1.length, List.length_mergeSort]
          exact of_decide_eq_true hc4
        exact ⟨.ref _, upd C.H (s.heap.objs.size + 1) (.lst zs), I.laid (t' := s.toks) (fun _ _ => PyProof.Rows.sortedAll_old) (Nat.le_succ _) ⟨hlen, out, ep, hz2, he'⟩, rfl, q _ zs (I.hok.fresh (Nat.le_succ _)) hz1⟩
    · cases hm
theorem sortedS_pw : ∀ (l : List Str), sortedS l = true → l.Pairwise fun a b => a.cps.toList ≤ b.cps.toList := by
  have h : ∀ (l : List Str) (x : Str), risingS x l = true → (∀ y ∈ l, x.cps.toList ≤ y.cps.toList) ∧ l.Pairwise fun a b => a.cps.toList ≤ b.cps.toList := by
    intro l
    induction l with
    | nil => intro x _; exact ⟨by simp, .nil⟩
    | cons y ys ih =>
      intro x hx
      unfold risingS at hx
      obtain ⟨h1, h2⟩ := Bool.and_eq_true_iff.mp hx
      obtain ⟨h3, h4⟩ := ih y h2
      have hxy : x.cps.toList ≤ y.cps.toList := by
        rw [ltCps_eq] at h1
        have h1 : ¬ y.cps.toList < x.cps.toList := by simpa using h1
        exact List.not_lt.mp h1
      refine ⟨fun z hz => ?_, .cons h3 h4⟩
      rcases List.mem_cons.mp hz with rfl | hz
      · exact hxy
      · exact List.le_trans hxy (h3 z hz)
  intro l hl
  cases l with
  | nil => exact .nil
  | cons x xs => obtain ⟨h1, h2⟩ := h xs x hl; exact .cons h1 h2
theorem str_eq {a b : Str} (h : a.cps.toList = b.cps.toList) : a = b := by
  cases a
  cases b
  simp only at h
  rw [Array.toList_inj.mp h]
theorem sort_strs {ks ys : List Str} (p : ys.Perm ks) (h : sortedS ys = true) : ys.map Val.str = (ks.map Val.str).mergeSort (PySem.W.dataLe false dD) := by
  have le : ∀ a b : Str, PySem.W.dataLe false dD (.str a) (.str b) = decide (a.cps.toList ≤ b.cps.toList) := fun a b => by
    have := congrFun (congrFun (PySem.W.dataLe_str (β := Str) (fun x => x)) a) b
    exact this
  have str : ∀ x ∈ (ks.map Val.str), ∃ a, x = .str a := fun x hx => by
    obtain ⟨a, _, rfl⟩ := List.mem_map.mp hx
    exact ⟨a, rfl⟩
  have pw : ((ks.map Val.str).mergeSort (PySem.W.dataLe false dD)).Pairwise fun a b => PySem.W.dataLe false dD a b = true := by
    have h0 := List.pairwise_mergeSort (le := fun a b : Str => decide (a.cps.toList ≤ b.cps.toList)) (fun a b c h1 h2 => by simp at h1 h2 ⊢; exact List.le_trans h1 h2) (fun a b => by simp; exact List.le_total ..) ks
    have e : (ks.map Val.str).mergeSort (PySem.W.dataLe false dD) = (ks.mergeSort fun a b : Str => decide (a.cps.toList ≤ b.cps.toList)).map Val.str := by
      rw [List.map_mergeSort]
      intro a _ b _
      exact (le a b).symm
    rw [e]
    exact List.pairwise_map.mpr (h0.imp fun {a b} h => by rw [le]; exact h)
  refine List.Perm.eq_of_pairwise (le := fun a b => PySem.W.dataLe false dD a b = true) (fun a b ha hb h1 h2 => ?_) (List.pairwise_map.mpr ((sortedS_pw ys h).imp fun {a b} h => by rw [le]; exact decide_eq_true h)) pw ((p.map _).trans (List.mergeSort_perm _ _).symm)
  obtain ⟨x, _, rfl⟩ := List.mem_map.mp ha
  obtain ⟨y, rfl⟩ := str b ((List.mergeSort_perm _ _).subset hb)
  rw [le] at h1 h2
  rw [str_eq (List.le_antisymm (of_decide_eq_true h1) (of_decide_eq_true h2))]
theorem keys_strs : ∀ {kvs : List (Key × Val)}, kvs.all (fun kv => kv.1.isRight) = true → ∃ ks : List Str, kvs.map (·.1) = ks.map Sum.inr ∧ (kvs.map fun kv => vKey kv.1) = ks.map Val.str
  | [], _ => ⟨[], rfl, rfl⟩
  | (.inl i, x) :: r, h => by simp at h
  | (.inr z, x) :: r, h => by
    obtain ⟨ks, h1, h2⟩ := keys_strs (kvs := r) (by simpa using h)
    exact ⟨z :: ks, by simp [h1], by rw [List.map_cons, h2]; rfl⟩
theorem VRk.fst : ∀ {xs : List (Key × Val)} {ys : List (Key × V)}, VRk G C xs ys → xs.map (·.1) = ys.map (·.1)
  | [], ys, h => by unfold VRk at h; subst h; rfl
  | (j, x) :: xs, ys, h => by
    unfold VRk at h
    obtain ⟨y, r, rfl, a, b⟩ := h
    simp [VRk.fst b]
theorem bi_sorted (o : XO G k X) : BiOk G X .sorted (.builtin "sorted") := by
  intro C s σ xs vs r Q rl h e kk
  unfold biop at e
  split at e
  all_goals try contradiction
  all_goals (obtain ⟨v, rfl, hx⟩ := h.one)
  · obtain ⟨ys, e2, rfl⟩ := Option.map_eq_some_iff.mp e
    obtain ⟨p, zs, rfl, hp, hr⟩ := hx
    exact ⟨_, call_sortedL o, C, p, _, zs, ys, rfl, rfl, hp, hr, e2, fun l ws hn hw => out_l rl hw hn kk⟩
  · split at e
    · rename_i hc
      obtain ⟨hc1, hc2⟩ := Bool.and_eq_true_iff.mp hc
      obtain ⟨ys, e2, rfl⟩ := Option.map_eq_some_iff.mp e
      obtain ⟨p, ks, rfl, hp, hr⟩ := hx
      obtain ⟨ns, h1, h2⟩ := keys_strs hc2
      have hl : ns.length < 64 := by
        have := congrArg List.length h1
        simp at this
        have h3 := of_decide_eq_true hc1
        omega
      refine ⟨_, call_sortedD o.calm, p, ks, ns, rfl, hp, by rw [← hr.fst]; exact h1, hl, fun zs l hperm hs hn => ?_⟩
      rw [h2] at e2
      unfold vsort at e2
      rw [isort_data] at e2
      cases q : toDs (ns.map Val.str) with
      | none => simp [q] at e2
      | some ds =>
        simp only [q] at e2
        split at e2
        · cases e2
          rw [← sort_strs hperm hs] at kk
          exact out_l rl (VRs.map (fun a => VR.str) zs) hn kk
        · cases e2
    · cases e
/-- repr -/
theorem call_reprD (o : XO G k X) : CallR X (.builtin "repr") (fun vs H Q => ∃ C x p d, C.H = H ∧ vs = [.ref p] ∧ NR G C x (.ref p) ∧ toD x = some d ∧ showOk d = true ∧ Q (.str d.shown) H) := by
  intro pins s σ H vs us Q I r h
  obtain ⟨C, x, p, d, hH, rfl, hx, hd, hs, q⟩ := h
  subst hH
  obtain ⟨u, rfl, ru⟩ := vals1 r
  obtain ⟨hs1, hs2⟩ := Bool.and_eq_true_iff.mp hs
  obtain ⟨hs2, hs3⟩ := Bool.and_eq_true_iff.mp hs2
  have hs2 := of_decide_eq_true hs2
  have hs3 := of_decide_eq_true hs3
  obtain ⟨as, rd, nS⟩ := NR.reads I o.K o.sys hx ru hd
  have un := o.room.un
  cases ru
  exact PySem.repr_of_reads' rd hs1 (fun _ => nS) o.gd (by omega) (fun _ _ e => e) (fun h' u tk hk => ⟨.str d.shown, C.H, I.kept hk, ⟨_, rfl⟩, q⟩) hs3
theorem box_ref {x : Val} {v : V} (h : NR G C x v) (b : boxed x = true) : ∃ p, v = .ref p := by
  cases x with
  | lst xs => obtain ⟨p, _, e, _⟩ := h; exact ⟨p, e⟩
  | tup xs => obtain ⟨p, _, e, _⟩ := h.tup; exact ⟨p, e⟩
  | dct xs => obtain ⟨p, _, e, _⟩ := h; exact ⟨p, e⟩
  | _ => cases b
theorem call_reprA : CallR X (.builtin "repr") (fun vs H Q => ∃ x d, vs = [x] ∧ showOk d = true ∧ ((x = .non ∧ d = .none) ∨ (∃ b, x = .bl b ∧ d = .bool b) ∨ (∃ i, x = .int i ∧ d = .int i) ∨ ∃ t, x = .str t ∧ d = .str t) ∧ Q (.str d.shown) H) := by
  intro pins s σ H vs us Q I r h
  obtain ⟨x, d, rfl, hs, hx, q⟩ := h
  obtain ⟨hs1, hs2⟩ := Bool.and_eq_true_iff.mp hs
  obtain ⟨hs2, hs3⟩ := Bool.and_eq_true_iff.mp hs2
  have hs3 := of_decide_eq_true hs3
  obtain ⟨u, rfl, ru⟩ := vals1 r
  rcases hx with ⟨rfl, rfl⟩ | ⟨b, rfl, rfl⟩ | ⟨i, rfl, rfl⟩ | ⟨t, rfl, rfl⟩
  · cases ru
    exact PySem.P.repr_of_none ⟨.str _, H, I.tok _, ⟨_, rfl⟩, by simpa only [PyData.shown] using q⟩
  · cases ru
    refine PySem.P.repr_of_bool ⟨.str _, H, I.tok _, ⟨_, rfl⟩, ?_⟩
    simp only [PyData.shown] at q
    cases b <;> exact q
  · obtain ⟨t, rfl⟩ := ru
    exact PySem.P.repr_of_int (by simpa [PyData.showable] using hs1) ⟨.str _, H, I.tok _, ⟨_, rfl⟩, by simpa only [PyData.shown] using q⟩
  · obtain ⟨tk, rfl⟩ := ru
    exact PySem.P.repr_of_str ⟨.str _, H, I.tok _, ⟨_, rfl⟩, by simpa only [PyData.shown] using q⟩ (by simpa only [PyData.shown] using hs3)
theorem bi_repr (o : XO G k X) : BiOk G X .repr (.builtin "repr") := by
  intro C s σ xs vs r Q rl h e kk
  unfold biop at e
  split at e
  all_goals try contradiction
  rename_i x _
  obtain ⟨v, rfl, hx⟩ := h.one
  split at e
  · rename_i d hd
    split at e
    · rename_i hs
      cases e
      cases hb : boxed x with
      | true =>
        obtain ⟨p, rfl⟩ := box_ref hx hb
        exact ⟨_, call_reprD o, C, x, p, d, rfl, rfl, hx, hd, hs, out_v rl .str kk⟩
      | false =>
        refine ⟨_, call_reprA, v, d, rfl, hs, ?_, out_v rl .str kk⟩
        cases x with
        | non => unfold toD at hd; cases hd; exact .inl ⟨hx.non, rfl⟩
        | bl b => unfold toD at hd; cases hd; exact .inr (.inl ⟨b, hx.bl, rfl⟩)
        | int i => unfold toD at hd; cases hd; exact .inr (.inr (.inl ⟨i, hx.int, rfl⟩))
        | str t => unfold toD at hd; cases hd; exact .inr (.inr (.inr ⟨t, hx.str, rfl⟩))
        | ref _ => unfold toD at hd; cases hd
        | scr _ => unfold toD at hd; cases hd
        | bad => unfold toD at hd; cases hd
        | _ => cases hb
    · cases e
  · cases e
theorem ORs.nr (r : Rel G C s σ) : ∀ {os : List Rv} {vs : List V}, ORs G C s σ os vs → (os.map (deref s)).all okV = true → NRs G C (os.map (deref s)) vs
  | [], vs, h, _ => h
  | o :: os, vs, h, b => by
    obtain ⟨v, t, rfl, h1, h2⟩ := h
    obtain ⟨b1, b2⟩ := Bool.and_eq_true_iff.mp (show (_ && _) = true from b)
    exact ⟨v, t, rfl, deref_ok r h1 (fun z => by rw [z] at b1; cases b1), ORs.nr r h2 b2⟩
theorem bi_all' {f : Bi} {g : Value} (ok : BiOk G X f g) {as : List IE} {σ : L2.St} {H : Hp} {Q : VK} (h : EE G T F (.bi f as) σ H Q) : tCB (fun xs H Q => ∃ r : List V → Hp → VK → Prop, CallR X g r ∧ r xs H Q) (tOs G (evalOs T F as)) σ H Q := by
  obtain ⟨C, s, x, s', hH, rl, ev, kk⟩ := h
  unfold evalE at ev
  obtain ⟨os, s1, e1, ev⟩ := bind_ok ev
  split at ev
  · rename_i hb
    obtain ⟨ev, rfl⟩ := opt_ok ev
    exact ⟨C, s, os, _, hH, rl, e1, fun C1 vs l1 r1 h1 => ok C1 _ σ _ vs x Q r1 (h1.nr r1 hb) ev fun C2 z l2 r2 h2 => kk C2 z (l1.trans l2) r2 h2⟩
  · cases ev
theorem se_bi {x : Str} {id : String} {f : Bi} {e : Expr} {es : List Expr} {as : List IE} {p pos : Pos} (ok : BiOk G X f (.builtin id)) (hg : L2.Gl X x) (hm : X.mg x = none) (hv : bootBuiltins x = some (.builtin id)) (ha : PA X (e :: es) (tOs G (evalOs T F as)))
    (hn : x ≠ "__name__" := by decide) (hdb : (x == ("__debug__" : Str)) = false := by decide) (he : starEach (e :: es) X.env = (false, eval e X.env) :: starEach es X.env := by rfl) (hpl : (backTo pos (starEach es X.env)).any (·.1) = false := by rfl) :
    PE X (.Call (.Name x p) (e :: es) [] pos) (EE G T F (.bi f as)) := PE.weak (pe_callB CallR.any hg hm hv ha hn hdb he hpl) fun σ H Q h => bi_all' ok h
theorem se_bt {x : Str} {id : String} {f : Bi} {e : Expr} {es : List Expr} {as : List IE} {p pos : Pos} (ok : BiOk G X f (.type id)) (hg : L2.Gl X x) (hm : X.mg x = none) (hv : bootBuiltins x = some (.type id)) (ha : PA X (e :: es) (tOs G (evalOs T F as)))
    (hn : x ≠ "__name__" := by decide) (hdb : (x == ("__debug__" : Str)) = false := by decide) (he : starEach (e :: es) X.env = (false, eval e X.env) :: starEach es X.env := by rfl) (hpl : (backTo pos (starEach es X.env)).any (·.1) = false := by rfl) :
    PE X (.Call (.Name x p) (e :: es) [] pos) (EE G T F (.bi f as)) := PE.weak (pe_callTy CallR.any hg hm hv ha hn hdb he hpl) fun σ H Q h => bi_all' ok h
end
end Rs
end
section
set_option maxRecDepth 100000
set_option maxHeartbeats 4000000
/-! Slices; calls of the text's defs. -/
namespace Rs
open PySem PySem.Spec PyProof.Rows L2
section
variable {G : Gl} {T : Tab} {F : Call} {k : Nat} {X : Cx} {e el eh : Expr} {pos p p2 : Pos} {a lo hi st : IE} {es : List Expr} {as : List IE}
/-- a slice's end, written or not -/
def tP (G : Gl) (f : S → R (List Val)) : TO := fun σ H Q => ∃ C s x s' i, C.H = H ∧ Rel G C s σ ∧ f s = .ok x s' ∧ partV x = some i ∧ ∀ C', Le C C' → Rel G C' s' σ → Q i C'.H
theorem po_no : PO X none (tP G (evalVs T F [])) := ⟨fun pins s σ H Q I ⟨C, s1, x, s', i, hH, rl, e, hp, kk⟩ => by
  unfold evalVs at e
  cases e
  cases hp
  subst hH
  exact po_none.run pins s σ C.H Q I (kk C (.refl C) rl)⟩
theorem po_so (h : PE X e (EE G T F a)) : PO X (some e) (tP G (evalVs T F [a])) := ⟨fun pins s σ H Q I ⟨C, s1, x, s', i, hH, rl, e, hp, kk⟩ => by
  refine (po_some h).run pins s σ H Q I ?_
  show EE G T F a σ H (fun x H1 => ∃ i, x = .int i ∧ Q (some i) H1)
  unfold evalVs at e
  obtain ⟨y, s2, e1, e⟩ := bind_ok e
  obtain ⟨ys, s3, e2, e⟩ := bind_ok e
  unfold evalVs at e2
  cases e2
  cases e
  refine EE_of_val hH rl e1 fun C1 v l1 r1 h1 => ?_
  cases y with
  | int j =>
    cases hp
    unfold VR at h1
    exact ⟨j, h1, kk C1 l1 r1⟩
  | _ => cases hp⟩
/-- what is cut -/
def SlOk (G : Gl) (X : Cx) (r : V → Option Int → Option Int → Hp → VK → Prop) : Prop := SlR X r
theorem sl_any : SlR X (fun x lo hi H Q => ∃ r : V → Option Int → Option Int → Hp → VK → Prop, SlR X r ∧ r x lo hi H Q) := fun pins s σ H x v vl vu lo hi sl Q I rx hs pl pu ⟨_, h, q⟩ => h pins s σ H x v vl vu lo hi sl Q I rx hs pl pu q
theorem cut_rel {C : Cf} {xs : List Val} {ys : List V} (h : VRs G C xs ys) (lo hi : Option Int) : VRs G C (cut xs lo hi) (cutV ys lo hi) := by
  unfold cut cutV
  rw [h.length]
  exact (h.drop _).take _
theorem cut_all {α : Type} {xs : List α} {lo hi : Option Int} (h : HT.sIx xs.length 0 lo = 0 ∧ HT.sIx xs.length xs.length hi = xs.length) : cut xs lo hi = xs := by
  unfold cut
  rw [h.1, h.2]
  simp
theorem cut_map {α β : Type} (f : α → β) (xs : List α) (lo hi : Option Int) : (cut xs lo hi).map f = cut (xs.map f) lo hi := by
  unfold cut
  simp
theorem slice_ok (o : XO G k X) {C : Cf} {s : S} {σ : L2.St} {x : Val} {v : V} {l h : Option Int} {r : Rv} {Q : VK} (rl : Rel G C s σ) (hx : NR G C x v) (e : vslice x l h = some r) (kk : ∀ C' z, Le C C' → Rel G C' s σ → RvR G C' s σ r z → Q z C'.H) :
    ∃ r : V → Option Int → Option Int → Hp → VK → Prop, SlR X r ∧ r v l h C.H Q := by
  unfold vslice at e
  split at e
  · cases e
    obtain ⟨q, ys, rfl, hp, hr⟩ := hx
    exact ⟨_, sl_list, q, ys, rfl, SqL.of hp, fun l hn => out_l rl (cut_rel hr _ _) hn kk⟩
  · cases e
    obtain ⟨q, ys, rfl, hp, hr⟩ := hx.tup
    refine ⟨_, sl_tupA, q, ys, rfl, by rw [o.K]; exact hp, fun w => ?_, fun w l hn => out_t rl (cut_rel hr _ _) hn kk⟩
    rw [cut_all (by rw [hr.length]; exact w)] at kk
    exact out_v rl (show VR G C (.tup _) _ from hx) kk
  · rename_i x
    split at e
    · rename_i hl
      cases e
      cases hx.str
      exact ⟨_, sl_str, _, rfl, hl, out_v rl .str kk⟩
    · cases e
  · cases e
    obtain ⟨q, rfl, hp⟩ := hx.scr
    refine ⟨_, sl_list, q, _, rfl, by rw [o.K]; exact hp, fun l hn => ?_⟩
    rw [cut_map] at kk
    exact out_l rl (cut_rel (VRs.map (fun a => VR.int) _) _ _) hn kk
  · cases e
theorem vsl_bad (l h : Option Int) : vslice .bad l h = none := rfl
theorem se_slc (o : XO G k X) {l h : Option Expr} {lo hi : List IE} (ha : PE X e (EE G T F a)) (hl : PO X l (tP G (evalVs T F lo))) (hh : PO X h (tP G (evalVs T F hi))) : PE X (.Subscript e (.Slice l h none p2) pos) (EE G T F (.slc a lo hi)) := by
  refine PE.weak (pe_slice sl_any ha hl hh) fun σ H Q ⟨C, s, r, s', hH, rl, ev, kk⟩ => ?_
  unfold evalE at ev
  obtain ⟨x, s1, e1, ev⟩ := bind_ok ev
  obtain ⟨y, s2, e2, ev⟩ := bind_ok ev
  obtain ⟨z, s3, e3, ev⟩ := bind_ok ev
  cases q1 : partV y with
  | none => simp [q1] at ev
  | some i =>
    cases q2 : partV z with
    | none => simp [q1, q2] at ev
    | some j =>
      simp only [q1, q2] at ev
      obtain ⟨ev, rfl⟩ := opt_ok ev
      show EE G T F a σ H (fun x H1 => (tP G (evalVs T F lo)) σ H1 fun l H2 => (tP G (evalVs T F hi)) σ H2 fun u H3 => ∃ r : V → Option Int → Option Int → Hp → VK → Prop, SlR X r ∧ r x l u H3 Q)
      refine EE_of_op hH rl e1 fun C1 v l1 r1 o1 => ⟨C1, s1, y, s2, i, rfl, r1, e2, q1, fun C2 l2 r2 => ⟨C2, s2, z, _, j, rfl, r2, e3, q2, fun C3 l3 r3 => ?_⟩⟩
      have hx := deref_ok r3 (OR.mono (l2.trans l3) o1) (fun w => by rw [w, vsl_bad] at ev; cases ev)
      exact slice_ok o r3 hx ev fun C4 w l4 r4 h4 => kk C4 w (((l1.trans l2).trans l3).trans l4) r4 h4
/-- xs[::k], k written in any way -/
theorem pe_stepL {te : TE} {ts : TO} {st : Expr} {p3 : Pos} (he : PE X e te) (hst : PO X (some st) ts) : PE X (.Subscript e (.Slice none none (some st) p3) pos) (fun σ H Q => te σ H fun x H1 => ts σ H1 fun o H2 => ∃ a xs, x = .ref a ∧ SqL X.K H2 a xs ∧
    ((o = some 1 ∧ ∀ p, H2 p = none → Q (.ref p) (upd H2 p (.lst xs))) ∨ (o = some (-1) ∧ ∀ p, H2 p = none → Q (.ref p) (upd H2 p (.lst xs.reverse))))) := by
  refine ⟨fun pins s σ H Q I h => ?_⟩
  refine Subscript_ (thn (he.run pins s σ H _ I h) fun v s1 ⟨x, H1, I1, r1, q1⟩ => ?_)
  refine wpAny_Slice (thn (po_none.run pins s1 σ H1 (fun o H2 => o = none ∧ H2 = H1) I1 ⟨rfl, rfl⟩) fun vl s2 ⟨l, H2, I2, pl, el, e2⟩ => ?_)
  subst el e2
  refine thn (po_none.run pins s2 σ H2 (fun o H3 => o = none ∧ H3 = H2) I2 ⟨rfl, rfl⟩) fun vu s3 ⟨u, H3, I3, pu, eu, e3⟩ => ?_
  subst eu e3
  refine thn (hst.run pins s3 σ H3 _ I3 q1) fun vs s4 ⟨o, H4, I4, ps, a, xs, ex, hx, q⟩ => ?_
  subst ex
  cases r1
  have I5 : Inv X pins σ H4 { s4 with heap := s4.heap.push { cls := .type "slice", data := .fields #[vl, vu, vs] } } := I4.kept (t' := s4.toks) fun b ob q => Heap.get?_push_of_some _ q
  obtain ⟨its, r, ht, hz⟩ := I5.list hx
  have hlen := r.length
  show wpAny (model X.prog X.w) X.A (subscriptTail e (.Slice none none (some st) p3) (.ref a) (.ref s4.heap.objs.size)) (EP X pins σ Q) X.xe { s4 with heap := s4.heap.push { cls := .type "slice", data := .fields #[vl, vu, vs] } }
  refine tail_any (ops := [.ref a, .ref s4.heap.objs.size]) ht.isList.typeIs (PySem.slot_list_getitem.lookup) ?_ (by with_unfolding_all rfl)
  rcases q with ⟨rfl, q⟩ | ⟨rfl, q⟩
  · refine wpAny_getItem_list_slice ht.isList (Heap.IsSliceOf.new _ vl vu vs) pl pu ps (by decide) ?_ (by rw [List.size_toArray]; omega)
    have e0 : slicePick its.toArray none none (some 1) = slicePick its.toArray none none none := rfl
    rw [e0, slicePick_cut]
    refine ⟨.ref _, _, I5.laid (t' := s4.toks) (o := .lst xs) (fun b ob q => Heap.get?_push_of_some _ q) (Nat.le_refl _) ?_, rfl, q _ (I5.hok.fresh (Nat.le_refl _))⟩
    refine ⟨hz, its, 0, r, ?_⟩
    rw [show (its.drop (HT.sIx its.length 0 none)).take (HT.sIx its.length its.length none - HT.sIx its.length 0 none) = its by simp [HT.sIx]]
    exact Heap.get?_push_size _ rfl
  · refine wpAny_getItem_list_slice ht.isList (Heap.IsSliceOf.new _ vl vu vs) pl pu ps (by decide) ?_ (by rw [List.size_toArray]; omega)
    rw [PySem.W.krv_pick]
    refine ⟨.ref _, _, I5.laid (t' := s4.toks) (o := .lst xs.reverse) (fun b ob q => Heap.get?_push_of_some _ q) (Nat.le_refl _) ?_, rfl, q _ (I5.hok.fresh (Nat.le_refl _))⟩
    exact ⟨by rw [List.length_reverse]; exact hz, _, 0, r.reverse, Heap.get?_push_size _ rfl⟩
theorem se_sls (o : XO G k X) {es : Expr} {p3 : Pos} (ha : PE X e (EE G T F a)) (hs : PE X es (EE G T F st)) : PE X (.Subscript e (.Slice none none (some es) p3) pos) (EE G T F (.sls a st)) := by
  refine PE.weak (pe_stepL ha (po_so hs)) fun σ H Q ⟨C, s, r, s', hH, rl, ev, kk⟩ => ?_
  unfold evalE at ev
  obtain ⟨x, s1, e1, ev⟩ := bind_ok ev
  obtain ⟨y, s2, e2, ev⟩ := bind_ok ev
  cases y with
  | int j =>
    simp only at ev
    obtain ⟨ev, rfl⟩ := opt_ok ev
    show EE G T F a σ H (fun x H1 => (tP G (evalVs T F [st])) σ H1 fun o H2 => _)
    refine EE_of_op hH rl e1 fun C1 v l1 r1 o1 => ⟨C1, s1, [.int j], _, some j, rfl, r1, by unfold evalVs; rw [e2]; rfl, rfl, fun C2 l2 r2 => ?_⟩
    cases q : deref s' (opnd x) with
    | lst xs =>
      have hx := deref_ok r2 (OR.mono l2 o1) (fun w => by rw [q] at w; cases w)
      rw [q] at hx ev
      obtain ⟨p, ys, rfl, hp, hr⟩ := hx
      unfold vstep at ev
      simp only at ev
      refine ⟨p, ys, rfl, SqL.of hp, ?_⟩
      split at ev
      · rename_i h1
        cases ev
        exact .inl ⟨by rw [h1], fun l hn => out_l r2 hr hn fun C3 z l3 r3 h3 => kk C3 z ((l1.trans l2).trans l3) r3 h3⟩
      · split at ev
        · rename_i h1
          cases ev
          exact .inr ⟨by rw [h1], fun l hn => out_l r2 hr.reverse hn fun C3 z l3 r3 h3 => kk C3 z ((l1.trans l2).trans l3) r3 h3⟩
        · cases ev
    | _ => rw [q] at ev; cases ev
  | _ => cases ev
/-! ### calls -/
theorem se_dsp0 : PE X (.Dict [] [] pos) (EE G T F (.dsp [])) := by
  refine PE.weak pe_dnewK fun σ H Q ⟨C, s, r, s', hH, rl, ev, kk⟩ => ?_
  unfold evalE at ev
  unfold evalVs at ev
  cases ev
  subst hH
  exact fun p n => out_d rl VRk.nil n kk
/-- a def of the text, as it is called by name: its place id in the table -/
structure Have (G : Gl) (F : Call) (P : Program) (w : World) (K : PySem.W.Frag) (mg : Str → Option Value) (base : Heap) (k : Nat) (x : Str) (id np : Nat) : Prop where
  ex : ∃ f fd ps, FnG P w K mg base k f fd ps (spI G F id np) ∧ mg x = some (.ref f) ∧ PySem.W.keepIn K (.ref f) = true ∧ Binds K fd ps []
theorem call_ok {f np : Nat} {as : List IE} {Q : VK} {σ : L2.St} {H : Hp} (hn : as.length = np) (h : EE G T F (.fn f as []) σ H Q) : tGo (spI G F f np) [] (tVs G (evalVs T F as)) σ H Q := by
  obtain ⟨C, s, x, s', hH, rl, ev, kk⟩ := h
  unfold evalE at ev
  obtain ⟨vs, s1, e1, ev⟩ := bind_ok ev
  have hl := Vs_len _ _ _ _ e1
  unfold permV at ev
  cases q : F f vs s1.h with
  | bad => rw [q] at ev; cases ev
  | exc c v s => rw [q] at ev; cases ev
  | ok r s2 =>
    rw [q] at ev
    simp only [R.back, R.ok.injEq] at ev
    obtain ⟨rfl, rfl⟩ := ev
    refine ⟨C, s, vs, s1, hH, rl, e1, fun C1 ws l1 r1 h1 => ?_⟩
    show spI G F f np (ws ++ []) C1.H Q
    rw [List.append_nil]
    refine ⟨by rw [← h1.length, hl, hn], C1.keep (Own s1 σ), vs, s1.h, r, s2, rfl, r1.enter, h1.mono0 lv_keep, q, fun C2 v l2 r2 h2 => ?_⟩
    exact kk { C2 with rs := C1.rs } v (l1.trans (le_back l2)) (r1.leave (e2 := []) (h2 := s2.h) (σ2 := []) l2 r2) (show VR G { C2 with rs := C1.rs } r v from h2.mono0 lv_rs)
theorem se_fn (o : XO G k X) {x : Str} {f np k' : Nat} (hv : Have G F X.prog X.w X.K X.mg X.base k' x f np) (hk : k' ≤ k) (hg : L2.Gl X x) (ha : PA X (e :: es) (tVs G (evalVs T F as))) (hn : as.length = np := by rfl)
    (hdb : (x == ("__debug__" : Str)) = false := by decide) (st1 : starEach (e :: es) X.env = (false, eval e X.env) :: starEach es X.env := by rfl) (st2 : (backTo pos (starEach es X.env)).any (·.1) = false := by rfl) : PE X (.Call (.Name x p) (e :: es) [] pos) (EE G T F (.fn f as [])) := by
  obtain ⟨fa, fd, ps, h1, h2, h3, h4⟩ := hv.ex
  exact PE.weak (pg_call h1 o.gd (o.room.mono hk) h4 .nil hg h2 h3 ha hdb st1 st2) fun σ H Q h => call_ok hn h
theorem se_fn0 (o : XO G k X) {x : Str} {f k' : Nat} (hv : Have G F X.prog X.w X.K X.mg X.base k' x f 0) (hk : k' ≤ k) (hg : L2.Gl X x) (hdb : (x == ("__debug__" : Str)) = false := by decide) : PE X (.Call (.Name x p) [] [] pos) (EE G T F (.fn f [] [])) := by
  obtain ⟨fa, fd, ps, h1, h2, h3, h4⟩ := hv.ex
  refine PE.weak (pg_call0 h1 o.gd (o.room.mono hk) h4 .nil hg h2 h3 hdb) fun σ H Q h => ?_
  obtain ⟨C, s, xs, s', hH, rl, e, kk⟩ := call_ok (as := []) rfl h
  unfold evalVs at e
  cases e
  show spI G F f 0 ([] ++ []) H Q
  rw [← hH]
  exact kk C [] (.refl C) rl VRs.nil
end
end Rs
end
section
set_option maxRecDepth 100000
set_option maxHeartbeats 4000000
/-! Statements: two names at once, op=, items stored and deleted, dict methods. -/
namespace Rs
open PySem PySem.Spec PyProof.Rows L2
section
variable {G : Gl} {C C' D : Cf} {s s' : S} {σ σ' : L2.St}
/-- a fresh thing's place, if it is one -/
def notAt (y : Rv) (w v : V) : Prop := match y with
  | .f _ => w ≠ v
  | .sl _ => False
  | .v _ => True
theorem set1 (r : Rel G C s σ) {x : Rv} {v : V} {own : Bool} {u : Slot} (i : Nat) (h : RvR G C s σ x v) (e : put1 own x = some u) : ∃ C', Le C C' ∧ C'.H = C.H ∧ Rel G C' { s with e := s.e.set i u } (σ.set i (some v)) ∧
    ∀ y w, RvR G C s σ y w → (∀ l, y ≠ .sl l) → ((∃ c, x = .f c) → notAt y w v) → RvR G C' { s with e := s.e.set i u } (σ.set i (some v)) y w := by
  have keep : ∀ {C' : Cf} {u : Slot}, Le C C' → C'.H = C.H → (∀ p, C'.fz p → C.fz p ∨ ((∃ c, x = .f c) ∧ v = .ref p)) → C'.ρ = C.ρ → (∀ c, u = .own c → ∃ c, x = .f c) → ∀ y w, RvR G C s σ y w → (∀ l, y ≠ .sl l) → ((∃ c, x = .f c) → notAt y w v) → RvR G C' { s with e := s.e.set i u } (σ.set i (some v)) y w := fun {C' u} l hH hf hρ hu y w hy hl hn => by
    cases y with
    | v y => exact VR.mono l hy
    | sl j => exact absurd rfl (hl j)
    | f c =>
      obtain ⟨p, rfl, a, f, un, d⟩ := hy
      have hn : (∃ c, x = .f c) → V.ref p ≠ v := hn
      refine ⟨p, rfl, by rw [hH]; exact a.mono l, ⟨fun z => (hf p z).elim f.fz fun z => hn z.1 z.2.symm, by rw [l.kp]; exact f.kp, by rw [hρ]; exact f.ρ, by rw [l.rs]; exact f.rs⟩, un, fun j c' h' => ?_⟩
      rcases set_val h' with ⟨rfl, e, hi⟩ | ⟨e, h'⟩
      · rw [List.getElem?_set_self (by rw [← r.len]; exact hi)]
        intro z
        cases z
        exact hn (hu _ e.symm) rfl
      · rw [List.getElem?_set_ne e]
        exact d j c' h'
  cases own with
  | false =>
    obtain ⟨y, e2, rfl⟩ := Option.map_eq_some_iff.mp (show (freeze x).map Slot.val = some u from e)
    cases x with
    | sl j => cases e2
    | v x =>
      cases e2
      exact ⟨C, .refl C, rfl, r.setV h, keep (.refl C) rfl (fun p z => .inl z) rfl fun c z => by cases z⟩
    | f c =>
      cases e2
      obtain ⟨p, rfl, a, f, un, d⟩ := h
      exact ⟨C.ice p, .ice, rfl, (r.ice f a.tr d).setV (imm_ok a un), keep .ice rfl (fun q z => z.imp id fun z => ⟨⟨c, rfl⟩, by rw [z]⟩) rfl fun c z => by cases z⟩
  | true =>
    cases x with
    | sl j => cases e
    | v x => cases e
    | f c =>
      cases e
      obtain ⟨p, rfl, a, f, un, d⟩ := h
      exact ⟨C, .refl C, rfl, r.setO a f fun j c h _ => d j c h, keep (.refl C) rfl (fun p z => .inl z) rfl fun c' _ => ⟨c, rfl⟩⟩
end
section
variable {G : Gl} {T : Tab} {F : Call} {k : Nat} {X : Cx} {e ea eb eo ei ev : Expr} {pos tpos py px pt apos cpos : Pos} {a b c o : IE} {y z : Str}
theorem RvR.new {C : Cf} {s : S} {σ : L2.St} {y : Rv} {w : V} {p : Addr} {u : HO} (h : RvR G C s σ y w) (n : C.H p = none) : RvR G (C.new p u) s σ y w := by
  cases y with
  | v y => exact VR.mono (Le.new n) h
  | sl l => exact h
  | f c =>
    obtain ⟨q, rfl, a, f, un, d⟩ := h
    refine ⟨q, rfl, ?_, ⟨f.fz, f.kp, f.ρ, f.rs⟩, un, d⟩
    show CR G _ c (upd C.H p u q)
    rw [upd_ne fun z => a.tr (by rw [z]; exact n)]
    exact a.mono (Le.new n)
theorem par_core {i j : Nat} {oi oj : Bool} {D : Ends} {σ : L2.St} {H : Hp} (h : SS G T F (.par i j oi oj a b) D σ H) : EE G T F a σ H fun x H1 => EE G T F b σ H1 fun y H2 => D.nx ((σ.set i (some x)).set j (some y)) H2 ∧ ∀ p u, H2 p = none → D.nx ((σ.set i (some x)).set j (some y)) (upd H2 p u) := by
  obtain ⟨C, s, fl, s', hH, rl, e, kk⟩ := h
  unfold execS at e
  obtain ⟨x, s1, e1, e⟩ := bind_ok e
  obtain ⟨y, s2, e2, e⟩ := bind_ok e
  cases q1 : put1 oi x with
  | none => simp [q1] at e
  | some u =>
    cases q2 : put1 oj y with
    | none => simp [q1, q2] at e
    | some t =>
      simp only [q1, q2, R.ok.injEq] at e
      obtain ⟨rfl, rfl⟩ := e
      have ny : ∀ l, y ≠ .sl l := fun l z => by subst z; cases oj <;> cases q2
      refine ⟨C, s, x, s1, hH, rl, e1, fun C1 v l1 r1 h1 => ?_⟩
      -- behind both
      have fin : ∀ {C2 : Cf} {w : V}, Le C C2 → Rel G C2 s2 σ → RvR G C2 s2 σ x v → RvR G C2 s2 σ y w → ((∃ c, x = .f c) → notAt y w v) → D.nx ((σ.set i (some v)).set j (some w)) C2.H := fun {C2 w} l r hx hy hn => by
        obtain ⟨C3, l3, e3, r3, k3⟩ := set1 r i hx q1
        obtain ⟨C4, l4, e4, r4, _⟩ := set1 r3 j (k3 y w hy ny hn) q2
        rw [← e3, ← e4]
        exact kk C4 _ ((l.trans l3).trans l4) r4
      have fin2 : ∀ {C2 : Cf} {w : V}, Le C C2 → Rel G C2 s2 σ → RvR G C2 s2 σ x v → RvR G C2 s2 σ y w → ((∃ c, x = .f c) → notAt y w v) → D.nx ((σ.set i (some v)).set j (some w)) C2.H ∧ ∀ p u, C2.H p = none → D.nx ((σ.set i (some v)).set j (some w)) (upd C2.H p u) := fun {C2 w} l r hx hy hn =>
        ⟨fin l r hx hy hn, fun p u n => fin (C2 := C2.new p u) (l.trans (Le.new n)) (r.new n) (hx.new n) (hy.new n) hn⟩
      cases x with
      | sl l => cases oi <;> cases q1
      | v x =>
        exact ⟨C1, s1, y, s2, rfl, r1, e2, fun C2 w l2 r2 h2 => fin2 (l1.trans l2) r2 (VR.mono l2 h1) h2 fun ⟨c, z⟩ => by cases z⟩
      | f c =>
        obtain ⟨p, rfl, a, f, un, d⟩ := h1
        refine ⟨C1.keep (· = p), s1, y, s2, rfl, r1.keepOne f a.tr d, e2, fun C2 w l2 r2 h2 => ?_⟩
        have kp : C2.rs p := by rw [l2.rs]; exact .inr rfl
        have r3 : Rel G { C2 with rs := C1.rs } s2 σ := r2.unkeep fun q z => by rw [l2.rs]; exact .inl z
        refine fin2 (C2 := { C2 with rs := C1.rs }) (l1.trans (le_back l2)) r3 ⟨p, rfl, ?_, ⟨fun z => r2.fzkp p z (.inr kp), fun z => f.kp (by rw [show C2.kp = C1.kp from l2.kp] at z; exact z), fun z => ?_, f.rs⟩, un, fun m c' h' z => ?_⟩ ?_ ?_
        · cases q : C1.H p with
          | none => exact absurd q a.tr
          | some o =>
            show CR G _ c (C2.H p)
            rw [l2.hk p (.inr (.inr rfl)) o q, ← q]
            exact a.mono (le_back l2)
        · obtain ⟨n, hn, e3⟩ := List.getElem_of_mem (show p ∈ C2.ρ from z)
          have h1 : n < s2.h.length := by rw [r2.hlen]; exact hn
          exact (r2.cell n _ p (List.getElem?_eq_getElem h1) (by rw [List.getElem?_eq_getElem hn, e3])).2.2.2 kp
        · obtain ⟨q, a', _, _, _, g⟩ := r2.own m c' h'
          rw [z] at a'
          cases a'
          exact g.2 kp
        · cases y with
          | sl l => exact absurd rfl (ny l)
          | v y => exact VR.mono0 lv_rs h2
          | f c2 =>
            obtain ⟨q, rfl, a2, f2, un2, d2⟩ := h2
            exact ⟨q, rfl, a2.mono0 lv_rs, ⟨f2.fz, f2.kp, f2.ρ, fun z => f2.rs (by rw [l2.rs]; exact .inl z)⟩, un2, d2⟩
        · intro _
          cases y with
          | sl l => exact absurd rfl (ny l)
          | v y => trivial
          | f c2 =>
            obtain ⟨q, rfl, a2, f2, un2, d2⟩ := h2
            intro z
            cases z
            exact f2.rs kp
theorem pairA {ta tb : TE} (ha : PE X ea ta) (hb : PE X eb tb) (h1 : starEach [ea, eb] X.env = (false, eval ea X.env) :: starEach [eb] X.env := by rfl) (h2 : starEach [eb] X.env = (false, eval eb X.env) :: starEach [] X.env := by rfl) : PA X [ea, eb] (tCons ta (tCons tb tNil)) := pa_cons ha (pa_cons hb pa_nil h2) h1
/-- two local names at once, stored from the right -/
theorem ss_par (ox : XO G k X) (i j : Nat) (oi oj : Bool) {kt k2 : Nat} {pt2 : Pos} (ha : PE X ea (EE G T F a)) (hb : PE X eb (EE G T F b)) (hw : swappedStores [.Tuple [.Name y px, .Name z py] kt pt] (.Tuple [ea, eb] k2 pt2) X.env = pure (some [y, z])) (hi : X.N[i]? = some y := by rfl) (hj : X.N[j]? = some z := by rfl) (hij : i ≠ j := by decide)
    (hx : X.env.scope.names.lookup y = some .local := by rfl) (hy : X.env.scope.names.lookup z = some .local := by rfl) (hs : swapsWithSole [.Tuple [.Name y px, .Name z py] kt pt] (.Tuple [ea, eb] k2 pt2) pos.line X.env = pure false := by rfl)
    (h1 : starEach [ea, eb] X.env = (false, eval ea X.env) :: starEach [eb] X.env := by rfl) (h2 : starEach [eb] X.env = (false, eval eb X.env) :: starEach [] X.env := by rfl) :
    PS X (.Assign [.Tuple [.Name y px, .Name z py] kt pt] (.Tuple [ea, eb] k2 pt2) pos) (SS G T F (.par i j oi oj a b)) :=
  PS.weak (ps_par ox.calm ox.nd hi hj hij hx hy (pairA ha hb h1 h2) hw hs) fun D σ H h => by
    obtain ⟨C, s, x, s', hH, rl, e1, kk⟩ := par_core h
    refine ⟨C, s, x, s', hH, rl, e1, fun C1 v l1 r1 q1 => ?_⟩
    obtain ⟨C2, s2, y, s3, hH2, rl2, e2, kk2⟩ := kk C1 v l1 r1 q1
    refine ⟨C2, s2, y, s3, hH2, rl2, e2, fun C3 w l3 r3 q3 => ?_⟩
    exact ⟨v, w, rfl, (kk2 C3 w l3 r3 q3).1⟩
/-- two names at once, by a tuple that is unpacked -/
theorem ss_parT (ox : XO G k X) (i j : Nat) (oi oj : Bool) {kt k2 : Nat} {pt2 : Pos} (ha : PE X ea (EE G T F a)) (hb : PE X eb (EE G T F b)) (hg1 : PG X (.Name y px) (gName i)) (hg2 : PG X (.Name z py) (gName j))
    (hw : swappedStores [.Tuple [.Name y px, .Name z py] kt pt] (.Tuple [ea, eb] k2 pt2) X.env = pure none := by rfl) (hs : swapsWithSole [.Tuple [.Name y px, .Name z py] kt pt] (.Tuple [ea, eb] k2 pt2) pos.line X.env = pure false := by rfl)
    (h1 : starEach [ea, eb] X.env = (false, eval ea X.env) :: starEach [eb] X.env := by rfl) (h2 : starEach [eb] X.env = (false, eval eb X.env) :: starEach [] X.env := by rfl)
    (h3 : (assignEach [.Tuple [.Name y px, .Name z py] kt pt] X.env).map (·.2) = [assign (.Tuple [.Name y px, .Name z py] kt pt) X.env] := by rfl) (hn : (assignEach [.Name y px, .Name z py] X.env).length = 2 := by rfl) (hst : (assignEach [.Name y px, .Name z py] X.env).findIdx? (·.1) = none := by rfl)
    (hs1 : (assignEach [.Name y px, .Name z py] X.env).map (·.2) = assign (.Name y px) X.env :: (assignEach [.Name z py] X.env).map (·.2) := by rfl) (hs2 : (assignEach [.Name z py] X.env).map (·.2) = assign (.Name z py) X.env :: (assignEach [] X.env).map (·.2) := by rfl) :
    PS X (.Assign [.Tuple [.Name y px, .Name z py] kt pt] (.Tuple [ea, eb] k2 pt2) pos) (SS G T F (.par i j oi oj a b)) :=
  PS.weak (ps_asg (pe_tup (pairA ha hb h1 h2)) (pg_tup ox.calm (pgs_cons hg1 (pgs_cons hg2 pgs_nil hs2) hs1) hn hst) hs hw h3) fun D σ H h => by
    obtain ⟨C, s, x, s', hH, rl, e1, kk⟩ := par_core h
    refine ⟨C, s, x, s', hH, rl, e1, fun C1 v l1 r1 q1 => ?_⟩
    obtain ⟨C2, s2, y, s3, hH2, rl2, e2, kk2⟩ := kk C1 v l1 r1 q1
    refine ⟨C2, s2, y, s3, hH2, rl2, e2, fun C3 w l3 r3 q3 => ?_⟩
    refine ⟨by show 2 ≤ sizeLine; decide, fun p hn => ⟨p, [v, w], rfl, .inl (.inl upd_same), rfl, v, [w], rfl, w, [], rfl, rfl, (kk2 C3 w l3 r3 q3).2 p _ hn⟩⟩
/-! ### op= -/
def iopr : Bop → Operator
  | .add => .Add | .sub => .Sub | .mul => .Mult | .fdiv => .FloorDiv | .mod => .Mod | .pow => .Pow
theorem pip_any {op : Operator} : PIp X op (fun x y H Q => ∃ r : R2, OpR X (inplaceOp op) r ∧ r x y H Q) := fun pins s σ H x y v u Q I rx ry ⟨_, h, q⟩ => h pins s σ H x y v u Q I rx ry q
theorem iop_ok {op : Bop} {x y : Val} {r : Rv} {z : Val} (e : iop op x y = some r) (ez : freeze r = some z) : ∃ i j n, x = .int i ∧ y = .int j ∧ z = .int n ∧ ∀ (H : Hp) (Q : VK), Q (.int n) H → ∃ r : R2, OpR X (inplaceOp (iopr op)) r ∧ r (.int i) (.int j) H Q := by
  unfold iop at e
  split at e
  · cases e
  · rename_i i j hop
    cases op with
    | add => cases e; cases ez; exact ⟨i, j, _, rfl, rfl, rfl, fun H Q q => ⟨_, iop_add, i, j, rfl, rfl, q⟩⟩
    | sub => cases e; cases ez; exact ⟨i, j, _, rfl, rfl, rfl, fun H Q q => ⟨_, iop_sub, i, j, rfl, rfl, q⟩⟩
    | mul =>
      unfold binop at e
      simp only at e
      split at e
      · rename_i h
        cases e; cases ez
        exact ⟨i, j, _, rfl, rfl, rfl, fun H Q q => ⟨_, iop_mul, i, j, rfl, rfl, okMul_c h, q⟩⟩
      · cases e
    | fdiv =>
      unfold binop at e
      simp only at e
      split at e
      · rename_i h
        cases e; cases ez
        exact ⟨i, j, _, rfl, rfl, rfl, fun H Q q => ⟨_, iop_fdiv, i, j, rfl, rfl, h, q⟩⟩
      · cases e
    | mod =>
      unfold binop at e
      simp only at e
      split at e
      · rename_i h
        cases e; cases ez
        exact ⟨i, j, _, rfl, rfl, rfl, fun H Q q => ⟨_, iop_mod, i, j, rfl, rfl, h, q⟩⟩
      · cases e
    | pow => exact (hop rfl).elim
  · cases e
theorem ss_aug (ox : XO G k X) (i : Nat) (op : Bop) (ha : PE X e (EE G T F a)) (hi : X.N[i]? = some y := by rfl) (hx : Loc X.env.scope y := by first | exact .inl rfl | exact .inr rfl) (hf : X.fn y = true ∨ X.env.scope.names.lookup y = some .local := by first | exact .inl rfl | exact .inr rfl) :
    PS X (.AugAssign (.Name y px) (iopr op) e pos) (SS G T F (.aug i op a)) := by
  refine PS.weak (ps_aug ox.nd hi hx ha pip_any hf) fun D σ H ⟨C, s, fl, s', hH, rl, ev, kk⟩ => ?_
  unfold execS at ev
  cases q : slotOf s i with
  | val x =>
    rw [q] at ev
    simp only at ev
    obtain ⟨y, s1, e1, ev⟩ := bind_ok ev
    obtain ⟨z, s2, e2, ev2⟩ := bind_ok ev
    clear ev
    obtain ⟨r, e5, ez⟩ := val_ok e2
    clear e2
    obtain ⟨e3, rfl⟩ := opt_ok e5
    clear e5
    cases ev2
    obtain ⟨v, h1, h2⟩ := rl.env i x (slot_get q (by simp))
    obtain ⟨m, n, l, rfl, hy, rfl, ok⟩ := iop_ok (X := X) e3 ez
    refine ⟨v, h1, ?_⟩
    show EE G T F a σ H fun y H1 => ∃ r : R2, OpR X (inplaceOp (iopr op)) r ∧ r v y H1 fun z H2 => D.nx (σ.set i (some z)) H2
    refine EE_of_op hH rl e1 fun C1 w l1 r1 o1 => ?_
    obtain ⟨rfl, _⟩ := int_of r1 o1 hy
    unfold VR at h2
    subst h2
    exact ok _ _ (kk C1 _ l1 (r1.setV (show VR G C1 (.int l) (.int l) from VR.int)))
  | _ => rw [q] at ev; cases ev
/-! ### items stored -/
theorem pset_any : PSet X (fun o i v H Q => ∃ t : TSet, PSet X t ∧ t o i v H Q) := fun pins s σ H o i v ov iv u Q I ro ri rv ⟨_, h, q⟩ => h pins s σ H o i v ov iv u Q I ro ri rv q
theorem gt_sub (ox : XO G k X) (ho : PE X eo (EE G T F o)) (hi : PE X ei (EE G T F b)) (hr : ∀ v, assign (.Subscript eo ei pos) X.env v = (do
      let ov ← holding [v] (eval eo X.env)
      let iv ← holding [v, ov] (eval ei X.env)
      standAt pos
      holding [v, ov, iv] (setItem ov iv v)
      release [v, ov, iv] []) := by intro _; rfl) : PG X (.Subscript eo ei pos) (gT G T F (.sub o b)) := by
  refine PG.weak (pg_sub ho hi pset_any hr) fun v σ H Q ⟨C, s, x, s', hH, rl, h, ev, kk⟩ => ?_
  unfold tgtSet at ev
  obtain ⟨y, s1, e1, ev⟩ := bind_ok ev
  obtain ⟨j, s2, e2, ev⟩ := bind_ok ev
  show EE G T F o σ H fun o H1 => EE G T F b σ H1 fun i H2 => ∃ t : TSet, PSet X t ∧ t o i v H2 fun H3 => Q σ H3
  refine EE_of_op hH rl e1 fun C1 w l1 r1 o1 => EE_of_val rfl r1 e2 fun C2 iv l2 r2 h2 => ?_
  have o2 := OR.mono l2 o1 (s' := s2)
  have hv := h.mono (l1.trans l2)
  cases q : deref s2 (opnd y) with
  | lst xs =>
    rw [q] at ev
    simp only at ev
    cases j with
    | int j =>
      simp only at ev
      cases q2 : ixN xs.length j with
      | none => simp [q2] at ev
      | some n =>
        simp only [q2] at ev
        obtain ⟨s3, s4, e3, ev2⟩ := bind_ok ev
        clear ev
        obtain ⟨e4, rfl⟩ := opt_ok e3
        clear e3
        have e3 := e4
        cases ev2
        obtain ⟨p, ys, rfl, hp, hr, kl⟩ := loc_lst r2 o2 e3 q
        unfold VR at h2
        subst h2
        obtain ⟨l3, r3⟩ := kl (.lst (ys.set n v)) ⟨_, rfl, VRs.set hv n hr⟩
        exact ⟨_, set_list, p, ys, j, n, rfl, rfl, hp, by rw [← hr.length]; exact q2, kk _ σ ((l1.trans l2).trans l3) r3⟩
    | _ => cases ev
  | dct kvs =>
    rw [q] at ev
    simp only at ev
    cases q2 : keyV j with
    | none => simp [q2] at ev
    | some n =>
      simp only [q2] at ev
      split at ev
      · rename_i hz
        obtain ⟨s3, s4, e3, ev2⟩ := bind_ok ev
        clear ev
        obtain ⟨e4, rfl⟩ := opt_ok e3
        clear e3
        have e3 := e4
        cases ev2
        obtain ⟨p, ys, rfl, hp, hr, kl⟩ := loc_dct r2 o2 e3 q
        cases keyV_ok h2.nr q2
        obtain ⟨l3, r3⟩ := kl (.dK (putK ys n v)) ⟨_, rfl, hr.put hv⟩
        exact ⟨_, set_dict (by have := ox.room.un; omega), p, _, rfl, DPut.k hp (by rw [← hr.length]; exact hz), kk _ σ ((l1.trans l2).trans l3) r3⟩
      · cases ev
  | _ => rw [q] at ev; cases ev
theorem valV_some {kvs : List (Key × V)} {kvs' : List (Key × Val)} {C : Cf} {n : Key} (h : VRk G C kvs' kvs) (hs : (dget kvs' n).isSome = true) : (valV kvs n).isSome = true := by
  rw [h.isSome]
  exact hs
theorem ss_del (ho : PE X eo (EE G T F o)) (hi : PE X ei (EE G T F b)) : PS X (.Delete [.Subscript eo ei tpos] pos) (SS G T F (.del o b)) := by
  refine PS.weak (ps_ddel ho hi) fun D σ H ⟨C, s, fl, s', hH, rl, ev, kk⟩ => ?_
  unfold execS at ev
  obtain ⟨y, s1, e1, ev⟩ := bind_ok ev
  obtain ⟨j, s2, e2, ev⟩ := bind_ok ev
  show EE G T F o σ H fun x H1 => EE G T F b σ H1 fun y H2 => ∃ a kvs k, x = .ref a ∧ H2 a = some (.dK kvs) ∧ y = kV k ∧ (valV kvs k).isSome = true ∧ D.nx σ (upd H2 a (.dK (dropK kvs k)))
  refine EE_of_op hH rl e1 fun C1 w l1 r1 o1 => EE_of_val rfl r1 e2 fun C2 iv l2 r2 h2 => ?_
  have o2 := OR.mono l2 o1 (s' := s2)
  cases q : deref s2 (opnd y) with
  | dct kvs =>
    cases q2 : keyV j with
    | none => rw [q, q2] at ev; cases ev
    | some n =>
      rw [q, q2] at ev
      simp only at ev
      split at ev
      · rename_i hz
        obtain ⟨s3, s4, e3, ev2⟩ := bind_ok ev
        clear ev
        obtain ⟨e4, rfl⟩ := opt_ok e3
        clear e3
        have e3 := e4
        cases ev2
        obtain ⟨p, ys, rfl, hp, hr, kl⟩ := loc_dct r2 o2 e3 q
        cases keyV_ok h2.nr q2
        obtain ⟨l3, r3⟩ := kl (.dK (dropK ys n)) ⟨_, rfl, hr.drop⟩
        exact ⟨p, ys, n, rfl, hp, rfl, valV_some hr hz, kk _ σ ((l1.trans l2).trans l3) r3⟩
      · cases ev
  | _ => rw [q] at ev; cases ev
end
end Rs
end
section
set_option maxRecDepth 100000
set_option maxHeartbeats 4000000
/-! Methods of dicts. -/
namespace Rs
open PySem PySem.Spec PyProof.Rows L2
section
variable {G : Gl} {T : Tab} {F : Call} {k : Nat} {X : Cx} {e f eo : Expr} {pos apos cpos : Pos} {a b c : IE}
theorem Vs_two {s s' : S} {vs : List Val} (h : evalVs T F [a, b] s = .ok vs s') : ∃ x y s1, (evalE T F a s).val = .ok x s1 ∧ (evalE T F b s1).val = .ok y s' ∧ vs = [x, y] := by
  unfold evalVs at h
  obtain ⟨x, s1, e1, h⟩ := bind_ok h
  obtain ⟨ys, s2, e2, h2⟩ := bind_ok h
  clear h
  unfold evalVs at e2
  obtain ⟨y, s3, e3, h3⟩ := bind_ok e2
  clear e2
  obtain ⟨zs, s4, e4, h5⟩ := bind_ok h3
  clear h3
  unfold evalVs at e4
  cases e4
  cases h5
  cases h2
  exact ⟨x, y, s1, e1, e3, rfl⟩
theorem is_dict {C : Cf} {s : S} {σ : L2.St} {o : Rv} {v : V} (r : Rel G C s σ) (h : OR G C s σ o v) {kvs : List (Key × Val)} (e : deref s o = .dct kvs) : ∃ p ks, v = .ref p ∧ Rd C.H p (.dK ks) ∧ VRk G C kvs ks := by
  have h1 := deref_ok r h (by rw [e]; simp)
  rw [e] at h1
  obtain ⟨p, ks, rfl, hp, hr⟩ := h1
  exact ⟨p, ks, rfl, hp, hr⟩
theorem se_dpop (ha : PE X eo (EE G T F a)) (hb : PE X e (EE G T F b)) (hc : PE X f (EE G T F c)) (m : M2 X eo "pop" apos e f cpos := by exact ⟨rfl, rfl, rfl, rfl⟩) : PE X (.Call (.Attribute eo "pop" apos) [e, f] [] cpos) (EE G T F (.mt .dpop a [b, c])) := by
  refine PE.weak (pe_dpop2 ha hb hc m) fun σ H Q ⟨C, s, x, s', hH, rl, ev, kk⟩ => ?_
  unfold evalE at ev
  obtain ⟨x1, s1, e1, ev2⟩ := bind_ok ev
  clear ev
  cases q : mkind .dpop (deref s1 (opnd x1)) with
  | false => simp [q] at ev2
  | true =>
    simp only [q] at ev2
    obtain ⟨vs, s2, e2, ev3⟩ := bind_ok ev2
    clear ev2
    obtain ⟨kx, dx, s3, e3, e4, rfl⟩ := Vs_two e2
    show EE G T F a σ H fun x H1 => ∃ a, x = .ref a ∧ IsD H1 a ∧ EE G T F b σ H1 fun y H2 => EE G T F c σ H2 fun z H3 => ∃ kvs k, H3 a = some (.dK kvs) ∧ y = kV k ∧ (∀ v, valV kvs k = some v → Q v (upd H3 a (.dK (dropK kvs k)))) ∧ (valV kvs k = none → Q z H3)
    refine EE_of_op hH rl e1 fun C1 v l1 r1 o1 => ?_
    have hd : ∃ kvs, deref s1 (opnd x1) = .dct kvs := by
      cases q3 : deref s1 (opnd x1) with
      | dct kvs => exact ⟨kvs, rfl⟩
      | _ => rw [q3] at q; cases q
    obtain ⟨kvs0, hd⟩ := hd
    obtain ⟨p, ks0, rfl, hp0, _⟩ := is_dict r1 o1 hd
    refine ⟨p, rfl, .inl ⟨ks0, hp0⟩, EE_of_val rfl r1 e3 fun C2 kv l2 r2 h2 => EE_of_val rfl r2 e4 fun C3 dv l3 r3 h3 => ?_⟩
    have o3 : OR G C3 s2 σ (opnd x1) (.ref p) := OR.mono (l2.trans l3) o1
    unfold mtop at ev3
    cases q3 : deref s2 (opnd x1) with
    | dct kvs =>
      rw [q3] at ev3
      simp only at ev3
      cases q4 : keyV kx with
      | none => simp [q4] at ev3
      | some n =>
        simp only [q4] at ev3
        have hk := keyV_ok (h2.mono l3).nr q4
        cases q5 : dget kvs n with
        | none =>
          simp only [q5] at ev3
          cases q6 : putLoc s2 (opnd x1) (some (.dct kvs false)) with
          | none => simp [q6] at ev3
          | some s5 =>
            simp only [q6, R.ok.injEq] at ev3
            obtain ⟨rfl, rfl⟩ := ev3
            obtain ⟨p', ks, ep, hp, hr, kl⟩ := loc_dct r3 o3 q6 q3
            cases ep
            obtain ⟨l4, r4⟩ := kl (.dK ks) ⟨_, rfl, hr⟩
            have eH : upd C3.H p (.dK ks) = C3.H := funext fun q => by
              by_cases z : q = p
              · rw [z, upd_same, hp]
              · rw [upd_ne z]
            have hn : valV ks n = none := by
              have := hr.isSome (kk := n)
              rw [q5] at this
              cases z : valV ks n with
              | none => rfl
              | some y => rw [z] at this; cases this
            refine ⟨ks, n, hp, hk, fun v hv => (by rw [hn] at hv; cases hv), fun _ => ?_⟩
            have := kk _ dv (((l1.trans l2).trans l3).trans l4) r4 (show VR G (C3.put p (.dK ks)) dx dv from h3.mono l4)
            rw [show (C3.put p (.dK ks)).H = upd C3.H p (.dK ks) from rfl, eH] at this
            exact this
        | some y =>
          simp only [q5] at ev3
          cases q6 : putLoc s2 (opnd x1) (some (.dct (ddrop kvs n) false)) with
          | none => simp [q6] at ev3
          | some s5 =>
            simp only [q6, R.ok.injEq] at ev3
            obtain ⟨rfl, rfl⟩ := ev3
            obtain ⟨p', ks, ep, hp, hr, kl⟩ := loc_dct r3 o3 q6 q3
            cases ep
            obtain ⟨l4, r4⟩ := kl (.dK (dropK ks n)) ⟨_, rfl, hr.drop⟩
            have hg := hr.get (kk := n)
            rw [q5] at hg
            obtain ⟨w, hw, hw2⟩ := hg
            refine ⟨ks, n, hp, hk, fun v hv => ?_, fun hv => (by rw [hw] at hv; cases hv)⟩
            rw [hw] at hv
            cases hv
            exact kk _ w (((l1.trans l2).trans l3).trans l4) r4 (show VR G (C3.put p (.dK (dropK ks n))) y w from hw2.mono l4)
    | _ => rw [q3] at ev3; simp at ev3
end
end Rs
end
section
set_option maxRecDepth 100000
set_option maxHeartbeats 4000000
/-! Comprehensions over a dict that a name holds. -/
namespace Rs
open PySem PySem.Spec PyProof.Rows L2
section
variable {G : Gl} {C D : Cf} {s : S} {σ : L2.St}
theorem Rel.lv {C' : Cf} (r : Rel G C s σ) (l : Lv C C') (hρ : C'.ρ = C.ρ) (hfz : C'.fz = C.fz) (hkp : C'.kp = C.kp) (hrs : C'.rs = C.rs) (hH : ∀ p, ¬ C.fz p → C'.H p = C.H p) : Rel G C' s σ where
  len := r.len
  env := fun i x h => let ⟨v, a, b⟩ := r.env i x h; ⟨v, a, b.mono0 l⟩
  own := fun i c h => by
    obtain ⟨p, a, b, d, e, f⟩ := r.own i c h
    exact ⟨p, a, by rw [hH p d]; exact b.mono0 l, by rw [hfz]; exact d, by rw [hρ]; exact e, by rw [hkp]; exact f.1, by rw [hrs]; exact f.2⟩
  apart := r.apart
  hlen := by rw [hρ]; exact r.hlen
  nd := by rw [hρ]; exact r.nd
  cell := fun n c p h1 h2 => by
    rw [hρ] at h2
    obtain ⟨a, b, d⟩ := r.cell n c p h1 h2
    exact ⟨by rw [hH p b]; exact a.mono0 l, by rw [hfz]; exact b, by rw [hkp]; exact d.1, by rw [hrs]; exact d.2⟩
  fztr := fun p z => by rw [hfz] at z; exact (l.hf p z).tr (r.fztr p z)
  kptr := fun p z => by
    rw [hkp, hrs] at z
    rw [hH p fun y => r.fzkp p y z]
    exact r.kptr p z
  fzkp := fun p z y => r.fzkp p (by rw [← hfz]; exact z) (by rw [← hkp, ← hrs]; exact y)
theorem keeps_lock {od : Obj} {ks : List (Key × V)} : Keeps (some (.dK ks)) (some (.frz od (.dK ks))) where
  l := fun _ z => by cases z
  t := fun _ z => by cases z
  r := fun u n z => by
    rcases z with z | ⟨b, z⟩
    · cases z; exact .inr ⟨od, rfl⟩
    · cases z
  tr := fun _ z => by cases z
theorem keeps_unlock {od : Obj} {ks : List (Key × V)} : Keeps (some (.frz od (.dK ks))) (some (.dK ks)) where
  l := fun _ z => by cases z
  t := fun _ z => by cases z
  r := fun u n z => by
    rcases z with z | ⟨b, z⟩
    · cases z; cases n
    · cases z; exact .inl rfl
  tr := fun _ z => by cases z
theorem lv_at {d : Addr} {o : HO} (h : Keeps (C.H d) (some o)) : Lv C (C.put d o) where
  ρ := List.prefix_rfl
  fz := fun _ h => h
  hf := fun p _ => by
    by_cases e : p = d
    · subst e
      show Keeps (C.H p) (upd C.H p _ p)
      rw [upd_same]
      exact h
    · exact .of fun u z => by
        show upd C.H d _ p = _
        rw [upd_ne e]
        exact z
theorem keys_at {xs : List (Key × Val)} {ks : List (Key × V)} (h : VRk G C xs ks) {i : Nat} {x : Val} (hx : (keysV false xs)[i]? = some x) {k : Key} {v : V} (hk : ks[i]? = some (k, v)) : VR G C x (kV k) := by
  have h1 : (xs.map (·.1)) = ks.map (·.1) := h.fst
  unfold keysV at hx
  rw [if_neg (by simp), List.getElem?_map] at hx
  cases q : xs[i]? with
  | none => rw [q] at hx; cases hx
  | some kv =>
    rw [q] at hx
    cases hx
    have h2 : (xs.map (·.1))[i]? = (ks.map (·.1))[i]? := by rw [h1]
    rw [List.getElem?_map, List.getElem?_map, q, hk] at h2
    cases h2
    exact vKey_rel _
end
section
variable {G : Gl} {T : Tab} {F : Call} {k : Nat} {X : Cx} {tg e : Expr} {pos : Pos}
theorem PE.or {t u : TE} (h1 : PE X e t) (h2 : PE X e u) : PE X e (fun σ H Q => t σ H Q ∨ u σ H Q) := ⟨fun pins s σ H Q I h => h.elim (h1.run pins s σ H Q I) (h2.run pins s σ H Q I)⟩
theorem keys_walk {B : Cf} {d : Addr} {od : Obj} {ks : List (Key × V)} {xs : List (Key × Val)} (hv : VRk G B xs ks) (hst : ∀ C2 : Cf, Le B { C2 with rs := B.rs } → C2.H d = some (.frz od (.dK ks))) : ∃ Gd Y, Walk (Itk d od ks) (keysV false xs).length Gd Y ∧ (∀ C2 : Cf, Le B { C2 with rs := B.rs } → Gd C2.H) ∧
    (∀ i (C2 : Cf) H' x v s2 σ2, (keysV false xs)[i]? = some x → Le B { C2 with rs := B.rs } → Rel G C2 s2 σ2 → Y i C2.H v H' → ∃ C3, C3.H = H' ∧ Le C2 C3 ∧ Rel G C3 s2 σ2 ∧ VR G C3 x v) := by
  have e : (keysV false xs).length = ks.length := by unfold keysV; rw [if_neg (by simp), List.length_map]; exact hv.length
  refine ⟨_, _, by rw [e]; exact walk_keys, hst, fun i C2 H' x v s2 σ2 hx l r y => ?_⟩
  obtain ⟨rfl, kk, w, h1, rfl⟩ := y
  exact ⟨C2, rfl, .refl _, r, (keys_at hv hx h1).mono0 (show Lv B C2 from ⟨l.ρ, l.fz, l.hf⟩)⟩
theorem rest_own {e0 e1 : List Slot} {vs : List Nat} {i : Nat} {c : Cell} (h : (restE e0 e1 vs)[i]? = some (.own c)) : e1[i]? = some (.own c) := by
  rcases restE_at h with ⟨_, b⟩ | ⟨_, b⟩
  · exact b
  · rcases b with b | ⟨y, b, _⟩ <;> cases b
theorem lck_of {p : Pat} {i : Nat} {conds : List IE} {elt : IE} {vs : List Nat} (hv : ∀ i ∈ pnames p, i ∈ vs) {σ : L2.St} {H : Hp} {Q : VK} (h : EE G T F (.lck elt p false i conds vs) σ H Q) :
    tLockE (tLc (iKeys (tVar i)) (gP G p) (tBo G (evalTs T F conds)) (EE G T F elt) vs) σ H Q ∨ tLc (iKeys (tVar i)) (gP G p) (tBo G (evalTs T F conds)) (EE G T F elt) vs σ H Q := by
  obtain ⟨C, s, x, s', hH, rl, ev, kk⟩ := h
  subst hH
  unfold evalE at ev
  split at ev
  · rename_i kvs hs
    obtain ⟨acc, s2, e2, ev2⟩ := bind_ok ev
    clear ev
    simp only [R.ok.injEq] at ev2
    obtain ⟨rfl, rfl⟩ := ev2
    obtain ⟨v, h1, h2⟩ := rl.env i _ (slot_get hs (by simp))
    unfold VR at h2
    obtain ⟨d, ks, rfl, hf, hr, hk⟩ := h2
    rcases hr with hr | ⟨od, hr⟩
    · -- it is locked now
      refine .inl ⟨d, .dK ks, hr, trivial, fun od => ⟨.ref d, h1, d, od, rfl, .inl ⟨ks, upd_same, ?_⟩⟩⟩
      have lB : Lv C (C.put d (.frz od (.dK ks))) := lv_at (by rw [hr]; exact keeps_lock)
      have rB : Rel G (C.put d (.frz od (.dK ks))) s σ := rl.lv lB rfl rfl rfl rfl fun p n => by
        show upd C.H d _ p = _
        rw [upd_ne fun z => n (by rw [z]; exact hf)]
      have hB : (C.put d (.frz od (.dK ks))).H d = some (.frz od (.dK ks)) := upd_same
      obtain ⟨Gd, Y, w, hG, hY⟩ := keys_walk (od := od) (B := C.put d (.frz od (.dK ks))) (d := d) (hk.mono0 lB) fun C2 l => l.ff d hf _ _ hB
      refine tLc_core (Q := fun v H' => H' d = some (.frz od (.dK ks)) ∧ Q v (upd H' d (.dK ks))) (B := C.put d (.frz od (.dK ks))) hv rB w hG hY e2 fun D Ci ys hD l hrs ri hDi va => ?_
      have hd : Ci.H d = some (.frz od (.dK ks)) := l.ff d hf _ _ hB
      have fd : Ci.fz d := l.fz d hf
      have hDd : D ≠ d := fun z => by rw [z, hB] at hD; cases hD
      have hD0 : C.H D = none := by
        have : upd C.H d (.frz od (.dK ks)) D = none := hD
        rw [upd_ne hDd] at this
        exact this
      have r2 := rB.rest (C := Ci) ⟨l.ρ, l.fz, l.hf⟩ ri
      have lO : Lv Ci (Ci.put d (.dK ks)) := lv_at (by rw [hd]; exact keeps_unlock)
      have r3 : Rel G (Ci.put d (.dK ks)) { s2 with e := restE s.e s2.e vs } σ := r2.lv lO rfl rfl rfl rfl fun p n => by
        show upd Ci.H d _ p = _
        rw [upd_ne fun z => n (by rw [z]; exact fd)]
      have kD : Ci.rs D := by rw [hrs]; exact .inr rfl
      have r4 : Rel G { Ci.put d (.dK ks) with rs := C.rs } { s2 with e := restE s.e s2.e vs } σ := r3.unkeep fun p h => by show Ci.rs p; rw [hrs]; exact .inl h
      have lE : Le C { Ci.put d (.dK ks) with rs := C.rs } := by
        have ne : ∀ p, p ≠ d → upd Ci.H d (.dK ks) p = Ci.H p := fun p h => upd_ne h
        have neB : ∀ p, p ≠ d → upd C.H d (.frz od (.dK ks)) p = C.H p := fun p h => upd_ne h
        refine ⟨⟨l.ρ, l.fz, fun p h => ?_⟩, l.kp, rfl, fun p h o e => ?_, fun p h b u e => ?_⟩
        · by_cases z : p = d
          · subst z
            show Keeps (C.H p) (upd Ci.H p _ p)
            rw [upd_same, hr]
            exact .of fun _ h => h
          · show Keeps (C.H p) (upd Ci.H d _ p)
            rw [ne p z, ← neB p z]
            exact l.hf p h
        · have z : p ≠ d := fun z => rl.fzkp d hf (by rw [← z]; exact h)
          show upd Ci.H d _ p = _
          rw [ne p z]
          exact l.hk p h o (by show upd C.H d _ p = _; rw [neB p z]; exact e)
        · have z : p ≠ d := fun z => by rw [z, hr] at e; cases e
          show upd Ci.H d _ p = _
          rw [ne p z]
          exact l.ff p h b u (by show upd C.H d _ p = _; rw [neB p z]; exact e)
      have hDo : (Ci.put d (.dK ks)).H D = some (.lst ys) := by show upd Ci.H d _ D = _; rw [upd_ne hDd]; exact hDi
      exact ⟨hd, kk { Ci.put d (.dK ks) with rs := C.rs } (.ref D) lE r4 (new_out (E := Ci.put d (.dK ks)) hD0 ⟨_, rl⟩ (show Ci.kp = C.kp from l.kp) r3 kD hDo (va.mono0 lO))⟩
    · -- it is locked already
      refine .inr ⟨.ref d, h1, d, od, rfl, .inl ⟨ks, hr, ?_⟩⟩
      obtain ⟨Gd, Y, w, hG, hY⟩ := keys_walk (od := od) (B := C) (d := d) hk fun C2 l => l.ff d hf _ _ hr
      refine tLc_core (B := C) hv rl w hG hY e2 fun D Ci ys hD l hrs ri hDi va => ?_
      have r2 := rl.rest (C := Ci) ⟨l.ρ, l.fz, l.hf⟩ ri
      have kD : Ci.rs D := by rw [hrs]; exact .inr rfl
      have r4 : Rel G { Ci with rs := C.rs } { s2 with e := restE s.e s2.e vs } σ := r2.unkeep fun p h => by show Ci.rs p; rw [hrs]; exact .inl h
      exact kk { Ci with rs := C.rs } (.ref D) l r4 (new_out (E := Ci) hD ⟨_, rl⟩ l.kp r2 kD hDi va)
  · rename_i kvs hs
    obtain ⟨acc, s2, e2, ev2⟩ := bind_ok ev
    clear ev
    split at ev2
    · rename_i kvs2 hs2
      simp only [R.ok.injEq] at ev2
      obtain ⟨rfl, rfl⟩ := ev2
      have hs' := slot_own hs
      obtain ⟨d, h1, h2, nf, nρ, nk⟩ := rl.own i _ hs'
      obtain ⟨ks, hr, hk⟩ := h2
      refine .inl ⟨d, .dK ks, hr, trivial, fun od => ⟨.ref d, h1, d, od, rfl, .inl ⟨ks, upd_same, ?_⟩⟩⟩
      obtain ⟨lB, rB0⟩ := rl.changeO (c := .dct kvs true) (u := .frz od (.dK ks)) hs' (.inl rfl) h1 ⟨od, ks, rfl, hk⟩
      have hi : i < s.e.length := (List.getElem?_eq_some_iff.mp hs').1
      have rB : Rel G ((C.put d (.frz od (.dK ks))).hold (· = d)) { s with e := s.e.set i (.own (.dct kvs true)) } σ := by
        refine rB0.holdZ (fun p z => ?_) (fun j c p g1 g2 z => ?_) fun n c p g1 g2 z => ?_
        · rw [z]; exact ⟨by show upd _ _ _ _ ≠ none; rw [upd_same]; simp, nf⟩
        · rw [z] at g2
          rcases set_val g1 with ⟨rfl, e, _⟩ | ⟨e, h'⟩
          · cases e; rfl
          · exact absurd (rl.apart i j _ _ d hs' h' h1 g2) e
        · rw [z] at g2
          exact absurd (List.mem_of_getElem? g2) nρ
      have hB : ((C.put d (.frz od (.dK ks))).hold (· = d)).H d = some (.frz od (.dK ks)) := upd_same
      obtain ⟨Gd, Y, w, hG, hY⟩ := keys_walk (od := od) (B := (C.put d (.frz od (.dK ks))).hold (· = d)) (d := d) ((hk.mono lB).mono0 lv_hold) fun C2 l => l.hk d (.inl (.inr rfl)) _ hB
      refine tLc_core (Q := fun v H' => H' d = some (.frz od (.dK ks)) ∧ Q v (upd H' d (.dK ks))) (B := (C.put d (.frz od (.dK ks))).hold (· = d)) hv rB w hG hY e2 fun D Ci ys hD l hrs ri hDi va => ?_
      have hd : Ci.H d = some (.frz od (.dK ks)) := l.hk d (.inl (.inr rfl)) _ hB
      have hDd : D ≠ d := fun z => by rw [z, hB] at hD; cases hD
      have hD0 : C.H D = none := by
        have : upd C.H d (.frz od (.dK ks)) D = none := hD
        rw [upd_ne hDd] at this
        exact this
      -- the names of before: only values are laid back
      have r2 := rl.rest (C := Ci) (lv_trans (lv_trans lB.toLv lv_hold) ⟨l.ρ, l.fz, l.hf⟩) ri
      have r3 : Rel G { Ci with kp := C.kp } { s2 with e := restE s.e s2.e vs } σ := r2.unhold' l.kp
      have hs3 := slot_own hs2
      obtain ⟨d', a1, a2, a3, a4, a5⟩ := r3.own i _ hs3
      rw [h1] at a1
      cases a1
      obtain ⟨ob, ks2, e3, hk2⟩ := a2
      have e3 : Ci.H d = some (.frz ob (.dK ks2)) := e3
      rw [hd] at e3
      cases e3
      obtain ⟨lO, rO⟩ := r3.changeO (c := .dct kvs2 false) (u := .dK ks) hs3 (.inr (nk.1 rfl)) h1 ⟨ks, rfl, hk2⟩
      have kD : Ci.rs D := by rw [hrs]; exact .inr rfl
      have r4 : Rel G { ({ Ci with kp := C.kp } : Cf).put d (.dK ks) with rs := C.rs } { s2 with e := (restE s.e s2.e vs).set i (.own (.dct kvs2 false)) } σ := rO.unkeep fun p h => by show Ci.rs p; rw [hrs]; exact .inl h
      have lE : Le C { ({ Ci with kp := C.kp } : Cf).put d (.dK ks) with rs := C.rs } := by
        have l1 : Le C { Ci with kp := C.kp, rs := C.rs } := lB.trans (le_unhold (C' := { Ci with rs := C.rs }) l)
        refine ⟨⟨l1.ρ, l1.fz, fun p h => ?_⟩, rfl, rfl, fun p h o e => ?_, fun p h b u e => ?_⟩
        · have z : p ≠ d := fun z => nf (by rw [← z]; exact h)
          show Keeps (C.H p) (upd Ci.H d _ p)
          rw [upd_ne z]
          exact l1.hf p h
        · have z : p ≠ d := fun z => by rw [z] at h; exact h.elim (nk.1 rfl) nk.2
          show upd Ci.H d _ p = _
          rw [upd_ne z]
          exact l1.hk p h o e
        · have z : p ≠ d := fun z => nf (by rw [← z]; exact h)
          show upd Ci.H d _ p = _
          rw [upd_ne z]
          exact l1.ff p h b u e
      have hDo : (({ Ci with kp := C.kp } : Cf).put d (.dK ks)).H D = some (.lst ys) := by show upd Ci.H d _ D = _; rw [upd_ne hDd]; exact hDi
      exact ⟨hd, kk _ (.ref D) lE r4 (new_out (E := ({ Ci with kp := C.kp } : Cf).put d (.dK ks)) hD0 ⟨_, rl⟩ rfl rO kD hDo ((va.mono0 lv_kp).mono lO))⟩
    · cases ev2
  · cases ev
theorem se_lck {x : Str} {px : Pos} {elt : Expr} {ifs : List Expr} {scope : Scope} {own : List (Str × Nat)} {p : Pat} {conds : List IE} {a : IE} (o : XO G k X) (i : Nat) (ok : BlkOk X.N X.env.scope scope own)
    (hg : ∀ (s : Shared) (H : Hp) (C : Addr) (cl : List (Str × Addr)) (fp : List Addr), PG (X.blk s H scope (compEnvC scope cl C X.env) fp) tg (gP G p)) (ht : ∀ (s : Shared) (H : Hp) (C : Addr) (cl : List (Str × Addr)) (fp : List Addr), PTs (X.blk s H scope (compEnvC scope cl C X.env) fp) ifs (tBo G (evalTs T F conds)))
    (he : ∀ (s : Shared) (H : Hp) (C : Addr) (cl : List (Str × Addr)) (fp : List Addr), PE (X.blk s H scope (compEnvC scope cl C X.env) fp) elt (EE G T F a)) (hv : ∀ i ∈ pnames p, i ∈ own.map (·.2)) (hN : X.N[i]? = some x := by rfl) (hvis : Vis X.env.scope x := by first | exact Or.inl rfl | exact Or.inr (Or.inl rfl) | exact Or.inr (Or.inr rfl))
    (hd : (x == ("__debug__" : Str)) = false := by decide) (hcd : (x == ("__classdict__" : Str)) = false := by decide) (hs : ∀ y, foldedSetIterable (.Name x px) X.env y = pure y := by intro _; rfl) :
    PE X (.ListComp elt [⟨tg, .Name x px, ifs, 0⟩] scope pos) (EE G T F (.lck a p false i conds (own.map (·.2)))) :=
  have q := pe_lc o.calm o.nd (pi_keys (pe_var hN hvis hd hcd)) ok hg ht he hs
  PE.weak (PE.or (pe_lock q) q) fun σ H Q h => lck_of hv h
end
end Rs
end
section
set_option maxRecDepth 100000
set_option maxHeartbeats 4000000
/-! Comparing lists that hold cells. -/
namespace Rs
open PySem PySem.Spec PyProof.Rows L2
section
variable {G : Gl} {T : Tab} {F : Call} {k : Nat} {X : Cx} {ea eb : Expr} {pos : Pos} {a b : IE}
/-- v reads as d, in any state of this heap -/
def RdV (X : Cx) (H : Hp) (v : V) (d : PyData) : Prop := ∀ (pins : List (Addr × Obj)) (σ : L2.St) (s : Shared) (u : Value), Inv X pins σ H s → RelV v u → ∃ as, Reads s.heap u d as ∧ sysModules ∉ as
theorem rdv_all (o : XO G k X) {C : Cf} {n : Nat} {h : List Cell} (ih : ∀ (x : Val) (v : V) (d : PyData), VR G C x v → toD (dp n h x) = some d → RdV X C.H v d) : ∀ {xs : List Val} {ys : List V} {ds : List PyData}, VRs G C xs ys → toDs (xs.map (dp n h)) = some ds →
    ∀ (pins : List (Addr × Obj)) (σ : L2.St) (s : Shared) (us : List Value), Inv X pins σ C.H s → Vals ys us → ∃ as, ReadsAll s.heap us ds as ∧ sysModules ∉ as
  | [], ys, ds, hv, e, pins, σ, s, us, I, r => by
    unfold VRs at hv; subst hv; cases r
    unfold List.map toDs at e
    cases e
    exact ⟨_, .nil, by simp⟩
  | x :: xs, ys, ds, hv, e, pins, σ, s, us, I, r => by
    unfold VRs at hv
    obtain ⟨y, t, rfl, h1, h2⟩ := hv
    rw [List.map_cons] at e
    unfold toDs at e
    cases q : toD (dp n h x) with
    | none => simp [q] at e
    | some d =>
      cases q2 : toDs (xs.map (dp n h)) with
      | none => simp [q, q2] at e
      | some es =>
        simp only [q, q2, Option.some.injEq] at e
        subst e
        cases r with
        | cons r1 r2 =>
          obtain ⟨as, k1, n1⟩ := ih x y d h1 q pins σ s _ I r1
          obtain ⟨bs, k2, n2⟩ := rdv_all o ih h2 q2 pins σ s _ I r2
          exact ⟨_, .cons k1 k2, fun z => (List.mem_append.mp z).elim n1 n2⟩
theorem rdv_lst (o : XO G k X) {C : Cf} {p : Addr} {ys : List V} {ds : List PyData} (hp : C.H p = some (.lst ys)) (ha : ∀ (pins : List (Addr × Obj)) (σ : L2.St) (s : Shared) (us : List Value), Inv X pins σ C.H s → Vals ys us → ∃ as, ReadsAll s.heap us ds as ∧ sysModules ∉ as) : RdV X C.H (.ref p) (.list ds) := by
  intro pins σ s u I r
  cases r
  obtain ⟨its, rv, ⟨ob, n, ho, hc, _, hd⟩, _⟩ := I.list (SqL.of hp)
  obtain ⟨as, hr', hs⟩ := ha pins σ s its I rv
  refine ⟨_, .list ho hc hd hr', fun z => ?_⟩
  rcases List.mem_cons.mp z with z | z
  · subst z
    obtain ⟨o', h1, h2⟩ := o.sys
    have h3 := I.kIn _ _ (by rw [o.K]; exact h1)
    rw [ho] at h3; cases h3
    rw [hc] at h2; simp at h2
  · exact hs z
theorem rdv_of (o : XO G k X) {C : Cf} {x : Val} {v : V} {d : PyData} (h : NR G C x v) (e : toD x = some d) : RdV X C.H v d := fun pins σ s u I r => NR.reads I o.K o.sys h r e
theorem toDl {xs : List Val} {d : PyData} (e : toD (.lst xs) = some d) : ∃ ds, toDs xs = some ds ∧ d = .list ds := by
  unfold toD at e
  cases q : toDs xs with
  | none => simp [q] at e
  | some ds => simp only [q, Option.some.injEq] at e; exact ⟨ds, rfl, e.symm⟩
theorem toDt {xs : List Val} {d : PyData} (e : toD (.tup xs) = some d) : ∃ ds, toDs xs = some ds ∧ d = .tuple ds := by
  unfold toD at e
  cases q : toDs xs with
  | none => simp [q] at e
  | some ds => simp only [q, Option.some.injEq] at e; exact ⟨ds, rfl, e.symm⟩
theorem dp_reads (o : XO G k X) {C : Cf} {s0 : S} {σ0 : L2.St} (rl : Rel G C s0 σ0) : ∀ (n : Nat) (x : Val) (v : V) (d : PyData), NR G C x v → toD (dp n s0.h x) = some d → RdV X C.H v d
  | 0, x, v, d, h, e => by unfold dp at e; exact rdv_of o h e
  | n + 1, x, v, d, h, e => by
    have ih := fun (x : Val) (v : V) (d : PyData) (h : VR G C x v) => dp_reads o rl n x v d h.nr
    cases x with
    | ref i =>
      unfold dp at e
      have h : VR G C (.ref i) v := h
      unfold VR at h
      obtain ⟨p, hp, rfl⟩ := h
      cases q : s0.h[i]? with
      | none => rw [q] at e; simp only at e; unfold toD at e; cases e
      | some c =>
        rw [q] at e
        cases c with
        | lst xs lk =>
          obtain ⟨⟨ys, e1, hr⟩, _⟩ := rl.cell i _ p q hp
          obtain ⟨ds, e2, rfl⟩ := toDl e
          exact rdv_lst o e1 (rdv_all o ih hr e2)
        | _ => simp only at e; unfold toD at e; cases e
    | lst xs =>
      unfold dp at e
      obtain ⟨p, ys, rfl, hp, hr⟩ := h
      obtain ⟨ds, e2, rfl⟩ := toDl e
      exact rdv_lst o hp (rdv_all o ih hr e2)
    | tup xs =>
      unfold dp at e
      obtain ⟨p, ys, rfl, hp, hr⟩ := h.tup
      obtain ⟨ds, e2, rfl⟩ := toDt e
      intro pins σ s u I r
      cases r
      obtain ⟨its, rv, ⟨ob, ho, hc, n, hd⟩, _⟩ := I.tuple (by rw [o.K]; exact hp)
      obtain ⟨as, hr', hs⟩ := rdv_all o ih hr e2 pins σ s its I rv
      exact ⟨_, .tuple ho hc hd hr', hs⟩
    | _ => unfold dp at e; exact rdv_of o h e
theorem opV {f : Value → Value → Sem Value} {ok g : PyData → PyData → Bool} (rule : ∀ (s : Shared) (u v : Value) (d e : PyData) (as bs : List Addr) (Q : Value → Shared → Prop), Reads s.heap u d as → Reads s.heap v e bs → ok d e = true → Q (.bool (g d e)) s → wpAny (model X.prog X.w) X.A (f u v) Q X.xe s) :
    OpR X f (fun x y H Q => ∃ d e, RdV X H x d ∧ RdV X H y e ∧ ok d e = true ∧ Q (.bl (g d e)) H) := by
  intro pins s σ H x y v u Q I rx ry h
  obtain ⟨d, e, h1, h2, hok, q⟩ := h
  obtain ⟨as, r1, _⟩ := h1 pins σ s v I rx
  obtain ⟨bs, r2, _⟩ := h2 pins σ s u I ry
  exact rule s v u d e as bs _ r1 r2 hok ⟨.bl _, H, I, rfl, q⟩
theorem op_deq (o : XO G k X) : OpR X (compareOp .Eq) (fun x y H Q => ∃ d e, RdV X H x d ∧ RdV X H y e ∧ okEq d e = true ∧ Q (.bl (PyData.eqv d e)) H) := opV fun s u v d e as bs Q r1 r2 ok q => by
  unfold okEq at ok
  simp only [Bool.and_eq_true] at ok
  have h1 := okD_iff ok.1
  have h2 := o.room.units
  have h3 := min60 (b := e.depth) h1.2
  exact PySem.SeqAt.eq_plain r1 r2 h1.1 (okD_iff ok.2).1 (by omega) q
theorem op_dne (o : XO G k X) : OpR X (compareOp .NotEq) (fun x y H Q => ∃ d e, RdV X H x d ∧ RdV X H y e ∧ okEq d e = true ∧ Q (.bl (!PyData.eqv d e)) H) := opV fun s u v d e as bs Q r1 r2 ok q => by
  unfold okEq at ok
  simp only [Bool.and_eq_true] at ok
  have h1 := okD_iff ok.1
  have h2 := o.room.units
  have h3 := min60 (b := e.depth) h1.2
  exact PySem.SeqAt.ne_plain r1 r2 h1.1 (okD_iff ok.2).1 (by omega) q
theorem deq_core (o : XO G k X) {C : Cf} {s : S} {σ : L2.St} {x y : Val} {v w : V} {kb ne : Bool} {Q : VK} (rl : Rel G C s σ) (hx : x ≠ .bad → NR G C x v) (hy : y ≠ .bad → NR G C y w) (e : veq (dp 3 s.h x) (dp 3 s.h y) = some kb) (q : Q (.bl (kb != ne)) C.H) :
    ∃ r : R2, OpR X (compareOp (if ne then CmpOp.NotEq else CmpOp.Eq)) r ∧ r v w C.H Q := by
  obtain ⟨d, d2, h1, h2, h3, h4⟩ := veq_some e
  have nx : x ≠ .bad := fun z => by subst z; unfold dp toD at h1; cases h1
  have ny : y ≠ .bad := fun z => by subst z; unfold dp toD at h2; cases h2
  have r1 := dp_reads o rl 3 x v d (hx nx) h1
  have r2 := dp_reads o rl 3 y w d2 (hy ny) h2
  cases ne with
  | true => exact ⟨_, op_dne o, d, d2, r1, r2, h3, by rw [h4]; cases kb <;> exact q⟩
  | false => exact ⟨_, op_deq o, d, d2, r1, r2, h3, by rw [h4]; cases kb <;> exact q⟩
theorem se_deq (o : XO G k X) (ne : Bool) (ha : PE X ea (EE G T F a)) (hb : PE X eb (EE G T F b)) (hm : behindInMarks (if ne then CmpOp.NotEq else CmpOp.Eq) eb = false := by first | exact nomark _ | rfl) : PE X (.Compare ea [if ne then CmpOp.NotEq else CmpOp.Eq] [eb] pos) (EE G T F (.deq ne a b)) := by
  refine PE.weak (pe_cmpR OpR.any ha hb hm) fun σ H Q ⟨C, s, r, s', hH, rl, e, kk⟩ => ?_
  unfold evalE at e
  obtain ⟨x, s1, e1, e⟩ := bind_ok e
  obtain ⟨y, s2, e2, e⟩ := bind_ok e
  obtain ⟨e, rfl⟩ := opt_ok e
  obtain ⟨bb, e3, e4⟩ := Option.map_eq_some_iff.mp e
  clear e
  subst e4
  show EE G T F a σ H (fun x H1 => EE G T F b σ H1 (fun y H2 => ∃ r : R2, OpR X _ r ∧ r x y H2 Q))
  refine EE_of_op hH rl e1 fun C1 v l1 r1 o1 => EE_of_op rfl r1 e2 fun C2 w l2 r2 o2 => ?_
  exact deq_core o r2 (fun n => deref_ok r2 (OR.mono l2 o1) n) (fun n => deref_ok r2 o2 n) e3 (kk C2 _ (l1.trans l2) r2 (show VR G C2 (.bl (bb != ne)) (.bl (bb != ne)) from VR.bl))
theorem st_deq (o : XO G k X) (ne : Bool) (ha : PE X ea (EE G T F a)) (hb : PE X eb (EE G T F b)) (hm : behindInMarks (if ne then CmpOp.NotEq else CmpOp.Eq) eb = false := by first | exact nomark _ | rfl) : PT X (.Compare ea [if ne then CmpOp.NotEq else CmpOp.Eq] [eb] pos) (EB G T F (.deq ne a b)) := by
  refine PT.weak (pt_cmpR OpR.any ha hb hm) fun σ H Q ⟨C, s, r, s', hH, rl, e, kk⟩ => ?_
  have e := B_val e
  obtain ⟨z, e0, ez⟩ := val_ok e
  clear e
  unfold evalE at e0
  obtain ⟨x, s1, e1, e5⟩ := bind_ok e0
  obtain ⟨y, s2, e2, e6⟩ := bind_ok e5
  obtain ⟨e7, rfl⟩ := opt_ok e6
  obtain ⟨bb, e3, e4⟩ := Option.map_eq_some_iff.mp e7
  subst e4
  cases ez
  show EE G T F a σ H (fun x H1 => EE G T F b σ H1 (fun y H2 => ∃ r : R2, OpR X _ r ∧ r x y H2 (fun x H' => ∃ k, x = .bl k ∧ Q k H')))
  refine EE_of_op hH rl e1 fun C1 v l1 r1 o1 => EE_of_op rfl r1 e2 fun C2 w l2 r2 o2 => ?_
  exact deq_core o r2 (fun n => deref_ok r2 (OR.mono l2 o1) n) (fun n => deref_ok r2 o2 n) e3 ⟨_, rfl, kk C2 (l1.trans l2) r2⟩
end
end Rs
end
section
set_option maxRecDepth 100000
set_option maxHeartbeats 4000000
/-! The head: what the top wrote, read by names; the end of a law. -/
namespace Rs
open PySem PySem.Spec PyProof.Rows L2
/-! ### facts of the written part, with the modules' dict -/
def sysB (K : PySem.W.Frag) : Bool := match K.lookup sysModules with
  | some ⟨.type c, _, _, _⟩ => decide (c = "dict")
  | _ => false
def asR (g : Addr → Option Obj) (n : Nat) : List Addr := sysModules :: He.asD g n
abbrev AlR : Type := Bool × He.AlD
def obsR (n : Nat) (fa : List He.Fa) (fn : List He.DefD) (g : Addr → Option Obj) : AlR := (sysB (He.frG g (asR g n)), He.obsD fa fn (He.frG g (asR g n)))
def hookR (n : Nat) (fa : List He.Fa) (fn : List He.DefD) : PySem.W.Hook where
  α := AlR
  obs := fun s => obsR n fa fn s.heap.get?
  val := fun _ => (true, He.valD fn)
  says := fun _ h => ∃ K : PySem.W.Frag, K.In h ∧ sysB K = true ∧ He.SaysD fa fn K
  of := fun _ _ e => ⟨_, He.frG_in, congrArg Prod.fst e, congrArg Prod.snd e⟩
  keeps := fun _ _ _ ⟨K, hK, b, c⟩ k => ⟨K, PySem.W.Frag.In.keeps hK k, b, c⟩
theorem obsR_eq {n : Nat} {fa : List He.Fa} {fn : List He.DefD} {g : Addr → Option Obj} {s : Shared} (h : ∀ a, g a = s.heap.get? a) : obsR n fa fn g = (hookR n fa fn).obs s := by
  have e : g = s.heap.get? := funext h
  subst e
  rfl
theorem sys_ok {G : Gl} (h : sysB G.K = true) : G.Sys := by
  unfold sysB at h
  split at h
  · rename_i c _ _ _ hl
    exact ⟨_, hl, congrArg Value.type (of_decide_eq_true h)⟩
  · cases h
/-! ### a law's end -/
theorem fin_call {P : Program} {w : World} {K : PySem.W.Frag} {mg mb : Str → Option Value} {k : Nat} {fa a : Addr} {fd : FuncData} {x : Str} {sp : SpG} {s₁ : Shared} {vs : List Value} {ns : List Int}
    (inK : K.In s₁.heap) (gns : s₁.heap.Ns mainGlobals mg) (bns : s₁.heap.Ns builtinsNs mb) (bok : ∀ x : Str, x ≠ "__name__" → mb x = bootBuiltins x) (nolim : s₁.heap.NoLimit) (ngen : s₁.gens = #[])
    (at_ : s₁.heap.get? a = some { cls := .type "list", data := .seq vs.toArray }) (isI : IntsAre vs ns) (few : ns.length ≤ sizeLine) (room : Room k callerA)
    (Fn : ∀ base : Heap, K.In base → base.Ns mainGlobals mg → FnG P w K mg base k fa fd [x] sp) (bind : ∀ (s : Shared) (u : Value), BindsTo s fd ⟨[u], []⟩ [(x, u)])
    (prom : ∀ H : Hp, Only H → SqL K H a (ns.map V.int) → sp [.ref a] H fun v _ => v = .bl true) :
    codeAny (model P w) callerA (.call (.ref fa) ⟨[.ref a], []⟩) (fun r s' => r = .ok (.ret (.bool true)) ∧ OldK s₁.heap s'.heap ∧ s'.os = s₁.os ∧ AllBare s'.gens) s₁ := by
  have rel := vals_ints isI
  have len := isI.length
  have main : ∀ H : Hp, Only H → SqL K H a (ns.map V.int) → HOk P w H s₁.heap → (∀ b, H b ≠ none → b = a) → (H a ≠ none → K.lookup a = none) →
      codeAny (model P w) callerA (.call (.ref fa) ⟨[.ref a], []⟩) (fun r s' => r = .ok (.ret (.bool true)) ∧ OldK s₁.heap s'.heap ∧ s'.os = s₁.os ∧ AllBare s'.gens) s₁ := by
    intro H only seq hok one apart
    have notIt : ∀ {b : Addr} {o : Obj} {es : Array DictEntry} {ep : Nat}, s₁.heap.get? b = some o → o.data = .dict es ep → H b = none := fun {b o es ep} e d => by
      cases q : H b with
      | none => rfl
      | some u =>
        have z : b = a := one b (by rw [q]; simp)
        rw [z, at_] at e
        cases e
        have d2 : Data.seq vs.toArray _ = Data.dict es ep := d
        cases d2
    have nsT : ∀ {b : Addr} {m : Str → Option Value}, s₁.heap.Ns b m → (hidT s₁.heap H).Ns b m := fun {b m} ⟨o, es, ep, e, d, r⟩ => ⟨o, es, ep, hidT_get e (notIt e d), d, r⟩
    have inT : K.In (hidT s₁.heap H) := fun b o e => hidT_get (inK b o e) (by
      cases q : H b with
      | none => rfl
      | some u =>
        have z : b = a := one b (by rw [q]; simp)
        rw [z, apart (by rw [← z, q]; simp)] at e
        cases e)
    have M : Mod K mg (hidT s₁.heap H) := ⟨inT, nsT gns, ⟨mb, nsT bns, bok⟩, let ⟨mc, h1, h2⟩ := nolim; ⟨mc, nsT h1, h2⟩⟩
    have E : Env0 P w K mg (hidT s₁.heap H) callerA [] s₁ H := ⟨rfl, M, fun b o e => of_hidT e, Nat.le_of_eq (hidT_size _ _), trivial, fun b hb => absurd (show b ∈ ([] : List Addr) from hb) (by simp), hok, .of_eq ngen⟩
    refine codeAny_mono ((Fn _ inT (nsT gns)).run callerA [] s₁ H ⟨[.ref a], []⟩ [.ref a] [.ref a] _ rfl room E (bind s₁ (.ref a)) (.cons rfl .nil) (prom H only seq)) fun r s' h => ?_
    obtain ⟨u, rfl, v, H', os, bare, un, hok', ru, q⟩ := h
    have q : v = .bl true := q
    subst q
    obtain rfl : u = Value.bool true := ru
    refine ⟨rfl, OldK.of_keep fun b o e => ?_, os, bare⟩
    cases z : H b with
    | none => exact un.keep b o e z (fun y => absurd (show b ∈ ([] : List Addr) from y) (by simp)) (by simp)
    | some u =>
      rcases only b with y | ⟨ob, xs, y⟩
      · rw [z] at y; cases y
      · obtain ⟨e1, _⟩ := hok b _ y
        obtain ⟨e2, _⟩ := hok' b _ (un.frzs b ob _ y)
        rw [e] at e1
        cases e1
        exact e2
  cases hk : K.lookup a with
  | some o =>
    have e := inK a o hk
    rw [at_] at e
    cases e
    exact main (fun _ => none) (fun _ => .inl rfl) (.inr ⟨_, vs.toArray, _, hk, rfl, rfl, rfl, by rw [List.size_toArray, len]; exact few, by simpa using rel⟩) (fun b u z => nomatch (show (none : Option HO) = some u from z)) (fun b z => absurd rfl z) fun z => absurd rfl z
  | none =>
    have there : ∀ b u, (if b = a then some (HO.frz { cls := .type "list", data := .seq vs.toArray } (.lst (ns.map V.int))) else none) = some u → b = a ∧ u = .frz { cls := .type "list", data := .seq vs.toArray } (.lst (ns.map V.int)) := fun b u z => by
      by_cases hb : b = a
      · rw [if_pos hb] at z; cases z; exact ⟨hb, rfl⟩
      · rw [if_neg hb] at z; cases z
    refine main (fun b => if b = a then some (.frz { cls := .type "list", data := .seq vs.toArray } (.lst (ns.map V.int))) else none) (fun b => ?_) (.inl (.inr ⟨_, if_pos rfl⟩)) (fun b u z => ?_) (fun b z => ?_) fun _ => hk
    · by_cases hb : b = a
      · exact .inr ⟨_, _, if_pos hb⟩
      · exact .inl (if_neg hb)
    · obtain ⟨rfl, rfl⟩ := there b u z
      exact ⟨at_, by rw [List.length_map]; exact few, vs, _, rel, at_⟩
    · by_cases hb : b = a
      · exact hb
      · exact absurd (if_neg hb) z
theorem walk_R {l : PySem.W.OpenLaw} {n k : Nat} {q : Program} {loose : List Str} {XP : (Str → Option Value) → Heap → Prop} {YP : World → Heap → Prop} {d : DefRec} {x : Str} (hn : l.most = some n) (hn2 : n ≤ sizeLine) (hdf : d.params.defaults = []) (hr : Room k callerA)
    (F : ∀ (w : World) (mg : Str → Option Value) (fa : Addr) (h : Heap), YP w h → h.Ns mainGlobals mg → mg d.name = some (.ref fa) →
      ∃ (K : PySem.W.Frag) (fd : FuncData) (sp : SpG), K.In h ∧ (∀ (s : Shared) (u : Value), BindsTo s fd ⟨[u], []⟩ [(x, u)]) ∧ (∀ (H : Hp) (a : Addr) (ns : List Int), ns.length ≤ n → Only H → SqL K H a (ns.map V.int) → sp [.ref a] H fun v _ => v = .bl true) ∧
        ∀ base : Heap, K.In base → base.Ns mainGlobals mg → FnG l.prog w K mg base k fa fd [x] sp) :
    PySem.W.WalkO q loose XP YP l.row.toRowW d [] (fun f vs => PySem.call f vs) := by
  refine Att.attach_call hn hdf fun w s₀ s₁ mg mb fa o pm cd doc a vs ns G Y ho hd hcd hmg hobj hints hlen hg => ?_
  obtain ⟨K, fd, sp, h1, h2, h3, h4⟩ := F w mg fa _ Y G.T.g hmg
  exact fin_call h1 G.T.g G.T.b G.T.builtins G.T.nolimit hg hobj hints (Nat.le_trans hlen hn2) hr h4 h2 fun H hO hS => h3 H a ns hlen hO hS
/-- the law's promise from the interpreter's answer -/
theorem law_end {G : Gl} {F : Call} {id : Nat} {ns : List Int} {s2 : S} (h : F id [.scr ns] [] = .ok (.bl true) s2) {H : Hp} {a : Addr} (only : Only H) (seq : SqL G.K H a (ns.map V.int)) : spI G F id 1 [.ref a] H fun v _ => v = .bl true := by
  have fz : ∀ p, H p ≠ none → ∃ o xs, H p = some (.frz o (.lst xs)) := fun p n => (only p).elim (fun z => absurd z n) fun h => h
  refine ⟨rfl, ⟨[], fun p => H p ≠ none, fun _ => False, fun _ => False, H⟩, [.scr ns], [], .bl true, s2, rfl, ⟨rfl, fun i x h => by simp at h, fun i x h => by simp at h, fun i j c d p h => by simp at h, rfl, .nil, fun n c p h => by simp at h, fun p h => h, fun p h => h.elim False.elim False.elim, fun p _ h => h.elim (fun h => h) fun h => h⟩, VRs.cons ?_ VRs.nil, h, fun C' v l r hv => ?_⟩
  · show VR G _ (.scr ns) (.ref a)
    unfold VR
    refine ⟨a, rfl, ?_⟩
    rcases seq with h | ⟨o, its, n, h1, h2, h3, h4, h5, h6⟩
    · refine .inl ⟨?_, h⟩
      rcases h with h | ⟨o, h⟩
      · show H a ≠ none
        rw [h]; simp
      · show H a ≠ none
        rw [h]; simp
    · exact .inr ⟨o, its, n, h1, h2, h3, h4, h5, h6⟩
  · unfold VR at hv
    exact hv
/-! ### a def's own promise -/
theorem Rel.bare {G : Gl} {C : Cf} {s : S} {σ : L2.St} (r : Rel G C s σ) : Rel G C ⟨[], s.h⟩ [] where
  len := rfl
  env := fun i x h => by simp at h
  own := fun i x h => by simp at h
  apart := fun i j c d p h => by simp at h
  hlen := r.hlen
  nd := r.nd
  cell := r.cell
  fztr := r.fztr
  kptr := r.kptr
  fzkp := r.fzkp
theorem spI_body {G : Gl} {T : Tab} {fs : List Fd} {n id : Nat} {d : Fd} {N : List Str} {vs : List V} {H : Hp} {Q : VK} (hd : fs[id]? = some d) (hn : N.length = d.nn) (hp : d.np ≤ d.nn) (h : spI G (callI T fs (n + 1)) id d.np vs H Q) :
    tS G (execSs T (callI T fs n) d.body) { nx := fun _ H' => Q .non H', rt := Q } (L2.start N vs) H := by
  obtain ⟨hl, C, xs, hc, r, s2, hH, rl, hx, e, kk⟩ := h
  unfold callI at e
  simp only [hd] at e
  unfold runFd at e
  have lx : xs.length = d.np := by rw [hx.length]; exact hl
  rw [if_pos lx] at e
  have env : Rel G C ⟨xs.map .val ++ List.replicate (d.nn - d.np) .no, hc⟩ (L2.start N vs) := by
    refine ⟨?_, fun i x h => ?_, fun i c h => ?_, fun i j c c2 p h => ?_, rl.hlen, rl.nd, rl.cell, rl.fztr, rl.kptr, rl.fzkp⟩
    · unfold L2.start
      simp [lx, hl, hn]
    · have h : (xs.map Slot.val ++ List.replicate (d.nn - d.np) .no)[i]? = some (.val x) := h
      by_cases hi : i < xs.length
      · rw [List.getElem?_append_left (by simpa using hi), List.getElem?_map] at h
        cases q : xs[i]? with
        | none => rw [q] at h; cases h
        | some y =>
          rw [q] at h
          cases h
          obtain ⟨v, h1, h2⟩ := hx.get q
          refine ⟨v, ?_, h2⟩
          unfold L2.start
          rw [List.getElem?_append_left (by simp; rw [← hx.length]; exact hi), List.getElem?_map, h1]
          rfl
      · rw [List.getElem?_append_right (by simpa using hi), List.getElem?_replicate] at h
        split at h <;> cases h
    all_goals
      exfalso
      have h : (xs.map Slot.val ++ List.replicate (d.nn - d.np) .no)[i]? = some (.own c) := h
      by_cases hi : i < xs.length
      · rw [List.getElem?_append_left (by simpa using hi), List.getElem?_map] at h
        cases q : xs[i]? with
        | none => rw [q] at h; cases h
        | some y => rw [q] at h; cases h
      · rw [List.getElem?_append_right (by simpa using hi), List.getElem?_replicate] at h
        split at h <;> cases h
  cases q : execSs T (callI T fs n) d.body ⟨xs.map .val ++ List.replicate (d.nn - d.np) .no, hc⟩ with
  | bad => rw [q] at e; cases e
  | exc c p s => rw [q] at e; cases e
  | ok fl s' =>
    rw [q] at e
    refine ⟨C, _, fl, s', hH, env, q, fun C' σ' l r' => ?_⟩
    cases fl with
    | nx => cases e; exact kk C' .non l r'.bare VR.non
    | rt v => cases e; exact fun u hu => kk C' u l r'.bare hu
    | bk => cases e
    | ct => cases e
theorem xo_of {G : Gl} {P : Program} {w : World} {mg : Str → Option Value} {base : Heap} {N : List Str} {qual : Str} {scope : Scope} {f : Addr} {cd : Value} {A : Around} {outer : List Env} {s : Shared} {H : Hp} {k : Nat} (hs : G.Sys) (nd : N.Nodup) (gd : A.guards = some []) (hr : Room k (A.deeper (envOfC qual scope s.heap.objs.size f cd))) :
    XO G k (cxOf CX0 P w G.K mg base N qual scope f cd A outer s H E0).nox := ⟨rfl, hs, rfl, nd, hr, gd, rfl⟩
/-- a def keeps its promise -/
theorem fn_R {G : Gl} {T : Tab} {fs : List Fd} {n id k : Nat} {d : Fd} {P : Program} {w : World} {mg : Str → Option Value} {base : Heap} {f : Addr} {x qual : Str} {params : Arguments} {body : List Stmt} {scope : Scope} {dvs : List V} {kws : List (Str × V)} {fd : FuncData} {N ps : List Str}
    (hs : G.Sys) (F : FunD G.K x qual params body scope dvs kws f fd) (Sc : FnScope N ps scope) (hd : fs[id]? = some d) (hn : N.length = d.nn) (hp : d.np ≤ d.nn) (hps : ps.length = d.np)
    (hb : ∀ (cdv : Value) (A : Around) (outer : List Env) (s : Shared) (H : Hp), XO G k (cxOf CX0 P w G.K mg base N qual scope f cdv A outer s H E0).nox → PSs (cxOf CX0 P w G.K mg base N qual scope f cdv A outer s H E0).nox body (SSs G T (callI T fs n) d.body)) :
    FnG P w G.K mg base (k + 1) f fd ps (spI G (callI T fs (n + 1)) id d.np) :=
  fnG_of F Sc (fun vs H Q h => by rw [h.1, hps]) fun cdv A outer s H gd hr => ⟨_, hb cdv A outer s H (xo_of hs Sc.nd gd hr), fun vs Q h => spI_body hd hn hp h⟩
theorem fn_0 {G : Gl} {T : Tab} {fs : List Fd} {id np k : Nat} {P : Program} {w : World} {K : PySem.W.Frag} {mg : Str → Option Value} {base : Heap} {f : Addr} {fd : FuncData} {ps : List Str} : FnG P w K mg base k f fd ps (spI G (callI T fs 0) id np) where
  len := fun vs H Q h => by obtain ⟨_, C, xs, hc, r, s2, _, _, _, e, _⟩ := h; cases e
  run := fun A outer s H args us vs Q _ _ _ _ _ h => by obtain ⟨_, C, xs, hc, r, s2, _, _, _, e, _⟩ := h; cases e
end Rs
end
section
set_option maxRecDepth 100000
set_option maxHeartbeats 4000000
/-! Instances: attributes, methods, new ones. -/
namespace Rs
open PySem PySem.Spec PyProof.Rows L2
/-! ### attributes in both readings -/
section
variable {G : Gl} {C C' : Cf}
theorem VRf.get : ∀ {fs : List (Nat × Val)} {gs : List (Str × V)} {f : Nat} {x : Val}, VRf G C fs gs → G.okf f → fs.lookup f = some x → ∃ v, gs.lookup (G.nm f) = some v ∧ VR G C x v
  | [], _, _, _, _, _, e => by cases e
  | (g, y) :: fs, gs, f, x, h, ok, e => by
    obtain ⟨w, r, rfl, og, hv, hr⟩ := h
    rw [List.lookup_cons] at e
    by_cases q : f = g
    · subst q
      simp only [beq_self_eq_true] at e
      cases e
      exact ⟨w, by simp [List.lookup_cons], hv⟩
    · have q1 : (f == g) = false := by simpa using q
      have q2 : (G.nm f == G.nm g) = false := by
        simp only [beq_eq_false_iff_ne, ne_eq]
        exact fun z => q (G.inj f g ok og z)
      rw [q1] at e
      obtain ⟨v, h1, h2⟩ := VRf.get hr ok e
      exact ⟨v, by rw [List.lookup_cons, q2]; exact h1, h2⟩
theorem VRf.none_ : ∀ {fs : List (Nat × Val)} {gs : List (Str × V)} {f : Nat}, VRf G C fs gs → G.okf f → fs.lookup f = none → gs.lookup (G.nm f) = none
  | [], _, _, h, _, _ => by cases h; rfl
  | (g, y) :: fs, gs, f, h, ok, e => by
    obtain ⟨w, r, rfl, og, hv, hr⟩ := h
    rw [List.lookup_cons] at e
    by_cases q : f = g
    · subst q
      simp at e
    · have q1 : (f == g) = false := by simpa using q
      have q2 : (G.nm f == G.nm g) = false := by
        simp only [beq_eq_false_iff_ne, ne_eq]
        exact fun z => q (G.inj f g ok og z)
      rw [q1] at e
      rw [List.lookup_cons, q2]
      exact VRf.none_ hr ok e
theorem VRf.len : ∀ {fs : List (Nat × Val)} {gs : List (Str × V)}, VRf G C fs gs → gs.length = fs.length
  | [], _, h => by cases h; rfl
  | (g, y) :: fs, gs, h => by
    obtain ⟨w, r, rfl, og, hv, hr⟩ := h
    simp [VRf.len hr]
theorem VRf.put {f : Nat} {x : Val} {v : V} (ok : G.okf f) (hx : VR G C x v) : ∀ {fs : List (Nat × Val)} {gs : List (Str × V)}, VRf G C fs gs → VRf G C (putFs f x fs) (putF (G.nm f) v gs)
  | [], _, h => by cases h; exact ⟨v, [], rfl, ok, hx, rfl⟩
  | (g, y) :: fs, gs, h => by
    obtain ⟨w, r, rfl, og, hv, hr⟩ := h
    unfold putFs putF
    by_cases q : g = f
    · subst q
      simp only [if_true]
      exact ⟨v, r, rfl, og, hx, hr⟩
    · have q2 : ¬ G.nm g = G.nm f := fun z => q (G.inj g f og ok z)
      simp only [q, q2, if_false]
      exact ⟨w, _, rfl, og, hv, VRf.put ok hx hr⟩
end
/-! ### what the classes have -/
structure ObjOk (G : Gl) (T : Tab) : Prop where
  cls : ∀ c f, T.fld c f = true → G.okf f ∧ Cls G.K (G.ca c) ∧ NoAttr G.K (G.ca c) (G.nm f)
section
variable {G : Gl} {T : Tab} {F : Call} {k : Nat} {X : Cx} {e eo : Expr} {es : List Expr} {pos apos cpos : Pos} {a o : IE} {as : List IE}
theorem ins_at {C : Cf} {s : S} {σ : L2.St} {x : Val} {v : V} {n c : Nat} {fs : List (Nat × Val)} (rl : Rel G C s σ) (h : VR G C x v) (e : insAt s x = some (n, c, fs)) : ∃ p dx gs, v = .ref p ∧ C.ρ[n]? = some p ∧ s.h[n]? = some (.ins c fs) ∧ x = .ref n ∧ C.H p = some (.ins (G.ca c) dx gs) ∧ VRf G C fs gs := by
  unfold insAt at e
  cases x with
  | ref m =>
    simp only at e
    cases q : s.h[m]? with
    | none => simp [q] at e
    | some d =>
      cases d with
      | ins c' fs' =>
        simp only [q, Option.some.injEq, Prod.mk.injEq] at e
        obtain ⟨rfl, rfl, rfl⟩ := e
        unfold VR at h
        obtain ⟨p, hp, rfl⟩ := h
        obtain ⟨dx, gs, h1, h2⟩ := (rl.cell m _ p q hp).1
        exact ⟨p, dx, gs, rfl, hp, q, rfl, h1, h2⟩
      | lst _ _ => simp [q] at e
      | dct _ _ => simp [q] at e
  | _ => cases e
theorem se_att (ox : XO G k X) (ok : ObjOk G T) {fn : Str} (f : Nat) (ha : PE X e (EE G T F o)) (hf : G.nm f = fn := by rfl) (hb : attributeBase e fn X.env (eval e X.env) = eval e X.env := by rfl) : PE X (.Attribute e fn pos) (EE G T F (.att o f)) := by
  subst hf
  refine PE.weak (pe_fld ha hb) fun σ H Q ⟨C, s, r, s', hH, rl, ev, kk⟩ => ?_
  unfold evalE at ev
  obtain ⟨x, s1, e1, ev⟩ := bind_ok ev
  cases q : insAt s1 x with
  | none => simp [q] at ev
  | some t =>
    obtain ⟨n, c, fs⟩ := t
    simp only [q] at ev
    split at ev
    · rename_i hfl
      obtain ⟨ev2, rfl⟩ := opt_ok ev
      obtain ⟨y, hy, rfl⟩ := Option.map_eq_some_iff.mp ev2
      unfold tFld
      refine EE_of_val hH rl e1 fun C1 v l1 r1 h1 => ?_
      obtain ⟨p, dx, gs, rfl, _, _, _, hp, hg⟩ := ins_at r1 h1 q
      obtain ⟨okf, cl, na⟩ := ok.cls c f hfl
      obtain ⟨w, hw, hv⟩ := hg.get okf hy
      exact ⟨p, G.ca c, dx, gs, w, rfl, hp, by rw [ox.K]; exact cl, by rw [ox.K]; exact na, hw, kk C1 w l1 r1 hv⟩
    · cases ev
theorem ins_free {C : Cf} {s : S} {σ : L2.St} (r : Rel G C s σ) {n c : Nat} {fs : List (Nat × Val)} {p : Addr} (h : s.h[n]? = some (.ins c fs)) (hp : C.ρ[n]? = some p) : ¬ C.kp p := (r.cell n _ p h hp).2.2.1 rfl
theorem Rel.changeI {C : Cf} {s : S} {σ : L2.St} (r : Rel G C s σ) {n c : Nat} {fs fs' : List (Nat × Val)} {p : Addr} {dx : Addr} {gs : List (Str × V)} (h : s.h[n]? = some (.ins c fs)) (hp : C.ρ[n]? = some p) (nk : ¬ C.kp p) (hg : VRf G C fs' gs) :
    Le C (C.put p (.ins (G.ca c) dx gs)) ∧ Rel G (C.put p (.ins (G.ca c) dx gs)) { s with h := s.h.set n (.ins c fs') } σ := r.changeH h (.inr nk) hp ⟨dx, gs, rfl, hg⟩
theorem ss_setA (ox : XO G k X) (ok : ObjOk G T) {fn : Str} {pos' : Pos} (f : Nat) (ho : PE X eo (EE G T F o)) (hv : PE X e (EE G T F a)) (hf : G.nm f = fn := by rfl) (hs : swapsWith e (some (.Attribute eo fn pos')) pos.line X.env = pure false := by rfl) :
    PS X (.Assign [.Attribute eo fn pos'] e pos) (SS G T F (.asg (.att o f) a)) := by
  subst hf
  refine PS.weak (ps_fld ho hv hs) fun D σ H ⟨C, s, fl, s', hH, rl, ev, kk⟩ => ?_
  unfold execS at ev
  obtain ⟨x, s1, e1, ev⟩ := bind_ok ev
  obtain ⟨u, s2, e2, ev⟩ := bind_ok ev
  cases ev
  unfold tgtSet at e2
  obtain ⟨y, s3, e3, e2⟩ := bind_ok e2
  cases q : insAt s3 y with
  | none => simp [q] at e2
  | some t =>
    obtain ⟨n, c, fs⟩ := t
    simp only [q] at e2
    split at e2
    · rename_i hfl
      cases e2
      obtain ⟨hf1, hf2⟩ := Bool.and_eq_true_iff.mp hfl
      have hf2 := of_decide_eq_true hf2
      unfold sFld
      refine EE_of_val hH rl e1 fun C1 v l1 r1 h1 => EE_of_val rfl r1 e3 fun C2 w l2 r2 h2 => ?_
      obtain ⟨p, dx, gs, rfl, hp1, hp2, rfl, hp, hg⟩ := ins_at r2 h2 q
      obtain ⟨okf, cl, na⟩ := ok.cls c f hf1
      obtain ⟨l3, r3⟩ := r2.changeI hp2 hp1 (ins_free r2 hp2 hp1) (fs' := putFs f x fs) (dx := dx) (gs := putF (G.nm f) v gs) (hg.put okf (h1.mono l2))
      exact ⟨p, G.ca c, dx, gs, rfl, hp, by rw [ox.K]; exact cl, by rw [ox.K]; exact na, by rw [hg.len]; omega, kk _ σ ((l1.trans l2).trans l3) r3⟩
    · cases e2
theorem ss_augA (ox : XO G k X) (ok : ObjOk G T) {fn : Str} {tpos : Pos} (f : Nat) (op : Bop) (ho : PE X eo (EE G T F o)) (hv : PE X e (EE G T F a)) (hf : G.nm f = fn := by rfl) : PS X (.AugAssign (.Attribute eo fn tpos) (iopr op) e pos) (SS G T F (.augA o f op a)) := by
  subst hf
  have hop : InOp X (iopr op) (fun x y H Q => ∃ r : R2, OpR X (inplaceOp (iopr op)) r ∧ r x y H Q) := fun pins s σ H x y u v Q I rx ry ⟨_, h, q⟩ => h pins s σ H x y u v Q I rx ry q
  refine PS.weak (ps_fldaug ho hv hop) fun D σ H ⟨C, s, fl, s', hH, rl, ev, kk⟩ => ?_
  unfold execS at ev
  obtain ⟨x, s1, e1, ev⟩ := bind_ok ev
  cases q : insAt s1 x with
  | none => simp [q] at ev
  | some t =>
    obtain ⟨n0, c, fs⟩ := t
    simp only [q] at ev
    cases hfl : T.fld c f with
    | false => simp [hfl] at ev
    | true =>
      cases hlk : fs.lookup f with
      | none => simp [hfl, hlk] at ev
      | some old =>
        simp only [hfl, hlk] at ev
        obtain ⟨y, s2, e2, ev3⟩ := bind_ok ev
        obtain ⟨z, s3, e3, ev4⟩ := bind_ok ev3
        clear ev ev3
        obtain ⟨r, e5, ez⟩ := val_ok e3
        obtain ⟨e6, hs⟩ := opt_ok e5
        subst hs
        cases q2 : insAt s3 x with
        | none => simp [q2] at ev4
        | some t2 =>
          obtain ⟨n, c2, fs2⟩ := t2
          simp only [q2] at ev4
          split at ev4
          · rename_i hle
            cases ev4
            obtain ⟨hc, hle2⟩ := Bool.and_eq_true_iff.mp hle
            have hc := of_decide_eq_true hc
            have hle2 := of_decide_eq_true hle2
            clear hle
            subst hc
            obtain ⟨m, i, l, rfl, rfl, rfl, okop⟩ := iop_ok (X := X) e6 ez
            unfold sFldAug
            refine EE_of_val hH rl e1 fun C1 v l1 r1 h1 => ?_
            obtain ⟨p, dx, gs, rfl, hp1, hp2, rfl, hp, hg⟩ := ins_at r1 h1 q
            obtain ⟨okf, cl, na⟩ := ok.cls _ f hfl
            obtain ⟨w, hw, hwv⟩ := hg.get okf hlk
            unfold VR at hwv
            subst hwv
            refine ⟨p, G.ca c2, dx, gs, _, rfl, hp, by rw [ox.K]; exact cl, by rw [ox.K]; exact na, hw, ?_⟩
            refine EE_of_val rfl r1 e2 fun C2 w l2 r2 o1 => ?_
            unfold VR at o1
            subst o1
            refine okop _ _ ?_
            obtain ⟨p2, dx2, gs2, hpe, hq1, hq2, hne, hq, hg2⟩ := ins_at r2 (h1.mono l2) q2
            cases hpe
            cases hne
            obtain ⟨l3, r3⟩ := r2.changeI hq2 hq1 (ins_free r2 hq2 hq1) (fs' := putFs f (.int l) fs2) (dx := dx2) (gs := putF (G.nm f) (.int l) gs2) (hg2.put okf VR.int)
            exact ⟨dx2, gs2, hq, by rw [hg2.len]; omega, kk _ σ ((l1.trans l2).trans l3) r3⟩
          · cases ev4
/-! ### calls with keywords, defaults -/
/-- how a def is bound: n values by place, keywords ks; pm: what each parameter is given -/
structure Bd (G : Gl) (fd : FuncData) (ps : List Str) (n : Nat) (ks : List Str) (pm : List (Nat ⊕ Val)) : Prop where
  ex : ∃ (gu : List Value → List Value) (gv : List V → List V),
    (∀ (s : Shared) (us ws : List Value), G.K.In s.heap → us.length = n → ws.length = ks.length → BindsTo s fd ⟨us, ks.zip ws⟩ (ps.zip (gu (us ++ ws)))) ∧
    (∀ (vs : List V) (us : List Value), Vals vs us → Vals (gv vs) (gu us)) ∧
    ∀ (C : Cf) (xs : List Val) (vs : List V), xs.length = n + ks.length → VRs G C xs vs → VRs G C (permV xs pm) (gv vs)
theorem Bd.plain {fd : FuncData} {ps : List Str} (h : Binds G.K fd ps []) : Bd G fd ps ps.length [] [] where
  ex := ⟨id, id, fun s us ws hK l1 l2 => by
    have : ws = [] := List.length_eq_zero_iff.mp l2
    subst this
    have := h s us hK (by rw [List.append_nil]; exact l1)
    simpa using this, fun vs us r => r, fun C xs vs _ r => r⟩
/-- o.m(..), o of a class of the text -/
def tM (X : Cx) (G : Gl) (m : Str) (n : Nat) (ks : List Str) (ta : TE) (t tk : TA) : TE := fun σ H Q => ta σ H fun x H1 => ∃ (a C dx : Addr) (fs : List (Str × V)) (g : Addr) (fd : FuncData) (ps : List Str) (sp : SpG) (k : Nat) (gu : List Value → List Value) (gv : List V → List V),
  x = .ref a ∧ H1 a = some (.ins C dx fs) ∧ Cls X.K C ∧ Meth X.K C m g ∧ fs.lookup m = none ∧ FnG X.prog X.w X.K X.mg X.base k g fd ps sp ∧ Room k X.A ∧
  (∀ (s : Shared) (us ws : List Value), X.K.In s.heap → us.length = n + 1 → ws.length = ks.length → BindsTo s fd ⟨us, ks.zip ws⟩ (ps.zip (gu (us ++ ws)))) ∧ (∀ (vs : List V) (us : List Value), Vals vs us → Vals (gv vs) (gu us)) ∧
  t σ H1 fun vs H2 => tk σ H2 fun zs H3 => vs.length = n ∧ zs.length = ks.length ∧ sp (gv (.ref a :: vs ++ zs)) H3 Q
theorem FnG.goK {f : Addr} {fd : FuncData} {ps ks : List Str} {sp : SpG} {k : Nat} {pins : List (Addr × Obj)} {σ : L2.St} {H : Hp} {s : Shared} {Q : VK} {us ws gus : List Value} {vs : List V} (Fn : FnG X.prog X.w X.K X.mg X.base k f fd ps sp) (gd : X.A.guards = some []) (hr : Room k X.A)
    (hb : BindsTo s fd ⟨us, ks.zip ws⟩ (ps.zip gus)) (I : Inv X pins σ H s) (r : Vals vs gus) (h : sp vs H Q) : wpAny (model X.prog X.w) X.A (call (.ref f) us (ks.zip ws)) (EP X pins σ Q) X.xe s := by
  refine wpAny_call (codeAny_mono (Fn.run X.A X.stack s H ⟨us, ks.zip ws⟩ _ _ Q gd hr I.env0 hb r h) fun r s' hq => ?_)
  obtain ⟨u, rfl, hq⟩ := hq
  exact I.after hq
theorem pg_meth {pl : Sem Bool} {m : Str} {ta : TE} {t : TA} (gd : X.A.guards = some []) (he : PE X eo ta) (ha : PA X (e :: es) t)
    (hst : starEach (e :: es) X.env = (false, eval e X.env) :: starEach es X.env := by rfl) (hpl : (backTo cpos (starEach es X.env)).any (·.1) = false := by rfl)
    (ht : eval (.Call (.Attribute eo m apos) (e :: es) [] cpos) X.env = (do
      let ov ← eval eo X.env
      standAt apos.atName
      let (f, first) ← holding [ov] (getMethod ov m pl)
      callWith cpos f first (backTo cpos (starEach (e :: es) X.env)) (backToKw cpos (keywordEach [] X.env))) := by rfl) :
    PE X (.Call (.Attribute eo m apos) (e :: es) [] cpos) (tM X G m (e :: es).length [] ta t tNil) := by
  refine ⟨fun pins s σ H Q I h => ?_⟩
  refine PySem.W.methodCall_KW (pl := pl) (thn (he.run pins s σ H _ I h) fun u s1 ⟨x, H1, I1, rx, a, C, dx, fs, g, fd, ps, sp, k, gu, gv, ex, ea, c, hm, l, Fn, hr, hb, hv, q⟩ => ?_) ht
  subst ex
  obtain rfl : u = Value.ref a := rx
  refine getmeth_ok I1 ea c hm l ?_
  refine PySem.W.callWith_K (first := [.ref a]) (h₀ := X.base) I.ok.mod.kin hm.kp (thn (ha.run cpos pins s1 σ H1 _ I1 q) fun us s2 ⟨vs, H2, I2, r, q2⟩ => ⟨I2.kIn, ?_⟩) hst hpl
  obtain ⟨l1, l2, q3⟩ := q2
  have hbb := hb s2 (.ref a :: us) [] I2.kIn (by rw [List.length_cons, ← r.length, l1]) rfl
  exact FnG.goK (ks := []) (ws := []) Fn gd hr hbb I2 (hv _ _ ((show Vals (V.ref a :: vs) (Value.ref a :: us) from .cons rfl r).append .nil)) q3
theorem pg_meth0 {pl : Sem Bool} {m : Str} {ta : TE} (gd : X.A.guards = some []) (he : PE X eo ta)
    (ht : eval (.Call (.Attribute eo m apos) [] [] cpos) X.env = (do
      let ov ← eval eo X.env
      standAt apos.atName
      let (f, first) ← holding [ov] (getMethod ov m pl)
      callWith cpos f first (backTo cpos (starEach [] X.env)) (backToKw cpos (keywordEach [] X.env))) := by rfl) :
    PE X (.Call (.Attribute eo m apos) [] [] cpos) (tM X G m 0 [] ta tNil tNil) := by
  refine ⟨fun pins s σ H Q I h => ?_⟩
  refine PySem.W.methodCall_KW (pl := pl) (thn (he.run pins s σ H _ I h) fun u s1 ⟨x, H1, I1, rx, a, C, dx, fs, g, fd, ps, sp, k, gu, gv, ex, ea, c, hm, l, Fn, hr, hb, hv, q⟩ => ?_) ht
  subst ex
  obtain rfl : u = Value.ref a := rx
  refine getmeth_ok I1 ea c hm l ?_
  refine PySem.W.callWith_K0 (first := [.ref a]) I1.kIn hm.kp ?_
  obtain ⟨l1, l2, q3⟩ := q
  have hbb := hb s1 [.ref a] [] I1.kIn rfl rfl
  exact FnG.goK (ks := []) (ws := []) Fn gd hr hbb I1 (hv _ _ ((show Vals [V.ref a] [Value.ref a] from .cons rfl .nil).append .nil)) q3
/-- o.m(e, .., k = v, ..) -/
theorem pg_methK {pl : Sem Bool} {m : Str} {ta : TE} {t tk : TA} {kws : List Keyword} {ks : List Str} (gd : X.A.guards = some []) (he : PE X eo ta) (ha : PA X (e :: es) t) (hkw : PK X kws tk)
    (hall : (backToKw cpos (keywordEach kws X.env)).all (·.1.isSome) = true := by rfl) (hks : (backToKw cpos (keywordEach kws X.env)).filterMap (·.1) = ks := by rfl)
    (hst : starEach (e :: es) X.env = (false, eval e X.env) :: starEach es X.env := by rfl)
    (hpl : ((backTo cpos (starEach (e :: es) X.env)).any (·.1) || (backToKw cpos (keywordEach kws X.env)).any (·.1.isNone)) = false := by rfl)
    (ht : eval (.Call (.Attribute eo m apos) (e :: es) kws cpos) X.env = (do
      let ov ← eval eo X.env
      standAt apos.atName
      let (f, first) ← holding [ov] (getMethod ov m pl)
      callWith cpos f first (backTo cpos (starEach (e :: es) X.env)) (backToKw cpos (keywordEach kws X.env))) := by rfl) :
    PE X (.Call (.Attribute eo m apos) (e :: es) kws cpos) (tM X G m (e :: es).length ks ta t tk) := by
  refine ⟨fun pins s σ H Q I h => ?_⟩
  refine PySem.W.methodCall_KW (pl := pl) (thn (he.run pins s σ H _ I h) fun u s1 ⟨x, H1, I1, rx, a, C, dx, fs, g, fd, ps, sp, k, gu, gv, ex, ea, c, hm, l, Fn, hr, hb, hv, q⟩ => ?_) ht
  subst ex
  obtain rfl : u = Value.ref a := rx
  refine getmeth_ok I1 ea c hm l ?_
  refine PySem.W.callWith_KW (first := [.ref a]) (h₀ := X.base) I.ok.mod.kin hm.kp hall (thn (ha.run cpos pins s1 σ H1 _ I1 q) fun us s2 ⟨vs, H2, I2, r, q2⟩ => ?_) hpl hst
  refine thn (hkw.run cpos pins s2 σ H2 _ I2 q2) fun ws s3 ⟨zs, H3, I3, rz, l1, l2, q3⟩ => ⟨I3.kIn, ?_⟩
  rw [hks]
  have hbb := hb s3 (.ref a :: us) ws I3.kIn (by rw [List.length_cons, ← r.length, l1]) (by rw [← rz.length, l2])
  exact FnG.goK Fn gd hr hbb I3 (hv _ _ ((show Vals (V.ref a :: vs) (Value.ref a :: us) from .cons rfl r).append rz)) q3
end
end Rs
end
section
set_option maxRecDepth 100000
set_option maxHeartbeats 4000000
/-! isinstance of built-in types. -/
namespace Rs
open PySem PySem.Spec PyProof.Rows L2
def kName : Nat → String
  | 0 => "NoneType" | 1 => "bool" | 2 => "int" | 3 => "str" | 4 => "list" | 5 => "tuple" | _ => "dict"
/-- the built-in that asks for a type -/
def isiT : Bi → Option String
  | .isInt => some "int" | .isBool => some "bool" | .isStr => some "str" | .isTup => some "tuple" | .isLst => some "list" | .isDct => some "dict"
  | _ => none
section
variable {G : Gl} {C : Cf}
theorem kind_ty {x : Val} {v : V} (h : NR G C x v) (k : kindV x < 7) : TyX G.K C.H v (.type (kName (kindV x))) := by
  cases x with
  | non => cases h.non; exact .base .non
  | bl b => cases h.bl; exact .base (.bl b)
  | int i => cases h.int; exact .base (.int i)
  | str s => cases h.str; exact .base (.str s)
  | lst xs => obtain ⟨p, ys, rfl, hp, _⟩ := h; exact .base (.lst hp)
  | tup xs =>
    unfold NR VR at h
    obtain ⟨p, ys, rfl, hp, _⟩ := h
    rcases hp with hp | hp
    · exact .base (.tup hp.2)
    · obtain ⟨o, its, n, h1, h2, _⟩ := hp
      exact .kTuple h1 h2
  | dct kvs =>
    obtain ⟨p, ks, rfl, hp, _⟩ := h
    rcases hp with hp | ⟨b, hp⟩
    · exact .base (.dK hp)
    · exact .fDict hp
  | ref i => exact absurd (show 7 < 7 from k) (by decide)
  | scr ns =>
    obtain ⟨p, rfl, hp⟩ := h.scr
    rcases hp with hp | hp
    · rcases hp with hp | ⟨b, hp⟩
      · exact .base (.lst hp)
      · exact .base (.frz hp)
    · obtain ⟨o, its, n, h1, h2, _⟩ := hp
      exact .kList h1 h2
  | bad => exact absurd (show 8 < 7 from k) (by decide)
theorem kit_bi {f : Bi} {T : String} (e : isiT f = some T) {x : Val} {r : Rv} (h : biop f [x] = some r) (K : PySem.W.Frag) : kindV x < 7 ∧ ∃ b, r = .v (.bl b) ∧ PySem.W.kitOne K (.type (kName (kindV x))) (.type T) = some b := by
  have hk : ∀ (p : Nat → Bool), ((if 7 ≤ kindV x then none else some (p (kindV x))) : Option Bool).map (fun b => Rv.v (.bl b)) = some r → kindV x < 7 ∧ r = .v (.bl (p (kindV x))) := fun p h => by
    by_cases q : 7 ≤ kindV x
    · rw [if_pos q] at h; cases h
    · rw [if_neg q] at h; cases h; exact ⟨by omega, rfl⟩
  cases f with
  | isInt => cases e; obtain ⟨h1, h2⟩ := hk (fun n => n == 1 || n == 2) h; exact ⟨h1, _, h2, by cases x <;> first | (exfalso; simp [kindV] at h1; done) | kernel_rfl⟩
  | isBool => cases e; obtain ⟨h1, h2⟩ := hk (fun n => n == 1) h; exact ⟨h1, _, h2, by cases x <;> first | (exfalso; simp [kindV] at h1; done) | kernel_rfl⟩
  | isStr => cases e; obtain ⟨h1, h2⟩ := hk (fun n => n == 3) h; exact ⟨h1, _, h2, by cases x <;> first | (exfalso; simp [kindV] at h1; done) | kernel_rfl⟩
  | isLst => cases e; obtain ⟨h1, h2⟩ := hk (fun n => n == 4) h; exact ⟨h1, _, h2, by cases x <;> first | (exfalso; simp [kindV] at h1; done) | kernel_rfl⟩
  | isTup => cases e; obtain ⟨h1, h2⟩ := hk (fun n => n == 5) h; exact ⟨h1, _, h2, by cases x <;> first | (exfalso; simp [kindV] at h1; done) | kernel_rfl⟩
  | isDct => cases e; obtain ⟨h1, h2⟩ := hk (fun n => n == 6) h; exact ⟨h1, _, h2, by cases x <;> first | (exfalso; simp [kindV] at h1; done) | kernel_rfl⟩
  | _ => cases e
end
section
variable {G : Gl} {T : Tab} {F : Call} {k : Nat} {X : Cx} {e : Expr} {p p2 pos : Pos} {a : IE} {tn : Str} {tT : String}
theorem se_isi (ox : XO G k X) {f : Bi} (hT : isiT f = some tT) (hg : L2.Gl X "isinstance") (hm : X.mg "isinstance" = none) (hg2 : L2.Gl X tn) (hm2 : X.mg tn = none) (hv2 : bootBuiltins tn = some (.type tT)) (ha : PE X e (EE G T F a))
    (hn : tn ≠ "__name__" := by decide) (hdb : (tn == ("__debug__" : Str)) = false := by decide) (hs : starEach [e, .Name tn p2] X.env = (false, eval e X.env) :: starEach [.Name tn p2] X.env := by rfl) (hs2 : starEach [.Name tn p2] X.env = (false, eval (.Name tn p2) X.env) :: starEach [] X.env := by rfl)
    (hpl : (backTo pos (starEach [.Name tn p2] X.env)).any (·.1) = false := by rfl) :
    PE X (.Call (.Name "isinstance" p) [e, .Name tn p2] [] pos) (EE G T F (.bi f [a])) := by
  refine PE.weak (pe_callB call_isi hg hm (by decide +kernel) (pa_cons ha (pa_cons (pe_bltn hg2 hm2 hv2 (show RelV (.ty tT) (.type tT) from rfl) hn hdb) pa_nil hs2) hs) (by decide) (by decide) hs hpl) fun σ H Q ⟨C, s, x, s', hH, rl, ev, kk⟩ => ?_
  unfold evalE at ev
  obtain ⟨os, s1, e1, ev2⟩ := bind_ok ev
  clear ev
  unfold evalOs at e1
  obtain ⟨y, s2, e2, e3⟩ := bind_ok e1
  obtain ⟨ys, s3, e4, e5⟩ := bind_ok e3
  unfold evalOs at e4
  cases e4
  cases e5
  split at ev2
  · rename_i hb
    obtain ⟨ev3, hs⟩ := opt_ok ev2
    subst hs
    show EE G T F a σ H fun x H1 => rIsi X.K [x, .ty tT] H1 Q
    refine EE_of_op hH rl e2 fun C1 v l1 r1 o1 => ?_
    have hb1 : deref s' (opnd y) ≠ .bad := fun z => by rw [List.map_cons, List.map_nil, List.all_cons, z] at hb; cases hb
    have hx := deref_ok r1 o1 hb1
    obtain ⟨h1, b, rfl, h2⟩ := kit_bi hT ev3 X.K
    refine ⟨v, .ty tT, _, _, b, rfl, .ty tT, by rw [ox.K]; exact kind_ty hx h1, h2, ?_⟩
    exact kk C1 (.bl b) l1 r1 (show VR G C1 (.bl b) (.bl b) from VR.bl)
  · cases ev2
end
end Rs
end
section
set_option maxRecDepth 100000
set_option maxHeartbeats 4000000
/-! Methods of the text's classes; new instances. -/
namespace Rs
open PySem PySem.Spec PyProof.Rows L2
/-- how a method is bound: itself, n values by place, keywords ks -/
structure BdM (G : Gl) (fd : FuncData) (ps : List Str) (np n : Nat) (ks : List Str) (pm : List (Nat ⊕ Val)) : Prop where
  ex : ∃ (gu : List Value → List Value) (gv : List V → List V),
    (∀ (s : Shared) (us ws : List Value), G.K.In s.heap → us.length = n + 1 → ws.length = ks.length → BindsTo s fd ⟨us, ks.zip ws⟩ (ps.zip (gu (us ++ ws)))) ∧
    (∀ (vs : List V) (us : List Value), Vals vs us → Vals (gv vs) (gu us)) ∧
    ∀ (C : Cf) (x : Val) (v : V) (xs : List Val) (vs : List V), xs.length = n + ks.length → VR G C x v → VRs G C xs vs → VRs G C (x :: permV xs pm) (gv (v :: vs)) ∧ (x :: permV xs pm).length = np
theorem BdM.plain {G : Gl} {fd : FuncData} {ps : List Str} {n : Nat} (h : Binds G.K fd ps []) (hn : ps.length = n + 1) : BdM G fd ps (n + 1) n [] [] where
  ex := ⟨id, id, fun s us ws hK l1 l2 => by
    have : ws = [] := List.length_eq_zero_iff.mp l2
    subst this
    have := h s us hK (by rw [List.append_nil, l1, hn])
    simpa using this, fun vs us r => r, fun C x v xs vs l hx r => ⟨VRs.cons hx r, by show xs.length + 1 = n + 1; rw [l]; rfl⟩⟩
/-- what the classes have of a method's name, as it is called -/
structure HaveM (G : Gl) (T : Tab) (F : Call) (P : Program) (w : World) (mg : Str → Option Value) (base : Heap) (k : Nat) (cs : List Nat) (m n : Nat) (ks : List Str) (pm : List (Nat ⊕ Val)) : Prop where
  ok : G.okf m
  at_ : ∀ c id, c ∈ cs → T.mth c m = some id → Cls G.K (G.ca c) ∧ ∃ g fd ps np, Meth G.K (G.ca c) (G.nm m) g ∧ FnG P w G.K mg base k g fd ps (spI G F id np) ∧ BdM G fd ps np n ks pm
section
variable {G : Gl} {T : Tab} {F : Call} {k : Nat} {X : Cx} {e eo : Expr} {es : List Expr} {pos apos cpos : Pos} {a o : IE} {as bs : List IE}
theorem evalVs_append : ∀ (as bs : List IE) (s : S) (vs : List Val) (s' : S), evalVs T F (as ++ bs) s = .ok vs s' → ∃ v1 v2 s1, evalVs T F as s = .ok v1 s1 ∧ evalVs T F bs s1 = .ok v2 s' ∧ vs = v1 ++ v2
  | [], bs, s, vs, s', h => ⟨[], vs, s, by unfold evalVs; rfl, h, rfl⟩
  | a :: as, bs, s, vs, s', h => by
    rw [List.cons_append] at h
    unfold evalVs at h
    obtain ⟨x, s1, e1, h2⟩ := bind_ok h
    obtain ⟨ys, s2, e2, h3⟩ := bind_ok h2
    cases h3
    obtain ⟨v1, v2, s3, g1, g2, rfl⟩ := evalVs_append as bs s1 ys _ e2
    refine ⟨x :: v1, v2, s3, ?_, g2, rfl⟩
    unfold evalVs
    rw [e1]
    show (R.bind (evalVs T F as s1) _) = _
    rw [g1]
theorem me_ok (ox : XO G k X) {cs : List Nat} {m n : Nat} {ks : List Str} {pm : List (Nat ⊕ Val)} {k' : Nat} (hv : HaveM G T F X.prog X.w X.mg X.base k' cs m n ks pm) (hk : k' ≤ k) (la : as.length = n) (lb : bs.length = ks.length) {σ : L2.St} {H : Hp} {Q : VK} (h : EE G T F (.me cs m o (as ++ bs) pm) σ H Q) :
    tM X G (G.nm m) n ks (EE G T F o) (tVs G (evalVs T F as)) (tVs G (evalVs T F bs)) σ H Q := by
  obtain ⟨C, s, r, s', hH, rl, ev, kk⟩ := h
  unfold evalE at ev
  obtain ⟨x, s1, e1, ev2⟩ := bind_ok ev
  clear ev
  cases q : insAt s1 x with
  | none => simp [q] at ev2
  | some t =>
    obtain ⟨n0, c, fs⟩ := t
    simp only [q] at ev2
    have hc : c ∈ cs := by
      by_cases hc : c ∈ cs
      · exact hc
      · rw [decide_eq_false hc] at ev2; cases ev2
    rw [decide_eq_true hc] at ev2
    cases q1 : fs.lookup m with
    | some _ => simp [q1] at ev2
    | none =>
      cases q2 : T.mth c m with
      | none => simp [q1, q2] at ev2
      | some id =>
        simp only [q1, q2] at ev2
        obtain ⟨vs, s2, e2, ev3⟩ := bind_ok ev2
        clear ev2
        obtain ⟨v1, v2, s3, g1, g2, rfl⟩ := evalVs_append _ _ _ _ _ e2
        cases q3 : F id (x :: permV (v1 ++ v2) pm) s2.h with
        | bad => rw [q3] at ev3; cases ev3
        | exc c v s => rw [q3] at ev3; cases ev3
        | ok res s4 =>
          rw [q3] at ev3
          simp only [R.back, R.ok.injEq] at ev3
          obtain ⟨rfl, rfl⟩ := ev3
          obtain ⟨cl, g, fd, ps, np, hm, Fn, ⟨gu, gv, b1, b2, b3⟩⟩ := hv.at_ c id hc q2
          unfold tM
          refine EE_of_val hH rl e1 fun C1 v l1 r1 h1 => ?_
          obtain ⟨p, dx, gs, rfl, hp1, hp2, rfl, hp, hg⟩ := ins_at r1 h1 q
          have w1 := Vs_len _ _ _ _ g1
          have w2 := Vs_len _ _ _ _ g2
          refine ⟨p, G.ca c, dx, gs, g, fd, ps, spI G F id np, k', gu, gv, rfl, hp, by rw [ox.K]; exact cl, by rw [ox.K]; exact hm, hg.none_ hv.ok q1, by rw [ox.K]; exact Fn, ox.room.mono hk, by rw [ox.K]; exact b1, b2, C1, s1, v1, s3, rfl, r1, g1, fun C2 zs l2 r2 h2 => ⟨C2, s3, v2, s2, rfl, r2, g2, fun C3 ws l3 r3 h3 => ⟨?_, ?_, ?_⟩⟩⟩
          · rw [← h2.length, w1, la]
          · rw [← h3.length, w2, lb]
          · have hall := b3 C3 (.ref n0) (.ref p) (v1 ++ v2) (zs ++ ws) (by rw [List.length_append, w1, w2, la, lb]) (h1.mono (l2.trans l3)) ((h2.mono l3).append h3)
            refine ⟨by rw [List.cons_append, ← hall.1.length, hall.2], C3.keep (Own s2 σ), .ref n0 :: permV (v1 ++ v2) pm, s2.h, res, s4, rfl, r3.enter, (show VRs G C3 _ _ from hall.1).mono0 lv_keep, q3, fun C4 v l4 r4 h4 => ?_⟩
            exact kk { C4 with rs := C3.rs } v (((l1.trans l2).trans l3).trans (le_back l4)) (r3.leave (e2 := []) (h2 := s4.h) (σ2 := []) l4 r4) (show VR G { C4 with rs := C3.rs } res v from h4.mono0 lv_rs)
theorem se_me (ox : XO G k X) {cs : List Nat} {m n : Nat} {mn : Str} {pl : Sem Bool} {k' : Nat} (hv : HaveM G T F X.prog X.w X.mg X.base k' cs m n [] []) (hk : k' ≤ k) (ho : PE X eo (EE G T F o)) (ha : PA X (e :: es) (tVs G (evalVs T F as))) (la : as.length = n := by rfl) (le : (e :: es).length = n := by rfl) (hnm : G.nm m = mn := by rfl)
    (hst : starEach (e :: es) X.env = (false, eval e X.env) :: starEach es X.env := by rfl) (hpl : (backTo cpos (starEach es X.env)).any (·.1) = false := by rfl)
    (ht : eval (.Call (.Attribute eo mn apos) (e :: es) [] cpos) X.env = (do
      let ov ← eval eo X.env
      standAt apos.atName
      let (f, first) ← holding [ov] (getMethod ov mn pl)
      callWith cpos f first (backTo cpos (starEach (e :: es) X.env)) (backToKw cpos (keywordEach [] X.env))) := by rfl) :
    PE X (.Call (.Attribute eo mn apos) (e :: es) [] cpos) (EE G T F (.me cs m o as [])) := by
  subst hnm
  subst le
  have hp := pg_meth (G := G) (X := X) (m := G.nm m) (pl := pl) ox.gd ho ha hst hpl ht
  refine PE.weak hp fun σ H Q h => ?_
  have h' := me_ok (bs := []) (ks := []) ox hv hk la rfl (by rw [List.append_nil]; exact h)
  obtain ⟨C, s, x, s', hH, rl, e1, kk⟩ := h'
  refine ⟨C, s, x, s', hH, rl, e1, fun C1 v l1 r1 q1 => ?_⟩
  obtain ⟨a, C0, dx, fs, g, fd, ps, sp, k0, gu, gv, h1, h2, h3, h4, h5, h6, h7, h8, h9, C2, s2, y, s3, hH2, rl2, e2, kk2⟩ := kk C1 v l1 r1 q1
  refine ⟨a, C0, dx, fs, g, fd, ps, sp, k0, gu, gv, h1, h2, h3, h4, h5, h6, h7, h8, h9, C2, s2, y, s3, hH2, rl2, e2, fun C3 w l3 r3 q3 => ?_⟩
  obtain ⟨C4, s4, z, s5, hH4, rl4, e4, kk4⟩ := kk2 C3 w l3 r3 q3
  unfold evalVs at e4
  cases e4
  have := kk4 C4 [] (.refl C4) rl4 VRs.nil
  rw [hH4] at this
  exact this
theorem se_me0 (ox : XO G k X) {cs : List Nat} {m : Nat} {mn : Str} {pl : Sem Bool} {k' : Nat} (hv : HaveM G T F X.prog X.w X.mg X.base k' cs m 0 [] []) (hk : k' ≤ k) (ho : PE X eo (EE G T F o)) (hnm : G.nm m = mn := by rfl)
    (ht : eval (.Call (.Attribute eo mn apos) [] [] cpos) X.env = (do
      let ov ← eval eo X.env
      standAt apos.atName
      let (f, first) ← holding [ov] (getMethod ov mn pl)
      callWith cpos f first (backTo cpos (starEach [] X.env)) (backToKw cpos (keywordEach [] X.env))) := by rfl) :
    PE X (.Call (.Attribute eo mn apos) [] [] cpos) (EE G T F (.me cs m o [] [])) := by
  subst hnm
  have hp := pg_meth0 (G := G) (X := X) (m := G.nm m) (pl := pl) ox.gd ho ht
  refine PE.weak hp fun σ H Q h => ?_
  have h' := me_ok (as := []) (bs := []) (ks := []) ox hv hk rfl rfl h
  obtain ⟨C, s, x, s', hH, rl, e1, kk⟩ := h'
  refine ⟨C, s, x, s', hH, rl, e1, fun C1 v l1 r1 q1 => ?_⟩
  obtain ⟨a, C0, dx, fs, g, fd, ps, sp, k0, gu, gv, h1, h2, h3, h4, h5, h6, h7, h8, h9, C2, s2, y, s3, hH2, rl2, e2, kk2⟩ := kk C1 v l1 r1 q1
  refine ⟨a, C0, dx, fs, g, fd, ps, sp, k0, gu, gv, h1, h2, h3, h4, h5, h6, h7, h8, h9, ?_⟩
  unfold evalVs at e2
  cases e2
  obtain ⟨C4, s4, z, s5, hH4, rl4, e4, kk4⟩ := kk2 C2 [] (.refl C2) rl2 VRs.nil
  unfold evalVs at e4
  cases e4
  have := kk4 C4 [] (.refl C4) rl4 VRs.nil
  rw [hH4, hH2] at this
  exact this
theorem se_meK (ox : XO G k X) {cs : List Nat} {m n : Nat} {mn : Str} {pl : Sem Bool} {k' : Nat} {kws : List Keyword} {ks : List Str} {pm : List (Nat ⊕ Val)} (hv : HaveM G T F X.prog X.w X.mg X.base k' cs m n ks pm) (hk : k' ≤ k) (ho : PE X eo (EE G T F o)) (ha : PA X (e :: es) (tVs G (evalVs T F as))) (hkw : PK X kws (tVs G (evalVs T F bs))) (la : as.length = n := by rfl) (lb : bs.length = ks.length := by rfl) (le : (e :: es).length = n := by rfl) (hnm : G.nm m = mn := by rfl)
    (hall : (backToKw cpos (keywordEach kws X.env)).all (·.1.isSome) = true := by rfl) (hks : (backToKw cpos (keywordEach kws X.env)).filterMap (·.1) = ks := by rfl)
    (hst : starEach (e :: es) X.env = (false, eval e X.env) :: starEach es X.env := by rfl)
    (hpl : ((backTo cpos (starEach (e :: es) X.env)).any (·.1) || (backToKw cpos (keywordEach kws X.env)).any (·.1.isNone)) = false := by rfl)
    (ht : eval (.Call (.Attribute eo mn apos) (e :: es) kws cpos) X.env = (do
      let ov ← eval eo X.env
      standAt apos.atName
      let (f, first) ← holding [ov] (getMethod ov mn pl)
      callWith cpos f first (backTo cpos (starEach (e :: es) X.env)) (backToKw cpos (keywordEach kws X.env))) := by rfl) :
    PE X (.Call (.Attribute eo mn apos) (e :: es) kws cpos) (EE G T F (.me cs m o (as ++ bs) pm)) := by
  subst hnm
  subst le
  exact PE.weak (pg_methK (G := G) (X := X) (m := G.nm m) (pl := pl) ox.gd ho ha hkw hall hks hst hpl ht) fun σ H Q h => me_ok ox hv hk la lb h
end
end Rs
end
section
set_option maxRecDepth 100000
set_option maxHeartbeats 4000000
/-! New instances; properties. -/
namespace Rs
open PySem PySem.Spec PyProof.Rows L2
/-- what a class has to be made -/
structure HaveN (G : Gl) (T : Tab) (F : Call) (P : Program) (w : World) (mg : Str → Option Value) (base : Heap) (k : Nat) (x : Str) (c n : Nat) (ks : List Str) (pm : List (Nat ⊕ Val)) : Prop where
  ex : ∃ f g fd ps np, T.ini c = some f ∧ mg x = some (.ref (G.ca c)) ∧ Mk G.K (G.ca c) g ∧ FnG P w G.K mg base k g fd ps (spI G F f np) ∧ BdM G fd ps np n ks pm
section
variable {G : Gl} {T : Tab} {F : Call} {k : Nat} {X : Cx} {e eo : Expr} {es : List Expr} {p pos apos cpos : Pos} {a o : IE} {as bs : List IE}
def tN (C : Addr) (sp : SpG) (gv : List V → List V) (n m : Nat) (t tk : TA) : TE := fun σ H Q => t σ H fun vs H1 => tk σ H1 fun zs H2 => vs.length = n ∧ zs.length = m ∧
  ∀ x dx, H2 x = none → H2 dx = none → dx ≠ x → sp (gv (.ref x :: vs ++ zs)) (upd (upd H2 dx (.own x)) x (.ins C dx [])) fun v H3 => v = .non ∧ Q (.ref x) H3
theorem run_new {C g : Addr} {fd : FuncData} {ps ks : List Str} {sp : SpG} {gu : List Value → List Value} {gv : List V → List V} {n k : Nat} {pins : List (Addr × Obj)} {σ : L2.St} {H : Hp} {s : Shared} {Q : VK} {us ws : List Value} {vs zs : List V} (M : Mk X.K C g) (Fn : FnG X.prog X.w X.K X.mg X.base k g fd ps sp) (gd : X.A.guards = some []) (hr : Room (k + 1) X.A)
    (hb : ∀ (s : Shared) (us ws : List Value), X.K.In s.heap → us.length = n + 1 → ws.length = ks.length → BindsTo s fd ⟨us, ks.zip ws⟩ (ps.zip (gu (us ++ ws)))) (hv : ∀ (vs : List V) (us : List Value), Vals vs us → Vals (gv vs) (gu us))
    (I : Inv X pins σ H s) (r : Vals vs us) (rz : Vals zs ws) (l1 : vs.length = n) (l2 : zs.length = ks.length)
    (h : ∀ x dx, H x = none → H dx = none → dx ≠ x → sp (gv (.ref x :: vs ++ zs)) (upd (upd H dx (.own x)) x (.ins C dx [])) fun v H3 => v = .non ∧ Q (.ref x) H3) :
    wpAny (model X.prog X.w) X.A (call (.ref C) us (ks.zip ws)) (EP X pins σ Q) X.xe s := by
  have hq := h (s.heap.objs.size + 1) s.heap.objs.size (I.hok.fresh (Nat.le_succ _)) (I.hok.fresh (Nat.le_refl _)) (Nat.ne_of_lt (Nat.lt_succ_self _))
  have I2 := Inv.made (C := C) I
  have r2 : Vals (V.ref (s.heap.objs.size + 1) :: vs ++ zs) (Value.ref (s.heap.objs.size + 1) :: us ++ ws) := (show Vals (V.ref (s.heap.objs.size + 1) :: vs) (Value.ref (s.heap.objs.size + 1) :: us) from .cons rfl r).append rz
  refine wpAny_call (make_map (f := g) I.kIn M.makes M.init (beq_iff_eq.mp M.fn) (codeAny_mono (Fn.run _ X.stack _ _ ⟨Value.ref (s.heap.objs.size + 1) :: us, ks.zip ws⟩ _ _ _ gd (hr.make C us (ks.zip ws))
    (I2.env0.make C us (ks.zip ws)) (hb _ (Value.ref (s.heap.objs.size + 1) :: us) ws I2.kIn (by rw [List.length_cons, ← r.length, l1]) (by rw [← rz.length, l2])) (hv _ _ r2) hq) fun r s' hq' => ?_))
  obtain ⟨u, rfl, hq'⟩ := hq'
  obtain ⟨v, H', I3, rv, ev, q3⟩ := I2.after hq'
  subst ev
  exact ⟨rv, ⟨V.ref (s.heap.objs.size + 1), H', I3, rfl, q3⟩⟩
theorem pg_new {x : Str} {C g : Addr} {fd : FuncData} {ps : List Str} {sp : SpG} {gu : List Value → List Value} {gv : List V → List V} {t : TA} (M : Mk X.K C g) (Fn : FnG X.prog X.w X.K X.mg X.base k g fd ps sp) (gd : X.A.guards = some []) (hr : Room (k + 1) X.A) (hg : L2.Gl X x) (hm : X.mg x = some (.ref C))
    (hb : ∀ (s : Shared) (us ws : List Value), X.K.In s.heap → us.length = (e :: es).length + 1 → ws.length = ([] : List Str).length → BindsTo s fd ⟨us, ([] : List Str).zip ws⟩ (ps.zip (gu (us ++ ws)))) (hv : ∀ (vs : List V) (us : List Value), Vals vs us → Vals (gv vs) (gu us))
    (ha : PA X (e :: es) t) (hdb : (x == ("__debug__" : Str)) = false := by decide) (he : starEach (e :: es) X.env = (false, eval e X.env) :: starEach es X.env := by rfl) (hpl : (backTo pos (starEach es X.env)).any (·.1) = false := by rfl) :
    PE X (.Call (.Name x p) (e :: es) [] pos) (tN C sp gv (e :: es).length 0 t tNil) := by
  refine ⟨fun pins s σ H Q I h => ?_⟩
  refine wpAny_Call_Name_kw (ld_glob I hg hm ?_ hdb)
  refine PySem.W.callWith_K (h₀ := X.base) I.ok.mod.kin M.kp (thn (ha.run pos pins s σ H _ I h) fun us s1 ⟨vs, H1, I1, r, q⟩ => ⟨I1.kIn, ?_⟩) he hpl
  obtain ⟨l1, l2, q2⟩ := q
  exact run_new (ks := []) (ws := []) M Fn gd hr hb hv I1 r .nil l1 l2 q2
theorem se_new (ox : XO G k X) {x : Str} {c n : Nat} {k' : Nat} (hv : HaveN G T F X.prog X.w X.mg X.base k' x c n [] []) (hk : k' + 1 ≤ k) (hg : L2.Gl X x) (ha : PA X (e :: es) (tVs G (evalVs T F as))) (la : as.length = n := by rfl) (le : (e :: es).length = n := by rfl)
    (hdb : (x == ("__debug__" : Str)) = false := by decide) (he : starEach (e :: es) X.env = (false, eval e X.env) :: starEach es X.env := by rfl) (hpl : (backTo pos (starEach es X.env)).any (·.1) = false := by rfl) :
    PE X (.Call (.Name x p) (e :: es) [] pos) (EE G T F (.new c as [])) := by
  subst le
  obtain ⟨f, g, fd, ps, np, hi, hm, M, Fn, ⟨gu, gv, b1, b2, b3⟩⟩ := hv.ex
  refine PE.weak (pg_new (gu := gu) (gv := gv) (sp := spI G F f np) (by rw [ox.K]; exact M) (by rw [ox.K]; exact Fn) ox.gd (ox.room.mono hk) hg hm (by rw [ox.K]; exact b1) b2 ha hdb he hpl) fun σ H Q ⟨C, s, r, s', hH, rl, ev, kk⟩ => ?_
  unfold evalE at ev
  obtain ⟨vs, s1, e1, ev2⟩ := bind_ok ev
  clear ev
  simp only [hi] at ev2
  cases q3 : F f (.ref s1.h.length :: permV vs []) (s1.h ++ [.ins c []]) with
  | bad => rw [q3] at ev2; cases ev2
  | exc c v s => rw [q3] at ev2; cases ev2
  | ok res s4 =>
    rw [q3] at ev2
    cases res with
    | non =>
      simp only [R.ok.injEq] at ev2
      obtain ⟨rfl, rfl⟩ := ev2
      have w1 := Vs_len _ _ _ _ e1
      refine ⟨C, s, vs, s1, hH, rl, e1, fun C1 zs l1 r1 h1 => ?_⟩
      refine ⟨by rw [← h1.length, w1, la], rfl, fun x dx hx hdx hne => ?_⟩
      have n1 : Le C1 (C1.new dx (.own x)) := .new hdx
      have rr1 := r1.new (o := .own x) hdx
      have hx2 : (C1.new dx (.own x)).H x = none := by show upd C1.H dx _ x = none; rw [upd_ne (fun z => hne z.symm)]; exact hx
      have n2 : Le (C1.new dx (.own x)) ((C1.new dx (.own x)).new x (.ins (G.ca c) dx [])) := .new hx2
      have rr2 := rr1.new (o := .ins (G.ca c) dx []) hx2
      have hcr : CR G ((C1.new dx (.own x)).new x (.ins (G.ca c) dx [])) (.ins c []) (((C1.new dx (.own x)).new x (.ins (G.ca c) dx [])).H x) := ⟨dx, [], upd_same, rfl⟩
      have fr0 : Rs.Fr (C1.new dx (.own x)) x := rr1.fresh hx2
      have fr : Rs.Fr ((C1.new dx (.own x)).new x (.ins (G.ca c) dx [])) x := ⟨fr0.fz, fr0.kp, fr0.ρ, fr0.rs⟩
      have own : ∀ (j : Nat) (c : Cell), s1.e[j]? = some (.own c) → σ[j]? ≠ some (some (.ref x)) := fun j c h z => own_tr rr1 h z hx2
      have rr3 := rr2.toHeap hcr fr own
      have n3 : Le ((C1.new dx (.own x)).new x (.ins (G.ca c) dx [])) (((C1.new dx (.own x)).new x (.ins (G.ca c) dx [])).cell x) := .cell
      generalize hC3 : (((C1.new dx (.own x)).new x (.ins (G.ca c) dx [])).cell x) = C3 at rr3 n3
      have hH3 : C3.H = upd (upd C1.H dx (.own x)) x (.ins (G.ca c) dx []) := by rw [← hC3]
      have hx3 : VR G C3 (.ref s1.h.length) (.ref x) := by
        unfold VR
        refine ⟨x, ?_, rfl⟩
        rw [← hC3]
        show (C1.ρ ++ [x])[s1.h.length]? = some x
        rw [r1.hlen]
        simp
      have lall := (n1.trans n2).trans n3
      have hall := b3 C3 (.ref s1.h.length) (.ref x) vs zs (by rw [w1, la]; rfl) hx3 (h1.mono lall)
      show spI G F f np (gv (.ref x :: zs ++ [])) _ _
      rw [List.append_nil, ← hH3]
      refine ⟨by rw [← hall.1.length, hall.2], C3.keep (Own { s1 with h := s1.h ++ [.ins c []] } σ), _, s1.h ++ [.ins c []], .non, s4, rfl, rr3.enter, hall.1.mono0 lv_keep, q3, fun C4 v l4 r4 h4 => ?_⟩
      unfold VR at h4
      refine ⟨h4, ?_⟩
      have l5 := le_back l4
      have hfin := rr3.leave (e2 := []) (h2 := s4.h) (σ2 := []) l4 r4
      exact kk { C4 with rs := C3.rs } (.ref x) ((l1.trans lall).trans l5) hfin (show VR G { C4 with rs := C3.rs } (.ref s1.h.length) (.ref x) from hx3.mono l5)
    | _ => simp at ev2
end
end Rs
end
section
set_option maxRecDepth 100000
set_option maxHeartbeats 4000000
/-! Properties. -/
namespace Rs
open PySem PySem.Spec PyProof.Rows L2
structure HaveP (G : Gl) (T : Tab) (F : Call) (P : Program) (w : World) (mg : Str → Option Value) (base : Heap) (k : Nat) (pn : Nat) : Prop where
  at_ : ∀ c id, T.prp c pn = some id → Cls G.K (G.ca c) ∧ ∃ pa g fd ps, PropOf G.K (G.ca c) (G.nm pn) pa g ∧ FnG P w G.K mg base k g fd ps (spI G F id 1) ∧ Binds G.K fd ps []
section
variable {G : Gl} {T : Tab} {F : Call} {k : Nat} {X : Cx} {e : Expr} {pos : Pos} {o : IE}
def tP1 (X : Cx) (f : Str) (ta : TE) : TE := fun σ H Q => ta σ H fun x H1 => ∃ (a C dx p g : Addr) (fs : List (Str × V)) (fd : FuncData) (ps : List Str) (sp : SpG) (k : Nat), x = .ref a ∧ H1 a = some (.ins C dx fs) ∧ Cls X.K C ∧ PropOf X.K C f p g ∧ FnG X.prog X.w X.K X.mg X.base k g fd ps sp ∧ Room (k + 1) X.A ∧ Binds X.K fd ps [] ∧ sp [.ref a] H1 Q
theorem pg_prop {f : Str} {ta : TE} (gd : X.A.guards = some []) (he : PE X e ta) (hab : attributeBase e f X.env (eval e X.env) = eval e X.env) : PE X (.Attribute e f pos) (tP1 X f ta) := by
  refine ⟨fun pins s σ H Q I h => ?_⟩
  refine attr_of hab (thn (he.run pins s σ H _ I h) fun u s1 ⟨x, H1, I0, rx, a, C, dx, p, g, fs, fd, ps, sp, k, ex, ea, c, hp, Fn, hr, hb, q⟩ => ?_)
  subst ex
  obtain rfl : u = Value.ref a := rx
  obtain ⟨mA, O, _, _, _, _⟩ := ins_get I0.hok ea
  obtain ⟨od, J, _⟩ := O.look
  obtain ⟨rest, hrec⟩ := hp.rec_
  have I1 := I0.tok (s1.toks + 1)
  have hl : ([Value.ref a] ++ ([] : List Value)).length = ps.length := by
    rw [← Fn.len _ _ _ q]
    rfl
  have hc : (PySem.W.clsIn X.K C).isSome = true := by
    obtain ⟨cd, hc, _⟩ := PySem.W.any_some c.hd
    rw [hc]
    rfl
  refine PySem.W.get_bind I0.kIn J (PySem.W.plainGet_of (c.get f)).1 (PySem.W.findObj_data hc hp.at_ hp.get hp.tak) (PySem.W.plainGet_of (c.get f)).2 (wpAny_call (PySem.W.prop_get (s := { s1 with toks := s1.toks + 1 }) I0.kIn hrec ?_))
  refine codeAny_mono (Fn.run X.A.in1 X.stack { s1 with toks := s1.toks + 1 } H1 ⟨[.ref a], []⟩ [.ref a] [.ref a] Q gd hr.in1 I1.env0.in1 (by simpa using hb { s1 with toks := s1.toks + 1 } [.ref a] I1.kIn hl) (.cons rfl .nil) q) fun r s' hq => ?_
  obtain ⟨u, rfl, hq⟩ := hq
  obtain ⟨v, H', I3, rv, q3⟩ := I1.after hq
  show wpAny _ _ (handedOut u) _ _ _
  rw [PySem.W.handedOut_of (handed_of rv)]
  exact wpAny_pure ⟨v, H', I3, rv, q3⟩
theorem se_prp (ox : XO G k X) {pn : Nat} {fn : Str} {k' : Nat} (hv : HaveP G T F X.prog X.w X.mg X.base k' pn) (hk : k' + 1 ≤ k) (ha : PE X e (EE G T F o)) (hf : G.nm pn = fn := by rfl) (hab : attributeBase e fn X.env (eval e X.env) = eval e X.env := by rfl) : PE X (.Attribute e fn pos) (EE G T F (.prp o pn)) := by
  subst hf
  refine PE.weak (pg_prop ox.gd ha hab) fun σ H Q ⟨C, s, r, s', hH, rl, ev, kk⟩ => ?_
  unfold evalE at ev
  obtain ⟨x, s1, e1, ev2⟩ := bind_ok ev
  clear ev
  cases q : insAt s1 x with
  | none => simp [q] at ev2
  | some t =>
    obtain ⟨n0, c, fs⟩ := t
    simp only [q] at ev2
    cases q2 : T.prp c pn with
    | none => simp [q2] at ev2
    | some id =>
      simp only [q2] at ev2
      cases q3 : F id [x] s1.h with
      | bad => rw [q3] at ev2; cases ev2
      | exc c v s => rw [q3] at ev2; cases ev2
      | ok res s4 =>
        rw [q3] at ev2
        simp only [R.back, R.ok.injEq] at ev2
        obtain ⟨rfl, rfl⟩ := ev2
        obtain ⟨cl, pa, g, fd, ps, hp0, Fn, hb⟩ := hv.at_ c id q2
        unfold tP1
        refine EE_of_val hH rl e1 fun C1 v l1 r1 h1 => ?_
        obtain ⟨p, dx, gs, rfl, hp1, hp2, rfl, hp, hg⟩ := ins_at r1 h1 q
        refine ⟨p, G.ca c, dx, pa, g, gs, fd, ps, spI G F id 1, k', rfl, hp, by rw [ox.K]; exact cl, by rw [ox.K]; exact hp0, by rw [ox.K]; exact Fn, ox.room.mono hk, by rw [ox.K]; exact hb, ?_⟩
        refine ⟨rfl, C1.keep (Own s1 σ), [.ref n0], s1.h, res, s4, rfl, r1.enter, (VRs.cons h1 VRs.nil).mono0 lv_keep, q3, fun C4 v l4 r4 h4 => ?_⟩
        exact kk { C4 with rs := C1.rs } v (l1.trans (le_back l4)) (r1.leave (e2 := []) (h2 := s4.h) (σ2 := []) l4 r4) (show VR G { C4 with rs := C1.rs } res v from h4.mono0 lv_rs)
end
end Rs
end
section
set_option maxRecDepth 100000
set_option maxHeartbeats 4000000
/-! x in o, len(o) of own classes. -/
namespace Rs
open PySem PySem.Spec PyProof.Rows L2
section
variable {prog : Program} {w : World} {A : Around} {K : PySem.W.Frag} {a C f : Addr} {ox : Obj} {od : Option Obj} {s : Shared} {E : Value → Shared → Prop}
theorem contains_own {x : Value} {Q : Bool → Shared → Prop} (X : K.In s.heap) (I : PySem.W.InstAt s.heap a ox C od) (hm : PySem.W.findIn K (.ref C) "__contains__" = some (some (.ref f))) (hf : PySem.W.typeIn K (.ref f) = some (.type "function"))
    (hc : wpAny (model prog w) A (call (.ref f) [.ref a, x]) (fun r s' => wpAny (model prog w) A (truthy r) Q E s') E s) : wpAny (model prog w) A (contains (.ref a) x) Q E s := by
  unfold contains
  refine wpAny_holding ?_
  rw [stdlibNamesSay?_ref]
  show wpAny _ _ (specialOf (.ref a) "__contains__" >>= _) _ _ s
  unfold specialOf
  refine wpAny_bind (wpAny_bind (I.type.here ((PySem.W.looks_findIn X hm).here ?_)))
  show wpAny _ _ (if (some (Value.ref f) == some Value.none) = true then _ else _) _ _ _
  rw [if_neg (by simp)]
  refine wpAny_bind ?_
  unfold callSpecialUnlessNone? specialOf
  refine wpAny_bind (wpAny_bind (I.type.here ((PySem.W.looks_findIn X hm).here ?_)))
  refine wpAny_holding ?_
  refine wpAny_bind ((PySem.W.bind_fn X _ hf).here ?_)
  show wpAny _ _ (if (Value.ref f == Value.none) = true then _ else _) _ _ _
  rw [if_neg (by simp)]
  exact wpAny_bind (wpAny_mono hc (fun v s' z => wpAny_pure z) fun _ _ z => z)
theorem len_own {Q : Value → Shared → Prop} (X : K.In s.heap) (I : PySem.W.InstAt s.heap a ox C od) (hm : PySem.W.findIn K (.ref C) "__len__" = some (some (.ref f))) (hf : PySem.W.typeIn K (.ref f) = some (.type "function"))
    (hc : wpAny (model prog w) A (call (.ref f) [.ref a]) (fun r s' => ∃ (i : Int) (t : Tok), r = .int i t ∧ 0 ≤ i ∧ i < 2 ^ 63 ∧ ∀ t tk, Q (.int i t) { s' with toks := tk }) E s) :
    wpAny (model prog w) A (Builtin.«len» ⟨[.ref a], []⟩) (fun fin s' => ∃ r, fin = .done (.ret r) ∧ Q r s') E s := by
  unfold Builtin.«len»
  refine wpAny_bind (m := oneArg "len" _) (wpAny_pure ?_)
  refine wpAny_bind (m := callSpecial? (.ref a) (Str.ofString "__len__")) ?_
  unfold callSpecial? specialOf
  refine wpAny_bind (wpAny_bind (I.type.here ((PySem.W.looks_findIn X hm).here ?_)))
  refine wpAny_holding ?_
  refine wpAny_bind ((PySem.W.bind_fn X _ hf).here ?_)
  refine wpAny_bind (wpAny_mono hc (fun v s' z => wpAny_pure ?_) fun _ _ z => z)
  obtain ⟨i, t, rfl, h0, h1, h⟩ := z
  refine wpAny_bind (wpAny_holding (wpAny_pure ?_))
  refine wpAny_bind (wpAny_letGo ?_)
  show wpAny _ _ (if i < 0 then _ else _) _ _ _
  rw [if_neg (by omega)]
  show wpAny _ _ (if i ≥ 2 ^ 63 then _ else _) _ _ _
  rw [if_neg (by omega)]
  exact wpAny_bind (wpAny_mkInt (wpAny_pure ⟨_, rfl, h _ _⟩))
end
section
variable {G : Gl} {T : Tab} {F : Call} {k : Nat} {X : Cx} {e eo : Expr} {p pos : Pos} {a o : IE}
def inOp (ng : Bool) : CmpOp := if ng then .NotIn else .In
def rInO (X : Cx) (ng : Bool) : R2 := fun x y H Q => ∃ (a C dx g : Addr) (fs : List (Str × V)) (fd : FuncData) (ps : List Str) (sp : SpG) (k : Nat), y = .ref a ∧ H a = some (.ins C dx fs) ∧ Cls X.K C ∧ Meth X.K C "__contains__" g ∧ FnG X.prog X.w X.K X.mg X.base k g fd ps sp ∧ Room k X.A ∧ Binds X.K fd ps [] ∧
  ps.length = 2 ∧ sp [.ref a, x] H fun v H' => ∃ b, v = .bl b ∧ Q (.bl (b != ng)) H'
theorem op_inO (gd : X.A.guards = some []) (ng : Bool) : OpR X (compareOp (inOp ng)) (rInO X ng) := by
  intro pins s σ H x y v u Q I rx ry h
  obtain ⟨a, C, dx, g, fs, fd, ps, sp, k, rfl, ea, c, hm, Fn, hr, hb, hl, q⟩ := h
  obtain rfl : u = Value.ref a := ry
  obtain ⟨mA, O, _, _, _, _⟩ := ins_get I.hok ea
  obtain ⟨od, J, _⟩ := O.look
  have hcall := FnG.goK (X := X) (ks := []) (ws := []) (us := [.ref a, v]) (gus := [.ref a, v]) Fn gd hr (by simpa using hb s [.ref a, v] I.kIn (by rw [hl]; rfl)) I (show Vals [V.ref a, x] [Value.ref a, v] from .cons rfl (.cons rx .nil)) q
  have key : ∀ (Q' : Bool → Shared → Prop), (∀ (b : Bool) (s' : Shared) (H' : Hp), Inv X pins σ H' s' → Q (.bl (b != ng)) H' → Q' b s') → wpAny (model X.prog X.w) X.A (contains (.ref a) v) Q' X.xe s := fun Q' hq => by
    refine contains_own I.kIn J hm.at_ (beq_iff_eq.mp hm.fn) (wpAny_mono hcall (fun r s' z => ?_) fun _ _ z => z)
    obtain ⟨w, H', I', rw_, b, rfl, q'⟩ := z
    obtain rfl : r = Value.bool b := rw_
    exact wpAny_truthy_bool (hq b s' H' I' q')
  cases ng with
  | false =>
    show wpAny _ _ (do return Value.bool (← contains (.ref a) v)) _ _ s
    exact wpAny_bind (key _ fun b s' H' I' q' => wpAny_pure ⟨.bl (b != false), H', I', (by rw [show (b != false) = b by cases b <;> rfl]; exact rfl), q'⟩)
  | true =>
    show wpAny _ _ (do return Value.bool (!(← contains (.ref a) v))) _ _ s
    exact wpAny_bind (key _ fun b s' H' I' q' => wpAny_pure ⟨.bl (b != true), H', I', (by rw [show (b != true) = !b by cases b <;> rfl]; exact rfl), q'⟩)
/-- what a class has of a special method -/
structure HaveS (G : Gl) (T : Tab) (F : Call) (P : Program) (w : World) (mg : Str → Option Value) (base : Heap) (k : Nat) (m np : Nat) : Prop where
  at_ : ∀ c id, T.mth c m = some id → Cls G.K (G.ca c) ∧ ∃ g fd ps, ps.length = np ∧ Meth G.K (G.ca c) (G.nm m) g ∧ FnG P w G.K mg base k g fd ps (spI G F id np) ∧ Binds G.K fd ps []
theorem inO_core (ox : XO G k X) {m : Nat} {k' : Nat} (ng : Bool) (hv : HaveS G T F X.prog X.w X.mg X.base k' m 2) (hk : k' ≤ k) (hnm : G.nm m = "__contains__") {σ : L2.St} {H : Hp} {Q : VK} (h : EE G T F (.inown ng m a o) σ H Q) : tOp (rInO X ng) (EE G T F a) (EE G T F o) σ H Q := by
  obtain ⟨C, s, r, s', hH, rl, ev, kk⟩ := h
  unfold evalE at ev
  obtain ⟨x, s1, e1, ev2⟩ := bind_ok ev
  obtain ⟨y, s2, e2, ev3⟩ := bind_ok ev2
  clear ev ev2
  cases q : insAt s2 y with
  | none => simp [q] at ev3
  | some t =>
    obtain ⟨n0, c, fs⟩ := t
    simp only [q] at ev3
    cases q2 : T.mth c m with
    | none => simp [q2] at ev3
    | some id =>
      simp only [q2] at ev3
      cases q3 : F id [y, x] s2.h with
      | bad => rw [q3] at ev3; cases ev3
      | exc c v s => rw [q3] at ev3; cases ev3
      | ok res s4 =>
        rw [q3] at ev3
        simp only [R.back] at ev3
        cases res with
        | bl b =>
          simp only [R.ok.injEq] at ev3
          obtain ⟨rfl, rfl⟩ := ev3
          obtain ⟨cl, g, fd, ps, hl, hm, Fn, hb⟩ := hv.at_ c id q2
          show EE G T F a σ H fun x H1 => EE G T F o σ H1 fun y H2 => rInO X ng x y H2 Q
          refine EE_of_val hH rl e1 fun C1 v l1 r1 h1 => EE_of_val rfl r1 e2 fun C2 w l2 r2 h2 => ?_
          obtain ⟨p, dx, gs, rfl, hp1, hp2, rfl, hp, hg⟩ := ins_at r2 h2 q
          refine ⟨p, G.ca c, dx, g, gs, fd, ps, spI G F id 2, k', rfl, hp, by rw [ox.K]; exact cl, by rw [ox.K, ← hnm]; exact hm, by rw [ox.K]; exact Fn, ox.room.mono hk, by rw [ox.K]; exact hb, hl, ?_⟩
          refine ⟨rfl, C2.keep (Own s2 σ), [.ref n0, x], s2.h, .bl b, s4, rfl, r2.enter, (VRs.cons h2 (VRs.cons (h1.mono l2) VRs.nil)).mono0 lv_keep, q3, fun C4 v l4 r4 h4 => ?_⟩
          unfold VR at h4
          subst h4
          exact ⟨b, rfl, kk { C4 with rs := C2.rs } _ ((l1.trans l2).trans (le_back l4)) (r2.leave (e2 := []) (h2 := s4.h) (σ2 := []) l4 r4) (show VR G { C4 with rs := C2.rs } (.bl (b != ng)) (.bl (b != ng)) from VR.bl)⟩
        | _ => simp at ev3
theorem se_inO (ox : XO G k X) {m : Nat} {k' : Nat} (ng : Bool) (hv : HaveS G T F X.prog X.w X.mg X.base k' m 2) (hk : k' ≤ k) (ha : PE X e (EE G T F a)) (ho : PE X eo (EE G T F o)) (hnm : G.nm m = "__contains__" := by rfl) (hm : behindInMarks (inOp ng) eo = false := by first | exact nomark _ | rfl) :
    PE X (.Compare e [inOp ng] [eo] pos) (EE G T F (.inown ng m a o)) := PE.weak (pe_cmpR (op_inO ox.gd ng) ha ho hm) fun σ H Q h => inO_core ox ng hv hk hnm h
theorem st_inO (ox : XO G k X) {m : Nat} {k' : Nat} (ng : Bool) (hv : HaveS G T F X.prog X.w X.mg X.base k' m 2) (hk : k' ≤ k) (ha : PE X e (EE G T F a)) (ho : PE X eo (EE G T F o)) (hnm : G.nm m = "__contains__" := by rfl) (hm : behindInMarks (inOp ng) eo = false := by first | exact nomark _ | rfl) :
    PT X (.Compare e [inOp ng] [eo] pos) (EB G T F (.inown ng m a o)) := by
  refine PT.weak (pt_cmpR (op_inO ox.gd ng) ha ho hm) fun σ H Q ⟨C, s, b, s', hH, rl, ev, kk⟩ => ?_
  unfold evalB at ev
  obtain ⟨z, s3, e1, e2⟩ := bind_ok ev
  obtain ⟨z', e3, ez⟩ := val_ok e1
  obtain ⟨e4, hs⟩ := opt_ok e2
  subst hs
  refine inO_core (Q := fun x H' => ∃ k, x = .bl k ∧ Q k H') ox ng hv hk hnm ⟨C, s, z', _, hH, rl, e3, fun C1 v l1 r1 h1 => ?_⟩
  obtain ⟨C2, l2, h2, r2, v2⟩ := freeze_ok r1 h1 ez
  cases z with
  | bl b =>
    cases e4
    unfold VR at v2
    rw [← h2]
    exact ⟨_, v2, kk C2 (l1.trans l2) r2⟩
  | _ => cases e4
def rLenO (X : Cx) : List V → Hp → VK → Prop := fun xs H Q => ∃ (a C dx g : Addr) (fs : List (Str × V)) (fd : FuncData) (ps : List Str) (sp : SpG) (k : Nat), xs = [.ref a] ∧ H a = some (.ins C dx fs) ∧ Cls X.K C ∧ Meth X.K C "__len__" g ∧ FnG X.prog X.w X.K X.mg X.base k g fd ps sp ∧ Room (k + 1) X.A ∧ Binds X.K fd ps [] ∧
  ps.length = 1 ∧ sp [.ref a] H fun v H' => ∃ i : Int, v = .int i ∧ 0 ≤ i ∧ i < 2 ^ 63 ∧ Q (.int i) H'
theorem call_lenO (gd : X.A.guards = some []) : CallR X (.builtin "len") (rLenO X) := by
  intro pins s σ H xs us Q I r h
  obtain ⟨a, C, dx, g, fs, fd, ps, sp, k, rfl, ea, c, hm, Fn, hr, hb, hl, q⟩ := h
  obtain ⟨u, rfl, rx⟩ := vals1 r
  obtain rfl : u = Value.ref a := rx
  obtain ⟨mA, O, _, _, _, _⟩ := ins_get I.hok ea
  obtain ⟨od, J, _⟩ := O.look
  refine Calls.call_function_entry kind_len plain_len entry_len (args_len1 _) (len_own I.kIn J hm.at_ (beq_iff_eq.mp hm.fn) (wpAny_call (codeAny_mono (Fn.run X.A.in1 X.stack s H ⟨[.ref a], []⟩ [.ref a] [.ref a] _ gd hr.in1 I.env0.in1 (by simpa using hb s [.ref a] I.kIn (by rw [hl]; rfl)) (show Vals [V.ref a] [Value.ref a] from .cons rfl .nil) q) fun r s' hq => ?_)))
  obtain ⟨w, rfl, hq⟩ := hq
  obtain ⟨v, H', I3, rv, i, rfl, h0, h1, q3⟩ := I.after hq
  obtain ⟨t, rfl⟩ := (show ∃ t, w = Value.int i t from rv)
  exact ⟨i, t, rfl, h0, h1, fun t' tk => ⟨.int i, H', I3.tok _, ⟨t', rfl⟩, q3⟩⟩
theorem se_lenO (ox : XO G k X) {m : Nat} {k' : Nat} (hv : HaveS G T F X.prog X.w X.mg X.base k' m 1) (hk : k' + 1 ≤ k) (hg : L2.Gl X "len") (hmg : X.mg "len" = none) (ho : PE X eo (EE G T F o)) (hnm : G.nm m = "__len__" := by rfl)
    (hs : starEach [eo] X.env = (false, eval eo X.env) :: starEach [] X.env := by rfl) (hpl : (backTo pos (starEach [] X.env)).any (·.1) = false := by rfl) :
    PE X (.Call (.Name "len" p) [eo] [] pos) (EE G T F (.lenown m o)) := by
  refine PE.weak (pe_callB (call_lenO ox.gd) hg hmg (by decide +kernel) (pa_cons ho pa_nil hs) (by decide) (by decide) hs hpl) fun σ H Q ⟨C, s, r, s', hH, rl, ev, kk⟩ => ?_
  unfold evalE at ev
  obtain ⟨y, s2, e2, ev3⟩ := bind_ok ev
  clear ev
  cases q : insAt s2 y with
  | none => simp [q] at ev3
  | some t =>
    obtain ⟨n0, c, fs⟩ := t
    simp only [q] at ev3
    cases q2 : T.mth c m with
    | none => simp [q2] at ev3
    | some id =>
      simp only [q2] at ev3
      cases q3 : F id [y] s2.h with
      | bad => rw [q3] at ev3; cases ev3
      | exc c v s => rw [q3] at ev3; cases ev3
      | ok res s4 =>
        rw [q3] at ev3
        simp only [R.back] at ev3
        cases res with
        | int i =>
          simp only at ev3
          split at ev3
          · rename_i hi
            simp only [R.ok.injEq] at ev3
            obtain ⟨rfl, rfl⟩ := ev3
            obtain ⟨h0, h1⟩ := Bool.and_eq_true_iff.mp hi
            have h0 := of_decide_eq_true h0
            have h1 := of_decide_eq_true h1
            obtain ⟨cl, g, fd, ps, hl, hm, Fn, hb⟩ := hv.at_ c id q2
            show EE G T F o σ H fun y H2 => rLenO X [y] H2 Q
            refine EE_of_val hH rl e2 fun C2 w l2 r2 h2 => ?_
            obtain ⟨p, dx, gs, rfl, hp1, hp2, rfl, hp, hg⟩ := ins_at r2 h2 q
            refine ⟨p, G.ca c, dx, g, gs, fd, ps, spI G F id 1, k', rfl, hp, by rw [ox.K]; exact cl, by rw [ox.K, ← hnm]; exact hm, by rw [ox.K]; exact Fn, ox.room.mono hk, by rw [ox.K]; exact hb, hl, ?_⟩
            refine ⟨rfl, C2.keep (Own s2 σ), [.ref n0], s2.h, .int i, s4, rfl, r2.enter, (VRs.cons h2 VRs.nil).mono0 lv_keep, q3, fun C4 v l4 r4 h4 => ?_⟩
            unfold VR at h4
            subst h4
            exact ⟨i, rfl, h0, h1, kk { C4 with rs := C2.rs } _ (l2.trans (le_back l4)) (r2.leave (e2 := []) (h2 := s4.h) (σ2 := []) l4 r4) (show VR G { C4 with rs := C2.rs } (.int i) (.int i) from VR.int)⟩
          · cases ev3
        | _ => simp at ev3
end
end Rs
end
section
set_option maxRecDepth 100000
set_option maxHeartbeats 4000000
/-! Three names at once; list.insert; list(d.items()). -/
namespace Rs
open PySem PySem.Spec PyProof.Rows L2
section
variable {G : Gl} {T : Tab} {F : Call} {k : Nat} {X : Cx} {ea eb ec : Expr} {pos pt px py pz : Pos} {a b c : IE} {x y z : Str}
/-- a value that waits while something else runs -/
theorem hold {C1 : Cf} {s1 : S} {σ : L2.St} {x : Rv} {v : V} (r1 : Rel G C1 s1 σ) (h1 : RvR G C1 s1 σ x v) (nx : ∀ l, x ≠ .sl l) : ∃ C1', C1'.H = C1.H ∧ Rel G C1' s1 σ ∧ ∀ (C2 : Cf) (s2 : S), Le C1' C2 → Rel G C2 s2 σ →
    ∃ C2', C2'.H = C2.H ∧ Le C1 C2' ∧ Rel G C2' s2 σ ∧ RvR G C2' s2 σ x v ∧ ∀ (y : Rv) (w : V), (∀ l, y ≠ .sl l) → RvR G C2 s2 σ y w → RvR G C2' s2 σ y w ∧ ((∃ c, x = .f c) → notAt y w v) := by
  cases x with
  | sl l => exact absurd rfl (nx l)
  | v x =>
    refine ⟨C1, rfl, r1, fun C2 s2 l2 r2 => ⟨C2, rfl, l2, r2, VR.mono l2 h1, fun y w _ h => ⟨h, fun ⟨c, z⟩ => by cases z⟩⟩⟩
  | f c =>
    obtain ⟨p, rfl, a, f, un, d⟩ := h1
    refine ⟨C1.keep (· = p), rfl, r1.keepOne f a.tr d, fun C2 s2 l2 r2 => ?_⟩
    have kp : C2.rs p := by rw [l2.rs]; exact .inr rfl
    have r3 : Rel G { C2 with rs := C1.rs } s2 σ := r2.unkeep fun q z => by rw [l2.rs]; exact .inl z
    refine ⟨{ C2 with rs := C1.rs }, rfl, le_back l2, r3, ⟨p, rfl, ?_, ⟨fun z => r2.fzkp p z (.inr kp), fun z => f.kp (by rw [show C2.kp = C1.kp from l2.kp] at z; exact z), fun z => ?_, f.rs⟩, un, fun m c' h' z => ?_⟩, fun y w ny h2 => ⟨?_, ?_⟩⟩
    · cases q : C1.H p with
      | none => exact absurd q a.tr
      | some o =>
        show CR G _ c (C2.H p)
        rw [l2.hk p (.inr (.inr rfl)) o q, ← q]
        exact a.mono (le_back l2)
    · obtain ⟨n, hn, e3⟩ := List.getElem_of_mem (show p ∈ C2.ρ from z)
      have h1 : n < s2.h.length := by rw [r2.hlen]; exact hn
      exact (r2.cell n _ p (List.getElem?_eq_getElem h1) (by rw [List.getElem?_eq_getElem hn, e3])).2.2.2 kp
    · obtain ⟨q, a', _, _, _, g⟩ := r2.own m c' h'
      rw [z] at a'
      cases a'
      exact g.2 kp
    · cases y with
      | sl l => exact absurd rfl (ny l)
      | v y => exact VR.mono0 lv_rs h2
      | f c2 =>
        obtain ⟨q, rfl, a2, f2, un2, d2⟩ := h2
        exact ⟨q, rfl, a2.mono0 lv_rs, ⟨f2.fz, f2.kp, f2.ρ, fun z => f2.rs (by rw [l2.rs]; exact .inl z)⟩, un2, d2⟩
    · intro _
      cases y with
      | sl l => exact absurd rfl (ny l)
      | v y => trivial
      | f c2 =>
        obtain ⟨q, rfl, a2, f2, un2, d2⟩ := h2
        intro z
        cases z
        exact f2.rs kp
theorem put1_ny {o : Bool} {y : Rv} {u : Slot} (q : put1 o y = some u) : ∀ l, y ≠ .sl l := fun l z => by subst z; cases o <;> cases q
theorem ss_par3 (ox : XO G k X) (i j l : Nat) (oi oj ol : Bool) {kt k2 : Nat} {pt2 : Pos} (ha : PE X ea (EE G T F a)) (hb : PE X eb (EE G T F b)) (hc : PE X ec (EE G T F c))
    (hw : swappedStores [.Tuple [.Name x px, .Name y py, .Name z pz] kt pt] (.Tuple [ea, eb, ec] k2 pt2) X.env = pure (some [x, y, z])) (hi : X.N[i]? = some x := by rfl) (hj : X.N[j]? = some y := by rfl) (hl : X.N[l]? = some z := by rfl) (hij : i ≠ j := by decide) (hil : i ≠ l := by decide) (hjl : j ≠ l := by decide)
    (hx : X.env.scope.names.lookup x = some .local := by rfl) (hy : X.env.scope.names.lookup y = some .local := by rfl) (hz : X.env.scope.names.lookup z = some .local := by rfl) (hs : swapsWithSole [.Tuple [.Name x px, .Name y py, .Name z pz] kt pt] (.Tuple [ea, eb, ec] k2 pt2) pos.line X.env = pure false := by rfl)
    (h1 : starEach [ea, eb, ec] X.env = (false, eval ea X.env) :: starEach [eb, ec] X.env := by rfl) (h2 : starEach [eb, ec] X.env = (false, eval eb X.env) :: starEach [ec] X.env := by rfl) (h3 : starEach [ec] X.env = (false, eval ec X.env) :: starEach [] X.env := by rfl) :
    PS X (.Assign [.Tuple [.Name x px, .Name y py, .Name z pz] kt pt] (.Tuple [ea, eb, ec] k2 pt2) pos) (SS G T F (.par3 i j l oi oj ol a b c)) :=
  PS.weak (ps_par3 ox.calm ox.nd hi hj hl hij hil hjl hx hy hz (pa_cons ha (pa_cons hb (pa_cons hc pa_nil h3) h2) h1) hw hs) fun D σ H ⟨C, s, fl, s', hH, rl, ev, kk⟩ => by
    unfold execS at ev
    obtain ⟨x, s1, e1, ev1⟩ := bind_ok ev
    obtain ⟨y, s2, e2, ev2⟩ := bind_ok ev1
    obtain ⟨z, s3, e3, ev3⟩ := bind_ok ev2
    clear ev ev1 ev2
    cases q1 : put1 oi x with
    | none => simp [q1] at ev3
    | some u =>
      cases q2 : put1 oj y with
      | none => simp [q1, q2] at ev3
      | some t =>
        cases q3 : put1 ol z with
        | none => simp [q1, q2, q3] at ev3
        | some g =>
          simp only [q1, q2, q3, R.ok.injEq] at ev3
          obtain ⟨rfl, rfl⟩ := ev3
          refine ⟨C, s, x, s1, hH, rl, e1, fun C1 v l1 r1 m1 => ?_⟩
          obtain ⟨K1, hK1, rK1, rel1⟩ := hold r1 m1 (put1_ny q1)
          refine ⟨K1, s1, y, s2, hK1, rK1, e2, fun C2 w l2 r2 m2 => ?_⟩
          obtain ⟨K2, hK2, rK2, rel2⟩ := hold r2 m2 (put1_ny q2)
          refine ⟨K2, s2, z, s3, hK2, rK2, e3, fun C3 o l3 r3 m3 => ?_⟩
          obtain ⟨D3, hD3, lD3, rD3, mD3, other2⟩ := rel2 C3 s3 l3 r3
          obtain ⟨E3, hE3, lE3, rE3, mE3, other1⟩ := rel1 D3 s3 (l2.trans lD3) rD3
          have z2 := other2 z o (put1_ny q3) m3
          have y1 := other1 y w (put1_ny q2) mD3
          have z1 := other1 z o (put1_ny q3) z2.1
          obtain ⟨C4, l4, e4, r4, k4⟩ := set1 rE3 i mE3 q1
          have yy := k4 y w y1.1 (put1_ny q2) y1.2
          have zz := k4 z o z1.1 (put1_ny q3) z1.2
          obtain ⟨C5, l5, e5, r5, k5⟩ := set1 r4 j yy q2
          have zz2 := k5 z o zz (put1_ny q3) z2.2
          obtain ⟨C6, l6, e6, r6, _⟩ := set1 r5 l zz2 q3
          refine ⟨v, w, o, rfl, ?_⟩
          have eH : C6.H = C3.H := by rw [e6, e5, e4, hE3, hD3]
          rw [← eH]
          exact kk C6 _ ((((l1.trans lE3).trans l4).trans l5).trans l6) r6
end
end Rs
end
section
set_option maxRecDepth 100000
set_option maxHeartbeats 4000000
/-! list.insert; list(d.items()). -/
namespace Rs
open PySem PySem.Spec PyProof.Rows L2
section
variable {G : Gl} {T : Tab} {F : Call} {k : Nat} {X : Cx} {e eo : Expr} {es : List Expr} {p pos apos cpos : Pos} {a : IE} {as : List IE}
def rIns : V → List V → Hp → VK → Prop := fun x vs H Q => ∃ (l : Addr) (xs : List V) (i : Int) (y : V), x = .ref l ∧ vs = [.int i, y] ∧ H l = some (.lst xs) ∧ xs.length < sizeLine ∧ 0 ≤ i ∧ i < 2 ^ 63 ∧
    Q .non (upd H l (.lst (xs.take i.toNat ++ [y] ++ xs.drop i.toNat)))
theorem mto_insert : MtOk G .insert rIns := by
  intro C s σ o v xs vs ret oc s' Q r h hv e p kk
  unfold mtop at e
  split at e
  all_goals try contradiction
  rename_i zs i y _ hd
  split at e
  · rename_i hl
    obtain ⟨l1, l2⟩ := Bool.and_eq_true_iff.mp hl
    obtain ⟨l2, l3⟩ := Bool.and_eq_true_iff.mp l2
    cases e
    obtain ⟨p, ys, rfl, hp, hr, k⟩ := loc_lst r h p hd
    unfold VRs at hv
    obtain ⟨w, t, rfl, hw, hv⟩ := hv
    unfold VRs at hv
    obtain ⟨w2, t, rfl, hw2, hv⟩ := hv
    unfold VRs at hv
    subst hv
    unfold VR at hw
    subst hw
    refine ⟨p, ys, i, w2, rfl, rfl, hp, by rw [← hr.length]; exact of_decide_eq_true l1, of_decide_eq_true l2, of_decide_eq_true l3, ?_⟩
    obtain ⟨l, r2⟩ := k (.lst (ys.take i.toNat ++ [w2] ++ ys.drop i.toNat)) ⟨_, rfl, ((hr.take _).append (VRs.cons hw2 VRs.nil)).append (hr.drop _)⟩
    exact kk _ _ l r2 (show VR G (C.put p (.lst (ys.take i.toNat ++ [w2] ++ ys.drop i.toNat))) .non .non from VR.non)
  · cases e
theorem se_insert (ha : PE X eo (EE G T F a)) (hs : PA X (e :: es) (tVs G (evalVs T F as))) (hb : attributeBase eo "insert" X.env (eval eo X.env) = eval eo X.env := by rfl)
    (hf : ((backTo cpos (starEach (e :: es) X.env)).all (fun x => !x.1) && (backToKw cpos (keywordEach [] X.env)).all (fun x => x.1.isSome) && decide ((e :: es).length + ([] : List Keyword).length + (if ([] : List Keyword).isEmpty then 0 else 1) < 30)) = true := by rfl)
    (hl : (apos.endLine == cpos.line) = true := by rfl) (h1 : starEach (e :: es) X.env = (false, eval e X.env) :: starEach es X.env := by rfl) (h2 : (backTo cpos (starEach es X.env)).any (·.1) = false := by rfl) :
    PE X (.Call (.Attribute eo "insert" apos) (e :: es) [] cpos) (EE G T F (.mt .insert a as)) :=
  PE.weak (pe_bm PySem.F.plainAttrs_list PySem.F.slot_list_insert PySem.F.type_list_insert mt_insert ha hs hb hf hl h1 h2) fun σ H Q h => mt_all mto_insert (fun C s σ o v r h1 h2 => by
    cases q : deref s o with
    | lst xs => exact ty_list r h1 q
    | _ => rw [q] at h2; cases h2) h

/-- list(e.items()), the dict walked or not -/
def rItm : V → Hp → VK → Prop := fun x H Q => ∃ (d : Addr) (kvs : List (Key × V)), x = .ref d ∧ Rd H d (.dK kvs) ∧
  ∀ (H' : Hp) (p : Addr) (ts : List Addr), (∀ b o, H b = some o → H' b = some o) → H p = none → (∀ t ∈ ts, H t = none) → p ∉ ts → H' p = some (.lst (ts.map V.ref)) → Paired (fun (t : Addr) (q : Key × V) => H' t = some (.tup [kV q.1, q.2])) ts kvs → Q (.ref p) H'
theorem pe_itm {te : TE} (hc : X.calm = true) (he : PE X e te) (hg : L2.Gl X "list") (hm : X.mg "list" = none) (hv : bootBuiltins "list" = some (.type "list")) (hbase : attributeBase e "items" X.env (eval e X.env) = eval e X.env) (hline : (apos.endLine == cpos.line) = true)
    (hs : starEach [.Call (.Attribute e "items" apos) [] [] cpos] X.env = (false, eval (.Call (.Attribute e "items" apos) [] [] cpos) X.env) :: starEach [] X.env) :
    PE X (.Call (.Name "list" p) [.Call (.Attribute e "items" apos) [] [] cpos] [] pos) (fun σ H Q => te σ H fun x H1 => rItm x H1 Q) := by
  constructor
  intro pins s σ H Q I hq
  apply wpAny_Call_Name_kw
  apply ld_blt I hg hm hv
  refine PyProof.Rows.callWith_type1 ?_ hs rfl
  rw [hs]
  show wpAny _ _ (spliced ((false, eval (.Call (.Attribute e "items" apos) [] [] cpos) X.env) :: backTo pos (starEach [] X.env))) _ _ s
  apply Calls.spliced_cons
  refine wpAny_Call_method (T := "dict") (id := "dict.items") hbase rfl hline F.plainAttrs_dict F.slot_dict_items F.type_dict_items (thn (he.run pins s σ H _ I hq) fun u t ⟨x, H1, J, rx, z⟩ => ?_)
  obtain ⟨d, kvs, rfl, hd, q⟩ := z
  obtain rfl : u = Value.ref d := rx
  obtain ⟨hz, hs0, vs, kv, hdo⟩ := Rd.ok hd J.hok
  obtain ⟨ep, hat⟩ := hdo.dictAt
  have J2 : Inv X pins σ H1 { t with heap := t.heap.push { cls := .type "dict_items", data := .fields #[.ref d] } } := J.kept (t' := t.toks) fun b ob q => Heap.get?_push_of_some _ q
  refine ⟨hdo.typeIs, hdo.mapOf.noDict, ?_⟩
  show wpAny _ _ (callWith cpos (.builtin "dict.items") [.ref d] [] []) _ X.xe t
  refine method_meetsIn F.slot_dict_items F.entry_dict_items rfl (PySem.evalArgs_none ⟨rfl, hdo.typeIs, F.args_dict_items_1 _, _, meets_dict_items (mixKind X.prog X.w) d hs0, ⟨vs, hdo⟩, Calls.spliced_nil ?_⟩)
  refine PySem.W.kdx_call (knd := mixKind X.prog X.w) (kvs := vs) (ep := ep) (J.ok.hd hc) ⟨_, Heap.get?_push_size _ rfl, rfl, rfl⟩ (hat.push _) (by have := Paired.length kv; omega) fun h' tk acc c as hk hS hl hG hacc => ?_
  obtain ⟨H', k1, k2, k3, k4, k5, k6, L⟩ := LiI.items_laid (tk := tk) J2 hz kv hk hS hl hG hacc
  exact ⟨.ref _, H', L, rfl, q H' _ as k1 k2 k3 k4 k5 k6⟩
theorem kV_key {C : Cf} (k : Key) : VR G C (vKey k) (kV k) := by
  cases k with
  | inl i => exact VR.int
  | inr x => exact VR.str
theorem items_vr {C C' : Cf} (l : Lv C C') : ∀ {ts : List Addr} {ks : List (Key × V)} {kvs : List (Key × Val)}, Paired (fun (t : Addr) (q : Key × V) => C'.H t = some (.tup [kV q.1, q.2])) ts ks → VRk G C kvs ks → (∀ t ∈ ts, C'.fz t) → VRs G C' (kvs.map fun kv => .tup [vKey kv.1, kv.2]) (ts.map V.ref)
  | _, _, [], p, h, f => by
    unfold VRk at h
    subst h
    cases p
    exact VRs.nil
  | _, _, (k, x) :: kvs, p, h, f => by
    unfold VRk at h
    obtain ⟨y, r, rfl, a, b⟩ := h
    cases p with
    | cons c t =>
      rename_i t0 ts0
      refine VRs.cons ?_ (items_vr l t b fun t h => f t (List.mem_cons_of_mem _ h))
      show VR G C' (.tup [vKey k, x]) (.ref t0)
      unfold VR
      exact ⟨t0, _, rfl, .inl ⟨f t0 List.mem_cons_self, c⟩, VRs.cons (kV_key k) (VRs.cons (a.mono0 l) VRs.nil)⟩
theorem se_litems (ox : XO G k X) (hg : L2.Gl X "list") (hm : X.mg "list" = none) (hv : bootBuiltins "list" = some (.type "list")) (ha : PE X e (EE G T F a)) (hbase : attributeBase e "items" X.env (eval e X.env) = eval e X.env := by rfl) (hline : (apos.endLine == cpos.line) = true := by rfl)
    (hs : starEach [.Call (.Attribute e "items" apos) [] [] cpos] X.env = (false, eval (.Call (.Attribute e "items" apos) [] [] cpos) X.env) :: starEach [] X.env := by rfl) :
    PE X (.Call (.Name "list" p) [.Call (.Attribute e "items" apos) [] [] cpos] [] pos) (EE G T F (.bi .litems [a])) := by
  refine PE.weak (pe_itm ox.calm ha hg hm hv hbase hline hs) fun σ H Q ⟨C, s, x, s', hH, rl, ev, kk⟩ => ?_
  unfold evalE at ev
  obtain ⟨os, s1, e1, ev2⟩ := bind_ok ev
  clear ev
  unfold evalOs at e1
  obtain ⟨y, s2, e2, e3⟩ := bind_ok e1
  obtain ⟨ys, s3, e4, e5⟩ := bind_ok e3
  unfold evalOs at e4
  cases e4
  cases e5
  split at ev2
  · rename_i hb
    obtain ⟨ev3, hs⟩ := opt_ok ev2
    subst hs
    refine EE_of_op hH rl e2 fun C1 v l1 r1 o1 => ?_
    have hb1 : deref s' (opnd y) ≠ .bad := fun z => by rw [List.map_cons, List.map_nil, List.all_cons, z] at hb; cases hb
    have hx := deref_ok r1 o1 hb1
    rw [List.map_cons, List.map_nil] at ev3
    unfold biop at ev3
    split at ev3
    all_goals try contradiction
    rename_i kvs hl
    have hl := (List.cons.inj hl).1
    cases ev3
    rw [hl] at hx
    obtain ⟨d, ks, rfl, hp, hr⟩ := hx
    refine ⟨d, ks, rfl, hp, fun H' p ts h1 h2 h3 h4 h5 h6 => ?_⟩
    have lv : Lv C1 ⟨C1.ρ, fun q => C1.fz q ∨ q ∈ ts, C1.kp, C1.rs, H'⟩ := ⟨List.prefix_rfl, fun q h => .inl h, fun q h => .of (h1 q)⟩
    have le : Le C1 ⟨C1.ρ, fun q => C1.fz q ∨ q ∈ ts, C1.kp, C1.rs, H'⟩ := .of rfl (fun q h => .inl h) rfl rfl fun q _ => h1 q
    have new : ∀ t ∈ ts, Fr C1 t ∧ H' t ≠ none := fun t ht => ⟨r1.fresh (h3 t ht), by
      obtain ⟨j, y, _, _, e3⟩ := LiI.paired_ix h6 ht
      rw [e3]
      simp⟩
    have same : ∀ q, C1.H q ≠ none → H' q = C1.H q := fun q h => by
      cases e : C1.H q with
      | none => exact absurd e h
      | some o => exact h1 q o e
    have r2 : Rel G ⟨C1.ρ, fun q => C1.fz q ∨ q ∈ ts, C1.kp, C1.rs, H'⟩ s' σ := r1.le le rfl (fun i c q a b => same q (by
      obtain ⟨q2, b2, c2, _⟩ := r1.own i c a
      rw [b] at b2
      cases b2
      exact c2.tr)) (fun q z => z.imp id fun z => ⟨(new q z).1, (new q z).2, fun i c a b => own_tr r1 a b (h3 q z)⟩) fun q z => same q (ρtr r1 z)
    have f := r1.fresh h2
    exact kk _ _ (l1.trans le) r2 ⟨p, rfl, ⟨_, h5, items_vr lv h6 hr fun t h => .inr h⟩, ⟨fun z => z.elim f.fz h4, f.kp, f.ρ, f.rs⟩, rfl, fun i c a b => own_tr r1 a b h2⟩
  · cases ev2
end
end Rs
end
section
set_option maxRecDepth 100000
set_option maxHeartbeats 4000000
/-! join and split. -/
namespace Rs
open PySem PySem.Spec PyProof.Rows L2
section
variable {G : Gl} {T : Tab} {F : Call} {k : Nat} {X : Cx} {e eo : Expr} {es : List Expr} {p pos apos cpos : Pos} {a : IE} {as : List IE}
theorem strs_vr {C : Cf} : ∀ {xs : List Val} {ys : List Str} {vs : List V}, VRs G C xs vs → strsV xs = some ys → vs = ys.map V.str
  | [], ys, vs, h, e => by
    unfold VRs at h; unfold strsV at e; cases e; exact h
  | x :: xs, ys, vs, h, e => by
    unfold VRs at h
    obtain ⟨y, r, rfl, a, b⟩ := h
    cases x with
    | str t =>
      unfold strsV at e
      obtain ⟨zs, e1, e2⟩ := Option.map_eq_some_iff.mp e
      subst e2
      unfold VR at a
      rw [strs_vr b e1, a]
      rfl
    | _ => unfold strsV at e; cases e
theorem vrs_strs {C : Cf} : ∀ ys : List Str, VRs G C (ys.map Val.str) (ys.map V.str) := fun ys => VRs.map (fun a => VR.str) ys
theorem mto_join (hK : X.K = G.K) : MtOk G .join (fun x xs H Q => ∃ a p, ∃ ys : List Str, x = .str a ∧ xs = [.ref p] ∧ (SqL X.K H p (ys.map V.str) ∨ SqT X.K H p (ys.map V.str)) ∧ (ys.map (·.length)).sum + ys.length * a.length ≤ 16777216 ∧ Q (.str (Txt.join a ys)) H) := by
  intro C s σ o v xs vs ret oc s' Q r h hv e p kk
  unfold mtop at e
  split at e
  all_goals try contradiction
  rename_i t zs _ hd
  split at e
  · rename_i ys hy
    split at e
    · rename_i hl
      cases e
      have hs : v = .str t := by
        have := deref_ok r h (by rw [hd]; simp)
        rw [hd] at this
        exact this.str
      subst hs
      unfold VRs at hv
      obtain ⟨w, t2, rfl, hw, hv⟩ := hv
      unfold VRs at hv
      subst hv
      unfold VR at hw
      obtain ⟨q, ws, rfl, f, hq, hr⟩ := hw
      cases p
      refine ⟨t, q, ys, rfl, rfl, .inl ?_, hl, kk C _ (.refl C) r (show VR G C (.str _) _ from VR.str)⟩
      rw [← strs_vr hr hy]
      exact SqL.of hq
    · cases e
  · cases e
theorem mto_split : MtOk G .split (fun x xs H Q => ∃ a b, x = .str a ∧ xs = [.str b] ∧ (b.length == 0) = false ∧ a.length + 2 ≤ sizeLine ∧ rNewStrs (Txt.split a b) H Q) := by
  intro C s σ o v xs vs ret oc s' Q r h hv e p kk
  unfold mtop at e
  split at e
  all_goals try contradiction
  rename_i t b _ hd
  split at e
  · rename_i hl
    obtain ⟨l1, l2⟩ := Bool.and_eq_true_iff.mp hl
    cases e
    have hs : v = .str t := by
      have := deref_ok r h (by rw [hd]; simp)
      rw [hd] at this
      exact this.str
    subst hs
    unfold VRs at hv
    obtain ⟨w, t2, rfl, hw, hv⟩ := hv
    unfold VRs at hv
    subst hv
    unfold VR at hw
    subst hw
    cases p
    exact ⟨t, b, rfl, rfl, by simpa using l1, of_decide_eq_true l2, fun p n => out_l r (vrs_strs _) n kk⟩
  · cases e
theorem ty_str {C : Cf} {s : S} {σ : L2.St} {o : Rv} {v : V} {t : Str} {K : PySem.W.Frag} (r : Rel G C s σ) (h : OR G C s σ o v) (e : deref s o = .str t) : tyV K "str" v C.H := by
  have := deref_ok r h (by rw [e]; simp)
  rw [e] at this
  rw [this.str]
  exact rfl
theorem se_join (ox : XO G k X) (ha : PE X eo (EE G T F a)) (hs : PA X (e :: es) (tVs G (evalVs T F as))) (hb : attributeBase eo "join" X.env (eval eo X.env) = eval eo X.env := by rfl)
    (hf : ((backTo cpos (starEach (e :: es) X.env)).all (fun x => !x.1) && (backToKw cpos (keywordEach [] X.env)).all (fun x => x.1.isSome) && decide ((e :: es).length + ([] : List Keyword).length + (if ([] : List Keyword).isEmpty then 0 else 1) < 30)) = true := by rfl)
    (hl : (apos.endLine == cpos.line) = true := by rfl) (h1 : starEach (e :: es) X.env = (false, eval e X.env) :: starEach es X.env := by rfl) (h2 : (backTo cpos (starEach es X.env)).any (·.1) = false := by rfl) :
    PE X (.Call (.Attribute eo "join" apos) (e :: es) [] cpos) (EE G T F (.mt .join a as)) :=
  PE.weak (pe_bm PySem.F.plainAttrs_str PySem.F.slot_str_join PySem.F.type_str_join mt_join ha hs hb hf hl h1 h2) fun σ H Q h => mt_all (mto_join ox.K) (fun C s σ o v r h1 h2 => by
    cases q : deref s o with
    | str xs => exact ty_str r h1 q
    | _ => rw [q] at h2; cases h2) h
theorem se_split (ha : PE X eo (EE G T F a)) (hs : PA X (e :: es) (tVs G (evalVs T F as))) (hb : attributeBase eo "split" X.env (eval eo X.env) = eval eo X.env := by rfl)
    (hf : ((backTo cpos (starEach (e :: es) X.env)).all (fun x => !x.1) && (backToKw cpos (keywordEach [] X.env)).all (fun x => x.1.isSome) && decide ((e :: es).length + ([] : List Keyword).length + (if ([] : List Keyword).isEmpty then 0 else 1) < 30)) = true := by rfl)
    (hl : (apos.endLine == cpos.line) = true := by rfl) (h1 : starEach (e :: es) X.env = (false, eval e X.env) :: starEach es X.env := by rfl) (h2 : (backTo cpos (starEach es X.env)).any (·.1) = false := by rfl) :
    PE X (.Call (.Attribute eo "split" apos) (e :: es) [] cpos) (EE G T F (.mt .split a as)) :=
  PE.weak (pe_bm PySem.F.plainAttrs_str PySem.F.slot_str_split PySem.F.type_str_split mt_split ha hs hb hf hl h1 h2) fun σ H Q h => mt_all mto_split (fun C s σ o v r h1 h2 => by
    cases q : deref s o with
    | str xs => exact ty_str r h1 q
    | _ => rw [q] at h2; cases h2) h
end
end Rs
end
section
set_option maxRecDepth 100000
/-! The shared defs of the texts, as the interpreter has them (printed by gen2.py). -/
namespace Rs
open PySem L2
def attL : List Str := [("items" : Str), ("join" : Str), ("append" : Str), ("insert" : Str), ("__init__" : Str), ("name" : Str), ("out" : Str), ("given" : Str), ("number" : Str), ("line" : Str), ("__contains__" : Str), ("__len__" : Str), ("places" : Str), ("things" : Str), ("placed" : Str), ("spent" : Str), ("prices" : Str), ("clear" : Str), ("check_out" : Str), ("names" : Str), ("paid" : Str), ("call" : Str), ("pop" : Str), ("void" : Str), ("upper" : Str), ("calls" : Str), ("ways" : Str), ("free" : Str), ("idle" : Str), ("send" : Str), ("distances" : Str), ("steps" : Str), ("credit_of" : Str), ("last_call" : Str), ("sums" : Str), ("entries" : Str), ("marks" : Str), ("update" : Str), ("accounts" : Str), ("returned" : Str), ("lost" : Str), ("choices" : Str), ("rent" : Str), ("what_given" : Str), ("what_out" : Str), ("met" : Str), ("get" : Str), ("journal" : Str), ("is_full_for" : Str), ("back" : Str), ("mark" : Str), ("takes_fetched" : Str), ("takes_found" : Str), ("takes" : Str), ("shelf_places" : Str), ("called" : Str), ("held" : Str), ("fresh" : Str), ("again" : Str), ("plan" : Str), ("row" : Str), ("next_call" : Str), ("end_round" : Str), ("split" : Str)]
/-- the law has this def at this number -/
class HasD (fs : List Fd) (i : Nat) (d : outParam Fd) : Prop where
  e : fs[i]? = some d
/-- the class has this method -/
class HasM (T : Tab) (c m : Nat) (i : outParam Nat) : Prop where
  e : T.mth c m = some i
class HasF (T : Tab) (c f : Nat) : Prop where
  e : T.fld c f = true
def nmG (i : Nat) : Str := attL.getD i ""
def okG (i : Nat) : Prop := i < attL.length
instance (i : Nat) : Decidable (okG i) := by unfold okG; infer_instance
def clsL : List Str := [("Shelf" : Str), ("Keeper" : Str), ("Steps" : Str), ("Line" : Str), ("Cruel" : Str)]
theorem attL_nd : attL.Nodup := by decide +kernel
theorem injG (i j : Nat) (hi : okG i) (hj : okG j) (h : nmG i = nmG j) : i = j := by
  unfold okG at hi hj
  unfold nmG at h
  rw [List.getD_eq_getElem?_getD, List.getD_eq_getElem?_getD, List.getElem?_eq_getElem hi, List.getElem?_eq_getElem hj] at h
  exact (List.getElem_inj attL_nd).mp h
theorem lookup_mem {l : List (Nat × Nat)} {c i : Nat} (h : l.lookup c = some i) : (c, i) ∈ l := by
  induction l with
  | nil => cases h
  | cons p r ih =>
    rw [List.lookup_cons] at h
    by_cases e : c = p.1
    · subst e; simp at h; subst h; simp
    · have e2 : (c == p.1) = false := by simpa using e
      rw [e2] at h
      exact List.mem_cons_of_mem _ (ih h)
class HasI (T : Tab) (c : Nat) (i : outParam Nat) : Prop where
  e : T.ini c = some i
class HasP (T : Tab) (c p : Nat) (i : outParam Nat) : Prop where
  e : T.prp c p = some i
def is__law_feed : List IS := [(.asg (.nm 2) (.sub (.bin .add (.bi .list [(.slc (.var 0) [(.var 1)] [(.bin .add (.var 1) (.cst (.int 1)))])]) (.lst [(.bin .add (.bin .mul (.cst (.int 71)) (.var 1)) (.cst (.int 23)))])) (.cst (.int 0)))), (.asg (.nm 3) (.bi .max [(.cst (.int 0)), (.bin .sub (.bi .abs [(.var 2)]) (.bin .pow (.cst (.int 10)) (.cst (.int 18))))])), (.ret (.heap (.lst [(.var 3), (.bin .mod (.bi .int [(.bin .add (.bin .add (.bin .mul (.bin .mod (.bi .int [(.bi .abs [(.var 2)])]) (.cst (.int 1000003))) (.cst (.int 7919))) (.bin .mul (.cst (.int 31)) (.var 1))) (.cst (.int 17)))]) (.cst (.int 1000033)))])))]
abbrev fd__law_feed : Fd := ⟨2, 4, is__law_feed⟩ -- 0
def is__law_take : List IS := [(.ite (.cmp .gt (.sub (.var 0) (.cst (.int 0))) (.cst (.int 0))) [(.asg (.nm 2) (.bin .mod (.bi .int [(.sub (.var 0) (.cst (.int 0)))]) (.var 1))), (.asg (.sub (.var 0) (.cst (.int 0))) (.bin .fdiv (.sub (.var 0) (.cst (.int 0))) (.var 1))), (.ret (.var 2))] []), (.asg (.sub (.var 0) (.cst (.int 1))) (.bin .mod (.bi .int [(.bin .add (.bin .mul (.sub (.var 0) (.cst (.int 1))) (.cst (.int 69069))) (.cst (.int 12345)))]) (.cst (.int 4294967311)))), (.ret (.bin .mod (.bi .int [(.bin .fdiv (.sub (.var 0) (.cst (.int 1))) (.cst (.int 65536)))]) (.var 1)))]
abbrev fd__law_take : Fd := ⟨2, 3, is__law_take⟩ -- 1
def is__law_pick : List IS := [(.ret (.sub (.var 1) (.fn 1 [(.var 0), (.bi .len [(.var 1)])] [])))]
abbrev fd__law_pick : Fd := ⟨2, 2, is__law_pick⟩ -- 2
def is__law_names : List IS := [(.asg (.nm 2) (.lst [(.cst (.str "a")), (.cst (.str "b")), (.cst (.str "c")), (.cst (.str "d")), (.cst (.str "e")), (.cst (.str "f")), (.cst (.str "g")), (.cst (.str "h")), (.cst (.str "jug")), (.cst (.str "lamp")), (.cst (.str "map"))])), (.asg (.nm 2) (.bin .add (.var 2) (.lst [(.cst (.str "call")), (.cst (.str "void")), (.cst (.str "zz")), (.cst (.str "quilts")), (.cst (.str "abcdefgh")), (.cst (.str "n")), (.cst (.str "m")), (.cst (.str "rook")), (.cst (.str "waxy"))]))), (.asg (.nm 3) (.fn 1 [(.var 0), (.cst (.int 4))] [])), (.ret (.slc (.sls (.bin .add (.slc (.var 2) [(.var 3)] []) (.slc (.var 2) [] [(.var 3)])) (.fn 2 [(.var 0), (.lst [(.cst (.int 1)), (.neg (.cst (.int 1)))])] [])) [] [(.var 1)]))]
abbrev fd__law_names : Fd := ⟨2, 4, is__law_names⟩ -- 3
def is__law_things : List IS := [(.asg (.nm 2) (.fn 2 [(.var 0), (.lst [(.lst [(.cst (.int 1))]), (.lst [(.cst (.int 7))]), (.lst [(.cst (.int 1)), (.cst (.int 2)), (.cst (.int 3))]), (.lst [(.cst (.int 1)), (.cst (.int 2)), (.cst (.int 4)), (.cst (.int 8)), (.cst (.int 16))]), (.lst [(.cst (.int 5)), (.cst (.int 6)), (.cst (.int 7))]), (.lst [(.cst (.int 1)), (.bin .pow (.cst (.int 10)) (.cst (.int 6)))]), (.lst [(.cst (.int 999999)), (.bin .pow (.cst (.int 10)) (.cst (.int 6))), (.cst (.int 3)), (.cst (.int 1))])])] [])), (.ret (.bi .dict [(.lc (.tup [(.var 3), (.fn 2 [(.var 0), (.var 2)] [])]) (.nm 3) .it [(.fn 3 [(.var 0), (.var 1)] [])] [] [3])]))]
abbrev fd__law_things : Fd := ⟨2, 4, is__law_things⟩ -- 4
def is__law_event : List IS := [(.asg (.nm 3) (.fn 2 [(.var 0), (.bin .add (.var 2) (.lst [(.fn 2 [(.var 0), (.var 1)] [])]))] [])), (.ret (.tup [(.ite (.cmp .eq (.fn 1 [(.var 0), (.cst (.int 9))] []) (.cst (.int 0))) (.cst (.str "void")) (.cst (.str "call"))), (.var 3)]))]
abbrev fd__law_event : Fd := ⟨3, 4, is__law_event⟩ -- 5
def is__law_row : List IS := [(.par 5 6 true false (.lst []) (.bi .sorted [(.var 1)])), (.asg (.nm 3) (.lc (.fn 2 [(.var 0), (.var 6)] []) (.nm 4) .rng [(.cst (.int 3))] [] [4])), (.for_ (.nm 4) .rng [(.var 2)] [(.ite (.cmp .eq (.fn 1 [(.var 0), (.cst (.int 7))] []) (.cst (.int 0))) [(.asg (.nm 3) (.lc (.fn 2 [(.var 0), (.var 6)] []) (.nm 7) .rng [(.bin .add (.cst (.int 1)) (.fn 1 [(.var 0), (.cst (.int 4))] []))] [] [7]))] []), (.ex (.mt .append (.var 5) [(.fn 5 [(.var 0), (.var 6), (.var 3)] [])]))]), (.ret (.frz 5))]
abbrev fd__law_row : Fd := ⟨3, 8, is__law_row⟩ -- 6
def is_stretches : List IS := [(.own 1 (.lst [])), (.own 2 (.dsp [])), (.for_ (.tp [(.nm 3), (.tp [(.nm 4), (.nm 5)])]) .enum [(.var 0)] [(.ite (.cmp .eq (.var 4) (.cst (.str "void"))) [(.ex (.mt .dpop (.var 2) [(.var 5), (.cst .non)]))] [(.ite (.cmp .isin (.var 5) (.var 2)) [(.ex (.mt .append (.var 1) [(.tup [(.sub (.var 2) (.var 5)), (.var 3)])]))] []), (.asg (.sub (.var 2) (.var 5)) (.var 3))])]), (.ret (.bi .sorted [(.var 1)]))]
abbrev fd_stretches : Fd := ⟨1, 6, is_stretches⟩ -- 7
def is_calls_of : List IS := [(.ret (.lc (.var 1) (.tp [(.nm 1), (.tp [(.nm 2), (.nm 3)])]) .enum [(.var 0)] [(.cmp .eq (.var 2) (.cst (.str "call")))] [1, 2, 3]))]
abbrev fd_calls_of : Fd := ⟨1, 4, is_calls_of⟩ -- 8
def is_price_of_calls : List IS := [(.ret (.bi .sum [(.lc (.sub (.var 0) (.sub (.sub (.var 1) (.var 2)) (.cst (.int 1)))) (.nm 2) .it [(.fn 8 [(.var 1)] [])] [] [2])]))]
abbrev fd_price_of_calls : Fd := ⟨2, 3, is_price_of_calls⟩ -- 9
def is_plan_cost : List IS := [(.ret (.bin .sub (.fn 9 [(.var 0), (.var 1)] []) (.bi .sum [(.lc (.sub (.var 0) (.sub (.sub (.var 1) (.var 3)) (.cst (.int 1)))) (.tp [(.nm 3), (.nm 4)]) .it [(.var 2)] [] [3, 4])])))]
abbrev fd_plan_cost : Fd := ⟨3, 5, is_plan_cost⟩ -- 10
def is_crosses : List IS := [(.ret (.chn .lt .lt (.sub (.var 0) (.cst (.int 0))) (.var 1) (.sub (.var 0) (.cst (.int 1)))))]
abbrev fd_crosses : Fd := ⟨2, 2, is_crosses⟩ -- 11
def is_is_plan : List IS := [(.asg (.nm 3) (.fn 7 [(.var 0)] [])), (.ite (.or (.not (.bi .isLst [(.var 2)])) (.not (.bi .all [(.lc (.fn 13 [(.var 3), (.var 6)] []) (.nm 6) .it [(.var 2)] [] [6])]))) [(.ret (.cst (.bl false)))] []), (.ite (.not (.bi .all [(.lc (.cmp .lt (.sub (.var 2) (.var 5)) (.sub (.var 2) (.bin .add (.var 5) (.cst (.int 1))))) (.nm 5) .rng [(.bin .sub (.bi .len [(.var 2)]) (.cst (.int 1)))] [] [5])])) [(.ret (.cst (.bl false)))] []), (.ret (.bi .all [(.lc (.cmp .lt (.bi .len [(.lc (.var 6) (.nm 6) .it [(.var 2)] [(.fn 11 [(.var 6), (.var 4)] [])] [6])]) (.var 1)) (.nm 4) .it [(.fn 8 [(.var 0)] [])] [] [4])]))]
abbrev fd_is_plan : Fd := ⟨3, 7, is_is_plan⟩ -- 12
def is_is_stretch : List IS := [(.ite (.or (.not (.bi .isTup [(.var 1)])) (.cmp .ne (.bi .len [(.var 1)]) (.cst (.int 2)))) [(.ret (.cst (.bl false)))] []), (.ret (.and (.bi .all [(.lc (.and (.bi .isInt [(.var 2)]) (.not (.bi .isBool [(.var 2)]))) (.nm 2) .it [(.var 1)] [] [2])]) (.cmp .isin (.var 1) (.var 0))))]
abbrev fd_is_stretch : Fd := ⟨2, 3, is_is_stretch⟩ -- 13
def is_is_one_of : List IS := [(.ret (.and (.bi .isStr [(.var 0)]) (.cmp .isin (.var 0) (.var 1))))]
abbrev fd_is_one_of : Fd := ⟨2, 2, is_is_one_of⟩ -- 14
def is_is_event : List IS := [(.ite (.or (.not (.bi .isTup [(.var 1)])) (.or (.cmp .ne (.bi .len [(.var 1)]) (.cst (.int 2))) (.not (.bi .isStr [(.sub (.var 1) (.cst (.int 0)))])))) [(.ret (.cst (.bl false)))] []), (.ret (.and (.cmp .isin (.sub (.var 1) (.cst (.int 0))) (.tup [(.cst (.str "call")), (.cst (.str "void"))])) (.fn 14 [(.sub (.var 1) (.cst (.int 1))), (.var 0)] [])))]
abbrev fd_is_event : Fd := ⟨2, 2, is_is_event⟩ -- 15
def is_is_row : List IS := [(.ret (.and (.bi .isLst [(.var 1)]) (.bi .all [(.lc (.fn 15 [(.var 0), (.var 2)] []) (.nm 2) .it [(.var 1)] [] [2])])))]
abbrev fd_is_row : Fd := ⟨2, 3, is_is_row⟩ -- 16
def is_put_away : List IS := [(.own 3 (.lst [])), (.own 4 (.dsp [])), (.for_ (.tp [(.nm 5), (.tp [(.nm 7), (.nm 8)])]) .enum [(.var 0)] [(.asg (.nm 6) (.cst .non)), (.ite (.cmp .eq (.var 7) (.cst (.str "void"))) [(.ex (.mt .dpop (.var 4) [(.var 8), (.cst .non)]))] [(.ite (.cmp .isin (.var 8) (.var 4)) [(.ite (.var 2) [(.asg (.sub (.var 4) (.var 8)) (.var 5))] [])] [(.ite (.cmp .ge (.bi .len [(.var 4)]) (.var 1)) [(.asg (.nm 6) (.sub (.bi .min [(.lck (.tup [(.sub (.var 4) (.var 9)), (.var 9)]) (.nm 9) false 4 [] [9])]) (.cst (.int 1)))), (.del (.var 4) (.var 6))] []), (.asg (.sub (.var 4) (.var 8)) (.var 5))])]), (.ex (.mt .append (.var 3) [(.var 6)]))]), (.ret (.mv 3))]
abbrev fd_put_away : Fd := ⟨3, 10, is_put_away⟩ -- 17
def is_longest_ago : List IS := [(.ret (.fn 17 [(.var 0), (.var 1), (.cst (.bl true))] []))]
abbrev fd_longest_ago : Fd := ⟨2, 2, is_longest_ago⟩ -- 18
def is_first_come : List IS := [(.ret (.fn 17 [(.var 0), (.var 1), (.cst (.bl false))] []))]
abbrev fd_first_come : Fd := ⟨2, 2, is_first_come⟩ -- 19
def is__law_stretches : List IS := [(.own 1 (.lst [])), (.for_ (.tp [(.nm 2), (.tp [(.nm 3), (.nm 4)])]) .enum [(.var 0)] [(.ite (.cmp .eq (.var 3) (.cst (.str "call"))) [(.asg (.nm 5) (.lc (.var 6) (.nm 6) .rng [(.bin .add (.var 2) (.cst (.int 1))), (.bi .len [(.var 0)])] [(.cmp .eq (.sub (.sub (.var 0) (.var 6)) (.cst (.int 1))) (.var 4))] [6])), (.ite (.and (.cmp .ne (.var 5) (.lst [])) (.cmp .eq (.sub (.sub (.var 0) (.sub (.var 5) (.cst (.int 0)))) (.cst (.int 0))) (.cst (.str "call")))) [(.ex (.mt .append (.var 1) [(.tup [(.var 2), (.sub (.var 5) (.cst (.int 0)))])]))] [])] [])]), (.ret (.frz 1))]
abbrev fd__law_stretches : Fd := ⟨1, 7, is__law_stretches⟩ -- 20
def is__law_cost : List IS := [(.asg (.nm 3) (.bi .sum [(.lc (.sub (.var 0) (.var 5)) (.tp [(.nm 4), (.nm 5)]) .it [(.var 1)] [(.cmp .eq (.var 4) (.cst (.str "call")))] [4, 5])])), (.ret (.bin .sub (.var 3) (.bi .sum [(.lc (.sub (.var 0) (.sub (.sub (.var 1) (.var 6)) (.cst (.int 1)))) (.tp [(.nm 6), (.nm 7)]) .it [(.var 2)] [] [6, 7])])))]
abbrev fd__law_cost : Fd := ⟨3, 8, is__law_cost⟩ -- 21
def is__law_crossing : List IS := [(.own 2 (.lst [])), (.for_ (.tp [(.nm 3), (.tp [(.nm 4), (.nm 5)])]) .enum [(.var 0)] [(.ite (.cmp .eq (.var 4) (.cst (.str "call"))) [(.ex (.mt .append (.var 2) [(.bi .len [(.lc (.var 6) (.nm 6) .it [(.var 1)] [(.chn .lt .lt (.sub (.var 6) (.cst (.int 0))) (.var 3) (.sub (.var 6) (.cst (.int 1))))] [6])])]))] [])]), (.ret (.frz 2))]
abbrev fd__law_crossing : Fd := ⟨2, 7, is__law_crossing⟩ -- 22
def is__law_fits : List IS := [(.ret (.cmp .lt (.bi .max [(.bin .add (.lst [(.cst (.int 0))]) (.fn 22 [(.var 0), (.var 2)] []))]) (.var 1)))]
abbrev fd__law_fits : Fd := ⟨3, 3, is__law_fits⟩ -- 23
def is__law_is_plan : List IS := [(.ite (.or (.not (.bi .isLst [(.var 2)])) (.cmp .ne (.lc (.var 4) (.nm 4) .it [(.var 2)] [(.not (.bi .isTup [(.var 4)]))] [4]) (.lst []))) [(.ret (.cst (.bl false)))] []), (.asg (.nm 3) (.lc (.bi .repr [(.var 4)]) (.nm 4) .it [(.fn 20 [(.var 0)] [])] [] [4])), (.ite (.cmp .ne (.lc (.var 4) (.nm 4) .it [(.var 2)] [(.cmp .notin (.bi .repr [(.var 4)]) (.var 3))] [4]) (.lst [])) [(.ret (.cst (.bl false)))] []), (.ret (.and (.cmp .eq (.var 2) (.bi .sorted [(.var 2)])) (.and (.cmp .eq (.bi .lenset [(.var 2)]) (.bi .len [(.var 2)])) (.fn 23 [(.var 0), (.var 1), (.var 2)] []))))]
abbrev fd__law_is_plan : Fd := ⟨3, 5, is__law_is_plan⟩ -- 24
def is_is_integer : List IS := [(.ret (.and (.bi .isInt [(.var 0)]) (.and (.not (.bi .isBool [(.var 0)])) (.chn .le .le (.var 1) (.var 0) (.var 2)))))]
abbrev fd_is_integer : Fd := ⟨3, 3, is_is_integer⟩ -- 25
def is_is_name : List IS := [(.ite (.or (.not (.bi .isStr [(.var 0)])) (.not (.chn .le .le (.cst (.int 1)) (.bi .len [(.var 0)]) (.glb 0 (.int 8))))) [(.ret (.cst (.bl false)))] []), (.ret (.bi .all [(.lc (.cmp .isin (.var 1) (.glb 0 (.str "abcdefghijklmnopqrstuvwxyz"))) (.nm 1) .it [(.var 0)] [] [1])]))]
abbrev fd_is_name : Fd := ⟨1, 2, is_is_name⟩ -- 26
def is_is_things : List IS := [(.ite (.or (.not (.bi .isDct [(.var 0)])) (.not (.chn .le .le (.cst (.int 1)) (.bi .len [(.var 0)]) (.glb 0 (.int 20))))) [(.ret (.cst (.bl false)))] []), (.ret (.bi .all [(.lc (.and (.fn 26 [(.var 1)] []) (.fn 25 [(.sub (.var 0) (.var 1)), (.cst (.int 1)), (.glb 0 (.int 1000000))] [])) (.nm 1) .it [(.var 0)] [] [1])]))]
abbrev fd_is_things : Fd := ⟨1, 2, is_is_things⟩ -- 27
def is_check_thing : List IS := [(.ite (.not (.fn 14 [(.var 1), (.var 0)] [])) [.nev] [])]
abbrev fd_check_thing : Fd := ⟨2, 2, is_check_thing⟩ -- 28
def is_are_unlike : List IS := [(.ite (.or (.not (.bi .isTup [(.var 0)])) (.not (.bi .all [(.lc (.and (.bi .isStr [(.var 2)]) (.cmp .isin (.var 2) (.var 1))) (.nm 2) .it [(.var 0)] [] [2])]))) [(.ret (.cst (.bl false)))] []), (.ret (.cmp .eq (.bi .lenset [(.var 0)]) (.bi .len [(.var 0)])))]
abbrev fd_are_unlike : Fd := ⟨2, 3, is_are_unlike⟩ -- 29
def is_write : List IS := [(.ret (.mt .join (.cst (.str "\n")) [(.lc (.bin .add (.bin .add (.var 1) (.cst (.str " "))) (.var 2)) (.tp [(.nm 1), (.nm 2)]) .it [(.var 0)] [] [1, 2])]))]
abbrev fd_write : Fd := ⟨1, 3, is_write⟩ -- 30
def is_read : List IS := [(.own 2 (.lst [])), (.ite (.cmp .ne (.var 1) (.cst (.str ""))) [(.for_ (.tp [(.nm 3), (.nm 4)]) .enum [(.mt .split (.var 1) [(.cst (.str "\n"))])] [(.asg (.nm 5) (.bi .tuple [(.mt .split (.var 4) [(.cst (.str " "))])])), (.ite (.not (.fn 15 [(.var 0), (.var 5)] [])) [.nev] []), (.ex (.mt .append (.var 2) [(.var 5)]))])] []), (.ret (.mv 2))]
abbrev fd_read : Fd := ⟨2, 6, is_read⟩ -- 31
def is_Shelf___init__ : List IS := [(.asg (.att (.var 0) 12) (.var 1)), (.asg (.att (.var 0) 13) (.bi .dict [(.var 2)])), (.asg (.att (.var 0) 14) (.lst [])), (.asg (.att (.var 0) 15) (.cst (.int 0)))]
abbrev fd_Shelf___init__ : Fd := ⟨3, 3, is_Shelf___init__⟩ -- 50
def is_Shelf___contains__ : List IS := [(.ret (.and (.bi .isStr [(.var 1)]) (.cmp .isin (.var 1) (.att (.var 0) 14))))]
abbrev fd_Shelf___contains__ : Fd := ⟨2, 2, is_Shelf___contains__⟩ -- 51
def is_Shelf___len__ : List IS := [(.ret (.bi .len [(.att (.var 0) 14)]))]
abbrev fd_Shelf___len__ : Fd := ⟨1, 1, is_Shelf___len__⟩ -- 52
def is_Shelf_prices : List IS := [(.ret (.bi .dict [(.att (.var 0) 13)]))]
abbrev fd_Shelf_prices : Fd := ⟨1, 1, is_Shelf_prices⟩ -- 53
def is_Shelf_names : List IS := [(.ret (.bi .list [(.att (.var 0) 14)]))]
abbrev fd_Shelf_names : Fd := ⟨1, 1, is_Shelf_names⟩ -- 54
def is_Shelf_paid : List IS := [(.ret (.att (.var 0) 15))]
abbrev fd_Shelf_paid : Fd := ⟨1, 1, is_Shelf_paid⟩ -- 55
def is_Shelf_check_out : List IS := [(.ite (.not (.fn 29 [(.var 2), (.att (.var 0) 14)] [])) [.nev] []), (.ite (.and (.cmp .isin (.var 1) (.att (.var 0) 14)) (.cmp .ne (.var 2) (.tup []))) [.nev] []), (.ite (.and (.cmp .notin (.var 1) (.att (.var 0) 14)) (.cmp .ge (.bin .sub (.bi .len [(.att (.var 0) 14)]) (.bi .len [(.var 2)])) (.att (.var 0) 12))) [.nev] [])]
abbrev fd_Shelf_check_out : Fd := ⟨3, 3, is_Shelf_check_out⟩ -- 56
def is_Shelf_call : List IS := [(.ex (.fn 28 [(.att (.var 0) 13), (.var 1)] [])), (.ex (.me [0] 18 (.var 0) [(.var 1), (.var 2)] [])), (.ite (.cmp .isin (.var 1) (.att (.var 0) 14)) [(.ret (.cst (.int 0)))] []), (.asg (.att (.var 0) 14) (.bi .sorted [(.bin .add (.lc (.var 3) (.nm 3) .it [(.att (.var 0) 14)] [(.cmp .notin (.var 3) (.var 2))] [3]) (.lst [(.var 1)]))])), (.augA (.var 0) 15 .add (.sub (.att (.var 0) 13) (.var 1))), (.ret (.sub (.att (.var 0) 13) (.var 1)))]
abbrev fd_Shelf_call : Fd := ⟨3, 4, is_Shelf_call⟩ -- 57
def is_Shelf_void : List IS := [(.ex (.fn 28 [(.att (.var 0) 13), (.var 1)] [])), (.asg (.att (.var 0) 14) (.lc (.var 2) (.nm 2) .it [(.att (.var 0) 14)] [(.cmp .ne (.var 2) (.var 1))] [2]))]
abbrev fd_Shelf_void : Fd := ⟨2, 3, is_Shelf_void⟩ -- 58
def is_Line___init__ : List IS := [(.asg (.att (.var 0) 25) (.fn 8 [(.var 2)] [])), (.asg (.nm 3) (.dc (.var 9) (.var 8) (.tp [(.nm 8), (.nm 9)]) .enum [(.att (.var 0) 25)] [] [8, 9])), (.asg (.att (.var 0) 26) (.heap (.lst []))), (.asg (.att (.var 0) 27) (.heap (.lst []))), (.for_ (.tp [(.nm 4), (.nm 5)]) .it [(.fn 7 [(.var 2)] [])] [(.ite (.cmp .eq (.bin .add (.sub (.var 3) (.var 4)) (.cst (.int 1))) (.sub (.var 3) (.var 5))) [(.ex (.mt .append (.att (.var 0) 27) [(.tup [(.var 4), (.var 5)])]))] [(.asg (.nm 6) (.sub (.var 1) (.sub (.sub (.var 2) (.var 4)) (.cst (.int 1))))), (.ex (.mt .append (.att (.var 0) 26) [(.lst [(.bin .add (.sub (.var 3) (.var 4)) (.cst (.int 1))), (.sub (.var 3) (.var 5)), (.var 6), (.tup [(.var 4), (.var 5)]), (.cst (.bl false))])]))])]), (.asg (.att (.var 0) 28) (.heap (.lc (.cst (.int 0)) (.nm 7) .it [(.att (.var 0) 25)] [] [7])))]
abbrev fd_Line___init__ : Fd := ⟨3, 10, is_Line___init__⟩ -- 87
def is_Line_distances : List IS := [(.own 1 (.bin .add (.lst [(.cst (.int 0))]) (.lc (.cst .non) (.nm 10) .it [(.att (.var 0) 25)] [] [10]))), (.own 2 (.lc (.cst .non) (.nm 5) .it [(.var 1)] [] [5])), (.asg (.nm 3) (.bi .sortk [(.me [3] 31 (.var 0) [] [])])), (.asg (.nm 4) (.cst (.bl true))), (.whl (.var 4) [(.asg (.nm 4) (.cst (.bl false))), (.for_ (.tp [(.nm 6), (.nm 7), (.nm 8), (.nm 9)]) .it [(.var 3)] [(.ite (.and (.cmp .isnot (.sub (.var 1) (.var 6)) (.cst .non)) (.or (.cmp .is_ (.sub (.var 1) (.var 7)) (.cst .non)) (.cmp .lt (.bin .add (.sub (.var 1) (.var 6)) (.var 8)) (.sub (.var 1) (.var 7))))) [(.asg (.sub (.var 1) (.var 7)) (.bin .add (.sub (.var 1) (.var 6)) (.var 8))), (.asg (.sub (.var 2) (.var 7)) (.tup [(.var 6), (.var 9)])), (.asg (.nm 4) (.cst (.bl true)))] [])])]), (.ret (.tup [(.frz 1), (.frz 2)]))]
abbrev fd_Line_distances : Fd := ⟨1, 11, is_Line_distances⟩ -- 88
def is_Line_steps : List IS := [(.own 1 (.lst [])), (.for_ (.tp [(.nm 3), (.nm 4)]) .enum [(.att (.var 0) 28)] [(.ex (.mt .append (.var 1) [(.tup [(.var 3), (.bin .add (.var 3) (.cst (.int 1))), (.cst (.int 0)), (.tup [(.var 3), (.cst (.int 1))])])])), (.ite (.cmp .gt (.var 4) (.cst (.int 0))) [(.ex (.mt .append (.var 1) [(.tup [(.bin .add (.var 3) (.cst (.int 1))), (.var 3), (.cst (.int 0)), (.tup [(.var 3), (.bin .sub (.cst (.int 0)) (.cst (.int 1)))])])]))] [])]), (.for_ (.nm 2) .it [(.att (.var 0) 26)] [(.ite (.sub (.var 2) (.cst (.int 4))) [(.ex (.mt .append (.var 1) [(.tup [(.sub (.var 2) (.cst (.int 1))), (.sub (.var 2) (.cst (.int 0))), (.sub (.var 2) (.cst (.int 2))), (.var 2)])]))] [(.ex (.mt .append (.var 1) [(.tup [(.sub (.var 2) (.cst (.int 0))), (.sub (.var 2) (.cst (.int 1))), (.bin .sub (.cst (.int 0)) (.sub (.var 2) (.cst (.int 2)))), (.var 2)])]))])]), (.ret (.frz 1))]
abbrev fd_Line_steps : Fd := ⟨1, 5, is_Line_steps⟩ -- 89
def is_Line_send : List IS := [(.asg (.nm 1) (.sub (.me [3] 30 (.var 0) [] []) (.cst (.int 1)))), (.asg (.nm 2) (.bi .len [(.att (.var 0) 25)])), (.whl (.cmp .ne (.var 2) (.cst (.int 0))) [(.asg (.tp [(.nm 3), (.nm 4)]) (.sub (.var 1) (.var 2))), (.ite (.bi .isTup [(.var 4)]) [(.augS (.att (.var 0) 28) (.sub (.var 4) (.cst (.int 0))) .add (.sub (.var 4) (.cst (.int 1))))] [(.asg (.sub (.var 4) (.cst (.int 4))) (.not (.sub (.var 4) (.cst (.int 4)))))]), (.asg (.nm 2) (.var 3))])]
abbrev fd_Line_send : Fd := ⟨1, 5, is_Line_send⟩ -- 90
def is_line_of : List IS := [(.asg (.nm 3) (.new 3 [(.var 0), (.var 1)] [])), (.for_ (.nm 4) .rng [(.bin .sub (.var 2) (.cst (.int 1)))] [(.ex (.me [3] 29 (.var 3) [] []))]), (.ret (.var 3))]
abbrev fd_line_of : Fd := ⟨3, 5, is_line_of⟩ -- 91
def is_tolls_of : List IS := [(.own 2 (.lc (.cst (.int 0)) (.nm 6) .it [(.var 1)] [] [6])), (.asg (.nm 3) (.sub (.me [3] 30 (.var 0) [] []) (.cst (.int 0)))), (.for_ (.tp [(.nm 4), (.nm 5)]) .enum [(.att (.var 0) 25)] [(.asg (.sub (.var 2) (.var 5)) (.bin .sub (.sub (.var 3) (.var 4)) (.sub (.var 3) (.bin .add (.var 4) (.cst (.int 1))))))]), (.ret (.frz 2))]
abbrev fd_tolls_of : Fd := ⟨2, 7, is_tolls_of⟩ -- 92
def is_toll_of : List IS := [(.ret (.bi .sum [(.slc (.var 0) [(.bin .add (.sub (.var 1) (.cst (.int 0))) (.cst (.int 1)))] [(.sub (.var 1) (.cst (.int 1)))])]))]
abbrev fd_toll_of : Fd := ⟨2, 2, is_toll_of⟩ -- 93
def is_limit : List IS := [(.asg (.nm 4) (.cst (.int 0))), (.for_ (.nm 5) .it [(.fn 7 [(.var 1)] [])] [(.aug 4 .add (.bi .max [(.cst (.int 0)), (.bin .sub (.sub (.var 0) (.sub (.sub (.var 1) (.sub (.var 5) (.cst (.int 0)))) (.cst (.int 1)))) (.fn 93 [(.var 3), (.var 5)] []))]))]), (.ret (.bin .sub (.bin .sub (.fn 9 [(.var 0), (.var 1)] []) (.bin .mul (.bin .sub (.var 2) (.cst (.int 1))) (.bi .sum [(.var 3)]))) (.var 4)))]
abbrev fd_limit : Fd := ⟨4, 6, is_limit⟩ -- 94
def is_least : List IS := [(.asg (.nm 3) (.fn 91 [(.var 0), (.var 1), (.var 2)] [])), (.asg (.nm 4) (.bi .sorted [(.bin .add (.att (.var 3) 27) (.lc (.sub (.var 5) (.cst (.int 3))) (.nm 5) .it [(.att (.var 3) 26)] [(.sub (.var 5) (.cst (.int 4)))] [5]))])), (.ret (.tup [(.fn 10 [(.var 0), (.var 1), (.var 4)] []), (.var 4), (.fn 92 [(.var 3), (.var 1)] [])]))]
abbrev fd_least : Fd := ⟨3, 6, is_least⟩ -- 95
def is_are_tolls : List IS := [(.ite (.or (.not (.bi .isLst [(.var 1)])) (.cmp .ne (.bi .len [(.var 1)]) (.bi .len [(.var 0)]))) [(.ret (.cst (.bl false)))] []), (.ite (.not (.bi .all [(.lc (.and (.bi .isInt [(.var 3)]) (.and (.not (.bi .isBool [(.var 3)])) (.cmp .ge (.var 3) (.cst (.int 0))))) (.nm 3) .it [(.var 1)] [] [3])])) [(.ret (.cst (.bl false)))] []), (.asg (.nm 2) (.fn 8 [(.var 0)] [])), (.ret (.bi .all [(.lc (.or (.cmp .isin (.var 4) (.var 2)) (.cmp .eq (.var 5) (.cst (.int 0)))) (.tp [(.nm 4), (.nm 5)]) .enum [(.var 1)] [] [4, 5])]))]
abbrev fd_are_tolls : Fd := ⟨2, 6, is_are_tolls⟩ -- 96
def is_is_least : List IS := [(.ite (.or (.not (.bi .isTup [(.var 3)])) (.cmp .ne (.bi .len [(.var 3)]) (.cst (.int 3)))) [(.ret (.cst (.bl false)))] []), (.asg (.tp [(.nm 4), (.nm 5), (.nm 6)]) (.var 3)), (.ite (.or (.not (.bi .isInt [(.var 4)])) (.bi .isBool [(.var 4)])) [(.ret (.cst (.bl false)))] []), (.ite (.or (.not (.fn 12 [(.var 1), (.var 2), (.var 5)] [])) (.not (.fn 96 [(.var 1), (.var 6)] []))) [(.ret (.cst (.bl false)))] []), (.ret (.and (.cmp .eq (.fn 10 [(.var 0), (.var 1), (.var 5)] []) (.var 4)) (.cmp .eq (.fn 94 [(.var 0), (.var 1), (.var 2), (.var 6)] []) (.var 4))))]
abbrev fd_is_least : Fd := ⟨4, 7, is_is_least⟩ -- 97
def is__law_limit : List IS := [(.asg (.nm 4) (.bin .sub (.fn 21 [(.var 0), (.var 1), (.lst [])] []) (.bin .mul (.bin .sub (.var 2) (.cst (.int 1))) (.bi .sum [(.var 3)])))), (.for_ (.tp [(.nm 5), (.nm 6)]) .it [(.fn 20 [(.var 1)] [])] [(.asg (.nm 7) (.lc (.var 8) (.tp [(.nm 8), (.nm 9)]) .it [(.slc (.bi .lzip [(.var 3), (.var 1)]) [(.bin .add (.var 5) (.cst (.int 1)))] [(.var 6)])] [(.cmp .eq (.sub (.var 9) (.cst (.int 0))) (.cst (.str "call")))] [8, 9])), (.asg (.nm 4) (.bin .sub (.var 4) (.bi .max [(.cst (.int 0)), (.bin .sub (.sub (.var 0) (.sub (.sub (.var 1) (.var 5)) (.cst (.int 1)))) (.bi .sum [(.var 7)]))])))]), (.ret (.var 4))]
abbrev fd__law_limit : Fd := ⟨4, 10, is__law_limit⟩ -- 98
def is__law_plans : List IS := [(.asg (.nm 2) (.lst [(.lst [])])), (.for_ (.nm 3) .it [(.fn 20 [(.var 0)] [])] [(.asg (.nm 2) (.bin .add (.var 2) (.lc (.bin .add (.var 4) (.lst [(.var 3)])) (.nm 4) .it [(.var 2)] [(.fn 23 [(.var 0), (.var 1), (.bin .add (.var 4) (.lst [(.var 3)]))] [])] [4])))]), (.ret (.var 2))]
abbrev fd__law_plans : Fd := ⟨2, 5, is__law_plans⟩ -- 99
def is__law_are_tolls : List IS := [(.ite (.or (.not (.bi .isLst [(.var 1)])) (.cmp .ne (.bi .len [(.var 1)]) (.bi .len [(.var 0)]))) [(.ret (.cst (.bl false)))] []), (.ite (.cmp .ne (.lc (.var 2) (.nm 2) .it [(.var 1)] [(.or (.not (.bi .isInt [(.var 2)])) (.bi .isBool [(.var 2)]))] [2]) (.lst [])) [(.ret (.cst (.bl false)))] []), (.ite (.cmp .ne (.lc (.var 2) (.nm 2) .it [(.var 1)] [(.cmp .lt (.var 2) (.cst (.int 0)))] [2]) (.lst [])) [(.ret (.cst (.bl false)))] []), (.ret (.cmp .eq (.lc (.cst (.int 1)) (.tp [(.nm 3), (.nm 4)]) .zip [(.var 1), (.var 0)] [(.and (.cmp .gt (.var 3) (.cst (.int 0))) (.cmp .eq (.sub (.var 4) (.cst (.int 0))) (.cst (.str "void"))))] [3, 4]) (.lst [])))]
abbrev fd__law_are_tolls : Fd := ⟨2, 5, is__law_are_tolls⟩ -- 100
def is__law_is_least : List IS := [(.ite (.or (.not (.bi .isTup [(.var 3)])) (.or (.cmp .ne (.bi .len [(.var 3)]) (.cst (.int 3))) (.or (.not (.bi .isInt [(.sub (.var 3) (.cst (.int 0)))])) (.bi .isBool [(.sub (.var 3) (.cst (.int 0)))])))) [(.ret (.cst (.bl false)))] []), (.ite (.or (.not (.fn 24 [(.var 1), (.var 2), (.sub (.var 3) (.cst (.int 1)))] [])) (.not (.fn 100 [(.var 1), (.sub (.var 3) (.cst (.int 2)))] []))) [(.ret (.cst (.bl false)))] []), (.ret (.chn .eq .eq (.fn 21 [(.var 0), (.var 1), (.sub (.var 3) (.cst (.int 1)))] []) (.sub (.var 3) (.cst (.int 0))) (.fn 98 [(.var 0), (.var 1), (.var 2), (.sub (.var 3) (.cst (.int 2)))] [])))]
abbrev fd__law_is_least : Fd := ⟨4, 4, is__law_is_least⟩ -- 101
def is_least_costs : List IS := [(.ret (.lc (.sub (.fn 95 [(.var 0), (.var 1), (.var 2)] []) (.cst (.int 0))) (.nm 2) .rng [(.cst (.int 1)), (.bin .add (.glb 0 (.int 8)) (.cst (.int 1)))] [] [2]))]
abbrev fd_least_costs : Fd := ⟨2, 3, is_least_costs⟩ -- 109
def is_Keeper___init__ : List IS := [(.asg (.att (.var 0) 12) (.var 1)), (.asg (.att (.var 0) 13) (.bi .dict [(.var 2)])), (.asg (.att (.var 0) 14) (.lst [])), (.asg (.att (.var 0) 32) (.heap (.dsp []))), (.asg (.att (.var 0) 33) (.heap (.dsp []))), (.asg (.att (.var 0) 34) (.lst [(.cst (.int 0)), (.cst (.int 0)), (.cst (.int 0))])), (.asg (.att (.var 0) 35) (.heap (.lst []))), (.asg (.att (.var 0) 36) (.heap (.lst [])))]
abbrev fd_Keeper___init__ : Fd := ⟨3, 3, is_Keeper___init__⟩ -- 118
def is_Keeper___contains__ : List IS := [(.ret (.and (.bi .isStr [(.var 1)]) (.cmp .isin (.var 1) (.att (.var 0) 14))))]
abbrev fd_Keeper___contains__ : Fd := ⟨2, 2, is_Keeper___contains__⟩ -- 119
def is_Keeper___len__ : List IS := [(.ret (.bi .len [(.att (.var 0) 14)]))]
abbrev fd_Keeper___len__ : Fd := ⟨1, 1, is_Keeper___len__⟩ -- 120
def is_Keeper_prices : List IS := [(.ret (.bi .dict [(.att (.var 0) 13)]))]
abbrev fd_Keeper_prices : Fd := ⟨1, 1, is_Keeper_prices⟩ -- 121
def is_Keeper_names : List IS := [(.ret (.bi .list [(.att (.var 0) 14)]))]
abbrev fd_Keeper_names : Fd := ⟨1, 1, is_Keeper_names⟩ -- 122
def is_Keeper_paid : List IS := [(.ret (.sub (.att (.var 0) 34) (.cst (.int 0))))]
abbrev fd_Keeper_paid : Fd := ⟨1, 1, is_Keeper_paid⟩ -- 123
def is_Keeper_returned : List IS := [(.ret (.sub (.att (.var 0) 34) (.cst (.int 1))))]
abbrev fd_Keeper_returned : Fd := ⟨1, 1, is_Keeper_returned⟩ -- 124
def is_Keeper_lost : List IS := [(.ret (.sub (.att (.var 0) 34) (.cst (.int 2))))]
abbrev fd_Keeper_lost : Fd := ⟨1, 1, is_Keeper_lost⟩ -- 125
def is_Keeper_is_full_for : List IS := [(.ret (.and (.cmp .notin (.var 1) (.att (.var 0) 32)) (.cmp .ge (.bi .len [(.att (.var 0) 32)]) (.att (.var 0) 12))))]
abbrev fd_Keeper_is_full_for : Fd := ⟨2, 2, is_Keeper_is_full_for⟩ -- 126
def is_Keeper_rent : List IS := [(.ret (.bi .min [(.lc (.sub (.att (.var 0) 32) (.var 1)) (.nm 1) .keys [(.att (.var 0) 32)] [] [1])]))]
abbrev fd_Keeper_rent : Fd := ⟨1, 2, is_Keeper_rent⟩ -- 127
def is_Keeper_choices : List IS := [(.ex (.fn 28 [(.att (.var 0) 13), (.var 1)] [])), (.ite (.not (.me [1] 48 (.var 0) [(.var 1)] [])) [(.ret (.lst []))] []), (.asg (.nm 2) (.me [1] 42 (.var 0) [] [])), (.ret (.bi .sorted [(.lc (.var 3) (.nm 3) .keys [(.att (.var 0) 32)] [(.cmp .eq (.sub (.att (.var 0) 32) (.var 3)) (.var 2))] [3])]))]
abbrev fd_Keeper_choices : Fd := ⟨2, 4, is_Keeper_choices⟩ -- 128
def is_Keeper_what_given : List IS := [(.asg (.nm 3) (.ite (.cmp .isin (.var 1) (.att (.var 0) 32)) (.bin .sub (.sub (.att (.var 0) 13) (.var 1)) (.sub (.att (.var 0) 32) (.var 1))) (.cst .non))), (.ite (.cmp .is_ (.var 2) (.cst .non)) [(.ret (.ite (.cmp .is_ (.var 3) (.cst .non)) (.cst (.int 0)) (.var 3)))] []), (.ite (.or (.cmp .is_ (.var 3) (.cst .non)) (.not (.fn 25 [(.var 2), (.cst (.int 0)), (.var 3)] []))) [.nev] []), (.ret (.var 2))]
abbrev fd_Keeper_what_given : Fd := ⟨3, 4, is_Keeper_what_given⟩ -- 129
def is_Keeper_what_out : List IS := [(.asg (.nm 3) (.me [1] 41 (.var 0) [(.var 1)] [])), (.ite (.cmp .is_ (.var 2) (.cst .non)) [(.asg (.nm 4) (.bi .sorted [(.lc (.tup [(.sub (.att (.var 0) 33) (.var 5)), (.var 5)]) (.nm 5) .it [(.var 3)] [] [5])])), (.ret (.bi .tuple [(.lc (.var 5) (.tp [(.nm 6), (.nm 5)]) .it [(.slc (.var 4) [] [(.cst (.int 1))])] [] [6, 5])]))] []), (.ite (.or (.not (.fn 29 [(.var 2), (.var 3)] [])) (.and (.cmp .eq (.var 2) (.tup [])) (.cmp .ne (.var 3) (.lst [])))) [.nev] []), (.ret (.var 2))]
abbrev fd_Keeper_what_out : Fd := ⟨3, 7, is_Keeper_what_out⟩ -- 130
def is_Keeper_met : List IS := [(.asg (.att (.var 0) 14) (.bi .sorted [(.att (.var 0) 32)])), (.asg (.att (.var 0) 34) (.lst [(.bin .add (.sub (.att (.var 0) 34) (.cst (.int 0))) (.var 3)), (.bin .add (.sub (.att (.var 0) 34) (.cst (.int 1))) (.var 4)), (.bin .add (.sub (.att (.var 0) 34) (.cst (.int 2))) (.var 5))])), (.ex (.mt .append (.att (.var 0) 35) [(.tup [(.var 1), (.var 2)])])), (.ret (.var 2))]
abbrev fd_Keeper_met : Fd := ⟨6, 6, is_Keeper_met⟩ -- 131
def is_Keeper_call : List IS := [(.ex (.fn 28 [(.att (.var 0) 13), (.var 1)] [])), (.asg (.nm 4) (.me [1] 43 (.var 0) [(.var 1), (.var 2)] [])), (.asg (.nm 5) (.me [1] 44 (.var 0) [(.var 1), (.var 3)] [])), (.asg (.sub (.att (.var 0) 33) (.var 1)) (.bi .len [(.att (.var 0) 35)])), (.ite (.cmp .isin (.var 1) (.att (.var 0) 32)) [(.asg (.sub (.att (.var 0) 32) (.var 1)) (.bin .add (.sub (.att (.var 0) 32) (.var 1)) (.var 4))), (.ret (.me [1] 45 (.var 0) [(.tup [(.cst (.str "call")), (.var 1)]), (.tup [(.cst (.int 0)), (.var 4), (.cst (.int 0)), (.tup [])]), (.cst (.int 0)), (.var 4), (.cst (.int 0))] []))] []), (.asg (.nm 6) (.ite (.cmp .ne (.var 5) (.tup [])) (.me [1] 42 (.var 0) [] []) (.cst (.int 0)))), (.asg (.nm 7) (.sub (.att (.var 0) 13) (.var 1))), (.asg (.att (.var 0) 32) (.heap (.dc (.var 8) (.bin .sub (.sub (.att (.var 0) 32) (.var 8)) (.var 6)) (.nm 8) .keys [(.att (.var 0) 32)] [(.cmp .notin (.var 8) (.var 5))] [8]))), (.asg (.sub (.att (.var 0) 32) (.var 1)) (.var 7)), (.ret (.me [1] 45 (.var 0) [(.tup [(.cst (.str "call")), (.var 1)]), (.tup [(.var 7), (.cst (.int 0)), (.var 6), (.bi .tuple [(.bi .sorted [(.var 5)])])]), (.var 7), (.cst (.int 0)), (.cst (.int 0))] []))]
abbrev fd_Keeper_call : Fd := ⟨4, 9, is_Keeper_call⟩ -- 132
def is_Keeper_void : List IS := [(.ex (.fn 28 [(.att (.var 0) 13), (.var 1)] [])), (.asg (.nm 2) (.mt .dpop (.att (.var 0) 32) [(.var 1), (.cst (.int 0))])), (.ret (.me [1] 45 (.var 0) [(.tup [(.cst (.str "void")), (.var 1)]), (.var 2), (.cst (.int 0)), (.cst (.int 0)), (.var 2)] []))]
abbrev fd_Keeper_void : Fd := ⟨2, 3, is_Keeper_void⟩ -- 133
def is_Keeper_accounts : List IS := [(.ret (.bi .dict [(.att (.var 0) 32)]))]
abbrev fd_Keeper_accounts : Fd := ⟨1, 1, is_Keeper_accounts⟩ -- 134
def is_Keeper_journal : List IS := [(.ret (.bi .list [(.att (.var 0) 35)]))]
abbrev fd_Keeper_journal : Fd := ⟨1, 1, is_Keeper_journal⟩ -- 135
def is_Keeper_mark : List IS := [(.ex (.mt .append (.att (.var 0) 36) [(.tup [(.bi .dict [(.att (.var 0) 32)]), (.bi .dict [(.att (.var 0) 33)]), (.att (.var 0) 34), (.bi .len [(.att (.var 0) 35)])])])), (.ret (.bin .sub (.bi .len [(.att (.var 0) 36)]) (.cst (.int 1))))]
abbrev fd_Keeper_mark : Fd := ⟨1, 1, is_Keeper_mark⟩ -- 136
def is_Keeper_back : List IS := [(.ite (.not (.fn 25 [(.var 1), (.cst (.int 0)), (.bin .sub (.bi .len [(.att (.var 0) 36)]) (.cst (.int 1)))] [])) [.nev] []), (.asg (.tp [(.nm 2), (.nm 3), (.att (.var 0) 34), (.nm 4)]) (.sub (.att (.var 0) 36) (.var 1))), (.asg (.tp [(.att (.var 0) 32), (.att (.var 0) 33)]) (.tup [(.heap (.bi .dict [(.var 2)])), (.heap (.bi .dict [(.var 3)]))])), (.asg (.att (.var 0) 14) (.bi .sorted [(.att (.var 0) 32)])), (.asg (.att (.var 0) 35) (.heap (.slc (.att (.var 0) 35) [] [(.var 4)]))), (.asg (.att (.var 0) 36) (.heap (.slc (.att (.var 0) 36) [] [(.bin .add (.var 1) (.cst (.int 1)))])))]
abbrev fd_Keeper_back : Fd := ⟨2, 5, is_Keeper_back⟩ -- 137
def is_missing : List IS := [(.for_ (.nm 2) .it [(.bi .sorted [(.var 0)])] [(.ite (.inown true 10 (.var 2) (.var 1)) [(.ret (.var 2))] [])]), (.ret (.cst .non))]
abbrev fd_missing : Fd := ⟨2, 3, is_missing⟩ -- 138
def is__law_pick_v1 : List IS := [(.ret (.sub (.var 1) (.fn 1 [(.var 0), (.bi .len [(.var 1)])] [])))]
abbrev fd__law_pick_v1 : Fd := ⟨2, 2, is__law_pick_v1⟩ -- 139
def is__law_new : List IS := [(.own 2 (.dsp [(.cst (.str "places")), (.var 0), (.cst (.str "things")), (.var 1), (.cst (.str "credits_so")), (.dsp []), (.cst (.str "last")), (.dsp []), (.cst (.str "calls")), (.cst (.int 0))])), (.ex (.mt .upd (.var 2) [(.dsp [(.cst (.str "paid")), (.cst (.int 0)), (.cst (.str "given_so")), (.cst (.int 0)), (.cst (.str "lost_so")), (.cst (.int 0)), (.cst (.str "told")), (.lst [])])])), (.ret (.frz 2))]
abbrev fd__law_new : Fd := ⟨2, 3, is__law_new⟩ -- 140
def is__law_choices : List IS := [(.asg (.nm 2) (.sub (.var 0) (.cst (.str "credits_so")))), (.ite (.or (.cmp .isin (.var 1) (.var 2)) (.cmp .lt (.bi .len [(.var 2)]) (.sub (.var 0) (.cst (.str "places"))))) [(.ret (.lst []))] []), (.asg (.nm 3) (.bi .min [(.lc (.sub (.var 2) (.var 4)) (.nm 4) .it [(.var 2)] [] [4])])), (.ret (.bi .sorted [(.lc (.var 4) (.nm 4) .it [(.var 2)] [(.cmp .eq (.sub (.var 2) (.var 4)) (.var 3))] [4])]))]
abbrev fd__law_choices : Fd := ⟨2, 5, is__law_choices⟩ -- 141
def is__law_called : List IS := [(.par 9 10 true false (.sub (.var 0) (.cst (.str "credits_so"))) (.sub (.sub (.var 0) (.cst (.str "things"))) (.var 1))), (.asg (.nm 4) (.fn 141 [(.var 0), (.var 1)] [])), (.asg (.sub (.var 0) (.cst (.str "calls"))) (.bin .add (.sub (.var 0) (.cst (.str "calls"))) (.cst (.int 1)))), (.asg (.sub (.sub (.var 0) (.cst (.str "last"))) (.var 1)) (.sub (.var 0) (.cst (.str "calls")))), (.ite (.cmp .isin (.var 1) (.var 9)) [(.asg (.nm 11) (.ite (.cmp .is_ (.var 2) (.cst .non)) (.bin .sub (.var 10) (.sub (.var 9) (.var 1))) (.var 2))), (.asg (.sub (.var 9) (.var 1)) (.bin .add (.sub (.var 9) (.var 1)) (.var 11))), (.ret (.fn 145 [(.var 0), (.tup [(.cst (.str "call")), (.var 1)]), (.tup [(.cst (.int 0)), (.var 11), (.cst (.int 0)), (.tup [])]), (.cst (.int 0)), (.var 11), (.cst (.int 0))] []))] []), (.asg (.nm 5) (.var 3)), (.ite (.cmp .is_ (.var 3) (.cst .non)) [(.asg (.nm 5) (.bi .tuple [(.lc (.var 8) (.tp [(.nm 12), (.nm 8)]) .it [(.slc (.bi .sorted [(.lc (.tup [(.sub (.sub (.var 0) (.cst (.str "last"))) (.var 8)), (.var 8)]) (.nm 8) .it [(.var 4)] [] [8])]) [] [(.cst (.int 1))])] [] [12, 8])]))] []), (.asg (.nm 6) (.ite (.cmp .ne (.var 4) (.lst [])) (.bi .min [(.lc (.sub (.var 9) (.var 8)) (.nm 8) .it [(.var 9)] [] [8])]) (.cst (.int 0)))), (.own 7 (.dsp [])), (.for_ (.nm 8) .it [(.frz 9)] [(.ite (.cmp .notin (.var 8) (.var 5)) [(.asg (.sub (.var 7) (.var 8)) (.bin .sub (.sub (.var 9) (.var 8)) (.var 6)))] [])]), (.asg (.sub (.var 7) (.var 1)) (.var 10)), (.asg (.sub (.var 0) (.cst (.str "credits_so"))) (.frz 7)), (.ret (.fn 145 [(.var 0), (.tup [(.cst (.str "call")), (.var 1)]), (.tup [(.var 10), (.cst (.int 0)), (.var 6), (.bi .tuple [(.bi .sorted [(.var 5)])])]), (.var 10), (.cst (.int 0)), (.cst (.int 0))] []))]
abbrev fd__law_called : Fd := ⟨4, 13, is__law_called⟩ -- 142
def is__law_voided : List IS := [(.asg (.nm 2) (.sub (.var 0) (.cst (.str "credits_so")))), (.asg (.sub (.var 0) (.cst (.str "credits_so"))) (.bi .dict [(.lc (.tup [(.var 3), (.sub (.var 2) (.var 3))]) (.nm 3) .it [(.var 2)] [(.cmp .ne (.var 3) (.var 1))] [3])])), (.ret (.fn 145 [(.var 0), (.tup [(.cst (.str "void")), (.var 1)]), (.mt .dget (.var 2) [(.var 1), (.cst (.int 0))]), (.cst (.int 0)), (.cst (.int 0)), (.mt .dget (.var 2) [(.var 1), (.cst (.int 0))])] []))]
abbrev fd__law_voided : Fd := ⟨2, 4, is__law_voided⟩ -- 143
def is__law_chosen : List IS := [(.par 3 4 false false (.sub (.var 1) (.cst (.str "credits_so"))) (.fn 141 [(.var 1), (.var 2)] [])), (.par 5 6 false false (.cst .non) (.cst .non)), (.ite (.and (.cmp .isin (.var 2) (.var 3)) (.cmp .gt (.fn 1 [(.var 0), (.cst (.int 3))] []) (.cst (.int 0)))) [(.asg (.nm 7) (.bin .sub (.sub (.sub (.var 1) (.cst (.str "things"))) (.var 2)) (.sub (.var 3) (.var 2)))), (.asg (.nm 5) (.fn 139 [(.var 0), (.lst [(.cst (.int 0)), (.var 7), (.fn 1 [(.var 0), (.bin .add (.var 7) (.cst (.int 1)))] []), (.bin .fdiv (.var 7) (.cst (.int 2)))])] []))] []), (.ite (.and (.cmp .ne (.var 4) (.lst [])) (.cmp .gt (.fn 1 [(.var 0), (.cst (.int 4))] []) (.cst (.int 0)))) [(.asg (.nm 8) (.lc (.var 9) (.nm 9) .it [(.var 4)] [(.cmp .eq (.fn 1 [(.var 0), (.cst (.int 3))] []) (.cst (.int 0)))] [9])), (.asg (.nm 6) (.sls (.bi .tuple [(.ite (.cmp .ne (.var 8) (.lst [])) (.var 8) (.lst [(.fn 139 [(.var 0), (.var 4)] [])]))]) (.fn 139 [(.var 0), (.lst [(.cst (.int 1)), (.neg (.cst (.int 1)))])] [])))] []), (.ret (.lst [(.var 5), (.var 6)]))]
abbrev fd__law_chosen : Fd := ⟨3, 10, is__law_chosen⟩ -- 144
def is__law_noted : List IS := [(.asg (.tp [(.sub (.var 0) (.cst (.str "paid"))), (.sub (.var 0) (.cst (.str "given_so")))]) (.tup [(.bin .add (.sub (.var 0) (.cst (.str "paid"))) (.var 3)), (.bin .add (.sub (.var 0) (.cst (.str "given_so"))) (.var 4))])), (.asg (.sub (.var 0) (.cst (.str "lost_so"))) (.bin .add (.sub (.var 0) (.cst (.str "lost_so"))) (.var 5))), (.asg (.sub (.var 0) (.cst (.str "told"))) (.bin .add (.sub (.var 0) (.cst (.str "told"))) (.lst [(.tup [(.var 1), (.var 2)])]))), (.ret (.var 2))]
abbrev fd__law_noted : Fd := ⟨6, 6, is__law_noted⟩ -- 145
def is_gap : List IS := [(.par 5 6 false false (.me [1] 38 (.var 0) [] []) (.me [0, 1] 16 (.var 1) [] [])), (.asg (.nm 2) (.bi .sum [(.lc (.bin .sub (.sub (.var 6) (.var 7)) (.mt .dget (.var 5) [(.var 7), (.cst (.int 0))])) (.nm 7) .it [(.me [0, 1] 19 (.var 1) [] [])] [] [7])])), (.asg (.nm 3) (.bin .mul (.bin .add (.bin .sub (.att (.var 0) 12) (.att (.var 1) 12)) (.cst (.int 1))) (.prp (.var 0) 20))), (.asg (.nm 4) (.bin .mul (.bin .sub (.att (.var 1) 12) (.cst (.int 1))) (.bi .sum [(.lc (.sub (.var 5) (.var 7)) (.nm 7) .it [(.var 5)] [] [7])]))), (.ret (.bin .sub (.bin .sub (.bin .sub (.bin .mul (.att (.var 0) 12) (.prp (.var 1) 20)) (.var 3)) (.var 4)) (.bin .mul (.att (.var 0) 12) (.var 2))))]
abbrev fd_gap : Fd := ⟨2, 8, is_gap⟩ -- 157
def is_row_of : List IS := [(.ret (.lc (.var 1) (.tp [(.nm 1), (.nm 2)]) .it [(.var 0)] [] [1, 2]))]
abbrev fd_row_of : Fd := ⟨1, 3, is_row_of⟩ -- 158
def is_rents_of : List IS := [(.ret (.lc (.ite (.cmp .eq (.sub (.var 1) (.cst (.int 0))) (.cst (.str "call"))) (.sub (.var 2) (.cst (.int 2))) (.cst (.int 0))) (.tp [(.nm 1), (.nm 2)]) .it [(.var 0)] [] [1, 2]))]
abbrev fd_rents_of : Fd := ⟨1, 3, is_rents_of⟩ -- 159
def is_rent_limit : List IS := [(.asg (.nm 2) (.me [1] 47 (.var 0) [] [])), (.ret (.fn 94 [(.me [0, 1] 16 (.var 0) [] []), (.fn 158 [(.var 2)] []), (.var 1), (.fn 159 [(.var 2)] [])] []))]
abbrev fd_rent_limit : Fd := ⟨2, 3, is_rent_limit⟩ -- 160
def is_Steps___init__ : List IS := [(.asg (.att (.var 0) 13) (.var 1)), (.asg (.att (.var 0) 12) (.var 2)), (.asg (.att (.var 0) 32) (.heap (.dsp [])))]
abbrev fd_Steps___init__ : Fd := ⟨3, 3, is_Steps___init__⟩ -- 173
def is_Steps_takes : List IS := [(.asg (.tp [(.nm 3), (.nm 4)]) (.var 1)), (.ite (.cmp .eq (.var 3) (.cst (.str "void"))) [(.asg (.nm 5) (.mt .dget (.att (.var 0) 32) [(.var 4), (.cst (.int 0))])), (.ite (.not (.fn 25 [(.var 2), (.var 5), (.var 5)] [])) [(.ret (.cst (.bl false)))] []), (.ex (.mt .dpop (.att (.var 0) 32) [(.var 4), (.cst .non)])), (.ret (.cst (.bl true)))] []), (.ite (.or (.not (.bi .isTup [(.var 2)])) (.or (.cmp .ne (.bi .len [(.var 2)]) (.cst (.int 4))) (.not (.bi .isTup [(.sub (.var 2) (.cst (.int 3)))])))) [(.ret (.cst (.bl false)))] []), (.ite (.cmp .isin (.var 4) (.att (.var 0) 32)) [(.ret (.me [2] 52 (.var 0) [(.var 4), (.var 2)] []))] []), (.ret (.me [2] 51 (.var 0) [(.var 4), (.var 2)] []))]
abbrev fd_Steps_takes : Fd := ⟨3, 6, is_Steps_takes⟩ -- 174
def is_Steps_takes_found : List IS := [(.asg (.nm 3) (.bin .sub (.sub (.att (.var 0) 13) (.var 1)) (.sub (.att (.var 0) 32) (.var 1)))), (.ite (.or (.not (.fn 25 [(.sub (.var 2) (.cst (.int 0))), (.cst (.int 0)), (.cst (.int 0))] [])) (.or (.not (.fn 25 [(.sub (.var 2) (.cst (.int 1))), (.cst (.int 0)), (.var 3)] [])) (.not (.fn 25 [(.sub (.var 2) (.cst (.int 2))), (.cst (.int 0)), (.cst (.int 0))] [])))) [(.ret (.cst (.bl false)))] []), (.asg (.sub (.att (.var 0) 32) (.var 1)) (.bin .add (.sub (.att (.var 0) 32) (.var 1)) (.sub (.var 2) (.cst (.int 1))))), (.ret (.cmp .eq (.sub (.var 2) (.cst (.int 3))) (.tup [])))]
abbrev fd_Steps_takes_found : Fd := ⟨3, 4, is_Steps_takes_found⟩ -- 175
def is_Steps_takes_fetched : List IS := [(.asg (.nm 3) (.sub (.att (.var 0) 13) (.var 1))), (.ite (.or (.not (.fn 25 [(.sub (.var 2) (.cst (.int 0))), (.var 3), (.var 3)] [])) (.not (.fn 25 [(.sub (.var 2) (.cst (.int 1))), (.cst (.int 0)), (.cst (.int 0))] []))) [(.ret (.cst (.bl false)))] []), (.par 5 6 false false (.cst (.int 0)) (.lst [])), (.ite (.cmp .ge (.bi .len [(.att (.var 0) 32)]) (.att (.var 0) 12)) [(.asg (.nm 5) (.bi .min [(.lc (.sub (.att (.var 0) 32) (.var 7)) (.nm 7) .keys [(.att (.var 0) 32)] [] [7])])), (.asg (.nm 6) (.lc (.var 7) (.nm 7) .keys [(.att (.var 0) 32)] [(.cmp .eq (.sub (.att (.var 0) 32) (.var 7)) (.var 5))] [7]))] []), (.asg (.nm 4) (.sub (.var 2) (.cst (.int 3)))), (.ite (.or (.not (.fn 25 [(.sub (.var 2) (.cst (.int 2))), (.var 5), (.var 5)] [])) (.or (.not (.fn 29 [(.var 4), (.var 6)] [])) (.cmp .ne (.bi .list [(.var 4)]) (.bi .sorted [(.var 4)])))) [(.ret (.cst (.bl false)))] []), (.ite (.and (.cmp .eq (.var 4) (.tup [])) (.cmp .ne (.var 6) (.lst []))) [(.ret (.cst (.bl false)))] []), (.asg (.att (.var 0) 32) (.heap (.dc (.var 7) (.bin .sub (.sub (.att (.var 0) 32) (.var 7)) (.var 5)) (.nm 7) .keys [(.att (.var 0) 32)] [(.cmp .notin (.var 7) (.var 4))] [7]))), (.asg (.sub (.att (.var 0) 32) (.var 1)) (.var 3)), (.ret (.cst (.bl true)))]
abbrev fd_Steps_takes_fetched : Fd := ⟨3, 8, is_Steps_takes_fetched⟩ -- 176
def is_fault : List IS := [(.asg (.nm 3) (.new 2 [(.var 0), (.var 1)] [])), (.for_ (.tp [(.nm 4), (.tp [(.nm 5), (.nm 6)])]) .enum [(.var 2)] [(.ite (.not (.me [2] 53 (.var 3) [(.var 5), (.var 6)] [])) [(.ret (.var 4))] [])]), (.ret (.cst .non))]
abbrev fd_fault : Fd := ⟨3, 7, is_fault⟩ -- 177
def is__law_moved : List IS := [(.own 4 (.bi .list [(.var 1)])), (.ite (.cmp .isin (.var 3) (.var 4)) [(.ret (.tup []))] []), (.own 5 (.lst [])), (.whl (.or (.cmp .ge (.bi .len [(.var 4)]) (.var 2)) (.and (.cmp .ne (.var 4) (.lst [])) (.cmp .eq (.fn 1 [(.var 0), (.cst (.int 6))] []) (.cst (.int 0))))) [(.ex (.mt .append (.var 5) [(.mt .pop (.var 4) [(.fn 1 [(.var 0), (.bi .len [(.var 4)])] [])])]))]), (.ret (.bi .tuple [(.var 5)]))]
abbrev fd__law_moved : Fd := ⟨4, 6, is__law_moved⟩ -- 188
def is_block_plan : List IS := [(.asg (.nm 3) (.fn 7 [(.var 0)] [])), (.ite (.cmp .gt (.var 2) (.var 1)) [(.ret (.var 3))] []), (.asg (.nm 4) (.lc (.var 7) (.tp [(.nm 6), (.nm 7)]) .it [(.var 3)] [(.and (.cmp .ge (.var 7) (.var 1)) (.chn .lt .lt (.cst (.int 0)) (.bin .mod (.var 7) (.var 1)) (.var 2)))] [6, 7])), (.ret (.lc (.var 5) (.nm 5) .it [(.var 3)] [(.cmp .isin (.sub (.var 5) (.cst (.int 1))) (.var 4))] [5]))]
abbrev fd_block_plan : Fd := ⟨3, 8, is_block_plan⟩ -- 204
def is_Cruel___init__ : List IS := [(.asg (.att (.var 0) 13) (.bi .dict [(.var 1)])), (.asg (.att (.var 0) 54) (.var 2)), (.asg (.att (.var 0) 12) (.var 3)), (.asg (.att (.var 0) 55) (.heap (.lst []))), (.asg (.att (.var 0) 56) (.heap (.lst []))), (.asg (.att (.var 0) 57) (.heap (.lst []))), (.asg (.att (.var 0) 58) (.heap (.lst [])))]
abbrev fd_Cruel___init__ : Fd := ⟨4, 4, is_Cruel___init__⟩ -- 214
def is_Cruel_next_call : List IS := [(.ite (.cmp .lt (.bi .len [(.att (.var 0) 55)]) (.att (.var 0) 12)) [(.asg (.nm 2) (.sub (.lc (.var 4) (.nm 4) .it [(.bi .sorted [(.att (.var 0) 13)])] [(.cmp .notin (.var 4) (.att (.var 0) 55))] [4]) (.cst (.int 0)))), (.ex (.mt .append (.att (.var 0) 56) [(.var 2)]))] [(.ite (.cmp .lt (.bi .len [(.att (.var 0) 57)]) (.bin .add (.bin .sub (.att (.var 0) 54) (.att (.var 0) 12)) (.cst (.int 1)))) [(.asg (.nm 3) (.bin .add (.bin .add (.bi .list [(.var 1)]) (.att (.var 0) 56)) (.att (.var 0) 57))), (.asg (.nm 2) (.sub (.lc (.var 4) (.nm 4) .it [(.bi .sorted [(.att (.var 0) 13)])] [(.cmp .notin (.var 4) (.var 3))] [4]) (.cst (.int 0)))), (.ex (.mt .append (.att (.var 0) 57) [(.var 2)]))] [(.asg (.nm 2) (.sub (.lc (.var 4) (.nm 4) .it [(.bin .add (.att (.var 0) 56) (.att (.var 0) 57))] [(.cmp .notin (.var 4) (.var 1))] [4]) (.cst (.int 0)))), (.ex (.mt .append (.att (.var 0) 58) [(.var 2)]))])]), (.ite (.cmp .eq (.bin .add (.bi .len [(.att (.var 0) 57)]) (.bi .len [(.att (.var 0) 58)])) (.att (.var 0) 54)) [(.ex (.me [4] 62 (.var 0) [] []))] []), (.ex (.mt .append (.att (.var 0) 55) [(.var 2)])), (.ret (.var 2))]
abbrev fd_Cruel_next_call : Fd := ⟨2, 5, is_Cruel_next_call⟩ -- 215
def is_Cruel_end_round : List IS := [(.own 1 (.lst [(.sub (.att (.var 0) 57) (.neg (.cst (.int 1))))])), (.for_ (.nm 2) .it [(.bin .add (.att (.var 0) 58) (.att (.var 0) 56))] [(.ite (.and (.cmp .notin (.var 2) (.var 1)) (.cmp .lt (.bi .len [(.var 1)]) (.att (.var 0) 12))) [(.ex (.mt .append (.var 1) [(.var 2)]))] [])]), (.asg (.att (.var 0) 56) (.mv 1)), (.asg (.att (.var 0) 57) (.heap (.lst []))), (.asg (.att (.var 0) 58) (.heap (.lst [])))]
abbrev fd_Cruel_end_round : Fd := ⟨1, 3, is_Cruel_end_round⟩ -- 216
def is_Cruel_row : List IS := [(.ret (.lc (.tup [(.cst (.str "call")), (.var 1)]) (.nm 1) .it [(.att (.var 0) 55)] [] [1]))]
abbrev fd_Cruel_row : Fd := ⟨1, 2, is_Cruel_row⟩ -- 217
def is_Cruel_plan : List IS := [(.ret (.sub (.fn 95 [(.att (.var 0) 13), (.me [4] 60 (.var 0) [] []), (.att (.var 0) 12)] []) (.cst (.int 1))))]
abbrev fd_Cruel_plan : Fd := ⟨1, 1, is_Cruel_plan⟩ -- 218
def is__law_stretches_v1 : List IS := [(.own 1 (.lst [])), (.for_ (.tp [(.nm 2), (.tp [(.nm 3), (.nm 4)])]) .enum [(.var 0)] [(.ite (.cmp .eq (.var 3) (.cst (.str "call"))) [(.asg (.nm 5) (.lc (.var 6) (.nm 6) .rng [(.bin .add (.var 2) (.cst (.int 1))), (.bi .len [(.var 0)])] [(.cmp .eq (.sub (.sub (.var 0) (.var 6)) (.cst (.int 1))) (.var 4))] [6])), (.ite (.and (.cmp .ne (.var 5) (.lst [])) (.cmp .eq (.sub (.sub (.var 0) (.sub (.var 5) (.cst (.int 0)))) (.cst (.int 0))) (.cst (.str "call")))) [(.ex (.mt .append (.var 1) [(.tup [(.var 2), (.sub (.var 5) (.cst (.int 0)))])]))] [])] [])]), (.ret (.frz 1))]
abbrev fd__law_stretches_v1 : Fd := ⟨1, 7, is__law_stretches_v1⟩ -- 219
def is__law_crossing_v1 : List IS := [(.own 2 (.lst [])), (.for_ (.tp [(.nm 3), (.tp [(.nm 4), (.nm 5)])]) .enum [(.var 0)] [(.ite (.cmp .eq (.var 4) (.cst (.str "call"))) [(.ex (.mt .append (.var 2) [(.bi .len [(.lc (.var 6) (.nm 6) .it [(.var 1)] [(.chn .lt .lt (.sub (.var 6) (.cst (.int 0))) (.var 3) (.sub (.var 6) (.cst (.int 1))))] [6])])]))] [])]), (.ret (.frz 2))]
abbrev fd__law_crossing_v1 : Fd := ⟨2, 7, is__law_crossing_v1⟩ -- 220
def is__law_fits_v1 : List IS := [(.ret (.cmp .lt (.bi .max [(.bin .add (.lst [(.cst (.int 0))]) (.fn 220 [(.var 0), (.var 2)] []))]) (.var 1)))]
abbrev fd__law_fits_v1 : Fd := ⟨3, 3, is__law_fits_v1⟩ -- 221
def is__law_cost_v1 : List IS := [(.asg (.nm 3) (.bi .sum [(.lc (.sub (.var 0) (.var 5)) (.tp [(.nm 4), (.nm 5)]) .it [(.var 1)] [(.cmp .eq (.var 4) (.cst (.str "call")))] [4, 5])])), (.ret (.bin .sub (.var 3) (.bi .sum [(.lc (.sub (.var 0) (.sub (.sub (.var 1) (.var 6)) (.cst (.int 1)))) (.tp [(.nm 6), (.nm 7)]) .it [(.var 2)] [] [6, 7])])))]
abbrev fd__law_cost_v1 : Fd := ⟨3, 8, is__law_cost_v1⟩ -- 222
def is__law_is_plan_v1 : List IS := [(.ite (.or (.not (.bi .isLst [(.var 2)])) (.cmp .ne (.lc (.var 4) (.nm 4) .it [(.var 2)] [(.not (.bi .isTup [(.var 4)]))] [4]) (.lst []))) [(.ret (.cst (.bl false)))] []), (.asg (.nm 3) (.lc (.bi .repr [(.var 4)]) (.nm 4) .it [(.fn 219 [(.var 0)] [])] [] [4])), (.ite (.cmp .ne (.lc (.var 4) (.nm 4) .it [(.var 2)] [(.cmp .notin (.bi .repr [(.var 4)]) (.var 3))] [4]) (.lst [])) [(.ret (.cst (.bl false)))] []), (.ret (.and (.cmp .eq (.var 2) (.bi .sorted [(.var 2)])) (.and (.cmp .eq (.bi .lenset [(.var 2)]) (.bi .len [(.var 2)])) (.fn 221 [(.var 0), (.var 1), (.var 2)] []))))]
abbrev fd__law_is_plan_v1 : Fd := ⟨3, 5, is__law_is_plan_v1⟩ -- 223
end Rs
end
section
set_option maxRecDepth 100000
set_option maxHeartbeats 4000000
/-! The head where there are classes: functions by paths. -/
namespace Rs
open PySem PySem.Spec PyProof.Rows L2
/-- a def that stands at a path -/
structure PathD where
  path : PySem.W.Frag → Addr
  d : He.DefD
def fnA (K : PySem.W.Frag) (a : Addr) : He.FnW := match K.lookup a with
  | some ⟨_, _, .func fd, _⟩ => some (fd.name, fd.qualname, fd.params, fd.body, fd.scope, fd.globals, fd.closure, fd.builtins)
  | _ => none
def PathD.ok (K : PySem.W.Frag) (p : PathD) : Bool := PySem.W.keepIn K (.ref (p.path K)) && (match K.lookup (p.path K) with
  | some ⟨_, _, .func fd, _⟩ => PySem.W.codeIn K fd.code p.d.qual && (He.dflB K fd.defaults (p.d.dvs K) && He.kwdB K fd.kwdefaults (p.d.kws K))
  | _ => false)
theorem PathD.funD {K : PySem.W.Frag} {p : PathD} (e : fnA K (p.path K) = p.d.val) (c : p.ok K = true) : ∃ fd, FunD K p.d.name p.d.qual p.d.params p.d.body p.d.scope (p.d.dvs K) (p.d.kws K) (p.path K) fd := by
  obtain ⟨kp, c2⟩ := He.ba c
  unfold fnA at e
  cases q : K.lookup (p.path K) with
  | none =>
    rw [q] at c2
    cases c2
  | some o =>
    obtain ⟨oc, od, dt, osl⟩ := o
    rw [q] at c2 e
    cases dt with
    | func fd =>
      obtain ⟨n1, n2, n3, n4, n5, n6, n7, n8, n9, n10, n11, n12, n13, n14, n15⟩ := fd
      have e2 : (some (n1, n2, n3, n4, n5, n6, n7, n15) : He.FnW) = some (p.d.name, p.d.qual, p.d.params, .stmts p.d.body, p.d.scope, mainGlobals, [], builtinsNs) := e
      simp only [Option.some.injEq, Prod.mk.injEq] at e2
      obtain ⟨h1, h2, h3, h4, h5, h6, h7, h8⟩ := e2
      subst h1 h2 h3 h4 h5 h6 h7 h8
      have c3 : (PySem.W.codeIn K n13 p.d.qual && (He.dflB K n8 (p.d.dvs K) && He.kwdB K n9 (p.d.kws K))) = true := c2
      obtain ⟨k1, k2⟩ := He.ba c3
      obtain ⟨k3, k4⟩ := He.ba k2
      exact ⟨_, ⟨oc, od, n8, n9, n10, n11, n12, n13, n14, osl, rfl, q, k1, He.dflB_ok k3, He.kwdB_ok k4⟩, kp⟩
    | _ => cases c2
abbrev AlQ : Type := Bool × List He.FnW
def obsQ (n : Nat) (ow : PySem.W.Frag → Bool) (fa : List He.Fa) (fn : List PathD) (g : Addr → Option Obj) : AlQ :=
  ((sysB (He.frG g (asR g n)) && ow (He.frG g (asR g n))) && ((fa.all fun f => f.ok (He.frG g (asR g n))) && fn.all fun p => p.ok (He.frG g (asR g n))), fn.map fun p => fnA (He.frG g (asR g n)) (p.path (He.frG g (asR g n))))
structure SaysQ (ow : PySem.W.Frag → Bool) (fa : List He.Fa) (fn : List PathD) (K : PySem.W.Frag) : Prop where
  b : ((sysB K && ow K) && ((fa.all fun f => f.ok K) && fn.all fun p => p.ok K)) = true
  v : (fn.map fun p => fnA K (p.path K)) = fn.map fun p => p.d.val
def valQ (fn : List PathD) : AlQ := (true, fn.map fun p => p.d.val)
def hookQ (n : Nat) (ow : PySem.W.Frag → Bool) (fa : List He.Fa) (fn : List PathD) : PySem.W.Hook where
  α := AlQ
  obs := fun s => obsQ n ow fa fn s.heap.get?
  val := fun _ => valQ fn
  says := fun _ h => ∃ K : PySem.W.Frag, K.In h ∧ SaysQ ow fa fn K
  of := fun _ _ e => ⟨_, He.frG_in, congrArg (fun z : AlQ => z.1) e, congrArg (fun z : AlQ => z.2) e⟩
  keeps := fun _ _ _ ⟨K, hK, c⟩ k => ⟨K, PySem.W.Frag.In.keeps hK k, c⟩
theorem obsQ_eq {n : Nat} {ow : PySem.W.Frag → Bool} {fa : List He.Fa} {fn : List PathD} {g : Addr → Option Obj} {s : Shared} (h : ∀ a, g a = s.heap.get? a) : obsQ n ow fa fn g = (hookQ n ow fa fn).obs s := by
  have e : g = s.heap.get? := funext h
  subst e
  rfl
section
variable {ow : PySem.W.Frag → Bool} {fa : List He.Fa} {fn : List PathD} {K : PySem.W.Frag}
theorem SaysQ.sys (c : SaysQ ow fa fn K) : sysB K = true := (He.ba (He.ba c.b).1).1
theorem SaysQ.own (c : SaysQ ow fa fn K) : ow K = true := (He.ba (He.ba c.b).1).2
theorem SaysQ.fact (c : SaysQ ow fa fn K) (i : Nat) {f : He.Fa} (h : fa[i]? = some f := by rfl) : f.ok K = true :=
  List.all_eq_true.mp (He.ba (He.ba c.b).2).1 f (List.mem_of_getElem? h)
theorem SaysQ.def_ (c : SaysQ ow fa fn K) (i : Nat) {p : PathD} (h : fn[i]? = some p := by rfl) : ∃ fd, FunD K p.d.name p.d.qual p.d.params p.d.body p.d.scope (p.d.dvs K) (p.d.kws K) (p.path K) fd := by
  have e2 : (fn.map fun p => fnA K (p.path K))[i]? = (fn.map fun p => p.d.val)[i]? := by rw [c.v]
  rw [List.getElem?_map, List.getElem?_map, h] at e2
  exact PathD.funD (Option.some.inj e2) (List.all_eq_true.mp (He.ba (He.ba c.b).2).2 p (List.mem_of_getElem? h))
end
/-! ### facts of one's own -/
def prA (K : PySem.W.Frag) (C f : Str) : Addr := He.ma K (He.ga K C) f
def prG (K : PySem.W.Frag) (C f : Str) : Addr := match PySem.W.recIn K (prA K C f) "property" with
  | some (.ref g :: _) => g
  | _ => 0
def prB (K : PySem.W.Frag) (C f : Str) : Bool := He.eqO (PySem.W.findIn K (.ref (He.ga K C)) f) (some (some (.ref (prA K C f)))) && (He.eqO (PySem.W.specialIn K (.ref (prA K C f)) "__get__") (some (some (.builtin "property.__get__"))) &&
  (decide (PySem.W.takesIn K (.ref (prA K C f)) = some true) && (match PySem.W.recIn K (prA K C f) "property" with
  | some (.ref _ :: _) => true
  | _ => false)))
theorem prB_ok {K : PySem.W.Frag} {C f : Str} (h : prB K C f = true) : PropOf K (He.ga K C) f (prA K C f) (prG K C f) := by
  obtain ⟨h1, h2⟩ := He.ba h
  obtain ⟨h3, h4⟩ := He.ba h2
  obtain ⟨h5, h6⟩ := He.ba h4
  refine ⟨He.eqO_ok h1, He.eqO_ok h3, of_decide_eq_true h5, ?_⟩
  unfold prG
  cases q : PySem.W.recIn K (prA K C f) "property" with
  | none => rw [q] at h6; cases h6
  | some l =>
    rw [q] at h6
    cases l with
    | nil => cases h6
    | cons v r => cases v with
      | ref g => exact ⟨r, rfl⟩
      | _ => cases h6
/-- a keyword's default that is an object -/
def kwA (K : PySem.W.Frag) (f : Str × Option Str) (x : Str) : Addr := match K.lookup (He.fAd K f) with
  | some ⟨_, _, .func fd, _⟩ => (match fd.kwdefaults with
    | .ref D => (match PySem.W.nsIn K D x with
      | some (some (.ref a)) => a
      | _ => 0)
    | _ => 0)
  | _ => 0
def tup0 (K : PySem.W.Frag) (a : Addr) : Bool := match K.lookup a with
  | some ⟨.type c, _, .seq its _, _⟩ => decide (c = "tuple") && decide (its.size = 0)
  | _ => false
theorem tup0_ok {K : PySem.W.Frag} {a : Addr} (h : tup0 K a = true) : KTup K a [] := by
  unfold tup0 at h
  split at h
  · rename_i c od its n sl q
    obtain ⟨h1, h2⟩ := He.ba h
    have h1 := of_decide_eq_true h1
    have h2 := of_decide_eq_true h2
    have e : its.toList = [] := by
      have : its.toList.length = 0 := by rw [Array.length_toList]; exact h2
      exact List.length_eq_zero_iff.mp this
    exact ⟨_, its, n, q, congrArg Value.type h1, rfl, by omega, by rw [e]; exact .nil⟩
  · cases h
end Rs
end
section
set_option maxRecDepth 100000
set_option maxHeartbeats 1000000
/-! More methods of dicts; items of instances as targets; op= at places. -/
namespace Rs
open PySem PySem.Spec PyProof.Rows L2
section
variable {G : Gl} {T : Tab} {F : Call} {k : Nat} {X : Cx} {e f eo : Expr} {es : List Expr} {pos apos cpos : Pos} {a b c : IE} {as : List IE}
theorem lv_two' {C C' : Cf} {R : Addr → Prop} (l : Lv C C') : Lv C { C' with rs := R } := ⟨l.ρ, l.fz, l.hf⟩
theorem kind_dct {m : Mt} {v : Val} (hm : m = .dget ∨ m = .dclear ∨ m = .upd) (h : mkind m v = true) : ∃ kvs, v = .dct kvs := by
  rcases hm with rfl | rfl | rfl <;> cases v <;> first | exact ⟨_, rfl⟩ | cases h
theorem se_dget (o : XO G k X) (ha : PE X eo (EE G T F a)) (hb : PE X e (EE G T F b)) (hc : PE X f (EE G T F c)) (m : M2 X eo "get" apos e f cpos := by exact ⟨rfl, rfl, rfl, rfl⟩) : PE X (.Call (.Attribute eo "get" apos) [e, f] [] cpos) (EE G T F (.mt .dget a [b, c])) := by
  have hu := o.room.units
  refine PE.weak (pe_dget2 (by omega) ha hb hc m) fun σ H Q ⟨C, s, x, s', hH, rl, ev, kk⟩ => ?_
  unfold evalE at ev
  obtain ⟨x1, s1, e1, ev2⟩ := bind_ok ev
  clear ev
  cases q : mkind .dget (deref s1 (opnd x1)) with
  | false => simp [q] at ev2
  | true =>
    simp only [q] at ev2
    obtain ⟨vs, s2, e2, ev3⟩ := bind_ok ev2
    clear ev2
    obtain ⟨kx, dx, s3, e3, e4, rfl⟩ := Vs_two e2
    show EE G T F a σ H fun x H1 => ∃ a, x = .ref a ∧ IsD H1 a ∧ EE G T F b σ H1 fun y H2 => EE G T F c σ H2 fun z H3 => ∃ o, DGet H3 a y o ∧ Q (o.getD z) H3
    refine EE_of_op hH rl e1 fun C1 v l1 r1 o1 => ?_
    obtain ⟨kvs0, hd⟩ := kind_dct (.inl rfl) q
    obtain ⟨p, ks0, rfl, hp0, _⟩ := is_dict r1 o1 hd
    have isd : IsD C1.H p := by
      rcases hp0 with h | ⟨b, h⟩
      · exact .inl ⟨ks0, .inl h⟩
      · exact .inl ⟨ks0, .inr ⟨b, h⟩⟩
    refine ⟨p, rfl, isd, EE_of_val rfl r1 e3 fun C2 kv l2 r2 h2 => EE_of_val rfl r2 e4 fun C3 dv l3 r3 h3 => ?_⟩
    have o3 : OR G C3 s2 σ (opnd x1) (.ref p) := OR.mono (l2.trans l3) o1
    unfold mtop at ev3
    cases q3 : deref s2 (opnd x1) with
    | dct kvs =>
      rw [q3] at ev3
      simp only at ev3
      cases q4 : keyV kx with
      | none => simp [q4] at ev3
      | some n =>
        simp only [q4, putLoc, R.ok.injEq] at ev3
        obtain ⟨rfl, rfl⟩ := ev3
        have hk := keyV_ok (h2.mono l3).nr q4
        obtain ⟨p', ks, ep, hp, hr⟩ := is_dict r3 o3 q3
        cases ep
        refine ⟨valV ks n, .inl ⟨ks, n, hp, hk, rfl⟩, ?_⟩
        have hg := hr.get (kk := n)
        cases q5 : dget kvs n with
        | none =>
          have hn : valV ks n = none := by
            have := hr.isSome (kk := n)
            rw [q5] at this
            cases z : valV ks n with
            | none => rfl
            | some y => rw [z] at this; cases this
          rw [hn]
          exact kk C3 dv ((l1.trans l2).trans l3) r3 (by rw [q5]; exact h3)
        | some y =>
          rw [q5] at hg
          obtain ⟨w, hw, hw2⟩ := hg
          rw [hw]
          exact kk C3 w ((l1.trans l2).trans l3) r3 (by rw [q5]; exact hw2)
    | _ => rw [q3] at ev3; simp at ev3
theorem Vs_nil {s s' : S} {vs : List Val} (h : evalVs T F [] s = .ok vs s') : vs = [] ∧ s' = s := by
  unfold evalVs at h
  cases h
  exact ⟨rfl, rfl⟩
theorem se_clear (o : XO G k X) (ha : PE X eo (EE G T F a)) (hbase : attributeBase eo "clear" X.env (eval eo X.env) = eval eo X.env := by rfl) (hline : (apos.endLine == cpos.line) = true := by rfl) : PE X (.Call (.Attribute eo "clear" apos) [] [] cpos) (EE G T F (.mt .dclear a [])) := by
  refine PE.weak (pe_dclear ha hbase hline) fun σ H Q ⟨C, s, x, s', hH, rl, ev, kk⟩ => ?_
  unfold evalE at ev
  obtain ⟨x1, s1, e1, ev2⟩ := bind_ok ev
  clear ev
  cases q : mkind .dclear (deref s1 (opnd x1)) with
  | false => simp [q] at ev2
  | true =>
    simp only [q] at ev2
    obtain ⟨vs, s2, e2, ev3⟩ := bind_ok ev2
    clear ev2
    obtain ⟨rfl, rfl⟩ := Vs_nil e2
    obtain ⟨kvs, hd⟩ := kind_dct (.inr (.inl rfl)) q
    rw [hd] at ev3
    simp only [mtop] at ev3
    cases q6 : putLoc s2 (opnd x1) (some (.dct [] false)) with
    | none => simp [q6] at ev3
    | some s5 =>
      simp only [q6, R.ok.injEq] at ev3
      obtain ⟨rfl, rfl⟩ := ev3
      show EE G T F a σ H fun x H1 => tyV X.K "dict" x H1 ∧ rDClear x [] H1 Q
      refine EE_of_op hH rl e1 fun C1 v l1 r1 o1 => ?_
      obtain ⟨p, ks, rfl, hp, hr, kl⟩ := loc_dct r1 o1 q6 hd
      obtain ⟨l4, r4⟩ := kl (.dK []) ⟨_, rfl, VRk.nil⟩
      exact ⟨.inr (.inr (.inl ⟨rfl, .inl ⟨ks, hp⟩⟩)), p, ks, rfl, rfl, hp, kk _ .non (l1.trans l4) r4 (show VR G (C1.put p (.dK [])) .non .non from VR.non)⟩
/-! ### dict displays -/
def pairUp : List V → List (V × V)
  | x :: y :: r => (x, y) :: pairUp r
  | _ => []
structure DP (G : Gl) (T : Tab) (F : Call) (X : Cx) (pos : Pos) (keys : List (Option Expr)) (values : List Expr) (as : List IE) : Prop where
  ex : ∃ trs, PPs X pos keys values trs ∧ ∀ σ H Q, tVs G (evalVs T F as) σ H (fun vs H2 => Q (pairUp vs) H2) → tPairs trs σ H Q
theorem sd_nil : DP G T F X pos [] [] [] := ⟨[], pps_nil, fun σ H Q ⟨C, s, vs, s', hH, rl, e, kk⟩ => by
  obtain ⟨rfl, rfl⟩ := Vs_nil e
  have := kk C [] (.refl C) rl VRs.nil
  rw [hH] at this
  exact this⟩
theorem sd_cons {ek ev : Expr} {ks : List (Option Expr)} {vs : List Expr} (hk : PE X ek (EE G T F a)) (hv : PE X ev (EE G T F b)) (d : DP G T F X pos ks vs as) : DP G T F X pos (some ek :: ks) (ev :: vs) (a :: b :: as) := by
  obtain ⟨trs, hp, ht⟩ := d.ex
  refine ⟨_, pps_cons hk hv hp, fun σ H Q ⟨C, s, ws, s', hH, rl, e, kk⟩ => ?_⟩
  unfold evalVs at e
  obtain ⟨x, s1, e1, e2⟩ := bind_ok e
  obtain ⟨xs, s2, e3, e4⟩ := bind_ok e2
  clear e e2
  unfold evalVs at e3
  obtain ⟨y, s3, e5, e6⟩ := bind_ok e3
  obtain ⟨zs, s4, e7, e8⟩ := bind_ok e6
  clear e3 e6
  cases e8
  cases e4
  show EE G T F a σ H fun x H1 => EE G T F b σ H1 fun y H2 => tPairs trs σ H2 fun ps H3 => Q ((x, y) :: ps) H3
  refine EE_of_val hH rl e1 fun C1 v l1 r1 h1 => EE_of_val rfl r1 e5 fun C2 w l2 r2 h2 => ht _ _ _ ⟨C2, s3, zs, _, rfl, r2, e7, fun C3 us l3 r3 h3 => ?_⟩
  exact kk C3 (v :: w :: us) ((l1.trans l2).trans l3) r3 (VRs.cons (h1.mono (l2.trans l3)) (VRs.cons (h2.mono l3) h3))
theorem kvs_rel {C : Cf} : ∀ {vs : List Val} {kvs : List (Key × Val)} {ws : List V}, kvsOf vs = some kvs → VRs G C vs ws → ∃ ks : List (Key × V), pairUp ws = ks.map (fun kv => (kV kv.1, kv.2)) ∧ VRk G C kvs ks ∧ vs.length = 2 * kvs.length
  | [], kvs, ws, h, r => by
    unfold VRs at r
    subst r
    cases h
    exact ⟨[], rfl, VRk.nil, rfl⟩
  | [x], kvs, ws, h, r => by cases h
  | x :: y :: vs, kvs, ws, h, r => by
    unfold VRs at r
    obtain ⟨u, t, rfl, hu, r⟩ := r
    unfold VRs at r
    obtain ⟨w, t, rfl, hw, r⟩ := r
    unfold kvsOf at h
    cases q1 : keyV x with
    | none => simp [q1] at h
    | some n =>
      cases q2 : kvsOf vs with
      | none => simp [q1, q2] at h
      | some rest =>
        simp only [q1, q2, Option.some.injEq] at h
        subst h
        obtain ⟨ks, h1, h2, h3⟩ := kvs_rel q2 r
        have hk := keyV_ok hu.nr q1
        refine ⟨(n, w) :: ks, by simp [pairUp, h1, hk], ?_, by simp [h3]; omega⟩
        unfold VRk
        exact ⟨w, ks, rfl, hw, h2⟩
theorem se_dsp {keys : List (Option Expr)} {values : List Expr} (ox : XO G k X) (d : DP G T F X pos keys values as) (hall : keys.all (·.isSome) = true := by rfl) (hl : keys.length = values.length := by rfl) (h0 : keys ≠ [] := by simp) (h15 : keys.length ≤ 15 := by decide) (ha : as.length ≤ 30 := by decide) :
    PE X (.Dict keys values pos) (EE G T F (.dsp as)) := by
  obtain ⟨trs, hp, ht⟩ := d.ex
  refine PE.weak (pe_disp hp hall hl h0 h15) fun σ H Q ⟨C, s, x, s', hH, rl, ev, kk⟩ p hn => ?_
  unfold evalE at ev
  obtain ⟨vs, s1, e1, ev2⟩ := bind_ok ev
  clear ev
  cases q : kvsOf vs with
  | none => simp [q] at ev2
  | some kvs =>
    simp only [q, R.ok.injEq] at ev2
    obtain ⟨rfl, rfl⟩ := ev2
    subst hH
    have fr := rl.fresh hn
    have no : ∀ (i : Nat) c, s.e[i]? = some (.own c) → σ[i]? ≠ some (some (.ref p)) := fun i c h z => own_tr rl h z hn
    have r1 : Rel G ((C.new p (.dK [])).keep (· = p)) s σ := (rl.new (o := .dK []) hn).keepOne ⟨fr.fz, fr.kp, fr.ρ, fr.rs⟩ (by show upd _ _ _ _ ≠ none; rw [upd_same]; simp) no
    refine ht _ _ _ ⟨_, s, vs, s1, rfl, r1, e1, fun C2 ws l2 r2 h2 => ?_⟩
    have kp : C2.rs p := by rw [l2.rs]; exact .inr rfl
    have hp2 : C2.H p = some (.dK []) := l2.hk p (.inr (.inr rfl)) _ (show upd C.H p (.dK []) p = _ from upd_same)
    obtain ⟨ks, h3, h4, h5⟩ := kvs_rel q h2
    have hvl := Vs_len _ _ _ _ e1
    refine ⟨hp2, ks, h3, by rw [← h4.length]; omega, ?_⟩
    have hm : VRk G C2 (dmerge [] kvs) (mergeK [] ks) := h4.merge VRk.nil
    have r3 := r2.putR (o := .dK (mergeK [] ks)) kp
    have nf : ¬ C2.fz p := fun z => r2.fzkp p z (.inr kp)
    have r4 : Rel G { C2.put p (.dK (mergeK [] ks)) with rs := C.rs } s1 σ := r3.unkeep fun q h => by show C2.rs q; rw [l2.rs]; exact .inl h
    have lv2 : Lv C2 (C2.put p (.dK (mergeK [] ks))) := lv_put nf
    have lE : Le C { C2.put p (.dK (mergeK [] ks)) with rs := C.rs } := by
      have l0 : Le C (C.new p (.dK [])) := Le.new hn
      have lb : Le (C.new p (.dK [])) { C2 with rs := C.rs } := le_back l2
      have l3 := l0.trans lb
      refine ⟨⟨l3.ρ, l3.fz, fun q h => (l3.hf q h).trans (.of fun u e => ?_)⟩, l3.kp, rfl, fun q h o e => ?_, fun q h b u e => ?_⟩
      · show upd C2.H p _ q = _
        rw [upd_ne fun z => nf (by rw [← z]; exact l3.fz q h)]
        exact e
      · show upd C2.H p _ q = _
        rw [upd_ne fun z => by rw [z, hn] at e; cases e]
        exact l3.hk q h o e
      · show upd C2.H p _ q = _
        rw [upd_ne fun z => by rw [z, hn] at e; cases e]
        exact l3.ff q h b u e
    refine kk _ (.ref p) lE r4 ⟨p, rfl, ⟨mergeK [] ks, upd_same, hm.mono0 (lv_two' lv2)⟩, ⟨nf, fun z => ?_, fun z => ?_, fr.rs⟩, rfl, fun i c h z => ?_⟩
    · exact fr.kp (by rw [← show C2.kp = C.kp from l2.kp]; exact z)
    · obtain ⟨n, hn3, e3⟩ := List.getElem_of_mem (show p ∈ C2.ρ from z)
      have h1 : n < s1.h.length := by rw [r2.hlen]; exact hn3
      exact (r2.cell n _ p (List.getElem?_eq_getElem h1) (by rw [List.getElem?_eq_getElem hn3, e3])).2.2.2 kp
    · obtain ⟨q2, a2, _, _, _, f2⟩ := r2.own i c h
      rw [z] at a2
      cases a2
      exact f2.2 kp
/-! ### an instance's field as a target -/
theorem gt_att (ox : XO G k X) (ok : ObjOk G T) {fn : Str} (f : Nat) (ho : PE X eo (EE G T F a)) (hf : G.nm f = fn := by rfl)
    (hr : ∀ v, assign (.Attribute eo fn pos) X.env v = (do
      let ov ← holding [v] (eval eo X.env)
      standAt pos.atName
      holding [v, ov] (setAttr ov fn v)
      release [v, ov] []) := by intro _; rfl) : PG X (.Attribute eo fn pos) (gT G T F (.att a f)) := by
  subst hf
  refine ⟨fun pins s σ H v u Q I r ⟨C, sv, x, s', hH, rl, h, ev, kk⟩ => ?_⟩
  rw [hr]
  unfold tgtSet at ev
  obtain ⟨y, s3, e3, e2⟩ := bind_ok ev
  cases q : insAt s3 y with
  | none => simp [q] at e2
  | some t =>
    obtain ⟨n, c, fs⟩ := t
    simp only [q] at e2
    split at e2
    · rename_i hfl
      cases e2
      obtain ⟨hf1, hf2⟩ := Bool.and_eq_true_iff.mp hfl
      have hf2 := of_decide_eq_true hf2
      have key : EE G T F a σ H fun o H1 => ∃ (p : Addr) (cl : Addr) (dx : Addr) (gs : List (Str × V)), o = .ref p ∧ H1 p = some (.ins cl dx gs) ∧ Cls X.K cl ∧ NoAttr X.K cl (G.nm f) ∧ gs.length < 1000 ∧ Q σ (upd H1 p (.ins cl dx (putF (G.nm f) v gs))) := by
        refine EE_of_val hH rl e3 fun C1 w l1 r1 h1 => ?_
        obtain ⟨p, dx, gs, rfl, hp1, hp2, rfl, hp, hg⟩ := ins_at r1 h1 q
        obtain ⟨okf, cl, na⟩ := ok.cls c f hf1
        obtain ⟨l3, r3⟩ := r1.changeI hp2 hp1 (ins_free r1 hp2 hp1) (fs' := putFs f x fs) (dx := dx) (gs := putF (G.nm f) v gs) (hg.put okf (h.mono l1))
        exact ⟨p, G.ca c, dx, gs, rfl, hp, by rw [ox.K]; exact cl, by rw [ox.K]; exact na, by rw [hg.len]; omega, kk _ σ (l1.trans l3) r3⟩
      refine wpAny_bind (wpAny_holding (thn (ho.run pins s σ H _ I key) fun ov s1 ⟨z, H1, I1, rz, p, cl, dx, gs, e1, e2, c1, c2, c3, q1⟩ => ?_))
      subst e1
      obtain rfl : ov = Value.ref p := rz
      refine wpAny_bind (wpAny_standAt (wpAny_bind (wpAny_holding ?_)))
      exact setattr_ok I1 e2 c1 c2 c3 r fun s2 I2 => wpAny_release ⟨σ, _, I2, q1⟩
    · cases e2
end
end Rs
end
section
set_option maxRecDepth 100000
set_option maxHeartbeats 1000000
/-! Calls of methods with keywords: how they bind. -/
namespace Rs
open PySem PySem.Spec PyProof.Rows L2
section
variable {G : Gl} {T : Tab} {F : Call} {k : Nat} {X : Cx} {e : Expr} {kpos : Pos} {a : IE} {bs : List IE} {kws : List Keyword} {nm : Option Str}
theorem PK.weak {t t' : TA} (h : PK X kws t) (w : ∀ σ H Q, t' σ H Q → t σ H Q) : PK X kws t' := ⟨fun pos pins s σ H Q I q => h.run pos pins s σ H Q I (w σ H Q q)⟩
theorem sk_nil : PK X [] (tVs G (evalVs T F [])) := PK.weak pk_nil fun σ H Q ⟨C, s, vs, s', hH, rl, e, kk⟩ => by
  obtain ⟨rfl, rfl⟩ := Vs_nil e
  have := kk C [] (.refl C) rl VRs.nil
  rw [hH] at this
  exact this
theorem sk_cons (ha : PE X e (EE G T F a)) (hr : PK X kws (tVs G (evalVs T F bs))) : PK X (⟨nm, e, kpos⟩ :: kws) (tVs G (evalVs T F (a :: bs))) := PK.weak (pk_cons ha hr) fun σ H Q ⟨C, s, vs, s', hH, rl, e, kk⟩ => by
  unfold evalVs at e
  obtain ⟨x, s1, e1, e2⟩ := bind_ok e
  obtain ⟨xs, s2, e3, e4⟩ := bind_ok e2
  clear e e2
  cases e4
  show EE G T F a σ H (fun x H1 => tVs G (evalVs T F bs) σ H1 (fun xs H2 => Q (x :: xs) H2))
  exact EE_of_val hH rl e1 fun C1 v l1 r1 h1 => ⟨C1, s1, xs, _, rfl, r1, e3, fun C2 ws l2 r2 h2 => kk C2 (v :: ws) (l1.trans l2) r2 (VRs.cons (h1.mono l2) h2)⟩
end
theorem VR.tup0 {G : Gl} {C : Cf} {p : Addr} (h : KTup G.K p []) : VR G C (.tup []) (.ref p) := by
  unfold VR
  exact ⟨p, [], rfl, .inr h, VRs.nil⟩
/-! ### what each parameter is given -/
def pmSel {α : Type} (z : α) (l mv : List α) : Nat ⊕ Nat → α
  | .inl i => l.getD i z
  | .inr j => mv.getD j z
def pmAll {α : Type} (z : α) (pm : List (Nat ⊕ Nat)) (mv : List α) : List α → List α
  | [] => []
  | x :: l => x :: pm.map (pmSel z l mv)
def pmDv (dv : List Val) : Nat ⊕ Nat → Nat ⊕ Val
  | .inl i => .inl i
  | .inr j => .inr (dv.getD j .non)
theorem vals_getD : ∀ {vs : List V} {us : List Value} (i : Nat), Vals vs us → RelV (vs.getD i .non) (us.getD i .none)
  | [], _, i, r => by cases r; simp; rfl
  | v :: vs, _, 0, r => by cases r with | cons a b => simpa using a
  | v :: vs, _, i + 1, r => by cases r with | cons a b => simpa using vals_getD i b
theorem vals_map {pm : List (Nat ⊕ Nat)} {f : Nat ⊕ Nat → V} {g : Nat ⊕ Nat → Value} (h : ∀ x, RelV (f x) (g x)) : Vals (pm.map f) (pm.map g) := by
  induction pm with
  | nil => exact .nil
  | cons x r ih => exact .cons (h x) ih
theorem vals_pm {pm : List (Nat ⊕ Nat)} {mvV : List V} {mv : List Value} (hm : Vals mvV mv) : ∀ {vs : List V} {us : List Value}, Vals vs us → Vals (pmAll V.non pm mvV vs) (pmAll Value.none pm mv us)
  | [], _, r => by cases r; exact .nil
  | v :: vs, _, r => by
    cases r with
    | cons a b =>
      refine .cons a (vals_map fun x => ?_)
      cases x with
      | inl i => exact vals_getD i b
      | inr j => exact vals_getD j hm
theorem vrs_pm {G : Gl} {C : Cf} {dv : List Val} {mvV : List V} (hd : VRs G C dv mvV) {xs : List Val} {vs : List V} (h : VRs G C xs vs) : ∀ (pm : List (Nat ⊕ Nat)), (∀ x ∈ pm, match x with
    | .inl i => i < xs.length
    | .inr j => j < dv.length) → VRs G C ((pm.map (pmDv dv)).map fun | .inl k => xs.getD k .non | .inr d => d) (pm.map (pmSel V.non vs mvV))
  | [], _ => VRs.nil
  | x :: pm, hx => by
    refine VRs.cons ?_ (vrs_pm hd h pm fun y hy => hx y (List.mem_cons_of_mem _ hy))
    have h0 := hx x List.mem_cons_self
    cases x with
    | inl i =>
      obtain ⟨y, e1, e2⟩ := h.get (List.getElem?_eq_getElem (show i < xs.length from h0))
      show VR G C (xs.getD i .non) (vs.getD i .non)
      rw [List.getD_eq_getElem?_getD, List.getElem?_eq_getElem (show i < xs.length from h0), List.getD_eq_getElem?_getD, e1]
      exact e2
    | inr j =>
      obtain ⟨y, e1, e2⟩ := hd.get (List.getElem?_eq_getElem (show j < dv.length from h0))
      show VR G C (dv.getD j .non) (mvV.getD j .non)
      rw [List.getD_eq_getElem?_getD, List.getElem?_eq_getElem (show j < dv.length from h0), List.getD_eq_getElem?_getD, e1]
      exact e2
/-- a method whose keyword-only parameters have defaults: n values by place, keywords ks, the others lack -/
theorem bdM_kw {G : Gl} {x qual : Str} {params : Arguments} {body : List Stmt} {scope : Scope} {kws : List (Str × V)} {f : Addr} {fd : FuncData} {ps : List Str} (F : FunD G.K x qual params body scope [] kws f fd) (hk : kws ≠ []) (np n : Nat) (ks : List Str) (ms : List (Str × V)) (hms : ∀ q ∈ ms, q ∈ kws)
    (pm : List (Nat ⊕ Nat)) (dv : List Val) (hdv : ∀ C, VRs G C dv (ms.map (·.2))) (hnp : pm.length + 1 = np) (h0 : pm ≠ []) (hix : (pm.all fun y => match y with
      | .inl i => decide (i < n + ks.length)
      | .inr j => decide (j < dv.length)) = true)
    (h : ∀ (D : Addr) (doc pmv : Value) (an : Option Addr) (cdv ct : Value) (us mv ws : List Value), us.length = n + 1 → mv.length = ms.length → ws.length = ks.length →
      KwChain D ((ms.map (·.1)).zip mv) (bindArgs (PySem.W.fnOf x qual params body scope .none (.ref D) doc pmv an cdv ct) ⟨us, ks.zip ws⟩) (ps.zip (pmAll Value.none pm mv (us ++ ws)))) : BdM G fd ps np n ks (pm.map (pmDv dv)) := by
  obtain ⟨oc, od, dV, kV, doc, pmv, an, cdv, ct, osl, rfl, lk, hcd, hD, hK⟩ := F.ex
  rcases hD with ⟨_, rfl⟩ | ⟨e, _⟩
  · rcases hK with e | ⟨D, rfl, hq⟩
    · exact absurd e hk
    · obtain ⟨mv, hl, rk, hks⟩ := kwd_vals (ms := ms) fun q hm => hq q (hms q hm)
      refine ⟨⟨pmAll Value.none pm mv, pmAll V.non pm (ms.map (·.2)), fun s us ws X l1 l2 => ?_, fun vs us r => vals_pm rk r, fun C x v xs vs l hx hv => ⟨?_, ?_⟩⟩⟩
      · exact BindsTo.of_looks fun M => KwChain.looks X hks (h D doc pmv an cdv ct us mv ws l1 hl l2)
      · refine VRs.cons hx ?_
        have hp : permV xs (pm.map (pmDv dv)) = (pm.map (pmDv dv)).map fun | .inl k => xs.getD k .non | .inr d => d := by
          cases pm with
          | nil => exact absurd rfl h0
          | cons y r => rfl
        rw [hp]
        exact vrs_pm (hdv C) hv pm fun y hy => by
          have := List.all_eq_true.mp hix y hy
          cases y with
          | inl i => show i < xs.length; rw [l]; exact of_decide_eq_true this
          | inr j => exact of_decide_eq_true this
      · have hp : (permV xs (pm.map (pmDv dv))).length = pm.length := by
          cases pm with
          | nil => exact absurd rfl h0
          | cons y r => simp [permV]
        rw [List.length_cons, hp]
        exact hnp
  · exact absurd rfl e
end Rs
end
section
set_option maxRecDepth 100000
set_option maxHeartbeats 3200000
/-! len(set(..)): of a tuple of texts, however many; of a list of tuples of ints. -/
namespace Rs
open PySem
/-- each thing once, step by step -/
theorem dd_snoc {α : Type} [DecidableEq α] (xs : List α) (x : α) : dd (xs ++ [x]) = if x ∈ dd xs then dd xs else dd xs ++ [x] := by
  unfold dd
  rw [List.foldl_append]
  rfl
theorem dd_mem {α : Type} [DecidableEq α] (xs : List α) : ∀ x, x ∈ dd xs ↔ x ∈ xs := by
  suffices h : ∀ (ys acc : List α) (x : α), x ∈ ys.foldl (fun acc k => if k ∈ acc then acc else acc ++ [k]) acc ↔ x ∈ acc ∨ x ∈ ys by
    intro x
    unfold dd
    rw [h]
    simp
  intro ys
  induction ys with
  | nil => intro acc x; simp
  | cons y ys ih =>
    intro acc x
    rw [List.foldl_cons, ih]
    by_cases hy : y ∈ acc
    · rw [if_pos hy]
      constructor
      · rintro (h | h)
        · exact .inl h
        · exact .inr (List.mem_cons_of_mem _ h)
      · rintro (h | h)
        · exact .inl h
        · rcases List.mem_cons.mp h with rfl | h
          · exact .inl hy
          · exact .inr h
    · rw [if_neg hy]
      simp only [List.mem_append, List.mem_cons, List.not_mem_nil, or_false]
      exact or_assoc
theorem dd_len {α : Type} [DecidableEq α] : ∀ xs : List α, (dd xs).length ≤ xs.length := by
  suffices h : ∀ (ys acc : List α), (ys.foldl (fun acc k => if k ∈ acc then acc else acc ++ [k]) acc).length ≤ acc.length + ys.length by
    intro xs
    have := h xs []
    simpa [dd] using this
  intro ys
  induction ys with
  | nil => intro acc; simp
  | cons y ys ih =>
    intro acc
    rw [List.foldl_cons]
    refine Nat.le_trans (ih _) ?_
    split <;> simp <;> omega
section
open PyProof.Rows PySem.Spec
variable {prog : Program} {w : World} {A : Around}
/-- the texts put in, one behind another -/
theorem textsIn {R : Result → Shared → Prop} {I : Addr} {fp wr : List Addr} {Gn : Array GenState → Array GenState → Prop} {m : Nat} {P : Nat → Value → Prop} {St : Nat → Shared → Prop} (W : WalksS prog w A.in1 I fp wr Gn m P St) (a : Addr) (ha : a ∉ fp) (ys : List Str) (hm : ys.length = m) (small : m < 64)
    (told : ∀ i v, P i v → ∃ y t, ys[i]? = some y ∧ v = .str y t) : ∀ (left i : Nat) (s : Shared), m - i = left → i ≤ m → St i s → s.heap.SetOf (PySem.strKind prog w) a (fun k => decide (k ∈ ys.take i)) (dd (ys.take i)).length →
      (∀ s', Moved (a :: wr) Gn s s' → s'.heap.SetOf (PySem.strKind prog w) a (fun k => decide (k ∈ ys)) (dd ys).length → R (.ok (.ret .none)) s') → codeAny (model prog w) A (.builtin "set.update.loop" ⟨[.ref a, .ref I], []⟩) R s := by
  have out : a ∉ wr := fun z => ha (W.sub _ z)
  have more : ∀ b ∈ wr, b ∈ a :: wr := fun b => List.mem_cons_of_mem _
  intro left
  induction left with
  | zero =>
    intro i s h1 h2 hs set fin
    obtain rfl : i = m := by omega
    rw [List.take_of_length_le (by omega)] at set
    apply codeAny_builtin F.entry_set_update_loop
    rw [Around.under_plainId F.plain_set_update_loop _]
    show wpAny _ A.in1 (pyNext (.ref I) >>= _) _ _ s
    apply wpAny_bind
    apply W.done s _ _ hs
    intro s' mv
    show wpAny _ A.in1 (ret Value.none) _ _ s'
    refine wpAny_pure (fin s' (mv.mono more) ?_)
    obtain ⟨o, es, ep, t, g, rest⟩ := set
    exact ⟨o, es, ep, t, mv.heap a _ out g, rest⟩
  | succ left ih =>
    intro i s h1 h2 hs set fin
    have lt : i < m := by omega
    apply codeAny_builtin F.entry_set_update_loop
    rw [Around.under_plainId F.plain_set_update_loop _]
    show wpAny _ A.in1 (pyNext (.ref I) >>= _) _ _ s
    apply wpAny_bind
    apply W.item i s _ _ lt hs
    intro v s' hv hs' mv
    obtain ⟨y, t, ey, rfl⟩ := told i v hv
    have set' : s'.heap.SetOf (PySem.strKind prog w) a (fun k => decide (k ∈ ys.take i)) (dd (ys.take i)).length := by
      obtain ⟨o, es, ep, tb, g, rest⟩ := set
      exact ⟨o, es, ep, tb, mv.heap a _ out g, rest⟩
    have few := dd_len (ys.take i)
    rw [List.length_take] at few
    show wpAny _ A.in1 (holding [Value.str y t] (setAdd a (.str y t)) >>= _) _ _ s'
    apply wpAny_bind
    apply wpAny_holding
    unfold setAdd
    apply wpAny_holding
    apply wpAny_bind
    apply (PySem.strKind prog w).pyHash (k := y) (strKind_is _ _ _ _)
    refine wpAny_setAddHashed_of (knd := PySem.strKind prog w) (s := { s' with toks := s'.toks + 1 }) (strKind_is _ _ _ _) rfl set' (by unfold scanBound; omega) fun h2 same set2 => ?_
    have et : ys.take (i + 1) = ys.take i ++ [y] := by rw [List.take_add_one, ey]; rfl
    have set3 : h2.SetOf (PySem.strKind prog w) a (fun k => decide (k ∈ ys.take (i + 1))) (dd (ys.take (i + 1))).length := by
      refine SetOf_congr set2 (fun k => ?_) ?_
      · rw [et, Bool.eq_iff_iff]
        simp only [Bool.or_eq_true, decide_eq_true_eq, List.mem_append, List.mem_singleton]
      · rw [et, dd_snoc]
        by_cases hin : y ∈ ys.take i
        · rw [if_pos (decide_eq_true hin), if_pos ((dd_mem _ y).mpr hin)]
        · rw [if_neg (by simpa using hin), if_neg fun z => hin ((dd_mem _ y).mp z)]
          simp
    refine wpAny_pure ⟨plainId_quiet F.plain_set_update_loop _, ih (i + 1) _ (by omega) lt (W.frame _ s' _ _ hs' (Nat.le_succ _) fun b hb o e => ?_) set3 fun s3 mv3 set4 => ?_⟩
    · rw [same.2 b fun z => ha (z ▸ hb)]
      exact e
    · refine fin s3 (Moved.trans W.gtrans ((mv.mono more).then_heap (Nat.le_succ _) fun b o hb e => ?_) mv3) set4
      rw [same.2 b fun z => hb (z ▸ List.mem_cons_self)]
      exact e
/-- set(t), t a tuple of texts -/
theorem setOfTexts {E : Value → Shared → Prop} {s : Shared} {l : Addr} {its : Array Value} {ys : List Str} {Q : Value → Shared → Prop} (calm : A.handled = none) (tup : s.heap.IsTuple l its) (hy : ys.length = its.size) (small : ys.length < 64)
    (told : ∀ (i : Nat) (v : Value), its[i]? = some v → ∃ y t, ys[i]? = some y ∧ v = .str y t)
    (h : ∀ (g : Heap) (tk : Nat), g.SetOf (PySem.strKind prog w) s.heap.objs.size (fun k => decide (k ∈ ys)) (dd ys).length → (∀ b o, b < s.heap.objs.size → s.heap.get? b = some o → g.get? b = some o) → Q (.ref s.heap.objs.size) { s with heap := g, toks := tk }) :
    wpAny (model prog w) A (call (.type "set") [.ref l]) Q E s := by
  obtain ⟨c, tl, hmro⟩ := F.called_set.mro
  have hmade := F.called_set.made
  have hsub := F.called_set.sub
  apply wpAny_call
  apply codeAny_of_tree
  show wpAny _ _ (callAny (.type "set") _) _ _ _
  refine wpAny_pure ⟨Code.quiet_builtin _ (by decide +kernel), codeAny_builtin F.entry_type_call ?_⟩
  rw [Around.under_plain (weight_type_call_type "set" [.ref l] []) rfl]
  have h1 := F.called_set.notType
  have h2 := F.called_set.canCreate
  have hct := F.typeCall_set_1 (.ref l)
  repeat (any_goals (first | assumption | wp_step))
  -- the empty set
  let e0 (led : Bool) : Obj := { cls := .type "set", dict := none, data := .set #[] 0 (.fresh 0 0 led) }
  refine codeAny_mono (code_set_new_1 (.ref l) (E := E) (Q₁ := fun v t => ∃ led : Bool, v = .ref s.heap.objs.size ∧ t = { s with heap := s.heap.push (e0 led) }) fun led => ⟨led, rfl, rfl⟩) fun r t hr => ?_
  match r, hr with
  | .error e, hr => exact hr
  | .ok .next, hr => exact hr.elim
  | .ok .brk, hr => exact hr.elim
  | .ok .cont, hr => exact hr.elim
  | .ok (.ret v), ⟨led, ev, et⟩ =>
    subst ev et
    have g0 : (s.heap.push (e0 led)).get? s.heap.objs.size = some (e0 led) := Heap.get?_push_size _ rfl
    have ty : Shared.TypeIs { s with heap := s.heap.push (e0 led) } (.ref s.heap.objs.size) "set" := ⟨_, g0, rfl⟩
    have hli := F.called_set.init.lookup
    have hbi := F.called_set.init.bind (.ref s.heap.objs.size)
    repeat (any_goals (first | assumption | wp_step))
    refine codeAny_mono (codeAny_call_builtin (R := wants (fun v t => v = .none ∧ ∃ g tk, t = { s with heap := g, toks := tk } ∧ g.SetOf (PySem.strKind prog w) s.heap.objs.size (fun k => decide (k ∈ ys)) (dd ys).length ∧
      ∀ b o, b < s.heap.objs.size → s.heap.get? b = some o → g.get? b = some o) E) F.called_set.init.plain F.entry_set_init (check_set_init_1 ty ?_)) fun r t hr => ?_
    · obtain ⟨⟨ocls, odict, odata, oslots⟩, hol, hcl, nl, hdl⟩ := tup
      simp only at hcl hdl
      subst hcl hdl
      have hol' : (s.heap.push (e0 led)).get? l = some { cls := .type "tuple", dict := odict, data := .seq its nl, slots := oslots } := Heap.get?_push_of_some _ hol
      have k1 := F.sub_tuple_set
      have k2 := F.sub_tuple_frozenset
      have k3 : (Value.type "tuple" == Value.type "dict") = false := by decide
      have tup' : (s.heap.push (e0 led)).IsTuple l its := ⟨_, hol', rfl, nl, rfl⟩
      unfold Builtin.«set.__init__» noKeywords Builtin.Frozenset.updateFrom
      generalize hPI : pyIter = PI
      wp_walk
      subst hPI
      apply wpAny_pyIter_tuple tup'
      apply wpAny_bind
      apply wpAny_runValue
      have below : l < s.heap.objs.size := Heap.lt_size hol
      have sz : (s.heap.push (e0 led)).objs.size = s.heap.objs.size + 1 := Heap.size_push ..
      refine textsIn ((Walks.tuple (by simp [calm]) _ l (by rw [sz]; exact Nat.ne_of_lt (Nat.lt_succ_of_lt below)) its).toS) s.heap.objs.size (by rw [sz]; simp only [List.mem_cons, List.not_mem_nil, or_false, not_or]; exact ⟨Nat.ne_of_lt (Nat.lt_succ_self _), Nat.ne_of_gt below⟩) ys hy (by omega) told its.size 0 _ (by omega) (Nat.zero_le _)
        ⟨⟨_, Heap.get?_push_size _ rfl, rfl, rfl⟩, (tup'.push _)⟩ ?_ ?_
      · have g1 : ((s.heap.push (e0 led)).push { cls := .type "tuple_iterator", data := .fields #[.ref l, .int 0 0] }).get? s.heap.objs.size = some (e0 led) := Heap.get?_push_of_some _ g0
        exact SetOf_congr ((setObjOf_fresh (knd := PySem.strKind prog w) led).setOf g1 (by unfold scanBound; omega)) (fun _ => rfl) rfl
      · intro t mv set
        obtain ⟨g, gg, gd, tk, os⟩ := t
        obtain rfl : gg = s.gens := mv.gens
        obtain rfl : gd = s.drawn := mv.drawn
        obtain rfl : os = s.os := mv.os
        show wpAny _ _ _ _ _ _
        apply wpAny_pure
        show wpAny _ _ (ret Value.none) _ _ _
        refine wpAny_pure ⟨rfl, g, tk, rfl, set, fun b o hb e => mv.heap b o ?_ (Heap.get?_push_of_some _ (Heap.get?_push_of_some _ e))⟩
        rw [sz]
        simp only [List.mem_cons, List.not_mem_nil, or_false, not_or]
        exact ⟨Nat.ne_of_lt hb, Nat.ne_of_lt (Nat.lt_succ_of_lt hb)⟩
    · match r, hr with
      | .error e, hr => exact hr
      | .ok .next, hr => exact hr.elim
      | .ok .brk, hr => exact hr.elim
      | .ok .cont, hr => exact hr.elim
      | .ok (.ret v), ⟨ev, g, tk, et, set, keep⟩ =>
        subst ev et
        repeat (any_goals (first | assumption | wp_step))
        exact h _ _ set keep
end
open PySem.Spec PyProof.Rows L2
section
variable {G : Gl} {T : Tab} {F : Call} {k : Nat} {X : Cx} {e : Expr} {p p2 pos pos2 : Pos} {a : IE}
/-- a tuple of texts, and how many unlike ones -/
def rLenSetS (K : PySem.W.Frag) (te : TE) : TE := fun σ H Q => te σ H fun x H1 => ∃ (l : Addr) (ys : List Str), x = .ref l ∧ SqT K H1 l (ys.map V.str) ∧ ys.length < 64 ∧ Q (.int (dd ys).length) H1
theorem pe_lenSetS {te : TE} (calm : X.calm = true) (hg : L2.Gl X "len") (hm : X.mg "len" = none) (hg2 : L2.Gl X "set") (hm2 : X.mg "set" = none) (he : PE X e te) (na : starEach [e] X.env = (false, eval e X.env) :: starEach [] X.env) :
    PE X (.Call (.Name "len" p) [.Call (.Name "set" p2) [e] [] pos2] [] pos) (rLenSetS X.K te) := by
  constructor
  intro pins s σ H Q I h
  refine Call_ (ld_blt I hg hm PySem.boot_len (callWith_builtin1 (args_cons ?_ rfl) rfl rfl))
  refine Call_ (ld_blt I hg2 hm2 PyProof.Rows.boot_set ?_)
  refine callWith_type1 (args_cons (thn (he.run pins s σ H _ I h) fun v t ⟨x, H1, J, rx, l, ys, ex, tup, few, q⟩ => args_nil ?_) na) na rfl
  subst ex
  cases rx
  obtain ⟨its, rel, pl, _⟩ := J.tuple tup
  have hn : ys.length = its.toArray.size := by rw [List.size_toArray, ← rel.length, List.length_map]
  refine setOfTexts (J.ok.hd calm) pl hn few (fun i v hv => ?_) fun g tk set keep => ?_
  · have lt : i < ys.length := by
      rw [hn]
      exact (Array.getElem?_eq_some_iff.mp hv).1
    obtain ⟨w, hw, t2, ew⟩ := rel.get (i := i) (x := .str ys[i]) (by simp [lt])
    refine ⟨ys[i], t2, List.getElem?_eq_getElem lt, ?_⟩
    have hv : its[i]? = some v := by simpa using hv
    rw [hw] at hv
    cases hv
    exact ew
  · apply args_nil
    obtain ⟨o, es, ep, t2, ho, hex, hd, _, _, _, hf, hn2⟩ := set
    have J2 : Inv X pins σ H1 { t with heap := g, toks := tk } := J.kept fun b o e => keep b o (Heap.lt_size e) e
    have few2 := dd_len ys
    exact call_len_set ho hex hd hf (by rw [hn2]; omega) ⟨.int (dd ys).length, H1, J2.tok _, ⟨_, by rw [hn2]⟩, q⟩
theorem strs_list {C : Cf} : ∀ {xs : List Val} {ys : List Str} {vs : List V}, strsV xs = some ys → VRs G C xs vs → vs = ys.map V.str
  | [], ys, vs, h, r => by
    unfold VRs at r
    cases h
    exact r
  | x :: xs, ys, vs, h, r => by
    unfold VRs at r
    obtain ⟨v, t, rfl, hv, r⟩ := r
    cases x with
    | str z =>
      unfold strsV at h
      obtain ⟨zs, h1, rfl⟩ := Option.map_eq_some_iff.mp h
      unfold VR at hv
      rw [hv, strs_list h1 r]
      rfl
    | _ => cases h
theorem se_lenset (ox : XO G k X) (hg : L2.Gl X "len") (hm : X.mg "len" = none) (hb : bootBuiltins "len" = some (.builtin "len")) (hg2 : L2.Gl X "set") (hm2 : X.mg "set" = none) (hb2 : bootBuiltins "set" = some (.type "set")) (ha : PE X e (EE G T F a))
    (hl : ∀ xs, biop .lenset [.lst xs] = none := by intro _; rfl) (na : starEach [e] X.env = (false, eval e X.env) :: starEach [] X.env := by rfl) : PE X (.Call (.Name "len" p) [.Call (.Name "set" p2) [e] [] pos2] [] pos) (EE G T F (.bi .lenset [a])) := by
  refine PE.weak (pe_lenSetS ox.calm hg hm hg2 hm2 ha na) fun σ H Q ⟨C, s, x, s', hH, rl, ev, kk⟩ => ?_
  unfold evalE at ev
  obtain ⟨os, s1, e1, ev2⟩ := bind_ok ev
  clear ev
  obtain ⟨y, e2, rfl⟩ := so_one e1
  split at ev2
  · obtain ⟨ev2, rfl⟩ := opt_ok ev2
    show EE G T F a σ H fun x H1 => ∃ (l : Addr) (ys : List Str), x = .ref l ∧ SqT X.K H1 l (ys.map V.str) ∧ ys.length < 64 ∧ Q (.int (dd ys).length) H1
    refine EE_of_op hH rl e2 fun C1 v l1 r1 o1 => ?_
    simp only [List.map_cons, List.map_nil] at ev2
    cases hd : deref s' (opnd y) with
    | tup xs =>
      rw [hd] at ev2
      have nr := deref_ok r1 o1 (by rw [hd]; simp)
      rw [hd] at nr
      obtain ⟨p, vs, rfl, hp, hr⟩ := nr.tup
      simp only [biop] at ev2
      cases q : strsV xs with
      | none => simp [q] at ev2
      | some ys =>
        simp only [q] at ev2
        split at ev2
        · rename_i few
          cases ev2
          refine ⟨p, ys, rfl, ?_, few, kk C1 _ l1 r1 (show VR G C1 (.int _) (.int _) from VR.int)⟩
          rw [← strs_list q hr, ox.K]
          exact hp
        · cases ev2
    | lst xs => rw [hd, hl] at ev2; cases ev2
    | _ => rw [hd] at ev2; simp [biop] at ev2
  · cases ev2
end
end Rs
end
section
set_option maxRecDepth 100000
set_option maxHeartbeats 400000
namespace Rs
open PySem PySem.Spec PyProof.Rows L2
def top (i : Nat) : Stmt := PySem.Challenge.pw_rentshelf_k04_shelves.main.body.getD i (.Pass ⟨0, 0, 0, 0⟩)
def memOf : Stmt → List Stmt
  | .ClassDef _ _ _ b _ _ _ _ _ _ _ => b
  | _ => []
def mem (i j : Nat) : Stmt := (memOf (top i)).getD j (.Pass ⟨0, 0, 0, 0⟩)
def nn_is_one_of : List Str := ["value", "things"]
def nn_check_thing : List Str := ["things", "name"]
def nn_are_unlike : List Str := ["value", "names", "one"]
def nn_Shelf___init__ : List Str := ["self", "places", "things"]
def nn_Shelf___contains__ : List Str := ["self", "name"]
def nn_Shelf___len__ : List Str := ["self"]
def is_Shelf_prices_k04 : List IS := [(.ret (.heap (.bi .dict [(.att (.var 0) 13)])))]
abbrev fd_Shelf_prices_k04 : Fd := ⟨1, 1, is_Shelf_prices_k04⟩ -- 252
def nn_Shelf_prices_k04 : List Str := ["self"]
def nn_Shelf_names : List Str := ["self"]
def nn_Shelf_paid : List Str := ["self"]
def nn_Shelf_check_out : List Str := ["self", "name", "out"]
def nn_Shelf_call : List Str := ["self", "name", "out", "one"]
def nn_Shelf_void : List Str := ["self", "name", "one"]
def nn__law_feed : List Str := ["_law_script", "_law_k", "_law_seed", "_law_digits"]
def nn__law_take : List Str := ["_law_feed_here", "_law_size", "_law_digit"]
def nn__law_pick : List Str := ["_law_feed_here", "_law_choices"]
def nn__law_names : List Str := ["_law_feed_here", "_law_many", "_law_some", "_law_at"]
def nn__law_things : List Str := ["_law_feed_here", "_law_many", "_law_menu", "_law_name"]
def nn__law_event : List Str := ["_law_feed_here", "_law_names_here", "_law_hot", "_law_name"]
def nn__law_row : List Str := ["_law_feed_here", "_law_things_here", "_law_size", "_law_hot", "_law_turn", "_law_found", "_law_names_here", "_law_one"]
def is__law_away_k04 : List IS := [(.ite (.cmp .isin (.var 3) (.var 1)) [(.ret (.tup []))] []), (.par 4 5 true true (.bi .list [(.var 1)]) (.lst [])), (.whl (.or (.cmp .ge (.bi .len [(.var 4)]) (.var 2)) (.and (.cmp .ne (.var 4) (.lst [])) (.cmp .eq (.fn 1 [(.var 0), (.cst (.int 6))] []) (.cst (.int 0))))) [(.ex (.mt .append (.var 5) [(.mt .pop (.var 4) [(.fn 1 [(.var 0), (.bi .len [(.var 4)])] [])])]))]), (.ret (.bi .tuple [(.var 5)]))]
abbrev fd__law_away_k04 : Fd := ⟨4, 6, is__law_away_k04⟩ -- 59
def nn__law_away_k04 : List Str := ["_law_feed_here", "_law_standing", "_law_places", "_law_name", "_law_left", "_law_gone"]
def is__law_is_at_k04 : List IS := [(.ite (.cmp .ne (.me [0] 19 (.var 1) [] []) (.bi .sorted [(.sub (.var 3) (.cst (.str "standing")))])) [(.ret (.cst (.bl false)))] []), (.ite (.cmp .ne (.lst [(.att (.var 1) 12), (.lenown 11 (.var 1))]) (.lst [(.sub (.var 3) (.cst (.str "places"))), (.bi .len [(.sub (.var 3) (.cst (.str "standing")))])])) [(.ret (.cst (.bl false)))] []), (.ite (.cmp .ne (.bi .repr [(.prp (.var 1) 20)]) (.bi .repr [(.sub (.var 3) (.cst (.str "paid")))])) [(.ret (.cst (.bl false)))] []), (.asg (.nm 4) (.me [0] 16 (.var 1) [] [])), (.ite (.cmp .ne (.var 4) (.var 2)) [(.ret (.cst (.bl false)))] []), (.ex (.mt .dclear (.var 4) [])), (.ite (.cmp .ne (.lck (.var 7) (.nm 7) false 2 [(.cmp .ne (.inown false 10 (.var 7) (.var 1)) (.cmp .isin (.var 7) (.sub (.var 3) (.cst (.str "standing")))))] [7]) (.lst [])) [(.ret (.cst (.bl false)))] []), (.asg (.nm 5) (.lst [(.cst .non), (.cst (.int 5)), (.cst (.bl true)), (.tup []), (.tup [(.cst (.str "jug"))]), (.lst []), (.lst [(.cst (.str "jug"))]), (.dsp []), (.cst (.str "")), (.cst (.str "none")), (.cst (.str "Jug")), (.dsp [(.cst (.str "jug")), (.cst (.int 4))]), (.bin .pow (.cst (.int 10)) (.cst (.int 30)))])), (.asg (.nm 6) (.fn 2 [(.var 0), (.bin .add (.var 5) (.lst [(.tup [(.lst [(.cst (.str "jug"))])]), (.tup [(.cst (.str "jug")), (.lst [])]), (.tup [(.dsp [])])]))] [])), (.ret (.cmp .is_ (.inown false 10 (.var 6) (.var 1)) (.cst (.bl false))))]
abbrev fd__law_is_at_k04 : Fd := ⟨4, 8, is__law_is_at_k04⟩ -- 253
def nn__law_is_at_k04 : List Str := ["_law_feed_here", "_law_shelf", "_law_things_here", "_law_state", "_law_told", "_law_some", "_law_odd", "_law_name"]
def is__law_stepped : List IS := [(.asg (.tp [(.nm 7), (.nm 8)]) (.var 4)), (.ite (.cmp .eq (.var 7) (.cst (.str "void"))) [(.asg (.sub (.var 3) (.cst (.str "standing"))) (.lc (.var 10) (.nm 10) .it [(.sub (.var 3) (.cst (.str "standing")))] [(.cmp .ne (.var 10) (.var 8))] [10])), (.ret (.cmp .is_ (.me [0] 23 (.var 1) [(.var 8)] []) (.cst .non)))] []), (.asg (.nm 5) (.fn 59 [(.var 0), (.sub (.var 3) (.cst (.str "standing"))), (.sub (.var 3) (.cst (.str "places"))), (.var 8)] [])), (.asg (.nm 6) (.ite (.cmp .isin (.var 8) (.sub (.var 3) (.cst (.str "standing")))) (.cst (.int 0)) (.sub (.var 2) (.var 8)))), (.ite (.and (.cmp .eq (.var 5) (.tup [])) (.cmp .eq (.fn 1 [(.var 0), (.cst (.int 2))] []) (.cst (.int 0)))) [(.asg (.nm 9) (.me [0] 21 (.var 1) [(.var 8)] [.inl 0, .inr (.tup [])]))] [(.asg (.nm 9) (.me [0] 21 (.var 1) [(.var 8), (.var 5)] [.inl 0, .inl 1]))]), (.ite (.cmp .gt (.var 6) (.cst (.int 0))) [(.asg (.sub (.var 3) (.cst (.str "standing"))) (.bin .add (.lc (.var 10) (.nm 10) .it [(.sub (.var 3) (.cst (.str "standing")))] [(.cmp .notin (.var 10) (.var 5))] [10]) (.lst [(.var 8)])))] []), (.asg (.sub (.var 3) (.cst (.str "paid"))) (.bin .add (.sub (.var 3) (.cst (.str "paid"))) (.var 6))), (.ret (.cmp .eq (.bi .repr [(.var 9)]) (.bi .repr [(.var 6)])))]
abbrev fd__law_stepped : Fd := ⟨5, 11, is__law_stepped⟩ -- 61
def nn__law_stepped : List Str := ["_law_feed_here", "_law_shelf", "_law_things_here", "_law_state", "_law_event_here", "_law_gone", "_law_due", "_law_word", "_law_name", "_law_told", "_law_one"]
def is_law_k04 : List IS := [(.for_ (.nm 1) .rng [(.bi .max [(.cst (.int 1)), (.bi .min [(.cst (.int 2)), (.bi .len [(.var 0)])])])] [(.asg (.nm 2) (.fn 0 [(.var 0), (.var 1)] [])), (.par 6 7 false false (.fn 4 [(.var 2), (.bin .add (.cst (.int 1)) (.fn 1 [(.var 2), (.cst (.int 20))] []))] []) (.bin .add (.cst (.int 1)) (.fn 1 [(.var 2), (.cst (.int 8))] []))), (.asg (.nm 3) (.heap (.bi .dict [(.var 6)]))), (.par 8 9 false false (.new 0 [(.var 7), (.var 3)] []) (.heap (.dsp [(.cst (.str "places")), (.var 7), (.cst (.str "standing")), (.lst []), (.cst (.str "paid")), (.cst (.int 0))]))), (.ite (.cmp .eq (.fn 1 [(.var 2), (.cst (.int 2))] []) (.cst (.int 0))) [(.ex (.mt .dclear (.var 3) [])), (.asg (.sub (.var 3) (.cst (.str "zzz"))) (.cst (.int 1)))] []), (.asg (.nm 4) (.fn 6 [(.var 2), (.var 6), (.fn 2 [(.var 2), (.lst [(.cst (.int 5)), (.cst (.int 20)), (.cst (.int 60)), (.cst (.int 120))])] [])] [])), (.ite (.not (.fn 253 [(.var 2), (.var 8), (.var 6), (.var 9)] [])) [(.ret (.cst (.bl false)))] []), (.for_ (.nm 5) .it [(.var 4)] [(.ite (.not (.fn 61 [(.var 2), (.var 8), (.var 6), (.var 9), (.var 5)] [])) [(.ret (.cst (.bl false)))] []), (.ite (.not (.fn 253 [(.var 2), (.var 8), (.var 6), (.var 9)] [])) [(.ret (.cst (.bl false)))] [])])]), (.ret (.cst (.bl true)))]
abbrev fd_law_k04 : Fd := ⟨1, 10, is_law_k04⟩ -- 254
def nn_law_k04 : List Str := ["_law_script", "_law_k", "_law_feed_here", "_law_handed", "_law_row_here", "_law_event_here", "_law_things_here", "_law_places", "_law_shelf", "_law_state"]
def fds : List Fd := [fd__law_feed, fd__law_take, fd__law_pick, fd__law_names, fd__law_things, fd__law_event, fd__law_row, ⟨0, 0, []⟩, ⟨0, 0, []⟩, ⟨0, 0, []⟩, ⟨0, 0, []⟩, ⟨0, 0, []⟩, ⟨0, 0, []⟩, ⟨0, 0, []⟩, fd_is_one_of, ⟨0, 0, []⟩, ⟨0, 0, []⟩, ⟨0, 0, []⟩, ⟨0, 0, []⟩, ⟨0, 0, []⟩, ⟨0, 0, []⟩, ⟨0, 0, []⟩, ⟨0, 0, []⟩, ⟨0, 0, []⟩, ⟨0, 0, []⟩, ⟨0, 0, []⟩, ⟨0, 0, []⟩, ⟨0, 0, []⟩, fd_check_thing, fd_are_unlike, ⟨0, 0, []⟩, ⟨0, 0, []⟩, ⟨0, 0, []⟩, ⟨0, 0, []⟩, ⟨0, 0, []⟩, ⟨0, 0, []⟩, ⟨0, 0, []⟩, ⟨0, 0, []⟩, ⟨0, 0, []⟩, ⟨0, 0, []⟩] ++ [⟨0, 0, []⟩, ⟨0, 0, []⟩, ⟨0, 0, []⟩, ⟨0, 0, []⟩, ⟨0, 0, []⟩, ⟨0, 0, []⟩, ⟨0, 0, []⟩, ⟨0, 0, []⟩, ⟨0, 0, []⟩, ⟨0, 0, []⟩, fd_Shelf___init__, fd_Shelf___contains__, fd_Shelf___len__, ⟨0, 0, []⟩, fd_Shelf_names, fd_Shelf_paid, fd_Shelf_check_out, fd_Shelf_call, fd_Shelf_void, fd__law_away_k04, ⟨0, 0, []⟩, fd__law_stepped, ⟨0, 0, []⟩, ⟨0, 0, []⟩, ⟨0, 0, []⟩, ⟨0, 0, []⟩, ⟨0, 0, []⟩, ⟨0, 0, []⟩, ⟨0, 0, []⟩, ⟨0, 0, []⟩, ⟨0, 0, []⟩, ⟨0, 0, []⟩, ⟨0, 0, []⟩, ⟨0, 0, []⟩, ⟨0, 0, []⟩, ⟨0, 0, []⟩, ⟨0, 0, []⟩, ⟨0, 0, []⟩, ⟨0, 0, []⟩, ⟨0, 0, []⟩] ++ [⟨0, 0, []⟩, ⟨0, 0, []⟩, ⟨0, 0, []⟩, ⟨0, 0, []⟩, ⟨0, 0, []⟩, ⟨0, 0, []⟩, ⟨0, 0, []⟩, ⟨0, 0, []⟩, ⟨0, 0, []⟩, ⟨0, 0, []⟩, ⟨0, 0, []⟩, ⟨0, 0, []⟩, ⟨0, 0, []⟩, ⟨0, 0, []⟩, ⟨0, 0, []⟩, ⟨0, 0, []⟩, ⟨0, 0, []⟩, ⟨0, 0, []⟩, ⟨0, 0, []⟩, ⟨0, 0, []⟩, ⟨0, 0, []⟩, ⟨0, 0, []⟩, ⟨0, 0, []⟩, ⟨0, 0, []⟩, ⟨0, 0, []⟩, ⟨0, 0, []⟩, ⟨0, 0, []⟩, ⟨0, 0, []⟩, ⟨0, 0, []⟩, ⟨0, 0, []⟩, ⟨0, 0, []⟩, ⟨0, 0, []⟩, ⟨0, 0, []⟩, ⟨0, 0, []⟩, ⟨0, 0, []⟩, ⟨0, 0, []⟩, ⟨0, 0, []⟩, ⟨0, 0, []⟩, ⟨0, 0, []⟩, ⟨0, 0, []⟩] ++ [⟨0, 0, []⟩, ⟨0, 0, []⟩, ⟨0, 0, []⟩, ⟨0, 0, []⟩, ⟨0, 0, []⟩, ⟨0, 0, []⟩, ⟨0, 0, []⟩, ⟨0, 0, []⟩, ⟨0, 0, []⟩, ⟨0, 0, []⟩, ⟨0, 0, []⟩, ⟨0, 0, []⟩, ⟨0, 0, []⟩, ⟨0, 0, []⟩, ⟨0, 0, []⟩, ⟨0, 0, []⟩, ⟨0, 0, []⟩, ⟨0, 0, []⟩, ⟨0, 0, []⟩, ⟨0, 0, []⟩, ⟨0, 0, []⟩, ⟨0, 0, []⟩, ⟨0, 0, []⟩, ⟨0, 0, []⟩, ⟨0, 0, []⟩, ⟨0, 0, []⟩, ⟨0, 0, []⟩, ⟨0, 0, []⟩, ⟨0, 0, []⟩, ⟨0, 0, []⟩, ⟨0, 0, []⟩, ⟨0, 0, []⟩, ⟨0, 0, []⟩, ⟨0, 0, []⟩, ⟨0, 0, []⟩, ⟨0, 0, []⟩, ⟨0, 0, []⟩, ⟨0, 0, []⟩, ⟨0, 0, []⟩, ⟨0, 0, []⟩] ++ [⟨0, 0, []⟩, ⟨0, 0, []⟩, ⟨0, 0, []⟩, ⟨0, 0, []⟩, ⟨0, 0, []⟩, ⟨0, 0, []⟩, ⟨0, 0, []⟩, ⟨0, 0, []⟩, ⟨0, 0, []⟩, ⟨0, 0, []⟩, ⟨0, 0, []⟩, ⟨0, 0, []⟩, ⟨0, 0, []⟩, ⟨0, 0, []⟩, ⟨0, 0, []⟩, ⟨0, 0, []⟩, ⟨0, 0, []⟩, ⟨0, 0, []⟩, ⟨0, 0, []⟩, ⟨0, 0, []⟩, ⟨0, 0, []⟩, ⟨0, 0, []⟩, ⟨0, 0, []⟩, ⟨0, 0, []⟩, ⟨0, 0, []⟩, ⟨0, 0, []⟩, ⟨0, 0, []⟩, ⟨0, 0, []⟩, ⟨0, 0, []⟩, ⟨0, 0, []⟩, ⟨0, 0, []⟩, ⟨0, 0, []⟩, ⟨0, 0, []⟩, ⟨0, 0, []⟩, ⟨0, 0, []⟩, ⟨0, 0, []⟩, ⟨0, 0, []⟩, ⟨0, 0, []⟩, ⟨0, 0, []⟩, ⟨0, 0, []⟩] ++ [⟨0, 0, []⟩, ⟨0, 0, []⟩, ⟨0, 0, []⟩, ⟨0, 0, []⟩, ⟨0, 0, []⟩, ⟨0, 0, []⟩, ⟨0, 0, []⟩, ⟨0, 0, []⟩, ⟨0, 0, []⟩, ⟨0, 0, []⟩, ⟨0, 0, []⟩, ⟨0, 0, []⟩, ⟨0, 0, []⟩, ⟨0, 0, []⟩, ⟨0, 0, []⟩, ⟨0, 0, []⟩, ⟨0, 0, []⟩, ⟨0, 0, []⟩, ⟨0, 0, []⟩, ⟨0, 0, []⟩, ⟨0, 0, []⟩, ⟨0, 0, []⟩, ⟨0, 0, []⟩, ⟨0, 0, []⟩, ⟨0, 0, []⟩, ⟨0, 0, []⟩, ⟨0, 0, []⟩, ⟨0, 0, []⟩, ⟨0, 0, []⟩, ⟨0, 0, []⟩, ⟨0, 0, []⟩, ⟨0, 0, []⟩, ⟨0, 0, []⟩, ⟨0, 0, []⟩, ⟨0, 0, []⟩, ⟨0, 0, []⟩, ⟨0, 0, []⟩, ⟨0, 0, []⟩, ⟨0, 0, []⟩, ⟨0, 0, []⟩] ++ [⟨0, 0, []⟩, ⟨0, 0, []⟩, ⟨0, 0, []⟩, ⟨0, 0, []⟩, ⟨0, 0, []⟩, ⟨0, 0, []⟩, ⟨0, 0, []⟩, ⟨0, 0, []⟩, ⟨0, 0, []⟩, ⟨0, 0, []⟩, ⟨0, 0, []⟩, ⟨0, 0, []⟩, fd_Shelf_prices_k04, fd__law_is_at_k04, fd_law_k04]
instance : HasD fds 14 fd_is_one_of := ⟨rfl⟩
instance : HasD fds 28 fd_check_thing := ⟨rfl⟩
instance : HasD fds 29 fd_are_unlike := ⟨rfl⟩
instance : HasD fds 50 fd_Shelf___init__ := ⟨rfl⟩
instance : HasD fds 51 fd_Shelf___contains__ := ⟨rfl⟩
instance : HasD fds 52 fd_Shelf___len__ := ⟨rfl⟩
instance : HasD fds 252 fd_Shelf_prices_k04 := ⟨rfl⟩
instance : HasD fds 54 fd_Shelf_names := ⟨rfl⟩
instance : HasD fds 55 fd_Shelf_paid := ⟨rfl⟩
instance : HasD fds 56 fd_Shelf_check_out := ⟨rfl⟩
instance : HasD fds 57 fd_Shelf_call := ⟨rfl⟩
instance : HasD fds 58 fd_Shelf_void := ⟨rfl⟩
instance : HasD fds 0 fd__law_feed := ⟨rfl⟩
instance : HasD fds 1 fd__law_take := ⟨rfl⟩
instance : HasD fds 2 fd__law_pick := ⟨rfl⟩
instance : HasD fds 3 fd__law_names := ⟨rfl⟩
instance : HasD fds 4 fd__law_things := ⟨rfl⟩
instance : HasD fds 5 fd__law_event := ⟨rfl⟩
instance : HasD fds 6 fd__law_row := ⟨rfl⟩
instance : HasD fds 59 fd__law_away_k04 := ⟨rfl⟩
instance : HasD fds 253 fd__law_is_at_k04 := ⟨rfl⟩
instance : HasD fds 61 fd__law_stepped := ⟨rfl⟩
instance : HasD fds 254 fd_law_k04 := ⟨rfl⟩
def mthL : Nat → List (Nat × Nat) := fun m => match m with
  | 10 => [(0, 51)]
  | 11 => [(0, 52)]
  | 16 => [(0, 252)]
  | 18 => [(0, 56)]
  | 19 => [(0, 54)]
  | 21 => [(0, 57)]
  | 23 => [(0, 58)]
  | _ => []
def prpL : Nat → List (Nat × Nat) := fun m => match m with
  | 20 => [(0, 55)]
  | _ => []
def iniL : List (Nat × Nat) := [(0, 50)]
def fldL : List (Nat × Nat) := [(0, 12), (0, 13), (0, 14), (0, 15)]
def tabL : Tab := ⟨fun c m => (mthL m).lookup c, fun c => iniL.lookup c, fun c p => (prpL p).lookup c, fun c f => decide ((c, f) ∈ fldL), 200⟩
instance : HasM tabL 0 10 51 := ⟨rfl⟩
instance : HasM tabL 0 11 52 := ⟨rfl⟩
instance : HasM tabL 0 16 252 := ⟨rfl⟩
instance : HasM tabL 0 19 54 := ⟨rfl⟩
instance : HasM tabL 0 18 56 := ⟨rfl⟩
instance : HasM tabL 0 21 57 := ⟨rfl⟩
instance : HasM tabL 0 23 58 := ⟨rfl⟩
instance : HasP tabL 0 20 55 := ⟨rfl⟩
instance : HasI tabL 0 50 := ⟨rfl⟩
instance : HasF tabL 0 12 := ⟨by decide⟩
instance : HasF tabL 0 13 := ⟨by decide⟩
instance : HasF tabL 0 14 := ⟨by decide⟩
instance : HasF tabL 0 15 := ⟨by decide⟩
def glL (K : PySem.W.Frag) : Gl := ⟨K, nmG, okG, injG, fun c => He.ga K (clsL.getD c "")⟩
theorem b_abs : bootBuiltins "abs" = some (.builtin "abs") := by decide +kernel
theorem b_all : bootBuiltins "all" = some (.builtin "all") := by decide +kernel
theorem b_dict : bootBuiltins "dict" = some (.type "dict") := by decide +kernel
theorem b_int : bootBuiltins "int" = some (.type "int") := by decide +kernel
theorem b_isinstance : bootBuiltins "isinstance" = some (.builtin "isinstance") := by decide +kernel
theorem b_len : bootBuiltins "len" = some (.builtin "len") := by decide +kernel
theorem b_list : bootBuiltins "list" = some (.type "list") := by decide +kernel
theorem b_max : bootBuiltins "max" = some (.builtin "max") := by decide +kernel
theorem b_min : bootBuiltins "min" = some (.builtin "min") := by decide +kernel
theorem b_repr : bootBuiltins "repr" = some (.builtin "repr") := by decide +kernel
theorem b_set : bootBuiltins "set" = some (.type "set") := by decide +kernel
theorem b_sorted : bootBuiltins "sorted" = some (.builtin "sorted") := by decide +kernel
theorem b_str : bootBuiltins "str" = some (.type "str") := by decide +kernel
theorem b_tuple : bootBuiltins "tuple" = some (.type "tuple") := by decide +kernel
section
variable {P : Program} {w : World} {mg : Str → Option Value} {base : Heap} {f : Addr} {cdv : Value} {A : Around} {outer : List Env} {s : Shared} {H : Hp} {F : Call} {k : Nat}
variable {K : PySem.W.Frag}
theorem b_def_is_one_of (o : XO (glL K) k (cxOf CX0 P w (glL K).K mg base nn_is_one_of "is_one_of" (defScope (top 5)) f cdv A outer s H E0).nox) (m_isinstance : mg "isinstance" = none) (m_str : mg "str" = none) : PSs (cxOf CX0 P w (glL K).K mg base nn_is_one_of "is_one_of" (defScope (top 5)) f cdv A outer s H E0).nox (defBody (top 5)) (SSs (glL K) tabL F is_is_one_of) :=
  (ss_cons (ss_ret (se_and (se_isi o (f := .isStr) (tn := "str") rfl (by rfl) m_isinstance (by rfl) m_str b_str (se_var 0)) (se_and1 (se_cmp o .isin (se_var 0) (se_var 1))))) ss_nil)
theorem b_def_check_thing (o : XO (glL K) k (cxOf CX0 P w (glL K).K mg base nn_check_thing "check_thing" (defScope (top 6)) f cdv A outer s H E0).nox) {k_hv_is_one_of : Nat} (hv_is_one_of : Have (glL K) F P w (glL K).K mg base k_hv_is_one_of "is_one_of" 14 2) (hk_is_one_of : k_hv_is_one_of ≤ k) : PSs (cxOf CX0 P w (glL K).K mg base nn_check_thing "check_thing" (defScope (top 6)) f cdv A outer s H E0).nox (defBody (top 6)) (SSs (glL K) tabL F is_check_thing) :=
  (ss_cons (ss_if (st_not (st_val (se_fn o hv_is_one_of hk_is_one_of (by rfl) (sa_cons (se_var 1) (sa_cons (se_var 0) sa_nil))))) (ss_cons ss_nev ss_nil) ss_nil) ss_nil)
theorem b_def_are_unlike (o : XO (glL K) k (cxOf CX0 P w (glL K).K mg base nn_are_unlike "are_unlike" (defScope (top 8)) f cdv A outer s H E0).nox) (m_all : mg "all" = none) (m_isinstance : mg "isinstance" = none) (m_len : mg "len" = none) (m_set : mg "set" = none) (m_str : mg "str" = none) (m_tuple : mg "tuple" = none) : PSs (cxOf CX0 P w (glL K).K mg base nn_are_unlike "are_unlike" (defScope (top 8)) f cdv A outer s H E0).nox (defBody (top 8)) (SSs (glL K) tabL F is_are_unlike) :=
  (ss_cons (ss_if (PW.pt (st_or (st_not (st_val (se_isi o (f := .isTup) (tn := "tuple") rfl (by rfl) m_isinstance (by rfl) m_tuple b_tuple (se_var 0)))) (st_or1 (st_not (st_val (se_bi (x := "all") (bi_all o) (by rfl) m_all b_all (so_cons (se_lc o (pw_it o (se_var 0)) (own := [("one", 2)]) (blkOk_by (N := nn_are_unlike) (sc := defScope (top 8)) (by decide +kernel)) (fun _ _ _ _ _ => (sp_nm (XO.blk o _ _ _ _ _) 2)) (fun _ _ _ _ _ => sts_nil) (fun _ _ _ _ _ => (se_and (se_isi (XO.blk o _ _ _ _ _) (f := .isStr) (tn := "str") rfl (by rfl) m_isinstance (by rfl) m_str b_str (se_var 2)) (se_and1 (se_cmp (XO.blk o _ _ _ _ _) .isin (se_var 2) (se_var 1))))) (by decide)) so_nil))))))) (ss_cons (ss_ret se_bl) ss_nil) ss_nil) (ss_cons (ss_ret (se_cmp o .eq (se_lenset o (by rfl) m_len b_len (by rfl) m_set b_set (se_var 0)) (se_bi (x := "len") (bi_len o) (by rfl) m_len b_len (so_cons (se_var 0) so_nil)))) ss_nil))
theorem b_def_Shelf___init__ (o : XO (glL K) k (cxOf CX0 P w (glL K).K mg base nn_Shelf___init__ "Shelf.__init__" (defScope (mem 9 0)) f cdv A outer s H E0).nox) (m_dict : mg "dict" = none) (obj :  ObjOk (glL K) tabL) : PSs (cxOf CX0 P w (glL K).K mg base nn_Shelf___init__ "Shelf.__init__" (defScope (mem 9 0)) f cdv A outer s H E0).nox (defBody (mem 9 0)) (SSs (glL K) tabL F is_Shelf___init__) :=
  (ss_cons (ss_setA o obj (fn := "places") 12 (se_var 0) (se_var 1) (by rfl)) (ss_cons (ss_setA o obj (fn := "things") 13 (se_var 0) (se_bt (x := "dict") (bi_dict o) (by rfl) m_dict b_dict (so_cons (se_var 2) so_nil)) (by rfl)) (ss_cons (ss_setA o obj (fn := "placed") 14 (se_var 0) (se_lst sa_nil) (by rfl)) (ss_cons (ss_setA o obj (fn := "spent") 15 (se_var 0) se_int (by rfl)) ss_nil))))
theorem b_def_Shelf___contains__ (o : XO (glL K) k (cxOf CX0 P w (glL K).K mg base nn_Shelf___contains__ "Shelf.__contains__" (defScope (mem 9 1)) f cdv A outer s H E0).nox) (m_isinstance : mg "isinstance" = none) (m_str : mg "str" = none) (obj :  ObjOk (glL K) tabL) : PSs (cxOf CX0 P w (glL K).K mg base nn_Shelf___contains__ "Shelf.__contains__" (defScope (mem 9 1)) f cdv A outer s H E0).nox (defBody (mem 9 1)) (SSs (glL K) tabL F is_Shelf___contains__) :=
  (ss_cons (ss_ret (se_and (se_isi o (f := .isStr) (tn := "str") rfl (by rfl) m_isinstance (by rfl) m_str b_str (se_var 1)) (se_and1 (se_cmp o .isin (se_var 1) (se_att o obj (fn := "placed") 14 (se_var 0) (by rfl)))))) ss_nil)
theorem b_def_Shelf___len__ (o : XO (glL K) k (cxOf CX0 P w (glL K).K mg base nn_Shelf___len__ "Shelf.__len__" (defScope (mem 9 2)) f cdv A outer s H E0).nox) (m_len : mg "len" = none) (obj :  ObjOk (glL K) tabL) : PSs (cxOf CX0 P w (glL K).K mg base nn_Shelf___len__ "Shelf.__len__" (defScope (mem 9 2)) f cdv A outer s H E0).nox (defBody (mem 9 2)) (SSs (glL K) tabL F is_Shelf___len__) :=
  (ss_cons (ss_ret (se_bi (x := "len") (bi_len o) (by rfl) m_len b_len (so_cons (se_att o obj (fn := "placed") 14 (se_var 0) (by rfl)) so_nil))) ss_nil)
theorem b_def_Shelf_prices_k04 (o : XO (glL K) k (cxOf CX0 P w (glL K).K mg base nn_Shelf_prices_k04 "Shelf.prices" (defScope (mem 9 3)) f cdv A outer s H E0).nox) (m_dict : mg "dict" = none) (obj :  ObjOk (glL K) tabL) : PSs (cxOf CX0 P w (glL K).K mg base nn_Shelf_prices_k04 "Shelf.prices" (defScope (mem 9 3)) f cdv A outer s H E0).nox (defBody (mem 9 3)) (SSs (glL K) tabL F is_Shelf_prices_k04) :=
  (ss_cons (ss_ret (se_heap (se_bt (x := "dict") (bi_dict o) (by rfl) m_dict b_dict (so_cons (se_att o obj (fn := "things") 13 (se_var 0) (by rfl)) so_nil)))) ss_nil)
theorem b_def_Shelf_names (o : XO (glL K) k (cxOf CX0 P w (glL K).K mg base nn_Shelf_names "Shelf.names" (defScope (mem 9 4)) f cdv A outer s H E0).nox) (m_list : mg "list" = none) (obj :  ObjOk (glL K) tabL) : PSs (cxOf CX0 P w (glL K).K mg base nn_Shelf_names "Shelf.names" (defScope (mem 9 4)) f cdv A outer s H E0).nox (defBody (mem 9 4)) (SSs (glL K) tabL F is_Shelf_names) :=
  (ss_cons (ss_ret (se_bt (x := "list") (bi_list o) (by rfl) m_list b_list (so_cons (se_att o obj (fn := "placed") 14 (se_var 0) (by rfl)) so_nil))) ss_nil)
theorem b_def_Shelf_paid (o : XO (glL K) k (cxOf CX0 P w (glL K).K mg base nn_Shelf_paid "Shelf.paid" (defScope (mem 9 5)) f cdv A outer s H E0).nox) (obj :  ObjOk (glL K) tabL) : PSs (cxOf CX0 P w (glL K).K mg base nn_Shelf_paid "Shelf.paid" (defScope (mem 9 5)) f cdv A outer s H E0).nox (defBody (mem 9 5)) (SSs (glL K) tabL F is_Shelf_paid) :=
  (ss_cons (ss_ret (se_att o obj (fn := "spent") 15 (se_var 0) (by rfl))) ss_nil)
theorem b_def_Shelf_check_out (o : XO (glL K) k (cxOf CX0 P w (glL K).K mg base nn_Shelf_check_out "Shelf.check_out" (defScope (mem 9 6)) f cdv A outer s H E0).nox) (m_len : mg "len" = none) {k_hv_are_unlike : Nat} (hv_are_unlike : Have (glL K) F P w (glL K).K mg base k_hv_are_unlike "are_unlike" 29 2) (hk_are_unlike : k_hv_are_unlike ≤ k) (obj :  ObjOk (glL K) tabL) : PSs (cxOf CX0 P w (glL K).K mg base nn_Shelf_check_out "Shelf.check_out" (defScope (mem 9 6)) f cdv A outer s H E0).nox (defBody (mem 9 6)) (SSs (glL K) tabL F is_Shelf_check_out) :=
  (ss_cons (ss_if (st_not (st_val (se_fn o hv_are_unlike hk_are_unlike (by rfl) (sa_cons (se_var 2) (sa_cons (se_att o obj (fn := "placed") 14 (se_var 0) (by rfl)) sa_nil))))) (ss_cons ss_nev ss_nil) ss_nil) (ss_cons (ss_if (PW.pt (st_and (st_cmp o .isin (se_var 1) (se_att o obj (fn := "placed") 14 (se_var 0) (by rfl))) (st_and1 (st_cmp o .ne (se_var 2) (se_tup sa_nil))))) (ss_cons ss_nev ss_nil) ss_nil) (ss_cons (ss_if (PW.pt (st_and (st_cmp o .notin (se_var 1) (se_att o obj (fn := "placed") 14 (se_var 0) (by rfl))) (st_and1 (st_cmp o .ge (se_bin o .sub (se_bi (x := "len") (bi_len o) (by rfl) m_len b_len (so_cons (se_att o obj (fn := "placed") 14 (se_var 0) (by rfl)) so_nil)) (se_bi (x := "len") (bi_len o) (by rfl) m_len b_len (so_cons (se_var 2) so_nil))) (se_att o obj (fn := "places") 12 (se_var 0) (by rfl)))))) (ss_cons ss_nev ss_nil) ss_nil) ss_nil)))
theorem b_def_Shelf_call (o : XO (glL K) k (cxOf CX0 P w (glL K).K mg base nn_Shelf_call "Shelf.call" (defScope (mem 9 7)) f cdv A outer s H E0).nox) (m_sorted : mg "sorted" = none) {k_hv_check_thing : Nat} (hv_check_thing : Have (glL K) F P w (glL K).K mg base k_hv_check_thing "check_thing" 28 2) (hk_check_thing : k_hv_check_thing ≤ k) (obj :  ObjOk (glL K) tabL) {k_hm_check_out_2_Shelf : Nat} (hm_check_out_2_Shelf : HaveM (glL K) tabL F P w mg base k_hm_check_out_2_Shelf [0] 18 2 [] []) (km_check_out_2_Shelf : k_hm_check_out_2_Shelf ≤ k) : PSs (cxOf CX0 P w (glL K).K mg base nn_Shelf_call "Shelf.call" (defScope (mem 9 7)) f cdv A outer s H E0).nox (defBody (mem 9 7)) (SSs (glL K) tabL F is_Shelf_call) :=
  (ss_cons (ss_ex (se_fn o hv_check_thing hk_check_thing (by rfl) (sa_cons (se_att o obj (fn := "things") 13 (se_var 0) (by rfl)) (sa_cons (se_var 1) sa_nil)))) (ss_cons (ss_ex (se_me o (mn := "check_out") hm_check_out_2_Shelf km_check_out_2_Shelf (se_var 0) (sa_cons (se_var 1) (sa_cons (se_var 2) sa_nil)) (hnm := by rfl))) (ss_cons (ss_if (st_cmp o .isin (se_var 1) (se_att o obj (fn := "placed") 14 (se_var 0) (by rfl))) (ss_cons (ss_ret se_int) ss_nil) ss_nil) (ss_cons (ss_setA o obj (fn := "placed") 14 (se_var 0) (se_bi (x := "sorted") (bi_sorted o) (by rfl) m_sorted b_sorted (so_cons (se_bin o .add (se_lc o (pw_it o (se_att o obj (fn := "placed") 14 (se_var 0) (by rfl))) (own := [("one", 3)]) (blkOk_by (N := nn_Shelf_call) (sc := defScope (mem 9 7)) (by decide +kernel)) (fun _ _ _ _ _ => (sp_nm (XO.blk o _ _ _ _ _) 3)) (fun _ _ _ _ _ => (sts_one (st_cmp (XO.blk o _ _ _ _ _) .notin (se_var 3) (se_var 2)))) (fun _ _ _ _ _ => (se_var 3)) (by decide)) (se_lst (sa_cons (se_var 1) sa_nil))) so_nil)) (by rfl)) (ss_cons (ss_augA o obj (fn := "spent") 15 .add (se_var 0) (se_sub o (se_att o obj (fn := "things") 13 (se_var 0) (by rfl)) (se_var 1)) (by rfl)) (ss_cons (ss_ret (se_sub o (se_att o obj (fn := "things") 13 (se_var 0) (by rfl)) (se_var 1))) ss_nil))))))
theorem b_def_Shelf_void (o : XO (glL K) k (cxOf CX0 P w (glL K).K mg base nn_Shelf_void "Shelf.void" (defScope (mem 9 8)) f cdv A outer s H E0).nox) {k_hv_check_thing : Nat} (hv_check_thing : Have (glL K) F P w (glL K).K mg base k_hv_check_thing "check_thing" 28 2) (hk_check_thing : k_hv_check_thing ≤ k) (obj :  ObjOk (glL K) tabL) : PSs (cxOf CX0 P w (glL K).K mg base nn_Shelf_void "Shelf.void" (defScope (mem 9 8)) f cdv A outer s H E0).nox (defBody (mem 9 8)) (SSs (glL K) tabL F is_Shelf_void) :=
  (ss_cons (ss_ex (se_fn o hv_check_thing hk_check_thing (by rfl) (sa_cons (se_att o obj (fn := "things") 13 (se_var 0) (by rfl)) (sa_cons (se_var 1) sa_nil)))) (ss_cons (ss_setA o obj (fn := "placed") 14 (se_var 0) (se_lc o (pw_it o (se_att o obj (fn := "placed") 14 (se_var 0) (by rfl))) (own := [("one", 2)]) (blkOk_by (N := nn_Shelf_void) (sc := defScope (mem 9 8)) (by decide +kernel)) (fun _ _ _ _ _ => (sp_nm (XO.blk o _ _ _ _ _) 2)) (fun _ _ _ _ _ => (sts_one (st_cmp (XO.blk o _ _ _ _ _) .ne (se_var 2) (se_var 1)))) (fun _ _ _ _ _ => (se_var 2)) (by decide)) (by rfl)) ss_nil))
theorem b_def__law_feed (o : XO (glL K) k (cxOf CX0 P w (glL K).K mg base nn__law_feed "_law_feed" (defScope (top 11)) f cdv A outer s H E0).nox) (m_abs : mg "abs" = none) (m_int : mg "int" = none) (m_list : mg "list" = none) (m_max : mg "max" = none) : PSs (cxOf CX0 P w (glL K).K mg base nn__law_feed "_law_feed" (defScope (top 11)) f cdv A outer s H E0).nox (defBody (top 11)) (SSs (glL K) tabL F is__law_feed) :=
  (ss_cons (ss_set o 2 (se_sub o (se_bin o .add (se_bt (x := "list") (bi_list o) (by rfl) m_list b_list (so_cons (se_slc o (se_var 0) (po_so (se_var 1)) (po_so (se_bin o .add (se_var 1) se_int))) so_nil)) (se_lst (sa_cons (se_bin o .add (se_bin o .mul se_int (se_var 1)) se_int) sa_nil))) se_int)) (ss_cons (ss_set o 3 (se_bi (x := "max") (bi_max o) (by rfl) m_max b_max (so_cons se_int (so_cons (se_bin o .sub (se_bi (x := "abs") bi_abs (by rfl) m_abs b_abs (so_cons (se_var 2) so_nil)) (se_bin o .pow se_int se_int)) so_nil)))) (ss_cons (ss_ret (se_heap (se_lst (sa_cons (se_var 3) (sa_cons (se_bin o .mod (se_bt (x := "int") bi_int (by rfl) m_int b_int (so_cons (se_bin o .add (se_bin o .add (se_bin o .mul (se_bin o .mod (se_bt (x := "int") bi_int (by rfl) m_int b_int (so_cons (se_bi (x := "abs") bi_abs (by rfl) m_abs b_abs (so_cons (se_var 2) so_nil)) so_nil)) se_int) se_int) (se_bin o .mul se_int (se_var 1))) se_int) so_nil)) se_int) sa_nil))))) ss_nil)))
theorem b_def__law_take (o : XO (glL K) k (cxOf CX0 P w (glL K).K mg base nn__law_take "_law_take" (defScope (top 12)) f cdv A outer s H E0).nox) (m_int : mg "int" = none) : PSs (cxOf CX0 P w (glL K).K mg base nn__law_take "_law_take" (defScope (top 12)) f cdv A outer s H E0).nox (defBody (top 12)) (SSs (glL K) tabL F is__law_take) :=
  (ss_cons (ss_if (st_cmp o .gt (se_sub o (se_var 0) se_int) se_int) (ss_cons (ss_set o 2 (se_bin o .mod (se_bt (x := "int") bi_int (by rfl) m_int b_int (so_cons (se_sub o (se_var 0) se_int) so_nil)) (se_var 1))) (ss_cons (ss_asg (se_bin o .fdiv (se_sub o (se_var 0) se_int) (se_var 1)) (gt_sub o (se_var 0) se_int)) (ss_cons (ss_ret (se_var 2)) ss_nil))) ss_nil) (ss_cons (ss_asg (se_bin o .mod (se_bt (x := "int") bi_int (by rfl) m_int b_int (so_cons (se_bin o .add (se_bin o .mul (se_sub o (se_var 0) se_int) se_int) se_int) so_nil)) se_int) (gt_sub o (se_var 0) se_int)) (ss_cons (ss_ret (se_bin o .mod (se_bt (x := "int") bi_int (by rfl) m_int b_int (so_cons (se_bin o .fdiv (se_sub o (se_var 0) se_int) se_int) so_nil)) (se_var 1))) ss_nil)))
theorem b_def__law_pick (o : XO (glL K) k (cxOf CX0 P w (glL K).K mg base nn__law_pick "_law_pick" (defScope (top 13)) f cdv A outer s H E0).nox) (m_len : mg "len" = none) {k_hv__law_take : Nat} (hv__law_take : Have (glL K) F P w (glL K).K mg base k_hv__law_take "_law_take" 1 2) (hk__law_take : k_hv__law_take ≤ k) : PSs (cxOf CX0 P w (glL K).K mg base nn__law_pick "_law_pick" (defScope (top 13)) f cdv A outer s H E0).nox (defBody (top 13)) (SSs (glL K) tabL F is__law_pick) :=
  (ss_cons (ss_ret (se_sub o (se_var 1) (se_fn o hv__law_take hk__law_take (by rfl) (sa_cons (se_var 0) (sa_cons (se_bi (x := "len") (bi_len o) (by rfl) m_len b_len (so_cons (se_var 1) so_nil)) sa_nil))))) ss_nil)
theorem b_def__law_names (o : XO (glL K) k (cxOf CX0 P w (glL K).K mg base nn__law_names "_law_names" (defScope (top 14)) f cdv A outer s H E0).nox) {k_hv__law_take : Nat} (hv__law_take : Have (glL K) F P w (glL K).K mg base k_hv__law_take "_law_take" 1 2) (hk__law_take : k_hv__law_take ≤ k) {k_hv__law_pick : Nat} (hv__law_pick : Have (glL K) F P w (glL K).K mg base k_hv__law_pick "_law_pick" 2 2) (hk__law_pick : k_hv__law_pick ≤ k) : PSs (cxOf CX0 P w (glL K).K mg base nn__law_names "_law_names" (defScope (top 14)) f cdv A outer s H E0).nox (defBody (top 14)) (SSs (glL K) tabL F is__law_names) :=
  (ss_cons (ss_set o 2 (se_lst (sa_cons se_str (sa_cons se_str (sa_cons se_str (sa_cons se_str (sa_cons se_str (sa_cons se_str (sa_cons se_str (sa_cons se_str (sa_cons se_str (sa_cons se_str (sa_cons se_str sa_nil))))))))))))) (ss_cons (ss_set o 2 (se_bin o .add (se_var 2) (se_lst (sa_cons se_str (sa_cons se_str (sa_cons se_str (sa_cons se_str (sa_cons se_str (sa_cons se_str (sa_cons se_str (sa_cons se_str (sa_cons se_str sa_nil)))))))))))) (ss_cons (ss_set o 3 (se_fn o hv__law_take hk__law_take (by rfl) (sa_cons (se_var 0) (sa_cons se_int sa_nil)))) (ss_cons (ss_ret (se_slc o (se_sls o (se_bin o .add (se_slc o (se_var 2) (po_so (se_var 3)) po_no) (se_slc o (se_var 2) po_no (po_so (se_var 3)))) (se_fn o hv__law_pick hk__law_pick (by rfl) (sa_cons (se_var 0) (sa_cons (se_lst (sa_cons se_int (sa_cons (se_neg o se_int) sa_nil))) sa_nil)))) po_no (po_so (se_var 1)))) ss_nil))))
theorem b_def__law_things (o : XO (glL K) k (cxOf CX0 P w (glL K).K mg base nn__law_things "_law_things" (defScope (top 15)) f cdv A outer s H E0).nox) (m_dict : mg "dict" = none) {k_hv__law_pick : Nat} (hv__law_pick : Have (glL K) F P w (glL K).K mg base k_hv__law_pick "_law_pick" 2 2) (hk__law_pick : k_hv__law_pick ≤ k) {k_hv__law_names : Nat} (hv__law_names : Have (glL K) F P w (glL K).K mg base k_hv__law_names "_law_names" 3 2) (hk__law_names : k_hv__law_names ≤ k) : PSs (cxOf CX0 P w (glL K).K mg base nn__law_things "_law_things" (defScope (top 15)) f cdv A outer s H E0).nox (defBody (top 15)) (SSs (glL K) tabL F is__law_things) :=
  (ss_cons (ss_set o 2 (se_fn o hv__law_pick hk__law_pick (by rfl) (sa_cons (se_var 0) (sa_cons (se_lst (sa_cons (se_lst (sa_cons se_int sa_nil)) (sa_cons (se_lst (sa_cons se_int sa_nil)) (sa_cons (se_lst (sa_cons se_int (sa_cons se_int (sa_cons se_int sa_nil)))) (sa_cons (se_lst (sa_cons se_int (sa_cons se_int (sa_cons se_int (sa_cons se_int (sa_cons se_int sa_nil)))))) (sa_cons (se_lst (sa_cons se_int (sa_cons se_int (sa_cons se_int sa_nil)))) (sa_cons (se_lst (sa_cons se_int (sa_cons (se_bin o .pow se_int se_int) sa_nil))) (sa_cons (se_lst (sa_cons se_int (sa_cons (se_bin o .pow se_int se_int) (sa_cons se_int (sa_cons se_int sa_nil))))) sa_nil)))))))) sa_nil)))) (ss_cons (ss_ret (se_bt (x := "dict") (bi_dict o) (by rfl) m_dict b_dict (so_cons (se_lc o (pw_it o (se_fn o hv__law_names hk__law_names (by rfl) (sa_cons (se_var 0) (sa_cons (se_var 1) sa_nil)))) (own := [("_law_name", 3)]) (blkOk_by (N := nn__law_things) (sc := defScope (top 15)) (by decide +kernel)) (fun _ _ _ _ _ => (sp_nm (XO.blk o _ _ _ _ _) 3)) (fun _ _ _ _ _ => sts_nil) (fun _ _ _ _ _ => (se_tup (sa_cons (se_var 3) (sa_cons (se_fn (XO.blk o _ _ _ _ _) hv__law_pick hk__law_pick (by rfl) (sa_cons (se_var 0) (sa_cons (se_var 2) sa_nil))) sa_nil)))) (by decide)) so_nil))) ss_nil))
theorem b_def__law_event (o : XO (glL K) k (cxOf CX0 P w (glL K).K mg base nn__law_event "_law_event" (defScope (top 16)) f cdv A outer s H E0).nox) {k_hv__law_pick : Nat} (hv__law_pick : Have (glL K) F P w (glL K).K mg base k_hv__law_pick "_law_pick" 2 2) (hk__law_pick : k_hv__law_pick ≤ k) {k_hv__law_take : Nat} (hv__law_take : Have (glL K) F P w (glL K).K mg base k_hv__law_take "_law_take" 1 2) (hk__law_take : k_hv__law_take ≤ k) : PSs (cxOf CX0 P w (glL K).K mg base nn__law_event "_law_event" (defScope (top 16)) f cdv A outer s H E0).nox (defBody (top 16)) (SSs (glL K) tabL F is__law_event) :=
  (ss_cons (ss_set o 3 (se_fn o hv__law_pick hk__law_pick (by rfl) (sa_cons (se_var 0) (sa_cons (se_bin o .add (se_var 2) (se_lst (sa_cons (se_fn o hv__law_pick hk__law_pick (by rfl) (sa_cons (se_var 0) (sa_cons (se_var 1) sa_nil))) sa_nil))) sa_nil)))) (ss_cons (ss_ret (se_tup (sa_cons (se_ite (st_cmp o .eq (se_fn o hv__law_take hk__law_take (by rfl) (sa_cons (se_var 0) (sa_cons se_int sa_nil))) se_int) se_str se_str) (sa_cons (se_var 3) sa_nil)))) ss_nil))
theorem b_def__law_row (o : XO (glL K) k (cxOf CX0 P w (glL K).K mg base nn__law_row "_law_row" (defScope (top 17)) f cdv A outer s H E0).nox) (m_range : mg "range" = none) (m_sorted : mg "sorted" = none) {k_hv__law_pick : Nat} (hv__law_pick : Have (glL K) F P w (glL K).K mg base k_hv__law_pick "_law_pick" 2 2) (hk__law_pick : k_hv__law_pick ≤ k) {k_hv__law_take : Nat} (hv__law_take : Have (glL K) F P w (glL K).K mg base k_hv__law_take "_law_take" 1 2) (hk__law_take : k_hv__law_take ≤ k) {k_hv__law_event : Nat} (hv__law_event : Have (glL K) F P w (glL K).K mg base k_hv__law_event "_law_event" 5 3) (hk__law_event : k_hv__law_event ≤ k) : PSs (cxOf CX0 P w (glL K).K mg base nn__law_row "_law_row" (defScope (top 17)) f cdv A outer s H E0).nox (defBody (top 17)) (SSs (glL K) tabL F is__law_row) :=
  (ss_cons (ss_parT o 5 6 true false (se_lst sa_nil) (se_bi (x := "sorted") (bi_sorted o) (by rfl) m_sorted b_sorted (so_cons (se_var 1) so_nil)) (pg_name o.nd rfl (.inl rfl)) (pg_name o.nd rfl (.inr rfl))) (ss_cons (ss_setLc o 3 (pw_rng1 o (by rfl) m_range (so_cons se_int so_nil)) (own := [("_law_turn", 4)]) (blkOk_by (N := nn__law_row) (sc := defScope (top 17)) (by decide +kernel)) (fun _ _ _ _ _ => (sp_nm (XO.blk o _ _ _ _ _) 4)) (fun _ _ _ _ _ => sts_nil) (fun _ _ _ _ _ => (se_fn (XO.blk o _ _ _ _ _) hv__law_pick hk__law_pick (by rfl) (sa_cons (se_var 0) (sa_cons (se_var 6) sa_nil)))) (by decide) (sw_true rfl rfl rfl rfl)) (ss_cons (ss_for o (pw_rng1 o (by rfl) m_range (so_cons (se_var 2) so_nil)) (sp_nm o 4) (ss_cons (ss_if (st_cmp o .eq (se_fn o hv__law_take hk__law_take (by rfl) (sa_cons (se_var 0) (sa_cons se_int sa_nil))) se_int) (ss_cons (ss_setLc o 3 (pw_rng1 o (by rfl) m_range (so_cons (se_bin o .add se_int (se_fn o hv__law_take hk__law_take (by rfl) (sa_cons (se_var 0) (sa_cons se_int sa_nil)))) so_nil)) (own := [("_law_one", 7)]) (blkOk_by (N := nn__law_row) (sc := defScope (top 17)) (by decide +kernel)) (fun _ _ _ _ _ => (sp_nm (XO.blk o _ _ _ _ _) 7)) (fun _ _ _ _ _ => sts_nil) (fun _ _ _ _ _ => (se_fn (XO.blk o _ _ _ _ _) hv__law_pick hk__law_pick (by rfl) (sa_cons (se_var 0) (sa_cons (se_var 6) sa_nil)))) (by decide) (sw_true rfl rfl rfl rfl)) ss_nil) ss_nil) (ss_cons (ss_ex (se_append (se_var 5) (sa_cons (se_fn o hv__law_event hk__law_event (by rfl) (sa_cons (se_var 0) (sa_cons (se_var 6) (sa_cons (se_var 3) sa_nil)))) sa_nil))) ss_nil)) PassesOwn.never) (ss_cons (ss_ret (se_frz 5)) ss_nil))))
theorem b_def__law_away_k04 (o : XO (glL K) k (cxOf CX0 P w (glL K).K mg base nn__law_away_k04 "_law_away" (defScope (top 18)) f cdv A outer s H E0).nox) (m_len : mg "len" = none) (m_list : mg "list" = none) (m_tuple : mg "tuple" = none) {k_hv__law_take : Nat} (hv__law_take : Have (glL K) F P w (glL K).K mg base k_hv__law_take "_law_take" 1 2) (hk__law_take : k_hv__law_take ≤ k) : PSs (cxOf CX0 P w (glL K).K mg base nn__law_away_k04 "_law_away" (defScope (top 18)) f cdv A outer s H E0).nox (defBody (top 18)) (SSs (glL K) tabL F is__law_away_k04) :=
  (ss_cons (ss_if (st_cmp o .isin (se_var 3) (se_var 1)) (ss_cons (ss_ret (se_tup sa_nil)) ss_nil) ss_nil) (ss_cons (ss_par o 4 5 true true (se_bt (x := "list") (bi_list o) (by rfl) m_list b_list (so_cons (se_var 1) so_nil)) (se_lst sa_nil) (by with_unfolding_all rfl)) (ss_cons (ss_while (PW.pt (st_or (st_cmp o .ge (se_bi (x := "len") (bi_len o) (by rfl) m_len b_len (so_cons (se_var 4) so_nil)) (se_var 2)) (st_or1 (PW.pt (st_and (st_cmp o .ne (se_var 4) (se_lst sa_nil)) (st_and1 (st_cmp o .eq (se_fn o hv__law_take hk__law_take (by rfl) (sa_cons (se_var 0) (sa_cons se_int sa_nil))) se_int))))))) (ss_cons (ss_ex (se_append (se_var 5) (sa_cons (se_pop (se_var 4) (sa_cons (se_fn o hv__law_take hk__law_take (by rfl) (sa_cons (se_var 0) (sa_cons (se_bi (x := "len") (bi_len o) (by rfl) m_len b_len (so_cons (se_var 4) so_nil)) sa_nil))) sa_nil)) sa_nil))) ss_nil) PassesOwn.never) (ss_cons (ss_ret (se_bt (x := "tuple") (bi_tuple o) (by rfl) m_tuple b_tuple (so_cons (se_var 5) so_nil))) ss_nil))))
theorem b_def__law_is_at_k04 (o : XO (glL K) k (cxOf CX0 P w (glL K).K mg base nn__law_is_at_k04 "_law_is_at" (defScope (top 19)) f cdv A outer s H E0).nox) (m_len : mg "len" = none) (m_repr : mg "repr" = none) (m_sorted : mg "sorted" = none) {k_hm_names_0_Shelf : Nat} (hm_names_0_Shelf : HaveM (glL K) tabL F P w mg base k_hm_names_0_Shelf [0] 19 0 [] []) (km_names_0_Shelf : k_hm_names_0_Shelf ≤ k) (obj :  ObjOk (glL K) tabL) {k_hs__len__ : Nat} (hs__len__ : HaveS (glL K) tabL F P w mg base k_hs__len__ 11 1) (hhs__len__ : k_hs__len__ + 1 ≤ k) {k_hp_paid : Nat} (hp_paid : HaveP (glL K) tabL F P w mg base k_hp_paid 20) (kp_paid : k_hp_paid + 1 ≤ k) {k_hm_prices_0_Shelf : Nat} (hm_prices_0_Shelf : HaveM (glL K) tabL F P w mg base k_hm_prices_0_Shelf [0] 16 0 [] []) (km_prices_0_Shelf : k_hm_prices_0_Shelf ≤ k) {k_hs__contains__ : Nat} (hs__contains__ : HaveS (glL K) tabL F P w mg base k_hs__contains__ 10 2) (hhs__contains__ : k_hs__contains__ ≤ k) {k_hv__law_pick : Nat} (hv__law_pick : Have (glL K) F P w (glL K).K mg base k_hv__law_pick "_law_pick" 2 2) (hk__law_pick : k_hv__law_pick ≤ k) : PSs (cxOf CX0 P w (glL K).K mg base nn__law_is_at_k04 "_law_is_at" (defScope (top 19)) f cdv A outer s H E0).nox (defBody (top 19)) (SSs (glL K) tabL F is__law_is_at_k04) :=
  (ss_cons (ss_if (st_cmp o .ne (se_me0 o (mn := "names") hm_names_0_Shelf km_names_0_Shelf (se_var 1) (hnm := by rfl)) (se_bi (x := "sorted") (bi_sorted o) (by rfl) m_sorted b_sorted (so_cons (se_sub o (se_var 3) se_str) so_nil))) (ss_cons (ss_ret se_bl) ss_nil) ss_nil) (ss_cons (ss_if (st_cmp o .ne (se_lst (sa_cons (se_att o obj (fn := "places") 12 (se_var 1) (by rfl)) (sa_cons (se_lenO o hs__len__ hhs__len__ (by rfl) m_len (se_var 1)) sa_nil))) (se_lst (sa_cons (se_sub o (se_var 3) se_str) (sa_cons (se_bi (x := "len") (bi_len o) (by rfl) m_len b_len (so_cons (se_sub o (se_var 3) se_str) so_nil)) sa_nil)))) (ss_cons (ss_ret se_bl) ss_nil) ss_nil) (ss_cons (ss_if (st_cmp o .ne (se_bi (x := "repr") (bi_repr o) (by rfl) m_repr b_repr (so_cons (se_prp o (fn := "paid") hp_paid kp_paid (se_var 1) (by rfl)) so_nil)) (se_bi (x := "repr") (bi_repr o) (by rfl) m_repr b_repr (so_cons (se_sub o (se_var 3) se_str) so_nil))) (ss_cons (ss_ret se_bl) ss_nil) ss_nil) (ss_cons (ss_set o 4 (se_me0 o (mn := "prices") hm_prices_0_Shelf km_prices_0_Shelf (se_var 1) (hnm := by rfl))) (ss_cons (ss_if (st_cmp o .ne (se_var 4) (se_var 2)) (ss_cons (ss_ret se_bl) ss_nil) ss_nil) (ss_cons (ss_ex (se_clear o (se_var 4))) (ss_cons (ss_if (st_cmp o .ne (se_lck o 2 (own := [("_law_name", 7)]) (blkOk_by (N := nn__law_is_at_k04) (sc := defScope (top 19)) (by decide +kernel)) (fun _ _ _ _ _ => (sp_nm (XO.blk o _ _ _ _ _) 7)) (fun _ _ _ _ _ => (sts_one (st_cmp (XO.blk o _ _ _ _ _) .ne (se_inO (XO.blk o _ _ _ _ _) false hs__contains__ hhs__contains__ (se_var 7) (se_var 1)) (se_cmp (XO.blk o _ _ _ _ _) .isin (se_var 7) (se_sub (XO.blk o _ _ _ _ _) (se_var 3) se_str))))) (fun _ _ _ _ _ => (se_var 7)) (by decide)) (se_lst sa_nil)) (ss_cons (ss_ret se_bl) ss_nil) ss_nil) (ss_cons (ss_set o 5 (se_lst (sa_cons se_non (sa_cons se_int (sa_cons se_bl (sa_cons (se_tup sa_nil) (sa_cons (se_tup (sa_cons se_str sa_nil)) (sa_cons (se_lst sa_nil) (sa_cons (se_lst (sa_cons se_str sa_nil)) (sa_cons se_dsp0 (sa_cons se_str (sa_cons se_str (sa_cons se_str (sa_cons (se_dsp o (sd_cons se_str se_int sd_nil)) (sa_cons (se_bin o .pow se_int se_int) sa_nil))))))))))))))) (ss_cons (ss_set o 6 (se_fn o hv__law_pick hk__law_pick (by rfl) (sa_cons (se_var 0) (sa_cons (se_bin o .add (se_var 5) (se_lst (sa_cons (se_tup (sa_cons (se_lst (sa_cons se_str sa_nil)) sa_nil)) (sa_cons (se_tup (sa_cons se_str (sa_cons (se_lst sa_nil) sa_nil))) (sa_cons (se_tup (sa_cons se_dsp0 sa_nil)) sa_nil))))) sa_nil)))) (ss_cons (ss_ret (se_cmp o .is_ (se_inO o false hs__contains__ hhs__contains__ (se_var 6) (se_var 1)) se_bl)) ss_nil))))))))))
theorem b_def__law_stepped (o : XO (glL K) k (cxOf CX0 P w (glL K).K mg base nn__law_stepped "_law_stepped" (defScope (top 20)) f cdv A outer s H E0).nox) (m_repr : mg "repr" = none) {k_hm_void_1_Shelf : Nat} (hm_void_1_Shelf : HaveM (glL K) tabL F P w mg base k_hm_void_1_Shelf [0] 23 1 [] []) (km_void_1_Shelf : k_hm_void_1_Shelf ≤ k) {k_hv__law_away : Nat} (hv__law_away : Have (glL K) F P w (glL K).K mg base k_hv__law_away "_law_away" 59 4) (hk__law_away : k_hv__law_away ≤ k) {k_hv__law_take : Nat} (hv__law_take : Have (glL K) F P w (glL K).K mg base k_hv__law_take "_law_take" 1 2) (hk__law_take : k_hv__law_take ≤ k) {k_hm_call_1_Shelf : Nat} (hm_call_1_Shelf : HaveM (glL K) tabL F P w mg base k_hm_call_1_Shelf [0] 21 1 [] [.inl 0, .inr (.tup [])]) (km_call_1_Shelf : k_hm_call_1_Shelf ≤ k) {k_hm_call_1_out_Shelf : Nat} (hm_call_1_out_Shelf : HaveM (glL K) tabL F P w mg base k_hm_call_1_out_Shelf [0] 21 1 ["out"] [.inl 0, .inl 1]) (km_call_1_out_Shelf : k_hm_call_1_out_Shelf ≤ k) : PSs (cxOf CX0 P w (glL K).K mg base nn__law_stepped "_law_stepped" (defScope (top 20)) f cdv A outer s H E0).nox (defBody (top 20)) (SSs (glL K) tabL F is__law_stepped) :=
  (ss_cons (ss_asg (se_var 4) (gt_tp o (gts_cons (gt_nm o 7) (gts_cons (gt_nm o 8) gts_nil)))) (ss_cons (ss_if (st_cmp o .eq (se_var 7) se_str) (ss_cons (ss_asg (se_lc o (pw_it o (se_sub o (se_var 3) se_str)) (own := [("_law_one", 10)]) (blkOk_by (N := nn__law_stepped) (sc := defScope (top 20)) (by decide +kernel)) (fun _ _ _ _ _ => (sp_nm (XO.blk o _ _ _ _ _) 10)) (fun _ _ _ _ _ => (sts_one (st_cmp (XO.blk o _ _ _ _ _) .ne (se_var 10) (se_var 8)))) (fun _ _ _ _ _ => (se_var 10)) (by decide)) (gt_sub o (se_var 3) se_str)) (ss_cons (ss_ret (se_cmp o .is_ (se_me o (mn := "void") hm_void_1_Shelf km_void_1_Shelf (se_var 1) (sa_cons (se_var 8) sa_nil) (hnm := by rfl)) se_non)) ss_nil)) ss_nil) (ss_cons (ss_set o 5 (se_fn o hv__law_away hk__law_away (by rfl) (sa_cons (se_var 0) (sa_cons (se_sub o (se_var 3) se_str) (sa_cons (se_sub o (se_var 3) se_str) (sa_cons (se_var 8) sa_nil)))))) (ss_cons (ss_set o 6 (se_ite (st_cmp o .isin (se_var 8) (se_sub o (se_var 3) se_str)) se_int (se_sub o (se_var 2) (se_var 8)))) (ss_cons (ss_if (PW.pt (st_and (st_cmp o .eq (se_var 5) (se_tup sa_nil)) (st_and1 (st_cmp o .eq (se_fn o hv__law_take hk__law_take (by rfl) (sa_cons (se_var 0) (sa_cons se_int sa_nil))) se_int)))) (ss_cons (ss_set o 9 (se_meK o (mn := "call") hm_call_1_Shelf km_call_1_Shelf (as := [(.var 8)]) (bs := []) (se_var 1) (sa_cons (se_var 8) sa_nil) sk_nil (hnm := by rfl))) ss_nil) (ss_cons (ss_set o 9 (se_meK o (mn := "call") hm_call_1_out_Shelf km_call_1_out_Shelf (as := [(.var 8)]) (bs := [(.var 5)]) (se_var 1) (sa_cons (se_var 8) sa_nil) (sk_cons (se_var 5) sk_nil) (hnm := by rfl))) ss_nil)) (ss_cons (ss_if (st_cmp o .gt (se_var 6) se_int) (ss_cons (ss_asg (se_bin o .add (se_lc o (pw_it o (se_sub o (se_var 3) se_str)) (own := [("_law_one", 10)]) (blkOk_by (N := nn__law_stepped) (sc := defScope (top 20)) (by decide +kernel)) (fun _ _ _ _ _ => (sp_nm (XO.blk o _ _ _ _ _) 10)) (fun _ _ _ _ _ => (sts_one (st_cmp (XO.blk o _ _ _ _ _) .notin (se_var 10) (se_var 5)))) (fun _ _ _ _ _ => (se_var 10)) (by decide)) (se_lst (sa_cons (se_var 8) sa_nil))) (gt_sub o (se_var 3) se_str)) ss_nil) ss_nil) (ss_cons (ss_asg (se_bin o .add (se_sub o (se_var 3) se_str) (se_var 6)) (gt_sub o (se_var 3) se_str)) (ss_cons (ss_ret (se_cmp o .eq (se_bi (x := "repr") (bi_repr o) (by rfl) m_repr b_repr (so_cons (se_var 9) so_nil)) (se_bi (x := "repr") (bi_repr o) (by rfl) m_repr b_repr (so_cons (se_var 6) so_nil)))) ss_nil))))))))
theorem b_def_law_k04 (o : XO (glL K) k (cxOf CX0 P w (glL K).K mg base nn_law_k04 "law" (defScope (top 21)) f cdv A outer s H E0).nox) (m_dict : mg "dict" = none) (m_len : mg "len" = none) (m_max : mg "max" = none) (m_min : mg "min" = none) (m_range : mg "range" = none) {k_hv__law_feed : Nat} (hv__law_feed : Have (glL K) F P w (glL K).K mg base k_hv__law_feed "_law_feed" 0 2) (hk__law_feed : k_hv__law_feed ≤ k) {k_hv__law_things : Nat} (hv__law_things : Have (glL K) F P w (glL K).K mg base k_hv__law_things "_law_things" 4 2) (hk__law_things : k_hv__law_things ≤ k) {k_hv__law_take : Nat} (hv__law_take : Have (glL K) F P w (glL K).K mg base k_hv__law_take "_law_take" 1 2) (hk__law_take : k_hv__law_take ≤ k) {k_hn_Shelf : Nat} (hn_Shelf : HaveN (glL K) tabL F P w mg base k_hn_Shelf "Shelf" 0 2 [] []) (kn_Shelf : k_hn_Shelf + 1 ≤ k) {k_hv__law_row : Nat} (hv__law_row : Have (glL K) F P w (glL K).K mg base k_hv__law_row "_law_row" 6 3) (hk__law_row : k_hv__law_row ≤ k) {k_hv__law_pick : Nat} (hv__law_pick : Have (glL K) F P w (glL K).K mg base k_hv__law_pick "_law_pick" 2 2) (hk__law_pick : k_hv__law_pick ≤ k) {k_hv__law_is_at : Nat} (hv__law_is_at : Have (glL K) F P w (glL K).K mg base k_hv__law_is_at "_law_is_at" 253 4) (hk__law_is_at : k_hv__law_is_at ≤ k) {k_hv__law_stepped : Nat} (hv__law_stepped : Have (glL K) F P w (glL K).K mg base k_hv__law_stepped "_law_stepped" 61 5) (hk__law_stepped : k_hv__law_stepped ≤ k) : PSs (cxOf CX0 P w (glL K).K mg base nn_law_k04 "law" (defScope (top 21)) f cdv A outer s H E0).nox (defBody (top 21)) (SSs (glL K) tabL F is_law_k04) :=
  (ss_cons (ss_for o (pw_rng1 o (by rfl) m_range (so_cons (se_bi (x := "max") (bi_max o) (by rfl) m_max b_max (so_cons se_int (so_cons (se_bi (x := "min") (bi_min o) (by rfl) m_min b_min (so_cons se_int (so_cons (se_bi (x := "len") (bi_len o) (by rfl) m_len b_len (so_cons (se_var 0) so_nil)) so_nil))) so_nil))) so_nil)) (sp_nm o 1) (ss_cons (ss_set o 2 (se_fn o hv__law_feed hk__law_feed (by rfl) (sa_cons (se_var 0) (sa_cons (se_var 1) sa_nil)))) (ss_cons (ss_par o 6 7 false false (se_fn o hv__law_things hk__law_things (by rfl) (sa_cons (se_var 2) (sa_cons (se_bin o .add se_int (se_fn o hv__law_take hk__law_take (by rfl) (sa_cons (se_var 2) (sa_cons se_int sa_nil)))) sa_nil))) (se_bin o .add se_int (se_fn o hv__law_take hk__law_take (by rfl) (sa_cons (se_var 2) (sa_cons se_int sa_nil)))) (by with_unfolding_all rfl)) (ss_cons (ss_set o 3 (se_heap (se_bt (x := "dict") (bi_dict o) (by rfl) m_dict b_dict (so_cons (se_var 6) so_nil)))) (ss_cons (ss_par o 8 9 false false (se_new o hn_Shelf kn_Shelf (by rfl) (sa_cons (se_var 7) (sa_cons (se_var 3) sa_nil))) (se_heap (se_dsp o (sd_cons se_str (se_var 7) (sd_cons se_str (se_lst sa_nil) (sd_cons se_str se_int sd_nil))))) (by with_unfolding_all rfl)) (ss_cons (ss_if (st_cmp o .eq (se_fn o hv__law_take hk__law_take (by rfl) (sa_cons (se_var 2) (sa_cons se_int sa_nil))) se_int) (ss_cons (ss_ex (se_clear o (se_var 3))) (ss_cons (ss_asg se_int (gt_sub o (se_var 3) se_str)) ss_nil)) ss_nil) (ss_cons (ss_set o 4 (se_fn o hv__law_row hk__law_row (by rfl) (sa_cons (se_var 2) (sa_cons (se_var 6) (sa_cons (se_fn o hv__law_pick hk__law_pick (by rfl) (sa_cons (se_var 2) (sa_cons (se_lst (sa_cons se_int (sa_cons se_int (sa_cons se_int (sa_cons se_int sa_nil))))) sa_nil))) sa_nil))))) (ss_cons (ss_if (st_not (st_val (se_fn o hv__law_is_at hk__law_is_at (by rfl) (sa_cons (se_var 2) (sa_cons (se_var 8) (sa_cons (se_var 6) (sa_cons (se_var 9) sa_nil))))))) (ss_cons (ss_ret se_bl) ss_nil) ss_nil) (ss_cons (ss_for o (pw_it o (se_var 4)) (sp_nm o 5) (ss_cons (ss_if (st_not (st_val (se_fn o hv__law_stepped hk__law_stepped (by rfl) (sa_cons (se_var 2) (sa_cons (se_var 8) (sa_cons (se_var 6) (sa_cons (se_var 9) (sa_cons (se_var 5) sa_nil)))))))) (ss_cons (ss_ret se_bl) ss_nil) ss_nil) (ss_cons (ss_if (st_not (st_val (se_fn o hv__law_is_at hk__law_is_at (by rfl) (sa_cons (se_var 2) (sa_cons (se_var 8) (sa_cons (se_var 6) (sa_cons (se_var 9) sa_nil))))))) (ss_cons (ss_ret se_bl) ss_nil) ss_nil) ss_nil)) PassesOwn.never) ss_nil)))))))) PassesOwn.never) (ss_cons (ss_ret se_bl) ss_nil))
end
def fnD : List PathD := [⟨(fun K => He.fAd K ("is_one_of", none)), ⟨("is_one_of", none), "is_one_of", "is_one_of", defArgs (top 5), defBody (top 5), defScope (top 5), [], []⟩⟩,
  ⟨(fun K => He.fAd K ("check_thing", none)), ⟨("check_thing", none), "check_thing", "check_thing", defArgs (top 6), defBody (top 6), defScope (top 6), [], []⟩⟩,
  ⟨(fun K => He.fAd K ("are_unlike", none)), ⟨("are_unlike", none), "are_unlike", "are_unlike", defArgs (top 8), defBody (top 8), defScope (top 8), [], []⟩⟩,
  ⟨(fun K => He.fAd K ("Shelf", some "__init__")), ⟨("Shelf", some "__init__"), "__init__", "Shelf.__init__", defArgs (mem 9 0), defBody (mem 9 0), defScope (mem 9 0), [], []⟩⟩,
  ⟨(fun K => He.fAd K ("Shelf", some "__contains__")), ⟨("Shelf", some "__contains__"), "__contains__", "Shelf.__contains__", defArgs (mem 9 1), defBody (mem 9 1), defScope (mem 9 1), [], []⟩⟩,
  ⟨(fun K => He.fAd K ("Shelf", some "__len__")), ⟨("Shelf", some "__len__"), "__len__", "Shelf.__len__", defArgs (mem 9 2), defBody (mem 9 2), defScope (mem 9 2), [], []⟩⟩,
  ⟨(fun K => He.fAd K ("Shelf", some "prices")), ⟨("Shelf", some "prices"), "prices", "Shelf.prices", defArgs (mem 9 3), defBody (mem 9 3), defScope (mem 9 3), [], []⟩⟩,
  ⟨(fun K => He.fAd K ("Shelf", some "names")), ⟨("Shelf", some "names"), "names", "Shelf.names", defArgs (mem 9 4), defBody (mem 9 4), defScope (mem 9 4), [], []⟩⟩,
  ⟨(fun K => prG K "Shelf" "paid"), ⟨("Shelf", some "paid"), "paid", "Shelf.paid", defArgs (mem 9 5), defBody (mem 9 5), defScope (mem 9 5), [], []⟩⟩,
  ⟨(fun K => He.fAd K ("Shelf", some "check_out")), ⟨("Shelf", some "check_out"), "check_out", "Shelf.check_out", defArgs (mem 9 6), defBody (mem 9 6), defScope (mem 9 6), [], []⟩⟩,
  ⟨(fun K => He.fAd K ("Shelf", some "call")), ⟨("Shelf", some "call"), "call", "Shelf.call", defArgs (mem 9 7), defBody (mem 9 7), defScope (mem 9 7), [], [("out", .adr (fun K => kwA K ("Shelf", some "call") "out"))]⟩⟩,
  ⟨(fun K => He.fAd K ("Shelf", some "void")), ⟨("Shelf", some "void"), "void", "Shelf.void", defArgs (mem 9 8), defBody (mem 9 8), defScope (mem 9 8), [], []⟩⟩,
  ⟨(fun K => He.fAd K ("_law_feed", none)), ⟨("_law_feed", none), "_law_feed", "_law_feed", defArgs (top 11), defBody (top 11), defScope (top 11), [], []⟩⟩,
  ⟨(fun K => He.fAd K ("_law_take", none)), ⟨("_law_take", none), "_law_take", "_law_take", defArgs (top 12), defBody (top 12), defScope (top 12), [], []⟩⟩,
  ⟨(fun K => He.fAd K ("_law_pick", none)), ⟨("_law_pick", none), "_law_pick", "_law_pick", defArgs (top 13), defBody (top 13), defScope (top 13), [], []⟩⟩,
  ⟨(fun K => He.fAd K ("_law_names", none)), ⟨("_law_names", none), "_law_names", "_law_names", defArgs (top 14), defBody (top 14), defScope (top 14), [], []⟩⟩,
  ⟨(fun K => He.fAd K ("_law_things", none)), ⟨("_law_things", none), "_law_things", "_law_things", defArgs (top 15), defBody (top 15), defScope (top 15), [], []⟩⟩,
  ⟨(fun K => He.fAd K ("_law_event", none)), ⟨("_law_event", none), "_law_event", "_law_event", defArgs (top 16), defBody (top 16), defScope (top 16), [], []⟩⟩,
  ⟨(fun K => He.fAd K ("_law_row", none)), ⟨("_law_row", none), "_law_row", "_law_row", defArgs (top 17), defBody (top 17), defScope (top 17), [], []⟩⟩,
  ⟨(fun K => He.fAd K ("_law_away", none)), ⟨("_law_away", none), "_law_away", "_law_away", defArgs (top 18), defBody (top 18), defScope (top 18), [], []⟩⟩,
  ⟨(fun K => He.fAd K ("_law_is_at", none)), ⟨("_law_is_at", none), "_law_is_at", "_law_is_at", defArgs (top 19), defBody (top 19), defScope (top 19), [], []⟩⟩,
  ⟨(fun K => He.fAd K ("_law_stepped", none)), ⟨("_law_stepped", none), "_law_stepped", "_law_stepped", defArgs (top 20), defBody (top 20), defScope (top 20), [], []⟩⟩,
  ⟨(fun K => He.fAd K ("law", none)), ⟨("law", none), "law", "law", defArgs (top 21), defBody (top 21), defScope (top 21), [], []⟩⟩]
def owD (K : PySem.W.Frag) : Bool := (prB K "Shelf" "paid" && (tup0 K (kwA K ("Shelf", some "call") "out") && true))
theorem ow_0 {K : PySem.W.Frag} (h : owD K = true) : prB K "Shelf" "paid" = true := by
  unfold owD at h
  simp only [Bool.and_eq_true] at h
  exact h.1
theorem ow_1 {K : PySem.W.Frag} (h : owD K = true) : tup0 K (kwA K ("Shelf", some "call") "out") = true := by
  unfold owD at h
  simp only [Bool.and_eq_true] at h
  exact h.2.1
def faD : List He.Fa := [.glo "is_one_of", .glo "check_thing", .glo "are_unlike", .glo "_law_feed", .glo "_law_take", .glo "_law_pick", .glo "_law_names", .glo "_law_things", .glo "_law_event", .glo "_law_row", .glo "_law_away", .glo "_law_is_at", .glo "_law_stepped", .glo "law", .free "abs", .free "all", .free "dict", .free "int", .free "isinstance", .free "len", .free "list", .free "max", .free "min", .free "range", .free "repr", .free "set", .free "sorted", .free "str", .free "tuple", .glo "Shelf", .cls "Shelf", .mkr "Shelf", .noat "Shelf" "places", .noat "Shelf" "things", .noat "Shelf" "placed", .noat "Shelf" "spent", .meth "Shelf" "__contains__", .meth "Shelf" "__len__", .meth "Shelf" "prices", .meth "Shelf" "names", .meth "Shelf" "check_out", .meth "Shelf" "call", .meth "Shelf" "void"]
theorem sc_is_one_of : FnScope nn_is_one_of ["value", "things"] (defScope (top 5)) := ⟨rfl, rfl, rfl, by decide +kernel, rfl, by decide +kernel, by decide +kernel⟩
theorem sc_check_thing : FnScope nn_check_thing ["things", "name"] (defScope (top 6)) := ⟨rfl, rfl, rfl, by decide +kernel, rfl, by decide +kernel, by decide +kernel⟩
theorem sc_are_unlike : FnScope nn_are_unlike ["value", "names"] (defScope (top 8)) := ⟨rfl, rfl, rfl, by decide +kernel, rfl, by decide +kernel, by decide +kernel⟩
theorem sc_Shelf___init__ : FnScope nn_Shelf___init__ ["self", "places", "things"] (defScope (mem 9 0)) := ⟨rfl, rfl, rfl, by decide +kernel, rfl, by decide +kernel, by decide +kernel⟩
theorem sc_Shelf___contains__ : FnScope nn_Shelf___contains__ ["self", "name"] (defScope (mem 9 1)) := ⟨rfl, rfl, rfl, by decide +kernel, rfl, by decide +kernel, by decide +kernel⟩
theorem sc_Shelf___len__ : FnScope nn_Shelf___len__ ["self"] (defScope (mem 9 2)) := ⟨rfl, rfl, rfl, by decide +kernel, rfl, by decide +kernel, by decide +kernel⟩
theorem sc_Shelf_prices_k04 : FnScope nn_Shelf_prices_k04 ["self"] (defScope (mem 9 3)) := ⟨rfl, rfl, rfl, by decide +kernel, rfl, by decide +kernel, by decide +kernel⟩
theorem sc_Shelf_names : FnScope nn_Shelf_names ["self"] (defScope (mem 9 4)) := ⟨rfl, rfl, rfl, by decide +kernel, rfl, by decide +kernel, by decide +kernel⟩
theorem sc_Shelf_paid : FnScope nn_Shelf_paid ["self"] (defScope (mem 9 5)) := ⟨rfl, rfl, rfl, by decide +kernel, rfl, by decide +kernel, by decide +kernel⟩
theorem sc_Shelf_check_out : FnScope nn_Shelf_check_out ["self", "name", "out"] (defScope (mem 9 6)) := ⟨rfl, rfl, rfl, by decide +kernel, rfl, by decide +kernel, by decide +kernel⟩
theorem sc_Shelf_call : FnScope nn_Shelf_call ["self", "name", "out"] (defScope (mem 9 7)) := ⟨rfl, rfl, rfl, by decide +kernel, rfl, by decide +kernel, by decide +kernel⟩
theorem sc_Shelf_void : FnScope nn_Shelf_void ["self", "name"] (defScope (mem 9 8)) := ⟨rfl, rfl, rfl, by decide +kernel, rfl, by decide +kernel, by decide +kernel⟩
theorem sc__law_feed : FnScope nn__law_feed ["_law_script", "_law_k"] (defScope (top 11)) := ⟨rfl, rfl, rfl, by decide +kernel, rfl, by decide +kernel, by decide +kernel⟩
theorem sc__law_take : FnScope nn__law_take ["_law_feed_here", "_law_size"] (defScope (top 12)) := ⟨rfl, rfl, rfl, by decide +kernel, rfl, by decide +kernel, by decide +kernel⟩
theorem sc__law_pick : FnScope nn__law_pick ["_law_feed_here", "_law_choices"] (defScope (top 13)) := ⟨rfl, rfl, rfl, by decide +kernel, rfl, by decide +kernel, by decide +kernel⟩
theorem sc__law_names : FnScope nn__law_names ["_law_feed_here", "_law_many"] (defScope (top 14)) := ⟨rfl, rfl, rfl, by decide +kernel, rfl, by decide +kernel, by decide +kernel⟩
theorem sc__law_things : FnScope nn__law_things ["_law_feed_here", "_law_many"] (defScope (top 15)) := ⟨rfl, rfl, rfl, by decide +kernel, rfl, by decide +kernel, by decide +kernel⟩
theorem sc__law_event : FnScope nn__law_event ["_law_feed_here", "_law_names_here", "_law_hot"] (defScope (top 16)) := ⟨rfl, rfl, rfl, by decide +kernel, rfl, by decide +kernel, by decide +kernel⟩
theorem sc__law_row : FnScope nn__law_row ["_law_feed_here", "_law_things_here", "_law_size"] (defScope (top 17)) := ⟨rfl, rfl, rfl, by decide +kernel, rfl, by decide +kernel, by decide +kernel⟩
theorem sc__law_away_k04 : FnScope nn__law_away_k04 ["_law_feed_here", "_law_standing", "_law_places", "_law_name"] (defScope (top 18)) := ⟨rfl, rfl, rfl, by decide +kernel, rfl, by decide +kernel, by decide +kernel⟩
theorem sc__law_is_at_k04 : FnScope nn__law_is_at_k04 ["_law_feed_here", "_law_shelf", "_law_things_here", "_law_state"] (defScope (top 19)) := ⟨rfl, rfl, rfl, by decide +kernel, rfl, by decide +kernel, by decide +kernel⟩
theorem sc__law_stepped : FnScope nn__law_stepped ["_law_feed_here", "_law_shelf", "_law_things_here", "_law_state", "_law_event_here"] (defScope (top 20)) := ⟨rfl, rfl, rfl, by decide +kernel, rfl, by decide +kernel, by decide +kernel⟩
theorem sc_law_k04 : FnScope nn_law_k04 ["_law_script"] (defScope (top 21)) := ⟨rfl, rfl, rfl, by decide +kernel, rfl, by decide +kernel, by decide +kernel⟩
structure Haves (K : PySem.W.Frag) (F : Call) (P : Program) (w : World) (mg : Str → Option Value) (base : Heap) (k : Nat) : Prop where
  v_is_one_of : Have (glL K) F P w (glL K).K mg base k "is_one_of" 14 2
  v_are_unlike : Have (glL K) F P w (glL K).K mg base k "are_unlike" 29 2
  v_check_thing : Have (glL K) F P w (glL K).K mg base k "check_thing" 28 2
  m_check_out_2_Shelf : HaveM (glL K) tabL F P w mg base k [0] 18 2 [] []
  v__law_take : Have (glL K) F P w (glL K).K mg base k "_law_take" 1 2
  v__law_pick : Have (glL K) F P w (glL K).K mg base k "_law_pick" 2 2
  v__law_names : Have (glL K) F P w (glL K).K mg base k "_law_names" 3 2
  v__law_event : Have (glL K) F P w (glL K).K mg base k "_law_event" 5 3
  m_names_0_Shelf : HaveM (glL K) tabL F P w mg base k [0] 19 0 [] []
  s___len__ : HaveS (glL K) tabL F P w mg base k 11 1
  p_paid : HaveP (glL K) tabL F P w mg base k 20
  m_prices_0_Shelf : HaveM (glL K) tabL F P w mg base k [0] 16 0 [] []
  s___contains__ : HaveS (glL K) tabL F P w mg base k 10 2
  m_void_1_Shelf : HaveM (glL K) tabL F P w mg base k [0] 23 1 [] []
  v__law_away : Have (glL K) F P w (glL K).K mg base k "_law_away" 59 4
  m_call_1_Shelf : HaveM (glL K) tabL F P w mg base k [0] 21 1 [] [.inl 0, .inr (.tup [])]
  m_call_1_out_Shelf : HaveM (glL K) tabL F P w mg base k [0] 21 1 ["out"] [.inl 0, .inl 1]
  v__law_feed : Have (glL K) F P w (glL K).K mg base k "_law_feed" 0 2
  v__law_things : Have (glL K) F P w (glL K).K mg base k "_law_things" 4 2
  n_Shelf : HaveN (glL K) tabL F P w mg base k "Shelf" 0 2 [] []
  v__law_row : Have (glL K) F P w (glL K).K mg base k "_law_row" 6 3
  v__law_is_at : Have (glL K) F P w (glL K).K mg base k "_law_is_at" 253 4
  v__law_stepped : Have (glL K) F P w (glL K).K mg base k "_law_stepped" 61 5
theorem objL {K : PySem.W.Frag} (c : SaysQ owD faD fnD K) : ObjOk (glL K) tabL := ⟨fun c0 f h => by
  have h := of_decide_eq_true (show decide ((c0, f) ∈ fldL) = true from h)
  unfold fldL at h
  simp only [List.mem_cons, Prod.mk.injEq, List.not_mem_nil, or_false] at h
  rcases h with ⟨rfl, rfl⟩ | ⟨rfl, rfl⟩ | ⟨rfl, rfl⟩ | ⟨rfl, rfl⟩
  · exact ⟨(show okG 12 by decide), He.cls_ok (c.fact 30 rfl), He.noat_ok (c.fact 32 rfl)⟩
  · exact ⟨(show okG 13 by decide), He.cls_ok (c.fact 30 rfl), He.noat_ok (c.fact 33 rfl)⟩
  · exact ⟨(show okG 14 by decide), He.cls_ok (c.fact 30 rfl), He.noat_ok (c.fact 34 rfl)⟩
  · exact ⟨(show okG 15 by decide), He.cls_ok (c.fact 30 rfl), He.noat_ok (c.fact 35 rfl)⟩⟩
theorem haves_of {K : PySem.W.Frag} {F : Call} {P : Program} {w : World} {mg : Str → Option Value} {base h : Heap} {k : Nat} (X : K.In h) (N : h.Ns mainGlobals mg) (c : SaysQ owD faD fnD K) {fx_is_one_of : FuncData} {fx_check_thing : FuncData} {fx_are_unlike : FuncData} {fx_Shelf___init__ : FuncData} {fx_Shelf___contains__ : FuncData} {fx_Shelf___len__ : FuncData} {fx_Shelf_prices_k04 : FuncData} {fx_Shelf_names : FuncData} {fx_Shelf_paid : FuncData} {fx_Shelf_check_out : FuncData} {fx_Shelf_call : FuncData} {fx_Shelf_void : FuncData} {fx__law_feed : FuncData} {fx__law_take : FuncData} {fx__law_pick : FuncData} {fx__law_names : FuncData} {fx__law_things : FuncData} {fx__law_event : FuncData} {fx__law_row : FuncData} {fx__law_away_k04 : FuncData} {fx__law_is_at_k04 : FuncData} {fx__law_stepped : FuncData} {fx_law_k04 : FuncData}
  (F_is_one_of : FunD K "is_one_of" "is_one_of" (defArgs (top 5)) (defBody (top 5)) (defScope (top 5)) [] [] (He.fAd K ("is_one_of", none)) fx_is_one_of) (g_is_one_of : FnG P w (glL K).K mg base k (He.fAd K ("is_one_of", none)) fx_is_one_of ["value", "things"] (spI (glL K) F 14 2))
  (F_check_thing : FunD K "check_thing" "check_thing" (defArgs (top 6)) (defBody (top 6)) (defScope (top 6)) [] [] (He.fAd K ("check_thing", none)) fx_check_thing) (g_check_thing : FnG P w (glL K).K mg base k (He.fAd K ("check_thing", none)) fx_check_thing ["things", "name"] (spI (glL K) F 28 2))
  (F_are_unlike : FunD K "are_unlike" "are_unlike" (defArgs (top 8)) (defBody (top 8)) (defScope (top 8)) [] [] (He.fAd K ("are_unlike", none)) fx_are_unlike) (g_are_unlike : FnG P w (glL K).K mg base k (He.fAd K ("are_unlike", none)) fx_are_unlike ["value", "names"] (spI (glL K) F 29 2))
  (F_Shelf___init__ : FunD K "__init__" "Shelf.__init__" (defArgs (mem 9 0)) (defBody (mem 9 0)) (defScope (mem 9 0)) [] [] (He.fAd K ("Shelf", some "__init__")) fx_Shelf___init__) (g_Shelf___init__ : FnG P w (glL K).K mg base k (He.fAd K ("Shelf", some "__init__")) fx_Shelf___init__ ["self", "places", "things"] (spI (glL K) F 50 3))
  (F_Shelf___contains__ : FunD K "__contains__" "Shelf.__contains__" (defArgs (mem 9 1)) (defBody (mem 9 1)) (defScope (mem 9 1)) [] [] (He.fAd K ("Shelf", some "__contains__")) fx_Shelf___contains__) (g_Shelf___contains__ : FnG P w (glL K).K mg base k (He.fAd K ("Shelf", some "__contains__")) fx_Shelf___contains__ ["self", "name"] (spI (glL K) F 51 2))
  (F_Shelf___len__ : FunD K "__len__" "Shelf.__len__" (defArgs (mem 9 2)) (defBody (mem 9 2)) (defScope (mem 9 2)) [] [] (He.fAd K ("Shelf", some "__len__")) fx_Shelf___len__) (g_Shelf___len__ : FnG P w (glL K).K mg base k (He.fAd K ("Shelf", some "__len__")) fx_Shelf___len__ ["self"] (spI (glL K) F 52 1))
  (F_Shelf_prices_k04 : FunD K "prices" "Shelf.prices" (defArgs (mem 9 3)) (defBody (mem 9 3)) (defScope (mem 9 3)) [] [] (He.fAd K ("Shelf", some "prices")) fx_Shelf_prices_k04) (g_Shelf_prices_k04 : FnG P w (glL K).K mg base k (He.fAd K ("Shelf", some "prices")) fx_Shelf_prices_k04 ["self"] (spI (glL K) F 252 1))
  (F_Shelf_names : FunD K "names" "Shelf.names" (defArgs (mem 9 4)) (defBody (mem 9 4)) (defScope (mem 9 4)) [] [] (He.fAd K ("Shelf", some "names")) fx_Shelf_names) (g_Shelf_names : FnG P w (glL K).K mg base k (He.fAd K ("Shelf", some "names")) fx_Shelf_names ["self"] (spI (glL K) F 54 1))
  (F_Shelf_paid : FunD K "paid" "Shelf.paid" (defArgs (mem 9 5)) (defBody (mem 9 5)) (defScope (mem 9 5)) [] [] (prG K "Shelf" "paid") fx_Shelf_paid) (g_Shelf_paid : FnG P w (glL K).K mg base k (prG K "Shelf" "paid") fx_Shelf_paid ["self"] (spI (glL K) F 55 1))
  (F_Shelf_check_out : FunD K "check_out" "Shelf.check_out" (defArgs (mem 9 6)) (defBody (mem 9 6)) (defScope (mem 9 6)) [] [] (He.fAd K ("Shelf", some "check_out")) fx_Shelf_check_out) (g_Shelf_check_out : FnG P w (glL K).K mg base k (He.fAd K ("Shelf", some "check_out")) fx_Shelf_check_out ["self", "name", "out"] (spI (glL K) F 56 3))
  (F_Shelf_call : FunD K "call" "Shelf.call" (defArgs (mem 9 7)) (defBody (mem 9 7)) (defScope (mem 9 7)) [] [("out", .ref (kwA K ("Shelf", some "call") "out"))] (He.fAd K ("Shelf", some "call")) fx_Shelf_call) (g_Shelf_call : FnG P w (glL K).K mg base k (He.fAd K ("Shelf", some "call")) fx_Shelf_call ["self", "name", "out"] (spI (glL K) F 57 3))
  (F_Shelf_void : FunD K "void" "Shelf.void" (defArgs (mem 9 8)) (defBody (mem 9 8)) (defScope (mem 9 8)) [] [] (He.fAd K ("Shelf", some "void")) fx_Shelf_void) (g_Shelf_void : FnG P w (glL K).K mg base k (He.fAd K ("Shelf", some "void")) fx_Shelf_void ["self", "name"] (spI (glL K) F 58 2))
  (F__law_feed : FunD K "_law_feed" "_law_feed" (defArgs (top 11)) (defBody (top 11)) (defScope (top 11)) [] [] (He.fAd K ("_law_feed", none)) fx__law_feed) (g__law_feed : FnG P w (glL K).K mg base k (He.fAd K ("_law_feed", none)) fx__law_feed ["_law_script", "_law_k"] (spI (glL K) F 0 2))
  (F__law_take : FunD K "_law_take" "_law_take" (defArgs (top 12)) (defBody (top 12)) (defScope (top 12)) [] [] (He.fAd K ("_law_take", none)) fx__law_take) (g__law_take : FnG P w (glL K).K mg base k (He.fAd K ("_law_take", none)) fx__law_take ["_law_feed_here", "_law_size"] (spI (glL K) F 1 2))
  (F__law_pick : FunD K "_law_pick" "_law_pick" (defArgs (top 13)) (defBody (top 13)) (defScope (top 13)) [] [] (He.fAd K ("_law_pick", none)) fx__law_pick) (g__law_pick : FnG P w (glL K).K mg base k (He.fAd K ("_law_pick", none)) fx__law_pick ["_law_feed_here", "_law_choices"] (spI (glL K) F 2 2))
  (F__law_names : FunD K "_law_names" "_law_names" (defArgs (top 14)) (defBody (top 14)) (defScope (top 14)) [] [] (He.fAd K ("_law_names", none)) fx__law_names) (g__law_names : FnG P w (glL K).K mg base k (He.fAd K ("_law_names", none)) fx__law_names ["_law_feed_here", "_law_many"] (spI (glL K) F 3 2))
  (F__law_things : FunD K "_law_things" "_law_things" (defArgs (top 15)) (defBody (top 15)) (defScope (top 15)) [] [] (He.fAd K ("_law_things", none)) fx__law_things) (g__law_things : FnG P w (glL K).K mg base k (He.fAd K ("_law_things", none)) fx__law_things ["_law_feed_here", "_law_many"] (spI (glL K) F 4 2))
  (F__law_event : FunD K "_law_event" "_law_event" (defArgs (top 16)) (defBody (top 16)) (defScope (top 16)) [] [] (He.fAd K ("_law_event", none)) fx__law_event) (g__law_event : FnG P w (glL K).K mg base k (He.fAd K ("_law_event", none)) fx__law_event ["_law_feed_here", "_law_names_here", "_law_hot"] (spI (glL K) F 5 3))
  (F__law_row : FunD K "_law_row" "_law_row" (defArgs (top 17)) (defBody (top 17)) (defScope (top 17)) [] [] (He.fAd K ("_law_row", none)) fx__law_row) (g__law_row : FnG P w (glL K).K mg base k (He.fAd K ("_law_row", none)) fx__law_row ["_law_feed_here", "_law_things_here", "_law_size"] (spI (glL K) F 6 3))
  (F__law_away_k04 : FunD K "_law_away" "_law_away" (defArgs (top 18)) (defBody (top 18)) (defScope (top 18)) [] [] (He.fAd K ("_law_away", none)) fx__law_away_k04) (g__law_away_k04 : FnG P w (glL K).K mg base k (He.fAd K ("_law_away", none)) fx__law_away_k04 ["_law_feed_here", "_law_standing", "_law_places", "_law_name"] (spI (glL K) F 59 4))
  (F__law_is_at_k04 : FunD K "_law_is_at" "_law_is_at" (defArgs (top 19)) (defBody (top 19)) (defScope (top 19)) [] [] (He.fAd K ("_law_is_at", none)) fx__law_is_at_k04) (g__law_is_at_k04 : FnG P w (glL K).K mg base k (He.fAd K ("_law_is_at", none)) fx__law_is_at_k04 ["_law_feed_here", "_law_shelf", "_law_things_here", "_law_state"] (spI (glL K) F 253 4))
  (F__law_stepped : FunD K "_law_stepped" "_law_stepped" (defArgs (top 20)) (defBody (top 20)) (defScope (top 20)) [] [] (He.fAd K ("_law_stepped", none)) fx__law_stepped) (g__law_stepped : FnG P w (glL K).K mg base k (He.fAd K ("_law_stepped", none)) fx__law_stepped ["_law_feed_here", "_law_shelf", "_law_things_here", "_law_state", "_law_event_here"] (spI (glL K) F 61 5))
  (F_law_k04 : FunD K "law" "law" (defArgs (top 21)) (defBody (top 21)) (defScope (top 21)) [] [] (He.fAd K ("law", none)) fx_law_k04) (g_law_k04 : FnG P w (glL K).K mg base k (He.fAd K ("law", none)) fx_law_k04 ["_law_script"] (spI (glL K) F 254 1)) : Haves K F P w mg base k := by
  constructor
  · exact ⟨_, _, ["value", "things"], g_is_one_of, He.glo_ok X N (c.fact 0 rfl), F_is_one_of.kp, (F_is_one_of.bindsN fun _ _ _ _ _ _ us hl => match us, hl with | [_, _], _ => rfl)⟩
  · exact ⟨_, _, ["value", "names"], g_are_unlike, He.glo_ok X N (c.fact 2 rfl), F_are_unlike.kp, (F_are_unlike.bindsN fun _ _ _ _ _ _ us hl => match us, hl with | [_, _], _ => rfl)⟩
  · exact ⟨_, _, ["things", "name"], g_check_thing, He.glo_ok X N (c.fact 1 rfl), F_check_thing.kp, (F_check_thing.bindsN fun _ _ _ _ _ _ us hl => match us, hl with | [_, _], _ => rfl)⟩
  · refine ⟨(show okG 18 by decide), fun c0 id hc e => ?_⟩
    simp only [List.mem_cons, List.not_mem_nil, or_false] at hc
    rcases hc with rfl
    · cases e; exact ⟨He.cls_ok (c.fact 30 rfl), _, _, ["self", "name", "out"], 3, He.meth_ok (c.fact 40 rfl), g_Shelf_check_out, (BdM.plain (F_Shelf_check_out.bindsN fun _ _ _ _ _ _ us hl => match us, hl with | [_, _, _], _ => rfl) rfl)⟩
  · exact ⟨_, _, ["_law_feed_here", "_law_size"], g__law_take, He.glo_ok X N (c.fact 4 rfl), F__law_take.kp, (F__law_take.bindsN fun _ _ _ _ _ _ us hl => match us, hl with | [_, _], _ => rfl)⟩
  · exact ⟨_, _, ["_law_feed_here", "_law_choices"], g__law_pick, He.glo_ok X N (c.fact 5 rfl), F__law_pick.kp, (F__law_pick.bindsN fun _ _ _ _ _ _ us hl => match us, hl with | [_, _], _ => rfl)⟩
  · exact ⟨_, _, ["_law_feed_here", "_law_many"], g__law_names, He.glo_ok X N (c.fact 6 rfl), F__law_names.kp, (F__law_names.bindsN fun _ _ _ _ _ _ us hl => match us, hl with | [_, _], _ => rfl)⟩
  · exact ⟨_, _, ["_law_feed_here", "_law_names_here", "_law_hot"], g__law_event, He.glo_ok X N (c.fact 8 rfl), F__law_event.kp, (F__law_event.bindsN fun _ _ _ _ _ _ us hl => match us, hl with | [_, _, _], _ => rfl)⟩
  · refine ⟨(show okG 19 by decide), fun c0 id hc e => ?_⟩
    simp only [List.mem_cons, List.not_mem_nil, or_false] at hc
    rcases hc with rfl
    · cases e; exact ⟨He.cls_ok (c.fact 30 rfl), _, _, ["self"], 1, He.meth_ok (c.fact 39 rfl), g_Shelf_names, (BdM.plain (F_Shelf_names.bindsN fun _ _ _ _ _ _ us hl => match us, hl with | [_], _ => rfl) rfl)⟩
  · refine ⟨fun c0 id e => ?_⟩
    have e := lookup_mem (show [(0, 52)].lookup c0 = some id from e)
    simp only [List.mem_cons, Prod.mk.injEq, List.not_mem_nil, or_false] at e
    rcases e with ⟨rfl, rfl⟩
    · exact ⟨He.cls_ok (c.fact 30 rfl), _, _, ["self"], rfl, He.meth_ok (c.fact 37 rfl), g_Shelf___len__, (F_Shelf___len__.bindsN fun _ _ _ _ _ _ us hl => match us, hl with | [_], _ => rfl)⟩
  · refine ⟨fun c0 id e => ?_⟩
    have e := lookup_mem (show [(0, 55)].lookup c0 = some id from e)
    simp only [List.mem_cons, Prod.mk.injEq, List.not_mem_nil, or_false] at e
    rcases e with ⟨rfl, rfl⟩
    · exact ⟨He.cls_ok (c.fact 30 rfl), _, _, _, ["self"], prB_ok (ow_0 c.own), g_Shelf_paid, (F_Shelf_paid.bindsN fun _ _ _ _ _ _ us hl => match us, hl with | [_], _ => rfl)⟩
  · refine ⟨(show okG 16 by decide), fun c0 id hc e => ?_⟩
    simp only [List.mem_cons, List.not_mem_nil, or_false] at hc
    rcases hc with rfl
    · cases e; exact ⟨He.cls_ok (c.fact 30 rfl), _, _, ["self"], 1, He.meth_ok (c.fact 38 rfl), g_Shelf_prices_k04, (BdM.plain (F_Shelf_prices_k04.bindsN fun _ _ _ _ _ _ us hl => match us, hl with | [_], _ => rfl) rfl)⟩
  · refine ⟨fun c0 id e => ?_⟩
    have e := lookup_mem (show [(0, 51)].lookup c0 = some id from e)
    simp only [List.mem_cons, Prod.mk.injEq, List.not_mem_nil, or_false] at e
    rcases e with ⟨rfl, rfl⟩
    · exact ⟨He.cls_ok (c.fact 30 rfl), _, _, ["self", "name"], rfl, He.meth_ok (c.fact 36 rfl), g_Shelf___contains__, (F_Shelf___contains__.bindsN fun _ _ _ _ _ _ us hl => match us, hl with | [_, _], _ => rfl)⟩
  · refine ⟨(show okG 23 by decide), fun c0 id hc e => ?_⟩
    simp only [List.mem_cons, List.not_mem_nil, or_false] at hc
    rcases hc with rfl
    · cases e; exact ⟨He.cls_ok (c.fact 30 rfl), _, _, ["self", "name"], 2, He.meth_ok (c.fact 42 rfl), g_Shelf_void, (BdM.plain (F_Shelf_void.bindsN fun _ _ _ _ _ _ us hl => match us, hl with | [_, _], _ => rfl) rfl)⟩
  · exact ⟨_, _, ["_law_feed_here", "_law_standing", "_law_places", "_law_name"], g__law_away_k04, He.glo_ok X N (c.fact 10 rfl), F__law_away_k04.kp, (F__law_away_k04.bindsN fun _ _ _ _ _ _ us hl => match us, hl with | [_, _, _, _], _ => rfl)⟩
  · refine ⟨(show okG 21 by decide), fun c0 id hc e => ?_⟩
    simp only [List.mem_cons, List.not_mem_nil, or_false] at hc
    rcases hc with rfl
    · cases e; exact ⟨He.cls_ok (c.fact 30 rfl), _, _, ["self", "name", "out"], 3, He.meth_ok (c.fact 41 rfl), g_Shelf_call, (bdM_kw (G := glL K) F_Shelf_call (by simp) 3 1 [] [("out", .ref (kwA K ("Shelf", some "call") "out"))] (by simp) [.inl 0, .inr 0] [.tup []] (fun C => (VRs.cons (VR.tup0 (tup0_ok (ow_1 c.own))) VRs.nil)) rfl (by simp) rfl (fun _ _ _ _ _ _ us mv ws l1 l2 l3 => match us, mv, ws, l1, l2, l3 with | [_, _], [_], [], _, _, _ => ⟨_, _, _, _, _, _, rfl, rfl, rfl⟩))⟩
  · refine ⟨(show okG 21 by decide), fun c0 id hc e => ?_⟩
    simp only [List.mem_cons, List.not_mem_nil, or_false] at hc
    rcases hc with rfl
    · cases e; exact ⟨He.cls_ok (c.fact 30 rfl), _, _, ["self", "name", "out"], 3, He.meth_ok (c.fact 41 rfl), g_Shelf_call, (bdM_kw (G := glL K) F_Shelf_call (by simp) 3 1 ["out"] [] (by simp) [.inl 0, .inl 1] [] (fun C => VRs.nil) rfl (by simp) rfl (fun _ _ _ _ _ _ us mv ws l1 l2 l3 => match us, mv, ws, l1, l2, l3 with | [_, _], [], [_], _, _, _ => rfl))⟩
  · exact ⟨_, _, ["_law_script", "_law_k"], g__law_feed, He.glo_ok X N (c.fact 3 rfl), F__law_feed.kp, (F__law_feed.bindsN fun _ _ _ _ _ _ us hl => match us, hl with | [_, _], _ => rfl)⟩
  · exact ⟨_, _, ["_law_feed_here", "_law_many"], g__law_things, He.glo_ok X N (c.fact 7 rfl), F__law_things.kp, (F__law_things.bindsN fun _ _ _ _ _ _ us hl => match us, hl with | [_, _], _ => rfl)⟩
  · exact ⟨50, _, _, ["self", "places", "things"], 3, rfl, He.glo_ok X N (c.fact 29 rfl), He.mkr_ok (c.fact 31 rfl), g_Shelf___init__, (BdM.plain (F_Shelf___init__.bindsN fun _ _ _ _ _ _ us hl => match us, hl with | [_, _, _], _ => rfl) rfl)⟩
  · exact ⟨_, _, ["_law_feed_here", "_law_things_here", "_law_size"], g__law_row, He.glo_ok X N (c.fact 9 rfl), F__law_row.kp, (F__law_row.bindsN fun _ _ _ _ _ _ us hl => match us, hl with | [_, _, _], _ => rfl)⟩
  · exact ⟨_, _, ["_law_feed_here", "_law_shelf", "_law_things_here", "_law_state"], g__law_is_at_k04, He.glo_ok X N (c.fact 11 rfl), F__law_is_at_k04.kp, (F__law_is_at_k04.bindsN fun _ _ _ _ _ _ us hl => match us, hl with | [_, _, _, _], _ => rfl)⟩
  · exact ⟨_, _, ["_law_feed_here", "_law_shelf", "_law_things_here", "_law_state", "_law_event_here"], g__law_stepped, He.glo_ok X N (c.fact 12 rfl), F__law_stepped.kp, (F__law_stepped.bindsN fun _ _ _ _ _ _ us hl => match us, hl with | [_, _, _, _, _], _ => rfl)⟩
theorem haves {K : PySem.W.Frag} {P : Program} {w : World} {mg : Str → Option Value} {base h : Heap} (hs : (glL K).Sys) (X : K.In h) (N : h.Ns mainGlobals mg) (c : SaysQ owD faD fnD K) : ∀ n, Haves K (callI tabL fds n) P w mg base (2 * n)
  | 0 => by
    obtain ⟨fx_is_one_of, F_is_one_of⟩ := c.def_ 0 rfl
    obtain ⟨fx_check_thing, F_check_thing⟩ := c.def_ 1 rfl
    obtain ⟨fx_are_unlike, F_are_unlike⟩ := c.def_ 2 rfl
    obtain ⟨fx_Shelf___init__, F_Shelf___init__⟩ := c.def_ 3 rfl
    obtain ⟨fx_Shelf___contains__, F_Shelf___contains__⟩ := c.def_ 4 rfl
    obtain ⟨fx_Shelf___len__, F_Shelf___len__⟩ := c.def_ 5 rfl
    obtain ⟨fx_Shelf_prices_k04, F_Shelf_prices_k04⟩ := c.def_ 6 rfl
    obtain ⟨fx_Shelf_names, F_Shelf_names⟩ := c.def_ 7 rfl
    obtain ⟨fx_Shelf_paid, F_Shelf_paid⟩ := c.def_ 8 rfl
    obtain ⟨fx_Shelf_check_out, F_Shelf_check_out⟩ := c.def_ 9 rfl
    obtain ⟨fx_Shelf_call, F_Shelf_call⟩ := c.def_ 10 rfl
    obtain ⟨fx_Shelf_void, F_Shelf_void⟩ := c.def_ 11 rfl
    obtain ⟨fx__law_feed, F__law_feed⟩ := c.def_ 12 rfl
    obtain ⟨fx__law_take, F__law_take⟩ := c.def_ 13 rfl
    obtain ⟨fx__law_pick, F__law_pick⟩ := c.def_ 14 rfl
    obtain ⟨fx__law_names, F__law_names⟩ := c.def_ 15 rfl
    obtain ⟨fx__law_things, F__law_things⟩ := c.def_ 16 rfl
    obtain ⟨fx__law_event, F__law_event⟩ := c.def_ 17 rfl
    obtain ⟨fx__law_row, F__law_row⟩ := c.def_ 18 rfl
    obtain ⟨fx__law_away_k04, F__law_away_k04⟩ := c.def_ 19 rfl
    obtain ⟨fx__law_is_at_k04, F__law_is_at_k04⟩ := c.def_ 20 rfl
    obtain ⟨fx__law_stepped, F__law_stepped⟩ := c.def_ 21 rfl
    obtain ⟨fx_law_k04, F_law_k04⟩ := c.def_ 22 rfl
    exact haves_of X N c F_is_one_of fn_0 F_check_thing fn_0 F_are_unlike fn_0 F_Shelf___init__ fn_0 F_Shelf___contains__ fn_0 F_Shelf___len__ fn_0 F_Shelf_prices_k04 fn_0 F_Shelf_names fn_0 F_Shelf_paid fn_0 F_Shelf_check_out fn_0 F_Shelf_call fn_0 F_Shelf_void fn_0 F__law_feed fn_0 F__law_take fn_0 F__law_pick fn_0 F__law_names fn_0 F__law_things fn_0 F__law_event fn_0 F__law_row fn_0 F__law_away_k04 fn_0 F__law_is_at_k04 fn_0 F__law_stepped fn_0 F_law_k04 fn_0
  | n + 1 => by
    have v := haves (base := base) (P := P) (w := w) hs X N c n
    obtain ⟨fx_is_one_of, F_is_one_of⟩ := c.def_ 0 rfl
    obtain ⟨fx_check_thing, F_check_thing⟩ := c.def_ 1 rfl
    obtain ⟨fx_are_unlike, F_are_unlike⟩ := c.def_ 2 rfl
    obtain ⟨fx_Shelf___init__, F_Shelf___init__⟩ := c.def_ 3 rfl
    obtain ⟨fx_Shelf___contains__, F_Shelf___contains__⟩ := c.def_ 4 rfl
    obtain ⟨fx_Shelf___len__, F_Shelf___len__⟩ := c.def_ 5 rfl
    obtain ⟨fx_Shelf_prices_k04, F_Shelf_prices_k04⟩ := c.def_ 6 rfl
    obtain ⟨fx_Shelf_names, F_Shelf_names⟩ := c.def_ 7 rfl
    obtain ⟨fx_Shelf_paid, F_Shelf_paid⟩ := c.def_ 8 rfl
    obtain ⟨fx_Shelf_check_out, F_Shelf_check_out⟩ := c.def_ 9 rfl
    obtain ⟨fx_Shelf_call, F_Shelf_call⟩ := c.def_ 10 rfl
    obtain ⟨fx_Shelf_void, F_Shelf_void⟩ := c.def_ 11 rfl
    obtain ⟨fx__law_feed, F__law_feed⟩ := c.def_ 12 rfl
    obtain ⟨fx__law_take, F__law_take⟩ := c.def_ 13 rfl
    obtain ⟨fx__law_pick, F__law_pick⟩ := c.def_ 14 rfl
    obtain ⟨fx__law_names, F__law_names⟩ := c.def_ 15 rfl
    obtain ⟨fx__law_things, F__law_things⟩ := c.def_ 16 rfl
    obtain ⟨fx__law_event, F__law_event⟩ := c.def_ 17 rfl
    obtain ⟨fx__law_row, F__law_row⟩ := c.def_ 18 rfl
    obtain ⟨fx__law_away_k04, F__law_away_k04⟩ := c.def_ 19 rfl
    obtain ⟨fx__law_is_at_k04, F__law_is_at_k04⟩ := c.def_ 20 rfl
    obtain ⟨fx__law_stepped, F__law_stepped⟩ := c.def_ 21 rfl
    obtain ⟨fx_law_k04, F_law_k04⟩ := c.def_ 22 rfl
    refine haves_of X N c F_is_one_of ?_ F_check_thing ?_ F_are_unlike ?_ F_Shelf___init__ ?_ F_Shelf___contains__ ?_ F_Shelf___len__ ?_ F_Shelf_prices_k04 ?_ F_Shelf_names ?_ F_Shelf_paid ?_ F_Shelf_check_out ?_ F_Shelf_call ?_ F_Shelf_void ?_ F__law_feed ?_ F__law_take ?_ F__law_pick ?_ F__law_names ?_ F__law_things ?_ F__law_event ?_ F__law_row ?_ F__law_away_k04 ?_ F__law_is_at_k04 ?_ F__law_stepped ?_ F_law_k04 ?_
    · exact fn_R (G := glL K) (d := fd_is_one_of) (k := 2 * n + 1) hs F_is_one_of sc_is_one_of rfl rfl (by decide) rfl (fun _ _ _ _ _ o => b_def_is_one_of o (He.free_ok X N (c.fact 18 rfl)) (He.free_ok X N (c.fact 27 rfl)))
    · exact fn_R (G := glL K) (d := fd_check_thing) (k := 2 * n + 1) hs F_check_thing sc_check_thing rfl rfl (by decide) rfl (fun _ _ _ _ _ o => b_def_check_thing o v.v_is_one_of (by omega))
    · exact fn_R (G := glL K) (d := fd_are_unlike) (k := 2 * n + 1) hs F_are_unlike sc_are_unlike rfl rfl (by decide) rfl (fun _ _ _ _ _ o => b_def_are_unlike o (He.free_ok X N (c.fact 15 rfl)) (He.free_ok X N (c.fact 18 rfl)) (He.free_ok X N (c.fact 19 rfl)) (He.free_ok X N (c.fact 25 rfl)) (He.free_ok X N (c.fact 27 rfl)) (He.free_ok X N (c.fact 28 rfl)))
    · exact fn_R (G := glL K) (d := fd_Shelf___init__) (k := 2 * n + 1) hs F_Shelf___init__ sc_Shelf___init__ rfl rfl (by decide) rfl (fun _ _ _ _ _ o => b_def_Shelf___init__ o (He.free_ok X N (c.fact 16 rfl)) (Rs.objL c))
    · exact fn_R (G := glL K) (d := fd_Shelf___contains__) (k := 2 * n + 1) hs F_Shelf___contains__ sc_Shelf___contains__ rfl rfl (by decide) rfl (fun _ _ _ _ _ o => b_def_Shelf___contains__ o (He.free_ok X N (c.fact 18 rfl)) (He.free_ok X N (c.fact 27 rfl)) (Rs.objL c))
    · exact fn_R (G := glL K) (d := fd_Shelf___len__) (k := 2 * n + 1) hs F_Shelf___len__ sc_Shelf___len__ rfl rfl (by decide) rfl (fun _ _ _ _ _ o => b_def_Shelf___len__ o (He.free_ok X N (c.fact 19 rfl)) (Rs.objL c))
    · exact fn_R (G := glL K) (d := fd_Shelf_prices_k04) (k := 2 * n + 1) hs F_Shelf_prices_k04 sc_Shelf_prices_k04 rfl rfl (by decide) rfl (fun _ _ _ _ _ o => b_def_Shelf_prices_k04 o (He.free_ok X N (c.fact 16 rfl)) (Rs.objL c))
    · exact fn_R (G := glL K) (d := fd_Shelf_names) (k := 2 * n + 1) hs F_Shelf_names sc_Shelf_names rfl rfl (by decide) rfl (fun _ _ _ _ _ o => b_def_Shelf_names o (He.free_ok X N (c.fact 20 rfl)) (Rs.objL c))
    · exact fn_R (G := glL K) (d := fd_Shelf_paid) (k := 2 * n + 1) hs F_Shelf_paid sc_Shelf_paid rfl rfl (by decide) rfl (fun _ _ _ _ _ o => b_def_Shelf_paid o (Rs.objL c))
    · exact fn_R (G := glL K) (d := fd_Shelf_check_out) (k := 2 * n + 1) hs F_Shelf_check_out sc_Shelf_check_out rfl rfl (by decide) rfl (fun _ _ _ _ _ o => b_def_Shelf_check_out o (He.free_ok X N (c.fact 19 rfl)) v.v_are_unlike (by omega) (Rs.objL c))
    · exact fn_R (G := glL K) (d := fd_Shelf_call) (k := 2 * n + 1) hs F_Shelf_call sc_Shelf_call rfl rfl (by decide) rfl (fun _ _ _ _ _ o => b_def_Shelf_call o (He.free_ok X N (c.fact 26 rfl)) v.v_check_thing (by omega) (Rs.objL c) v.m_check_out_2_Shelf (by omega))
    · exact fn_R (G := glL K) (d := fd_Shelf_void) (k := 2 * n + 1) hs F_Shelf_void sc_Shelf_void rfl rfl (by decide) rfl (fun _ _ _ _ _ o => b_def_Shelf_void o v.v_check_thing (by omega) (Rs.objL c))
    · exact fn_R (G := glL K) (d := fd__law_feed) (k := 2 * n + 1) hs F__law_feed sc__law_feed rfl rfl (by decide) rfl (fun _ _ _ _ _ o => b_def__law_feed o (He.free_ok X N (c.fact 14 rfl)) (He.free_ok X N (c.fact 17 rfl)) (He.free_ok X N (c.fact 20 rfl)) (He.free_ok X N (c.fact 21 rfl)))
    · exact fn_R (G := glL K) (d := fd__law_take) (k := 2 * n + 1) hs F__law_take sc__law_take rfl rfl (by decide) rfl (fun _ _ _ _ _ o => b_def__law_take o (He.free_ok X N (c.fact 17 rfl)))
    · exact fn_R (G := glL K) (d := fd__law_pick) (k := 2 * n + 1) hs F__law_pick sc__law_pick rfl rfl (by decide) rfl (fun _ _ _ _ _ o => b_def__law_pick o (He.free_ok X N (c.fact 19 rfl)) v.v__law_take (by omega))
    · exact fn_R (G := glL K) (d := fd__law_names) (k := 2 * n + 1) hs F__law_names sc__law_names rfl rfl (by decide) rfl (fun _ _ _ _ _ o => b_def__law_names o v.v__law_take (by omega) v.v__law_pick (by omega))
    · exact fn_R (G := glL K) (d := fd__law_things) (k := 2 * n + 1) hs F__law_things sc__law_things rfl rfl (by decide) rfl (fun _ _ _ _ _ o => b_def__law_things o (He.free_ok X N (c.fact 16 rfl)) v.v__law_pick (by omega) v.v__law_names (by omega))
    · exact fn_R (G := glL K) (d := fd__law_event) (k := 2 * n + 1) hs F__law_event sc__law_event rfl rfl (by decide) rfl (fun _ _ _ _ _ o => b_def__law_event o v.v__law_pick (by omega) v.v__law_take (by omega))
    · exact fn_R (G := glL K) (d := fd__law_row) (k := 2 * n + 1) hs F__law_row sc__law_row rfl rfl (by decide) rfl (fun _ _ _ _ _ o => b_def__law_row o (He.free_ok X N (c.fact 23 rfl)) (He.free_ok X N (c.fact 26 rfl)) v.v__law_pick (by omega) v.v__law_take (by omega) v.v__law_event (by omega))
    · exact fn_R (G := glL K) (d := fd__law_away_k04) (k := 2 * n + 1) hs F__law_away_k04 sc__law_away_k04 rfl rfl (by decide) rfl (fun _ _ _ _ _ o => b_def__law_away_k04 o (He.free_ok X N (c.fact 19 rfl)) (He.free_ok X N (c.fact 20 rfl)) (He.free_ok X N (c.fact 28 rfl)) v.v__law_take (by omega))
    · exact fn_R (G := glL K) (d := fd__law_is_at_k04) (k := 2 * n + 1) hs F__law_is_at_k04 sc__law_is_at_k04 rfl rfl (by decide) rfl (fun _ _ _ _ _ o => b_def__law_is_at_k04 o (He.free_ok X N (c.fact 19 rfl)) (He.free_ok X N (c.fact 24 rfl)) (He.free_ok X N (c.fact 26 rfl)) v.m_names_0_Shelf (by omega) (Rs.objL c) v.s___len__ (by omega) v.p_paid (by omega) v.m_prices_0_Shelf (by omega) v.s___contains__ (by omega) v.v__law_pick (by omega))
    · exact fn_R (G := glL K) (d := fd__law_stepped) (k := 2 * n + 1) hs F__law_stepped sc__law_stepped rfl rfl (by decide) rfl (fun _ _ _ _ _ o => b_def__law_stepped o (He.free_ok X N (c.fact 24 rfl)) v.m_void_1_Shelf (by omega) v.v__law_away (by omega) v.v__law_take (by omega) v.m_call_1_Shelf (by omega) v.m_call_1_out_Shelf (by omega))
    · exact fn_R (G := glL K) (d := fd_law_k04) (k := 2 * n + 1) hs F_law_k04 sc_law_k04 rfl rfl (by decide) rfl (fun _ _ _ _ _ o => b_def_law_k04 o (He.free_ok X N (c.fact 16 rfl)) (He.free_ok X N (c.fact 19 rfl)) (He.free_ok X N (c.fact 21 rfl)) (He.free_ok X N (c.fact 22 rfl)) (He.free_ok X N (c.fact 23 rfl)) v.v__law_feed (by omega) v.v__law_things (by omega) v.v__law_take (by omega) v.n_Shelf (by omega) v.v__law_row (by omega) v.v__law_pick (by omega) v.v__law_is_at (by omega) v.v__law_stepped (by omega))
end Rs
end
section
set_option maxRecDepth 100000
set_option maxHeartbeats 0
namespace Rs
open PySem PySem.Spec PyProof.Rows L2
abbrev rowL : PySem.W.OpenRow := PySem.W.OpenLaw.row PySem.Challenge.rw_rentshelf_k04_shelves
abbrev hkL : PySem.W.Hook := hookQ 6 owD faD fnD
def obL (s : PySem.W.SharedT) : AlQ := obsQ 6 owD faD fnD (HandSHeadRun.getT s)
theorem obL_eq (s : PySem.W.SharedT) : obL s = hkL.obs s.abs := obsQ_eq (HandSHeadRun.getT_eq s)
theorem runL (w : World) : HandSHeadRun.RunEq rowL (PySem.W.view rowL.prog [21]) hkL obL 5000 ["ShelfError", "UnknownThing", "BadOut", "is_one_of", "check_thing", "are_unlike", "Shelf", "_law_feed", "_law_take", "_law_pick", "_law_names", "_law_things", "_law_event", "_law_row", "_law_away", "_law_is_at", "_law_stepped"] w := by
  intro os
  kernel_rfl
end Rs
open PySem PySem.W PySem.Calls PyProof.Rows
theorem law_of (plain : ∀ ns : List Int, ns.length ≤ 63 → ∃ s2, Rs.callI Rs.tabL Rs.fds 12 254 [.scr ns] [] = .ok (.bl true) s2) : PySem.Challenge.rw_rentshelf_k04_shelves.Holds := by
  w_on; o_law
  refine HandSHeadRun.head_any (r := Rs.rowL) (q := view Rs.rowL.prog [21]) (H := Rs.hkL) (ob := Rs.obL) (M := 5000) (loose := ["ShelfError", "UnknownThing", "BadOut", "is_one_of", "check_thing", "are_unlike", "Shelf", "_law_feed", "_law_take", "_law_pick", "_law_names", "_law_things", "_law_event", "_law_row", "_law_away", "_law_is_at", "_law_stepped"]) (d := HandSHeadRun.topDef Rs.rowL.prog 21) (kwd := []) Rs.obL_eq
    (by kernel_rfl) (fun s => by kernel_rfl) Rs.runL (by kernel_rfl) (by kernel_rfl) (by kernel_rfl) (by rfl) (by first | assumption | decide +kernel) (by decide +kernel) ⟨rfl, rfl, rfl, rfl, rfl, by decide +kernel⟩ ?hw ?hc
  case hw => w_witness2
  case hc =>
    refine Rs.walk_R (l := PySem.Challenge.rw_rentshelf_k04_shelves) (n := 63) (k := 24) (x := "_law_script") rfl (by decide) (by kernel_rfl) ⟨rfl, by decide, by decide⟩ ?F
    intro w mg fa h Y N hm0
    obtain ⟨K, KX, c⟩ := Y
    have hm : mg ("law" : PySem.Str) = some (.ref fa) := by
      have e : (HandSHeadRun.topDef Rs.rowL.prog 21).name = ("law" : PySem.Str) := by kernel_rfl
      rw [← e]
      exact hm0
    obtain ⟨fd, FL⟩ := c.def_ 22 rfl
    have e2 := hm.symm.trans (He.glo_ok KX N (c.fact 13 (f := .glo "law") rfl))
    cases e2
    refine ⟨K, fd, Rs.spI (Rs.glL K) (Rs.callI Rs.tabL Rs.fds 12) 254 1, KX, fun s u => L2.FunD.bindsA (ps := ["_law_script"]) FL (fun _ _ _ _ _ _ us hl => match us, hl with | [_], _ => rfl) s [u] rfl, fun H a ns hl only seq => ?_, fun base inB nsB => ?_⟩
    · obtain ⟨s2, e⟩ := plain ns hl
      exact Rs.law_end (G := Rs.glL K) e only seq
    · have hs : (Rs.glL K).Sys := Rs.sys_ok c.sys
      have v := Rs.haves (K := K) (P := PySem.Challenge.rw_rentshelf_k04_shelves.prog) (w := w) (mg := mg) (base := base) hs inB nsB c 11
      exact Rs.fn_R (G := Rs.glL K) (k := 23) (d := Rs.fd_law_k04) hs FL Rs.sc_law_k04 rfl rfl (by decide) rfl (fun _ _ _ _ _ o => Rs.b_def_law_k04 o (He.free_ok inB nsB (c.fact 16 rfl)) (He.free_ok inB nsB (c.fact 19 rfl)) (He.free_ok inB nsB (c.fact 21 rfl)) (He.free_ok inB nsB (c.fact 22 rfl)) (He.free_ok inB nsB (c.fact 23 rfl)) v.v__law_feed (by omega) v.v__law_things (by omega) v.v__law_take (by omega) v.n_Shelf (by omega) v.v__law_row (by omega) v.v__law_pick (by omega) v.v__law_is_at (by omega) v.v__law_stepped (by omega))
end
section
set_option maxRecDepth 100000
set_option maxHeartbeats 4000000
/-! The interpreter's equations, for simp: they go forward at states that are written out. -/
namespace Rs
open PySem L2
section
set_option autoImplicit true
def R.bnd {α β : Type} (r : R α) (k : α → S → R β) : R β := r.bind k
def R.vl (r : R Rv) : R Val := r.val
def R.op {α : Type} (o : Option α) (s : S) : R α := R.opt o s
def R.bck (r : R Val) (e : List Slot) : R Rv := r.back e
/-- a branch -/
def R.two {α : Type} (b : Bool) (x y : R α) : R α := match b with
  | true => x
  | false => y
@[simp] theorem two_t {α : Type} {x y : R α} : R.two true x y = x := rfl
@[simp] theorem two_f {α : Type} {x y : R α} : R.two false x y = y := rfl
@[simp] theorem bnd_ok {α β : Type} (a : α) (s : S) (k : α → S → R β) : (R.ok a s).bnd k = k a s := rfl
@[simp] theorem bnd_bad {α β : Type} (k : α → S → R β) : (R.bad : R α).bnd k = .bad := rfl
@[simp] theorem bnd_exc {α β : Type} (c : Nat) (v : Val) (s : S) (k : α → S → R β) : (R.exc c v s : R α).bnd k = .exc c v s := rfl
@[simp] theorem vl_v (x : Val) (s : S) : (R.ok (.v x) s).vl = .ok x s := rfl
@[simp] theorem vl_f (c : Cell) (s : S) : (R.ok (.f c) s).vl = .ok (imm c) s := rfl
@[simp] theorem vl_exc (c : Nat) (v : Val) (s : S) : (R.exc c v s).vl = .exc c v s := rfl
@[simp] theorem vl_bad : (R.bad : R Rv).vl = .bad := rfl
@[simp] theorem op_some {α : Type} (a : α) (s : S) : R.op (some a) s = .ok a s := rfl
@[simp] theorem op_none {α : Type} (s : S) : R.op (none : Option α) s = .bad := rfl
@[simp] theorem bck_ok (v : Val) (e2 : List Slot) (h2 : List Cell) (e : List Slot) : (R.ok v ⟨e2, h2⟩).bck e = .ok (.v v) ⟨e, h2⟩ := rfl
@[simp] theorem bck_exc (c : Nat) (v : Val) (e2 : List Slot) (h2 : List Cell) (e : List Slot) : (R.exc c v ⟨e2, h2⟩).bck e = .exc c v ⟨e, h2⟩ := rfl
@[simp] theorem bck_bad (e : List Slot) : (R.bad).bck e = .bad := rfl
@[simp] theorem imm_lst (xs : List Val) (l : Bool) : imm (.lst xs l) = .lst xs := rfl
@[simp] theorem imm_dct (xs : List (Key × Val)) (l : Bool) : imm (.dct xs l) = .dct xs := rfl
@[simp] theorem opnd_v (x : Val) : opnd (.v x) = .v x := rfl
@[simp] theorem opnd_f (c : Cell) : opnd (.f c) = .v (imm c) := rfl
@[simp] theorem opnd_sl (i : Nat) : opnd (.sl i) = .sl i := rfl
@[simp] theorem freeze_v (x : Val) : freeze (.v x) = some x := rfl
@[simp] theorem freeze_f (c : Cell) : freeze (.f c) = some (imm c) := rfl
@[simp] theorem permV_nil (vs : List Val) : permV vs [] = vs := rfl
@[simp] theorem asB_bl (b : Bool) : asB (.bl b) = some b := rfl
@[simp] theorem veqX_non {w : Val} : veqX .non w = veq .non w := by cases w <;> rfl
@[simp] theorem veqX_bl {w : Val} : veqX (.bl b) w = veq (.bl b) w := by cases w <;> rfl
@[simp] theorem veqX_int {w : Val} : veqX (.int b) w = veq (.int b) w := by cases w <;> rfl
@[simp] theorem veqX_str {w : Val} : veqX (.str b) w = veq (.str b) w := by cases w <;> rfl
@[simp] theorem veqX_lst {w : Val} : veqX (.lst b) w = veq (.lst b) w := by cases w <;> rfl
@[simp] theorem veqX_tup {w : Val} : veqX (.tup b) w = veq (.tup b) w := by cases w <;> rfl
variable {T : Tab} {C : Call} {s : S} {e0 : List Slot} {h0 : List Cell}
@[simp] theorem deref_non : deref s (.v .non) = .non := rfl
@[simp] theorem deref_bl : deref s (.v (.bl b)) = .bl b := rfl
@[simp] theorem deref_int : deref s (.v (.int b)) = .int b := rfl
@[simp] theorem deref_str : deref s (.v (.str b)) = .str b := rfl
@[simp] theorem deref_lst : deref s (.v (.lst b)) = .lst b := rfl
@[simp] theorem deref_tup : deref s (.v (.tup b)) = .tup b := rfl
@[simp] theorem deref_dct : deref s (.v (.dct b)) = .dct b := rfl
@[simp] theorem deref_scr : deref s (.v (.scr b)) = .scr b := rfl
@[simp] theorem deref_ref : deref ⟨e0, h0⟩ (.v (.ref i)) = (match h0[i]? with
    | some (.lst xs _) => .lst xs
    | some (.dct kvs _) => .dct kvs
    | _ => .ref i) := rfl
@[simp] theorem deref_sl : deref ⟨e0, h0⟩ (.sl i) = (match e0[i]? with
    | some (.own c) => imm c
    | _ => .bad) := rfl
@[simp] theorem slotOf_mk : slotOf ⟨e0, h0⟩ i = e0.getD i .no := rfl
@[simp] theorem rdVar_mk : rdVar ⟨e0, h0⟩ i = (match e0.getD i .no with
  | .val v => .ok (.v v) ⟨e0, h0⟩
  | .own _ => .ok (.sl i) ⟨e0, h0⟩
  | .no => .bad) := rfl
@[simp] theorem frzVar_mk : frzVar ⟨e0, h0⟩ i = (match e0.getD i .no with
  | .val v => .ok (.v v) ⟨e0, h0⟩
  | .own c => if unlocked c then .ok (.v (imm c)) ⟨e0.set i (.val (imm c)), h0⟩ else .bad
  | .no => .bad) := rfl
@[simp] theorem mvVar_mk : mvVar ⟨e0, h0⟩ i = (match e0.getD i .no with
  | .own c => if unlocked c then .ok (.v (.ref h0.length)) ⟨e0.set i (.val (.ref h0.length)), h0 ++ [c]⟩ else .bad
  | _ => .bad) := rfl
@[simp] theorem toHeap_mk (c : Cell) : toHeap c ⟨e0, h0⟩ = .ok (.v (.ref h0.length)) ⟨e0, h0 ++ [c]⟩ := rfl
@[simp] theorem setLoc_sl : setLoc ⟨e0, h0⟩ (.sl i) c = (match e0.getD i .no with
    | .own d => if unlocked d then some ⟨e0.set i (.own c), h0⟩ else none
    | _ => none) := rfl
@[simp] theorem setLoc_ref : setLoc ⟨e0, h0⟩ (.v (.ref n)) c = (match h0[n]? with
    | some d => if unlocked d then some ⟨e0, h0.set n c⟩ else none
    | none => none) := rfl
@[simp] theorem putLoc_none : putLoc s o none = some s := rfl
@[simp] theorem putLoc_some : putLoc s o (some c) = setLoc s o c := rfl
@[simp] theorem unlocked_l : unlocked (.lst xs lk) = !lk := rfl
@[simp] theorem unlocked_d : unlocked (.dct kvs lk) = !lk := rfl
@[simp] theorem evalB_mk : evalB T C e ⟨e0, h0⟩ = (evalE T C e ⟨e0, h0⟩).vl.bnd fun x s => R.op (asB x) s := rfl
@[simp] theorem put1_t : put1 true (.f c) = some (.own c) := rfl
@[simp] theorem put1_fv : put1 false (.v x) = some (.val x) := rfl
@[simp] theorem put1_ff : put1 false (.f c) = some (.val (imm c)) := rfl
@[simp] theorem evalE_1 : evalE T C (.var i) ⟨e0, h0⟩ = (fun s : S => (rdVar s i)) ⟨e0, h0⟩ := by first | (rw [evalE]; done) | (rw [evalE]; rfl) | (cases v <;> simp [evalE])
@[simp] theorem evalE_2 : evalE T C (.frz i) ⟨e0, h0⟩ = (fun s : S => (frzVar s i)) ⟨e0, h0⟩ := by first | (rw [evalE]; done) | (rw [evalE]; rfl) | (cases v <;> simp [evalE])
@[simp] theorem evalE_3 : evalE T C (.mv i) ⟨e0, h0⟩ = (fun s : S => (mvVar s i)) ⟨e0, h0⟩ := by first | (rw [evalE]; done) | (rw [evalE]; rfl) | (cases v <;> simp [evalE])
@[simp] theorem evalE_4 : evalE T C (.cst v) ⟨e0, h0⟩ = (fun s : S => (.ok (.v v) s)) ⟨e0, h0⟩ := by first | (rw [evalE]; done) | (rw [evalE]; rfl) | (cases v <;> simp [evalE])
@[simp] theorem evalE_5 : evalE T C (.glb y v) ⟨e0, h0⟩ = (fun s : S => (.ok (.v v) s)) ⟨e0, h0⟩ := by first | (rw [evalE]; done) | (rw [evalE]; rfl) | (cases v <;> simp [evalE])
@[simp] theorem evalE_6 : evalE T C (.bin op a b) ⟨e0, h0⟩ = (fun s : S => ((evalE T C a s).bnd fun x s => (evalE T C b s).bnd fun y s => R.op (binop op (deref s (opnd x)) (deref s (opnd y))) s)) ⟨e0, h0⟩ := by first | (rw [evalE]; done) | (rw [evalE]; rfl) | (cases v <;> simp [evalE])
@[simp] theorem evalE_7 : evalE T C (.neg a) ⟨e0, h0⟩ = (fun s : S => ((evalE T C a s).bnd fun x s => match deref s x with
    | .int i => .ok (.v (.int (-i))) s
    | _ => .bad)) ⟨e0, h0⟩ := by first | (rw [evalE]; done) | (rw [evalE]; rfl) | (cases v <;> simp [evalE])
@[simp] theorem evalE_8 : evalE T C (.cmp op a b) ⟨e0, h0⟩ = (fun s : S => ((evalE T C a s).bnd fun x s => (evalE T C b s).bnd fun y s => R.op ((cmpop op (deref s (opnd x)) (deref s (opnd y))).map fun b => .v (.bl b)) s)) ⟨e0, h0⟩ := by first | (rw [evalE]; done) | (rw [evalE]; rfl) | (cases v <;> simp [evalE])
@[simp] theorem evalE_9 : evalE T C (.deq ne a b) ⟨e0, h0⟩ = (fun s : S => ((evalE T C a s).bnd fun x s => (evalE T C b s).bnd fun y s => R.op ((veq (dp 3 s.h (deref s (opnd x))) (dp 3 s.h (deref s (opnd y)))).map fun k => .v (.bl (k != ne))) s)) ⟨e0, h0⟩ := by first | (rw [evalE]; done) | (rw [evalE]; rfl) | (cases v <;> simp [evalE])
@[simp] theorem evalE_10 : evalE T C (.chn o1 o2 a b c) ⟨e0, h0⟩ = (fun s : S => ((evalE T C a s).bnd fun x s => (evalE T C b s).bnd fun y s => (R.op (cmpop o1 (deref s (opnd x)) (deref s (opnd y))) s).bnd fun k s => R.two k ((evalE T C c s).bnd fun z s => R.op ((cmpop o2 (deref s (opnd y)) (deref s (opnd z))).map fun b => .v (.bl b)) s) (.ok (.v (.bl false)) s))) ⟨e0, h0⟩ := by first | (rw [evalE]; done) | (rw [evalE]; rfl) | (cases v <;> simp [evalE])
@[simp] theorem evalE_11 : evalE T C (.and a b) ⟨e0, h0⟩ = (fun s : S => ((evalE T C a s).vl.bnd fun x s => (R.op (asB x) s).bnd fun k s => R.two k (evalE T C b s) (.ok (.v (.bl false)) s))) ⟨e0, h0⟩ := by first | (rw [evalE]; done) | (rw [evalE]; rfl) | (cases v <;> simp [evalE])
@[simp] theorem evalE_12 : evalE T C (.or a b) ⟨e0, h0⟩ = (fun s : S => ((evalE T C a s).vl.bnd fun x s => (R.op (asB x) s).bnd fun k s => R.two k (.ok (.v (.bl true)) s) (evalE T C b s))) ⟨e0, h0⟩ := by first | (rw [evalE]; done) | (rw [evalE]; rfl) | (cases v <;> simp [evalE])
@[simp] theorem evalE_13 : evalE T C (.not a) ⟨e0, h0⟩ = (fun s : S => ((evalE T C a s).vl.bnd fun x s => (R.op (asB x) s).bnd fun k s => .ok (.v (.bl (!k))) s)) ⟨e0, h0⟩ := by first | (rw [evalE]; done) | (rw [evalE]; rfl) | (cases v <;> simp [evalE])
@[simp] theorem evalE_14 : evalE T C (.ite c a b) ⟨e0, h0⟩ = (fun s : S => ((evalE T C c s).vl.bnd fun x s => (R.op (asB x) s).bnd fun k s => R.two k ((evalE T C a s).vl.bnd fun x s => .ok (.v x) s) ((evalE T C b s).vl.bnd fun x s => .ok (.v x) s))) ⟨e0, h0⟩ := by first | (rw [evalE]; done) | (rw [evalE]; rfl) | (cases v <;> simp [evalE])
@[simp] theorem evalE_15 : evalE T C (.sub a b) ⟨e0, h0⟩ = (fun s : S => ((evalE T C a s).bnd fun x s => (evalE T C b s).vl.bnd fun y s => R.op ((vsub (deref s (opnd x)) y).map .v) s)) ⟨e0, h0⟩ := by first | (rw [evalE]; done) | (rw [evalE]; rfl) | (cases v <;> simp [evalE])
@[simp] theorem evalE_16 : evalE T C (.slc a lo hi) ⟨e0, h0⟩ = (fun s : S => ((evalE T C a s).bnd fun x s => (evalVs T C lo s).bnd fun l s => (evalVs T C hi s).bnd fun h s => match partV l, partV h with
    | some l, some h => R.op (vslice (deref s (opnd x)) l h) s
    | _, _ => .bad)) ⟨e0, h0⟩ := by first | (rw [evalE]; done) | (rw [evalE]; rfl) | (cases v <;> simp [evalE])
@[simp] theorem evalE_17 : evalE T C (.sls a st) ⟨e0, h0⟩ = (fun s : S => ((evalE T C a s).bnd fun x s => (evalE T C st s).vl.bnd fun k s => match k with
    | .int k => R.op (vstep (deref s (opnd x)) k) s
    | _ => .bad)) ⟨e0, h0⟩ := by first | (rw [evalE]; done) | (rw [evalE]; rfl) | (cases v <;> simp [evalE])
@[simp] theorem evalE_18 : evalE T C (.lst es) ⟨e0, h0⟩ = (fun s : S => ((evalVs T C es s).bnd fun vs s => .ok (.f (.lst vs false)) s)) ⟨e0, h0⟩ := by first | (rw [evalE]; done) | (rw [evalE]; rfl) | (cases v <;> simp [evalE])
@[simp] theorem evalE_19 : evalE T C (.tup es) ⟨e0, h0⟩ = (fun s : S => ((evalVs T C es s).bnd fun vs s => .ok (.v (.tup vs)) s)) ⟨e0, h0⟩ := by first | (rw [evalE]; done) | (rw [evalE]; rfl) | (cases v <;> simp [evalE])
theorem evalE_20 : evalE T C (.dsp es) ⟨e0, h0⟩ = (fun s : S => ((evalVs T C es s).bnd fun vs s => match kvsOf vs with
    | some kvs => .ok (.f (.dct (dmerge [] kvs) false)) s
    | none => .bad)) ⟨e0, h0⟩ := by first | (rw [evalE]; done) | (rw [evalE]; rfl) | (cases v <;> simp [evalE])
theorem evalE_21 : evalE T C (.lc elt p k src conds vs) (s) = ((evalOs T C src s).bind fun os s => match srcItems k (os.map (deref s)) with
    | none => .bad
    | some items => (compL (patSet p) (evalTs T C conds) (fun s => (evalE T C elt s).val) vs putL items { lockAll s os with e := wipeE (lockAll s os).e vs } []).bind fun acc s2 => .ok (.f (.lst acc false)) (unlockAll s { s2 with e := restE s.e s2.e vs } os)) := by first | (rw [evalE]; done) | (rw [evalE]; rfl)
theorem evalE_22 : evalE T C (.dc key elt p k src conds vs) (s) = ((evalOs T C src s).bind fun os s => match srcItems k (os.map (deref s)) with
    | none => .bad
    | some items => (compL (patSet p) (evalTs T C conds) (fun s => (evalE T C key s).val.bind fun kv s => (evalE T C elt s).val.bind fun x s => match keyV kv with | some k => .ok (k, x) s | none => .bad) vs putD items { lockAll s os with e := wipeE (lockAll s os).e vs } []).bind fun acc s2 => .ok (.f (.dct acc false)) (unlockAll s { s2 with e := restE s.e s2.e vs } os)) := by first | (rw [evalE]; done) | (rw [evalE]; rfl)
theorem evalE_23 : evalE T C (.lck elt p its i conds vs) (s) = (match slotOf s i with
    | .val (.dct kvs) => (compL (patSet p) (evalTs T C conds) (fun s => (evalE T C elt s).val) vs putL (keysV its kvs) { s with e := wipeE s.e vs } []).bind fun acc s2 => .ok (.f (.lst acc false)) { s2 with e := restE s.e s2.e vs }
    | .own (.dct kvs false) => (compL (patSet p) (evalTs T C conds) (fun s => (evalE T C elt s).val) vs putL (keysV its kvs) { s with e := wipeE (s.e.set i (.own (.dct kvs true))) vs } []).bind fun acc s2 => match slotOf { s2 with e := restE s.e s2.e vs } i with
      | .own (.dct kvs2 true) => .ok (.f (.lst acc false)) { s2 with e := (restE s.e s2.e vs).set i (.own (.dct kvs2 false)) }
      | _ => .bad
    | _ => .bad) := by first | (rw [evalE]; done) | (rw [evalE]; rfl)
@[simp] theorem evalE_24 : evalE T C (.bi f es) ⟨e0, h0⟩ = (fun s : S => ((evalOs T C es s).bnd fun os s => if (os.map (deref s)).all okV then R.op (biop f (os.map (deref s))) s else .bad)) ⟨e0, h0⟩ := by first | (rw [evalE]; done) | (rw [evalE]; rfl) | (cases v <;> simp [evalE])
theorem evalE_25 : evalE T C (.mt m o es) ⟨e0, h0⟩ = (fun s : S => ((evalE T C o s).bnd fun x s => match mkind m (deref s (opnd x)) with
    | false => .bad
    | true => (evalVs T C es s).bnd fun vs s => match mtop m (deref s (opnd x)) vs with
      | none => .bad
      | some (r, oc) => match putLoc s (opnd x) oc with
        | some s => .ok r s
        | none => .bad)) ⟨e0, h0⟩ := by first | (rw [evalE]; done) | (rw [evalE]; rfl) | (cases v <;> simp [evalE])
@[simp] theorem evalE_26 : evalE T C (.fn f es pm) ⟨e0, h0⟩ = (fun s : S => ((evalVs T C es s).bnd fun vs s => (C f (permV vs pm) s.h).bck s.e)) ⟨e0, h0⟩ := by first | (rw [evalE]; done) | (rw [evalE]; rfl) | (cases v <;> simp [evalE])
theorem evalE_27 : evalE T C (.me cs m o es pm) ⟨e0, h0⟩ = (fun s : S => ((evalE T C o s).vl.bnd fun x s => match insAt s x with
    | none => .bad
    | some (_, c, fs) => match decide (c ∈ cs), fs.lookup m, T.mth c m with
      | true, none, some f => (evalVs T C es s).bnd fun vs s => (C f (x :: permV vs pm) s.h).bck s.e
      | _, _, _ => .bad)) ⟨e0, h0⟩ := by first | (rw [evalE]; done) | (rw [evalE]; rfl) | (cases v <;> simp [evalE])
theorem evalE_28 : evalE T C (.new c es pm) ⟨e0, h0⟩ = (fun s : S => ((evalVs T C es s).bnd fun vs s => match T.ini c with
    | none => .bad
    | some f => match C f (.ref s.h.length :: permV vs pm) (s.h ++ [.ins c []]) with
      | .ok .non s2 => .ok (.v (.ref s.h.length)) { s2 with e := s.e }
      | .exc c p s2 => .exc c p { s2 with e := s.e }
      | _ => .bad)) ⟨e0, h0⟩ := by first | (rw [evalE]; done) | (rw [evalE]; rfl) | (cases v <;> simp [evalE])
theorem evalE_29 : evalE T C (.att o f) ⟨e0, h0⟩ = (fun s : S => ((evalE T C o s).vl.bnd fun x s => match insAt s x with
    | none => .bad
    | some (_, c, fs) => if T.fld c f then R.op ((fs.lookup f).map .v) s else .bad)) ⟨e0, h0⟩ := by first | (rw [evalE]; done) | (rw [evalE]; rfl) | (cases v <;> simp [evalE])
theorem evalE_30 : evalE T C (.prp o p) ⟨e0, h0⟩ = (fun s : S => ((evalE T C o s).vl.bnd fun x s => match insAt s x with
    | none => .bad
    | some (_, c, fs) => match T.prp c p with
      | some f => (C f [x] s.h).bck s.e
      | none => .bad)) ⟨e0, h0⟩ := by first | (rw [evalE]; done) | (rw [evalE]; rfl) | (cases v <;> simp [evalE])
theorem evalE_31 : evalE T C (.inown ng m a o) ⟨e0, h0⟩ = (fun s : S => ((evalE T C a s).vl.bnd fun x s => (evalE T C o s).vl.bnd fun y s => match insAt s y with
    | none => .bad
    | some (_, c, fs) => match T.mth c m with
      | none => .bad
      | some f => match (C f [y, x] s.h).bck s.e with
        | .ok (.v (.bl b)) s2 => .ok (.v (.bl (b != ng))) s2
        | .exc c p s2 => .exc c p s2
        | _ => .bad)) ⟨e0, h0⟩ := by first | (rw [evalE]; done) | (rw [evalE]; rfl) | (cases v <;> simp [evalE])
theorem evalE_32 : evalE T C (.lenown m o) ⟨e0, h0⟩ = (fun s : S => ((evalE T C o s).vl.bnd fun y s => match insAt s y with
    | none => .bad
    | some (_, c, fs) => match T.mth c m with
      | none => .bad
      | some f => match (C f [y] s.h).bck s.e with
        | .ok (.v (.int i)) s2 => if decide (0 ≤ i) && decide (i < 2 ^ 63) then .ok (.v (.int i)) s2 else .bad
        | .exc c p s2 => .exc c p s2
        | _ => .bad)) ⟨e0, h0⟩ := by first | (rw [evalE]; done) | (rw [evalE]; rfl) | (cases v <;> simp [evalE])
theorem evalE_33 : evalE T C (.heap a) ⟨e0, h0⟩ = (fun s : S => ((evalE T C a s).bnd fun x s => match x with
    | .f c => toHeap c s
    | _ => .bad)) ⟨e0, h0⟩ := by first | (rw [evalE]; done) | (rw [evalE]; rfl) | (cases v <;> simp [evalE])
@[simp] theorem evalVs_1 : evalVs T C ([]) ⟨e0, h0⟩ = (fun s : S => (.ok [] s)) ⟨e0, h0⟩ := by first | (rw [evalVs]; done) | (rw [evalVs]; rfl) | (cases v <;> simp [evalVs])
@[simp] theorem evalVs_2 : evalVs T C (e :: es) ⟨e0, h0⟩ = (fun s : S => ((evalE T C e s).vl.bnd fun v s => (evalVs T C es s).bnd fun vs s => .ok (v :: vs) s)) ⟨e0, h0⟩ := by first | (rw [evalVs]; done) | (rw [evalVs]; rfl) | (cases v <;> simp [evalVs])
@[simp] theorem evalOs_1 : evalOs T C ([]) ⟨e0, h0⟩ = (fun s : S => (.ok [] s)) ⟨e0, h0⟩ := by first | (rw [evalOs]; done) | (rw [evalOs]; rfl) | (cases v <;> simp [evalOs])
@[simp] theorem evalOs_2 : evalOs T C (e :: es) ⟨e0, h0⟩ = (fun s : S => ((evalE T C e s).bnd fun v s => (evalOs T C es s).bnd fun vs s => .ok (opnd v :: vs) s)) ⟨e0, h0⟩ := by first | (rw [evalOs]; done) | (rw [evalOs]; rfl) | (cases v <;> simp [evalOs])
@[simp] theorem evalTs_1 : evalTs T C ([]) ⟨e0, h0⟩ = (fun s : S => (.ok true s)) ⟨e0, h0⟩ := by first | (rw [evalTs]; done) | (rw [evalTs]; rfl) | (cases v <;> simp [evalTs])
@[simp] theorem evalTs_2 : evalTs T C (e :: es) ⟨e0, h0⟩ = (fun s : S => ((evalE T C e s).vl.bnd fun x s => (R.op (asB x) s).bnd fun k s => R.two k (evalTs T C es s) (.ok false s))) ⟨e0, h0⟩ := by first | (rw [evalTs]; done) | (rw [evalTs]; rfl) | (cases v <;> simp [evalTs])
@[simp] theorem tgtSet_1 : tgtSet T C (.nm i) (v) ⟨e0, h0⟩ = (fun s : S => (.ok () { s with e := s.e.set i (.val v) })) ⟨e0, h0⟩ := by first | (rw [tgtSet]; done) | (rw [tgtSet]; rfl) | (cases v <;> simp [tgtSet])
theorem tgtSet_2 : tgtSet T C (.tp ts) (v) ⟨e0, h0⟩ = (fun s : S => (match v with
    | .tup vs => tgtSets T C ts vs s
    | _ => .bad)) ⟨e0, h0⟩ := by first | (rw [tgtSet]; done) | (rw [tgtSet]; rfl) | (cases v <;> simp [tgtSet])
theorem tgtSet_3 : tgtSet T C (.sub o k) (v) ⟨e0, h0⟩ = (fun s : S => ((evalE T C o s).bnd fun x s => (evalE T C k s).vl.bnd fun i s => match deref s (opnd x) with
    | .lst xs => match i with
      | .int i => match ixN xs.length i with
        | some j => R.op (setLoc s (opnd x) (.lst (xs.set j v) false)) s |>.bnd fun s _ => .ok () s
        | none => .bad
      | _ => .bad
    | .dct kvs => match keyV i with
      | some k => if kvs.length < sizeLine then R.op (setLoc s (opnd x) (.dct (dput kvs k v) false)) s |>.bnd fun s _ => .ok () s else .bad
      | none => .bad
    | _ => .bad)) ⟨e0, h0⟩ := by first | (rw [tgtSet]; done) | (rw [tgtSet]; rfl) | (cases v <;> simp [tgtSet])
theorem tgtSet_4 : tgtSet T C (.att o f) (v) ⟨e0, h0⟩ = (fun s : S => ((evalE T C o s).vl.bnd fun x s => match insAt s x with
    | none => .bad
    | some (n, c, fs) => if T.fld c f && decide (fs.length < 900) then .ok () { s with h := s.h.set n (.ins c (putFs f v fs)) } else .bad)) ⟨e0, h0⟩ := by first | (rw [tgtSet]; done) | (rw [tgtSet]; rfl) | (cases v <;> simp [tgtSet])
@[simp] theorem tgtSets_1 : tgtSets T C ([]) ([]) ⟨e0, h0⟩ = (fun s : S => (.ok () s)) ⟨e0, h0⟩ := by first | (rw [tgtSets]; done) | (rw [tgtSets]; rfl) | (cases v <;> simp [tgtSets])
@[simp] theorem tgtSets_2 : tgtSets T C (t :: ts) (v :: vs) ⟨e0, h0⟩ = (fun s : S => ((tgtSet T C t v s).bnd fun _ s => tgtSets T C ts vs s)) ⟨e0, h0⟩ := by first | (rw [tgtSets]; done) | (rw [tgtSets]; rfl) | (cases v <;> simp [tgtSets])
@[simp] theorem execS_1 : execS T C (.ex e) ⟨e0, h0⟩ = (fun s : S => ((evalE T C e s).bnd fun _ s => .ok .nx s)) ⟨e0, h0⟩ := by first | (rw [execS]; done) | (rw [execS]; rfl) | (cases v <;> simp [execS])
@[simp] theorem execS_2 : execS T C (.asg t e) ⟨e0, h0⟩ = (fun s : S => ((evalE T C e s).vl.bnd fun v s => (tgtSet T C t v s).bnd fun _ s => .ok .nx s)) ⟨e0, h0⟩ := by first | (rw [execS]; done) | (rw [execS]; rfl) | (cases v <;> simp [execS])
theorem execS_3 : execS T C (.own i e) ⟨e0, h0⟩ = (fun s : S => ((evalE T C e s).bnd fun x s => match x with
    | .f c => .ok .nx { s with e := s.e.set i (.own c) }
    | _ => .bad)) ⟨e0, h0⟩ := by first | (rw [execS]; done) | (rw [execS]; rfl) | (cases v <;> simp [execS])
theorem execS_4 : execS T C (.par i j oi oj a b) ⟨e0, h0⟩ = (fun s : S => ((evalE T C a s).bnd fun x s => (evalE T C b s).bnd fun y s => match put1 oi x, put1 oj y with
    | some u, some v => .ok .nx { s with e := (s.e.set i u).set j v }
    | _, _ => .bad)) ⟨e0, h0⟩ := by first | (rw [execS]; done) | (rw [execS]; rfl) | (cases v <;> simp [execS])
theorem execS_5 : execS T C (.par3 i j l oi oj ol a b c) ⟨e0, h0⟩ = (fun s : S => ((evalE T C a s).bnd fun x s => (evalE T C b s).bnd fun y s => (evalE T C c s).bnd fun z s => match put1 oi x, put1 oj y, put1 ol z with
    | some u, some v, some w => .ok .nx { s with e := ((s.e.set i u).set j v).set l w }
    | _, _, _ => .bad)) ⟨e0, h0⟩ := by first | (rw [execS]; done) | (rw [execS]; rfl) | (cases v <;> simp [execS])
theorem execS_6 : execS T C (.aug i op e) ⟨e0, h0⟩ = (fun s : S => (match slotOf s i with
    | .val x => (evalE T C e s).bnd fun y s => (R.op (iop op x (deref s (opnd y))) s).vl.bnd fun z s => .ok .nx { s with e := s.e.set i (.val z) }
    | _ => .bad)) ⟨e0, h0⟩ := by first | (rw [execS]; done) | (rw [execS]; rfl) | (cases v <;> simp [execS])
theorem execS_7 : execS T C (.augS o k op e) ⟨e0, h0⟩ = (fun s : S => ((evalE T C o s).bnd fun x s => (evalE T C k s).vl.bnd fun i s => match vsub (deref s (opnd x)) i with
    | none => .bad
    | some old => (evalE T C e s).vl.bnd fun y s => (R.op (iop op old y) s).vl.bnd fun z s => match deref s (opnd x), i with
      | .lst xs, .int i => match ixN xs.length i with
        | some j => R.op (setLoc s (opnd x) (.lst (xs.set j z) false)) s |>.bnd fun s _ => .ok .nx s
        | none => .bad
      | _, _ => .bad)) ⟨e0, h0⟩ := by first | (rw [execS]; done) | (rw [execS]; rfl) | (cases v <;> simp [execS])
theorem execS_8 : execS T C (.augA o f op e) ⟨e0, h0⟩ = (fun s : S => ((evalE T C o s).vl.bnd fun x s => match insAt s x with
    | none => .bad
    | some (_, c, fs) => match T.fld c f, fs.lookup f with
      | true, some old => (evalE T C e s).vl.bnd fun y s => (R.op (iop op old y) s).vl.bnd fun z s => match insAt s x with
        | some (n, c2, fs) => if decide (c2 = c) && decide (fs.length < 900) then .ok .nx { s with h := s.h.set n (.ins c (putFs f z fs)) } else .bad
        | none => .bad
      | _, _ => .bad)) ⟨e0, h0⟩ := by first | (rw [execS]; done) | (rw [execS]; rfl) | (cases v <;> simp [execS])
theorem execS_9 : execS T C (.del o k) ⟨e0, h0⟩ = (fun s : S => ((evalE T C o s).bnd fun x s => (evalE T C k s).vl.bnd fun i s => match deref s (opnd x), keyV i with
    | .dct kvs, some k => if (dget kvs k).isSome then R.op (setLoc s (opnd x) (.dct (ddrop kvs k) false)) s |>.bnd fun s _ => .ok .nx s else .bad
    | _, _ => .bad)) ⟨e0, h0⟩ := by first | (rw [execS]; done) | (rw [execS]; rfl) | (cases v <;> simp [execS])
theorem execS_10 : execS T C (.ite c a b) ⟨e0, h0⟩ = (fun s : S => ((evalB T C c s).bnd fun k s => R.two k (execSs T C a s) (execSs T C b s))) ⟨e0, h0⟩ := by first | (rw [execS]; done) | (rw [execS]; rfl) | (cases v <;> simp [execS])
theorem execS_11 : execS T C (.whl c b) (s) = (whileL (evalB T C c) (execSs T C b) T.fuel s) := by first | (rw [execS]; done) | (rw [execS]; rfl)
theorem execS_12 : execS T C (.for_ p k src b) (s) = ((evalOs T C src s).bind fun os s => match noSl os, srcItems k (os.map (deref s)) with
    | true, some items => (forL (patSet p) (execSs T C b) items (lockAll s os)).bind fun fl s2 => .ok fl (unlockAll s s2 os)
    | _, _ => .bad) := by first | (rw [execS]; done) | (rw [execS]; rfl)
@[simp] theorem execS_13 : execS T C (.ret e) ⟨e0, h0⟩ = (fun s : S => ((evalE T C e s).vl.bnd fun x s => .ok (.rt x) s)) ⟨e0, h0⟩ := by first | (rw [execS]; done) | (rw [execS]; rfl) | (cases v <;> simp [execS])
@[simp] theorem execS_14 : execS T C (.retN) ⟨e0, h0⟩ = (fun s : S => (.ok (.rt .non) s)) ⟨e0, h0⟩ := by first | (rw [execS]; done) | (rw [execS]; rfl) | (cases v <;> simp [execS])
@[simp] theorem execS_15 : execS T C (.pas) ⟨e0, h0⟩ = (fun s : S => (.ok .nx s)) ⟨e0, h0⟩ := by first | (rw [execS]; done) | (rw [execS]; rfl) | (cases v <;> simp [execS])
@[simp] theorem execS_16 : execS T C (.bk) ⟨e0, h0⟩ = (fun s : S => (.ok .bk s)) ⟨e0, h0⟩ := by first | (rw [execS]; done) | (rw [execS]; rfl) | (cases v <;> simp [execS])
@[simp] theorem execS_17 : execS T C (.ct) ⟨e0, h0⟩ = (fun s : S => (.ok .ct s)) ⟨e0, h0⟩ := by first | (rw [execS]; done) | (rw [execS]; rfl) | (cases v <;> simp [execS])
theorem execS_18 : execS T C (.nev) (s) = (.bad) := by first | (rw [execS]; done) | (rw [execS]; rfl)
@[simp] theorem execSs_1 : execSs T C ([]) ⟨e0, h0⟩ = (fun s : S => (.ok .nx s)) ⟨e0, h0⟩ := by first | (rw [execSs]; done) | (rw [execSs]; rfl) | (cases v <;> simp [execSs])
theorem execSs_2 : execSs T C (st :: r) ⟨e0, h0⟩ = (fun s : S => (match execS T C st s with
    | .ok .nx s => execSs T C r s
    | x => x)) ⟨e0, h0⟩ := by first | (rw [execSs]; done) | (rw [execSs]; rfl) | (cases v <;> simp [execSs])
end
end Rs
end
section
set_option maxRecDepth 100000
set_option maxHeartbeats 4000000
/-! The laws' own draws: what they give, whatever the script. -/
namespace Rs
open PySem L2
def fc (d x : Int) : Cell := .lst [.int d, .int x] false
def IsFeed (h : List Cell) (i : Nat) : Prop := ∃ d x, h[i]? = some (fc d x)
theorem IsFeed.lt {h : List Cell} {i : Nat} (f : IsFeed h i) : i < h.length := by
  obtain ⟨d, x, e⟩ := f
  exact (List.getElem?_eq_some_iff.mp e).1
theorem IsFeed.set {h : List Cell} {i : Nat} (f : IsFeed h i) (d x : Int) : IsFeed (h.set i (fc d x)) i := ⟨d, x, List.getElem?_set_self f.lt⟩
theorem isFeed_app (h : List Cell) (d x : Int) : IsFeed (h ++ [fc d x]) h.length := ⟨d, x, by simp⟩
theorem set_app (h : List Cell) (c c' : Cell) : (h ++ [c]).set h.length c' = h ++ [c'] := by
  rw [List.set_append_right _ _ (Nat.le_refl _), Nat.sub_self]
  rfl
/-- two lists, item by item -/
def All2 {α β : Type} (P : α → β → Prop) : List α → List β → Prop
  | [], [] => True
  | a :: as, b :: bs => P a b ∧ All2 P as bs
  | _, _ => False
theorem All2.len {α β : Type} {P : α → β → Prop} : ∀ {as : List α} {bs : List β}, All2 P as bs → bs.length = as.length
  | [], [], _ => rfl
  | _ :: _, [], h => h.elim
  | [], _ :: _, h => h.elim
  | _ :: as, _ :: bs, h => by simp [execSs_2, execS_10, evalE_20, evalE_25, evalE_27, evalE_28, evalE_29, evalE_30, evalE_31, evalE_32, evalE_33, tgtSet_2, tgtSet_3, tgtSet_4, execS_3, execS_4, execS_5, execS_6, execS_7, execS_8, execS_9, All2.len h.2]
theorem All2.mem {α β : Type} {P : α → β → Prop} : ∀ {as : List α} {bs : List β}, All2 P as bs → ∀ b ∈ bs, ∃ a ∈ as, P a b
  | [], [], _, b, hb => by simp at hb
  | _ :: _, [], h, _, _ => h.elim
  | [], _ :: _, h, _, _ => h.elim
  | a :: as, c :: bs, h, b, hb => by
    rcases List.mem_cons.mp hb with rfl | hb
    · exact ⟨a, by simp, h.1⟩
    · obtain ⟨a', h1, h2⟩ := All2.mem h.2 b hb
      exact ⟨a', by simp [execSs_2, execS_10, evalE_20, evalE_25, evalE_27, evalE_28, evalE_29, evalE_30, evalE_31, evalE_32, evalE_33, tgtSet_2, tgtSet_3, tgtSet_4, execS_3, execS_4, execS_5, execS_6, execS_7, execS_8, execS_9, h1], h2⟩
/-- all that an existence gives, at once -/
theorem All2.choose {β : Type} {Q : β → Prop} : ∀ {as : List Val} {bs : List Val} {f : β → Val}, All2 (fun _ y => ∃ z, y = f z ∧ Q z) as bs → ∃ zs : List β, bs = zs.map f ∧ ∀ z ∈ zs, Q z
  | [], [], _, _ => ⟨[], rfl, by simp⟩
  | _ :: _, [], _, h => h.elim
  | [], _ :: _, _, h => h.elim
  | a :: as, c :: bs, f, h => by
    obtain ⟨z, e, q⟩ := h.1
    obtain ⟨zs, e2, q2⟩ := All2.choose h.2
    exact ⟨z :: zs, by rw [e, e2]; rfl, fun w hw => (List.mem_cons.mp hw).elim (fun e => e ▸ q) (q2 w)⟩
section
variable {T : Tab}
theorem call_eq {fs : List Fd} {n i : Nat} {d : Fd} (vs : List Val) (h : List Cell) (e : fs[i]? = some d) (l : vs.length = d.np) : callI T fs (n + 1) i vs h = match execSs T (callI T fs n) d.body ⟨vs.map .val ++ List.replicate (d.nn - d.np) .no, h⟩ with
    | .ok .nx s => .ok .non ⟨[], s.h⟩
    | .ok (.rt v) s => .ok v ⟨[], s.h⟩
    | .exc c p s => .exc c p ⟨[], s.h⟩
    | _ => .bad := by
  show (match fs[i]? with
    | some d => runFd T (callI T fs n) d vs h
    | none => .bad) = _
  rw [e]
  show runFd T (callI T fs n) d vs h = _
  generalize callI T fs n = Fc
  unfold runFd
  rw [if_pos l] <;> rfl
theorem call_rt {fs : List Fd} {n i : Nat} {d : Fd} {vs : List Val} {h : List Cell} {env : List Slot} {v : Val} {s2 : S} (e : fs[i]? = some d) (l : vs.length = d.np) (he : vs.map .val ++ List.replicate (d.nn - d.np) .no = env) (hb : execSs T (callI T fs n) d.body ⟨env, h⟩ = .ok (.rt v) s2) : callI T fs (n + 1) i vs h = .ok v ⟨[], s2.h⟩ := by
  rw [call_eq vs h e l, he, hb]
theorem call_nx {fs : List Fd} {n i : Nat} {d : Fd} {vs : List Val} {h : List Cell} {env : List Slot} {s2 : S} (e : fs[i]? = some d) (l : vs.length = d.np) (he : vs.map .val ++ List.replicate (d.nn - d.np) .no = env) (hb : execSs T (callI T fs n) d.body ⟨env, h⟩ = .ok .nx s2) : callI T fs (n + 1) i vs h = .ok .non ⟨[], s2.h⟩ := by
  rw [call_eq vs h e l, he, hb]
theorem seq_nx {C : Call} {st : IS} {r : List IS} {s s1 : S} (h : execS T C st s = .ok .nx s1) : execSs T C (st :: r) s = execSs T C r s1 := by
  cases s; rw [execSs_2]; simp only [h]
theorem seq_rt {C : Call} {st : IS} {r : List IS} {s s1 : S} {v : Val} (h : execS T C st s = .ok (.rt v) s1) : execSs T C (st :: r) s = .ok (.rt v) s1 := by
  cases s; rw [execSs_2]; simp only [h]
/-! ### loops -/
theorem comp_feed {st : Val → List Slot → Option (List Slot)} {tst : S → R Bool} {elt : S → R Val} {vs : List Nat} {e0 : List Slot} {i : Nat} {h0 : List Cell} (P : Val → Val → Prop) :
    ∀ (items acc : List Val) (d x : Int), (∀ it ∈ items, ∀ d x, ∃ e1 y d' x', st it e0 = some e1 ∧ tst ⟨e1, h0.set i (fc d x)⟩ = .ok true ⟨e1, h0.set i (fc d x)⟩ ∧ elt ⟨e1, h0.set i (fc d x)⟩ = .ok y ⟨e1, h0.set i (fc d' x')⟩ ∧ wipeE e1 vs = e0 ∧ P it y) →
      acc.length + items.length ≤ sizeLine → ∃ ys d' x', compL st tst elt vs putL items ⟨e0, h0.set i (fc d x)⟩ acc = .ok (acc ++ ys) ⟨e0, h0.set i (fc d' x')⟩ ∧ All2 P items ys
  | [], acc, d, x, _, _ => ⟨[], d, x, by simp [execSs_2, execS_10, evalE_20, evalE_25, evalE_27, evalE_28, evalE_29, evalE_30, evalE_31, evalE_32, evalE_33, tgtSet_2, tgtSet_3, tgtSet_4, execS_3, execS_4, execS_5, execS_6, execS_7, execS_8, execS_9, compL], trivial⟩
  | it :: items, acc, d, x, h, hl => by
    obtain ⟨e1, y, d1, x1, h1, h2, h3, h4, h5⟩ := h it (by simp) d x
    simp only [List.length_cons] at hl
    obtain ⟨ys, d2, x2, k1, k2⟩ := comp_feed P items (acc ++ [y]) d1 x1 (fun it hit => h it (by simp [execSs_2, execS_10, evalE_20, evalE_25, evalE_27, evalE_28, evalE_29, evalE_30, evalE_31, evalE_32, evalE_33, tgtSet_2, tgtSet_3, tgtSet_4, execS_3, execS_4, execS_5, execS_6, execS_7, execS_8, execS_9, hit])) (by simp; omega)
    refine ⟨y :: ys, d2, x2, ?_, h5, k2⟩
    unfold compL
    have hp : putL acc y = some (acc ++ [y]) := by unfold putL; rw [if_pos (by omega)]
    simp only [h1, h2, R.bind, h3, hp, h4]
    rw [k1]
    simp
/-- a comprehension that changes nothing -/
theorem comp_pure {st : Val → List Slot → Option (List Slot)} {tst : S → R Bool} {elt : S → R Val} {vs : List Nat} {s0 : S} (f : Val → Option Val) :
    ∀ (items acc : List Val), (∀ it ∈ items, ∃ e1, st it s0.e = some e1 ∧ wipeE e1 vs = s0.e ∧ match f it with
      | none => tst { s0 with e := e1 } = .ok false { s0 with e := e1 }
      | some y => tst { s0 with e := e1 } = .ok true { s0 with e := e1 } ∧ elt { s0 with e := e1 } = .ok y { s0 with e := e1 }) →
      acc.length + items.length ≤ sizeLine → compL st tst elt vs putL items s0 acc = .ok (acc ++ items.filterMap f) s0
  | [], acc, _, _ => by simp [execSs_2, execS_10, evalE_20, evalE_25, evalE_27, evalE_28, evalE_29, evalE_30, evalE_31, evalE_32, evalE_33, tgtSet_2, tgtSet_3, tgtSet_4, execS_3, execS_4, execS_5, execS_6, execS_7, execS_8, execS_9, compL]
  | it :: items, acc, h, hl => by
    obtain ⟨e1, h1, h4, h2⟩ := h it (by simp)
    simp only [List.length_cons] at hl
    unfold compL
    cases q : f it with
    | none =>
      rw [q] at h2
      simp only [h1, h2, R.bind, h4]
      rw [comp_pure f items acc (fun it hit => h it (by simp [execSs_2, execS_10, evalE_20, evalE_25, evalE_27, evalE_28, evalE_29, evalE_30, evalE_31, evalE_32, evalE_33, tgtSet_2, tgtSet_3, tgtSet_4, execS_3, execS_4, execS_5, execS_6, execS_7, execS_8, execS_9, hit])) (by omega), List.filterMap_cons_none q]
    | some y =>
      rw [q] at h2
      have hp : putL acc y = some (acc ++ [y]) := by unfold putL; rw [if_pos (by omega)]
      simp only [h1, h2.1, R.bind, h2.2, hp, h4]
      rw [comp_pure f items (acc ++ [y]) (fun it hit => h it (by simp [execSs_2, execS_10, evalE_20, evalE_25, evalE_27, evalE_28, evalE_29, evalE_30, evalE_31, evalE_32, evalE_33, tgtSet_2, tgtSet_3, tgtSet_4, execS_3, execS_4, execS_5, execS_6, execS_7, execS_8, execS_9, hit])) (by simp; omega), List.filterMap_cons_some q]
      simp
/-- a for whose turns all go on -/
theorem for_nx {st : Val → List Slot → Option (List Slot)} {body : S → R Fl} (I : List Val → S → Prop) : ∀ (xs done : List Val) (s : S), I done s →
    (∀ pre x s, I pre s → (∃ post, done ++ xs = pre ++ x :: post) → ∃ e s', st x s.e = some e ∧ (body { s with e := e } = .ok .nx s' ∨ body { s with e := e } = .ok .ct s') ∧ I (pre ++ [x]) s') → ∃ s', forL st body xs s = .ok .nx s' ∧ I (done ++ xs) s'
  | [], done, s, h, _ => ⟨s, by simp [execSs_2, execS_10, evalE_20, evalE_25, evalE_27, evalE_28, evalE_29, evalE_30, evalE_31, evalE_32, evalE_33, tgtSet_2, tgtSet_3, tgtSet_4, execS_3, execS_4, execS_5, execS_6, execS_7, execS_8, execS_9, forL], by simpa using h⟩
  | x :: xs, done, s, h, k => by
    obtain ⟨e, s1, h1, h2, h3⟩ := k done x s h ⟨xs, rfl⟩
    obtain ⟨s2, k1, k2⟩ := for_nx I xs (done ++ [x]) s1 h3 (fun pre y s hi ⟨post, hp⟩ => k pre y s hi ⟨post, by rw [← hp]; simp⟩)
    refine ⟨s2, ?_, by simpa using k2⟩
    unfold forL
    simp only [h1]
    rcases h2 with h2 | h2 <;> rw [h2] <;> exact k1
theorem for_eq {C : Call} {p : Pat} {k : Sk} {src : List IE} {b : List IS} {s s1 s2 : S} {os : List Rv} {items : List Val} {fl : Fl} (h1 : evalOs T C src s = .ok os s1) (h0 : noSl os = true) (h2 : srcItems k (os.map (deref s1)) = some items) (h3 : forL (patSet p) (execSs T C b) items (lockAll s1 os) = .ok fl s2) :
    execS T C (.for_ p k src b) s = .ok fl (unlockAll s1 s2 os) := by
  rw [execS]
  rw [h1]
  simp only [R.bind, h0, h2, h3]
theorem lc_eq {C : Call} {elt : IE} {p : Pat} {k : Sk} {src conds : List IE} {vs : List Nat} {s s1 s2 : S} {os : List Rv} {items acc : List Val} (h1 : evalOs T C src s = .ok os s1) (h2 : srcItems k (os.map (deref s1)) = some items)
    (h3 : compL (patSet p) (evalTs T C conds) (fun s => (evalE T C elt s).val) vs putL items { lockAll s1 os with e := wipeE (lockAll s1 os).e vs } [] = .ok acc s2) : evalE T C (.lc elt p k src conds vs) s = .ok (.f (.lst acc false)) (unlockAll s1 { s2 with e := restE s1.e s2.e vs } os) := by
  rw [evalE]
  rw [h1]
  simp only [R.bind, h2, h3]
end
section
variable {T : Tab}
theorem for_pl {C : Call} {p : Pat} {k : Sk} {src : List IE} {b : List IS} {e e1 : List Slot} {h h1 : List Cell} {s2 : S} {os : List Rv} {items : List Val} {fl : Fl} (q1 : evalOs T C src ⟨e, h⟩ = .ok os ⟨e1, h1⟩) (q2 : srcItems k (os.map (deref ⟨e1, h1⟩)) = some items)
    (q3 : forL (patSet p) (execSs T C b) items ⟨e1, h1⟩ = .ok fl s2) (q0 : noSl os = true := by rfl) (hl : lockAll ⟨e1, h1⟩ os = ⟨e1, h1⟩ := by rfl) (hu : unlockAll ⟨e1, h1⟩ s2 os = s2 := by rfl) : execS T C (.for_ p k src b) ⟨e, h⟩ = .ok fl s2 := by
  have := for_eq q1 q0 q2 (by rw [hl]; exact q3)
  rw [hu] at this
  exact this
theorem lc_pl {C : Call} {elt : IE} {p : Pat} {k : Sk} {src conds : List IE} {vs : List Nat} {e e2 ew : List Slot} {h h1 h2 : List Cell} {os : List Rv} {items acc : List Val} (q1 : evalOs T C src ⟨e, h⟩ = .ok os ⟨e, h1⟩) (q2 : srcItems k (os.map (deref ⟨e, h1⟩)) = some items)
    (q3 : compL (patSet p) (evalTs T C conds) (fun s => (evalE T C elt s).val) vs putL items ⟨ew, h1⟩ [] = .ok acc ⟨e2, h2⟩) (hw : wipeE e vs = ew := by rfl) (hr : restE e e2 vs = e := by rfl) (hl : lockAll ⟨e, h1⟩ os = ⟨e, h1⟩ := by rfl) (hu : unlockAll ⟨e, h1⟩ ⟨e, h2⟩ os = ⟨e, h2⟩ := by rfl) : evalE T C (.lc elt p k src conds vs) ⟨e, h⟩ = .ok (.f (.lst acc false)) ⟨e, h2⟩ := by
  have := lc_eq (T := T) (elt := elt) (p := p) (conds := conds) (vs := vs) (acc := acc) (s2 := ⟨e2, h2⟩) q1 q2 (by rw [hl]; simp only [hw]; exact q3)
  simp only [hr, hu] at this
  exact this
theorem lck_pl {C : Call} {elt : IE} {p : Pat} {its : Bool} {i : Nat} {conds : List IE} {vs : List Nat} {e ew : List Slot} {h : List Cell} {kvs : List (Key × Val)} {acc : List Val} (q1 : e.getD i .no = .own (.dct kvs false))
    (q3 : compL (patSet p) (evalTs T C conds) (fun s => (evalE T C elt s).val) vs putL (keysV its kvs) ⟨ew, h⟩ [] = .ok acc ⟨ew, h⟩) (hw : wipeE (e.set i (.own (.dct kvs true))) vs = ew := by rfl) (hr : (restE e ew vs).getD i .no = .own (.dct kvs true) := by rfl) (hs : (restE e ew vs).set i (.own (.dct kvs false)) = e := by rfl) :
    evalE T C (.lck elt p its i conds vs) ⟨e, h⟩ = .ok (.f (.lst acc false)) ⟨e, h⟩ := by
  rw [evalE]
  simp only [slotOf_mk, q1, hw, q3, R.bind, hr, hs]
end
/-! ### texts in order -/
def strLe (a b : Str) : Bool := PySem.W.dataLe false dD (.str a) (.str b)
def sortS (xs : List Str) : List Str := xs.mergeSort strLe
theorem toDs_str : ∀ xs : List Str, toDs (xs.map Val.str) = some (xs.map PyData.str)
  | [] => by simp [execSs_2, execS_10, evalE_20, evalE_25, evalE_27, evalE_28, evalE_29, evalE_30, evalE_31, evalE_32, evalE_33, tgtSet_2, tgtSet_3, tgtSet_4, execS_3, execS_4, execS_5, execS_6, execS_7, execS_8, execS_9, toDs]
  | x :: xs => by
    rw [List.map_cons]
    unfold toDs
    rw [toDs_str xs]
    simp [execSs_2, execS_10, evalE_20, evalE_25, evalE_27, evalE_28, evalE_29, evalE_30, evalE_31, evalE_32, evalE_33, tgtSet_2, tgtSet_3, tgtSet_4, execS_3, execS_4, execS_5, execS_6, execS_7, execS_8, execS_9, toD]
theorem vsort_str (xs : List Str) (h : xs.length ≤ sizeLine) : vsort (xs.map Val.str) = some ((sortS xs).map Val.str) := by
  unfold vsort
  rw [isort_data]
  rw [toDs_str]
  have h1 : allAlike (xs.map PyData.str) = true := by simp [execSs_2, execS_10, evalE_20, evalE_25, evalE_27, evalE_28, evalE_29, evalE_30, evalE_31, evalE_32, evalE_33, tgtSet_2, tgtSet_3, tgtSet_4, execS_3, execS_4, execS_5, execS_6, execS_7, execS_8, execS_9, allAlike, PySem.W.alike]
  have h2 : sortable (xs.map PyData.str) = true := by unfold sortable; rw [Bool.or_eq_true]; right; simp
  have h3 : ((xs.map PyData.str).all okD) = true := by simp [execSs_2, execS_10, evalE_20, evalE_25, evalE_27, evalE_28, evalE_29, evalE_30, evalE_31, evalE_32, evalE_33, tgtSet_2, tgtSet_3, tgtSet_4, execS_3, execS_4, execS_5, execS_6, execS_7, execS_8, execS_9, okD, PyData.plain, PyData.depth]
  simp only [h1, h2, h3, Bool.true_and, List.length_map]
  rw [if_pos (by simpa using h)]
  congr 1
  exact (List.map_mergeSort (f := Val.str) (r := strLe) (s := PySem.W.dataLe false dD) (l := xs) fun a _ b _ => rfl).symm
theorem sortS_perm (xs : List Str) : (sortS xs).Perm xs := List.mergeSort_perm _ _
/-! ### the draws -/
structure HasGen (fs : List Fd) : Prop where
  f0 : fs[0]? = some fd__law_feed
  f1 : fs[1]? = some fd__law_take
  f2 : fs[2]? = some fd__law_pick
  f3 : fs[3]? = some fd__law_names
  f4 : fs[4]? = some fd__law_things
  f5 : fs[5]? = some fd__law_event
  f6 : fs[6]? = some fd__law_row
section
variable {T : Tab} {fs : List Fd}
theorem take_ok (f1 : fs[1]? = some fd__law_take) (n : Nat) (h : List Cell) (i : Nat) (size : Int) (hc : IsFeed h i) (h0 : 0 < size) (h1 : size < 1073741824) :
    ∃ r d' x' e2, callI T fs (n + 1) 1 [.ref i, .int size] h = .ok (.int r) ⟨e2, h.set i (fc d' x')⟩ ∧ 0 ≤ r ∧ r < size := by
  obtain ⟨d, x, hc⟩ := hc
  unfold fc at hc
  have hi : i < h.length := (List.getElem?_eq_some_iff.mp hc).1
  have c1 : (h.set i (.lst [.int d, .int ((x * 69069 + 12345) % 4294967311)] false))[i]? = some (.lst [.int d, .int ((x * 69069 + 12345) % 4294967311)] false) := List.getElem?_set_self hi
  suffices ∃ r d' x' s2, callI T fs (n + 1) 1 [.ref i, .int size] h = .ok (.int r) s2 ∧ s2.h = h.set i (.lst [.int d', .int x'] false) ∧ 0 ≤ r ∧ r < size by
    obtain ⟨r, d', x', ⟨e2, h2⟩, a, b, c⟩ := this
    cases b
    exact ⟨r, d', x', e2, a, c⟩
  rw [call_eq _ _ f1 rfl]
  by_cases hd : 0 < d
  · refine ⟨d % size, d / size, x, ?_⟩
    simp [execSs_2, execS_10, evalE_20, evalE_25, evalE_27, evalE_28, evalE_29, evalE_30, evalE_31, evalE_32, evalE_33, tgtSet_2, tgtSet_3, tgtSet_4, execS_3, execS_4, execS_5, execS_6, execS_7, execS_8, execS_9, is__law_take, hc, cmpop, vlt, vsub, atI, ixN, binop, biop, okV, h0, h1, hd]
    exact ⟨Int.emod_nonneg _ (by omega), Int.emod_lt_of_pos _ h0⟩
  · refine ⟨((x * 69069 + 12345) % 4294967311 / 65536) % size, d, (x * 69069 + 12345) % 4294967311, ?_⟩
    simp [execSs_2, execS_10, evalE_20, evalE_25, evalE_27, evalE_28, evalE_29, evalE_30, evalE_31, evalE_32, evalE_33, tgtSet_2, tgtSet_3, tgtSet_4, execS_3, execS_4, execS_5, execS_6, execS_7, execS_8, execS_9, is__law_take, hc, c1, cmpop, vlt, vsub, atI, ixN, binop, biop, okV, okMul, h0, h1, hd]
    exact ⟨Int.emod_nonneg _ (by omega), Int.emod_lt_of_pos _ h0⟩
theorem feed_ok (f0 : fs[0]? = some fd__law_feed) (n : Nat) (h : List Cell) (ns : List Int) (k : Int) (hl : ns.length ≤ 63) : ∃ d x e2, callI T fs (n + 1) 0 [.scr ns, .int k] h = .ok (.ref h.length) ⟨e2, h ++ [fc d x]⟩ := by
  suffices ∃ d x s2, callI T fs (n + 1) 0 [.scr ns, .int k] h = .ok (.ref h.length) s2 ∧ s2.h = h ++ [.lst [.int d, .int x] false] by
    obtain ⟨d', x', ⟨e2, h2⟩, a, b⟩ := this
    cases b
    exact ⟨d', x', e2, a⟩
  rw [call_eq _ _ f0 rfl]
  have hc : ((cut ns (some k) (some (k + 1))).map Val.int).length + 1 ≤ sizeLine := by
    have : (cut ns (some k) (some (k + 1))).length ≤ ns.length := by unfold cut; simp; omega
    simp only [List.length_map]
    have h2 : (64 : Nat) ≤ sizeLine := by decide
    omega
  have hc2 : (cut ns (some k) (some (k + 1))).length < sizeLine := by simp only [List.length_map] at hc; omega
  have hc3 : (cut ns (some k) (some (k + 1))).length + 1 ≤ sizeLine := hc2
  obtain ⟨v, hv⟩ : ∃ v : Int, ∃ r, (cut ns (some k) (some (k + 1))).map Val.int ++ [.int (71 * k + 23)] = .int v :: r := by
    cases cut ns (some k) (some (k + 1)) with
    | nil => exact ⟨_, [], rfl⟩
    | cons a b => exact ⟨a, _, rfl⟩
  obtain ⟨r, hv⟩ := hv
  refine ⟨if (if v < 0 then -v else v) - 10 ^ 18 > 0 then (if v < 0 then -v else v) - 10 ^ 18 else 0, ((if v < 0 then -v else v) % 1000003 * 7919 + 31 * k + 17) % 1000033, ?_⟩
  simp [execSs_2, execS_10, evalE_20, evalE_25, evalE_27, evalE_28, evalE_29, evalE_30, evalE_31, evalE_32, evalE_33, tgtSet_2, tgtSet_3, tgtSet_4, execS_3, execS_4, execS_5, execS_6, execS_7, execS_8, execS_9, is__law_feed, hc, hc2, hc3, hv, cmpop, vlt, vsub, atI, ixN, binop, biop, okV, okMul, vslice, partV, itemsV]
theorem pick_ok (f1 : fs[1]? = some fd__law_take) (f2 : fs[2]? = some fd__law_pick) (n : Nat) (h : List Cell) (i : Nat) (cs : List Val) (hc : IsFeed h i) (h0 : cs ≠ []) (h1 : cs.length < 1073741824) :
    ∃ r d' x' e2, callI T fs (n + 2) 2 [.ref i, .lst cs] h = .ok r ⟨e2, h.set i (fc d' x')⟩ ∧ r ∈ cs := by
  have h2 : 0 < cs.length := List.length_pos_iff.mpr h0
  obtain ⟨r, d', x', e2, e, g1, g2⟩ := take_ok (T := T) f1 n h i cs.length hc (by omega) (by omega)
  have hr : r.toNat < cs.length := by omega
  suffices ∃ s2, callI T fs (n + 2) 2 [.ref i, .lst cs] h = .ok cs[r.toNat] s2 ∧ s2.h = h.set i (fc d' x') by
    obtain ⟨⟨e2, h2⟩, a, b⟩ := this
    cases b
    exact ⟨_, d', x', e2, a, by simp⟩
  rw [call_eq _ _ f2 rfl]
  simp [execSs_2, execS_10, evalE_20, evalE_25, evalE_27, evalE_28, evalE_29, evalE_30, evalE_31, evalE_32, evalE_33, tgtSet_2, tgtSet_3, tgtSet_4, execS_3, execS_4, execS_5, execS_6, execS_7, execS_8, execS_9, is__law_pick, cmpop, vlt, vsub, atI, ixN, binop, biop, okV, e, g1, g2, hr]
end
end Rs
end
section
set_option maxRecDepth 100000
set_option maxHeartbeats 400000
/-! Steps of the interpreter, forwards: what stands after. -/
namespace Rs
open PySem L2
/-- r ends well, and Q stands then -/
def Wp {α : Type} (r : R α) (Q : α → S → Prop) : Prop := ∃ a s, r = .ok a s ∧ Q a s
def Vl (Q : Val → S → Prop) (x : Rv) (s : S) : Prop := ∃ v, freeze x = some v ∧ Q v s
def Op {α : Type} (o : Option α) (K : α → Prop) : Prop := ∃ a, o = some a ∧ K a
section
variable {α β : Type}
@[simp] theorem wp_ok {a : α} {s : S} {Q : α → S → Prop} : Wp (.ok a s) Q = Q a s := propext ⟨fun ⟨_, _, e, q⟩ => by cases e; exact q, fun q => ⟨a, s, rfl, q⟩⟩
@[simp] theorem wp_bad {Q : α → S → Prop} : Wp (.bad : R α) Q = False := propext ⟨fun ⟨_, _, e, _⟩ => (nomatch e), False.elim⟩
@[simp] theorem wp_exc {c : Nat} {p : Val} {s : S} {Q : α → S → Prop} : Wp (.exc c p s : R α) Q = False := propext ⟨fun ⟨_, _, e, _⟩ => (nomatch e), False.elim⟩
@[simp] theorem wp_bnd {r : R α} {k : α → S → R β} {Q : β → S → Prop} : Wp (r.bnd k) Q = Wp r (fun a s => Wp (k a s) Q) := by
  cases r with
  | ok a s => rw [wp_ok]; rfl
  | exc c p s => rw [wp_exc]; exact wp_exc
  | bad => rw [wp_bad]; exact wp_bad
@[simp] theorem wp_vl {r : R Rv} {Q : Val → S → Prop} : Wp r.vl Q = Wp r (Vl Q) := by
  cases r with
  | ok a s =>
    rw [wp_ok]
    show Wp (R.opt (freeze a) s) Q = Vl Q a s
    unfold Vl
    cases freeze a with
    | none => exact propext ⟨fun ⟨_, _, e, _⟩ => (nomatch e), fun ⟨_, e, _⟩ => nomatch e⟩
    | some v => exact wp_ok.trans (propext ⟨fun q => ⟨v, rfl, q⟩, fun ⟨_, e, q⟩ => by cases e; exact q⟩)
  | exc c p s => rw [wp_exc]; exact wp_exc
  | bad => rw [wp_bad]; exact wp_bad
@[simp] theorem wp_bck {r : R Val} {e : List Slot} {Q : Rv → S → Prop} : Wp (r.bck e) Q = Wp r (fun v s => Q (.v v) ⟨e, s.h⟩) := by
  cases r with
  | ok a s => rw [wp_ok]; exact wp_ok
  | exc c p s => rw [wp_exc]; exact wp_exc
  | bad => rw [wp_bad]; exact wp_bad
@[simp] theorem vl_kv {Q : Val → S → Prop} {x : Val} {s : S} : Vl Q (.v x) s = Q x s := propext ⟨fun ⟨_, e, q⟩ => (Option.some.inj e) ▸ q, fun q => ⟨x, rfl, q⟩⟩
@[simp] theorem vl_kf {Q : Val → S → Prop} {c : Cell} {s : S} : Vl Q (.f c) s = Q (imm c) s := propext ⟨fun ⟨_, e, q⟩ => (Option.some.inj e) ▸ q, fun q => ⟨_, rfl, q⟩⟩
@[simp] theorem wp_op {o : Option α} {s : S} {Q : α → S → Prop} : Wp (R.op o s) Q = Op o fun a => Q a s := by
  unfold Op
  cases o with
  | none => exact propext ⟨fun ⟨_, _, e, _⟩ => (nomatch e), fun ⟨_, e, _⟩ => nomatch e⟩
  | some v => exact wp_ok.trans (propext ⟨fun q => ⟨v, rfl, q⟩, fun ⟨_, e, q⟩ => by cases e; exact q⟩)
@[simp] theorem op_s {a : α} {K : α → Prop} : Op (some a) K = K a := propext ⟨fun ⟨_, e, q⟩ => (Option.some.inj e) ▸ q, fun q => ⟨a, rfl, q⟩⟩
@[simp] theorem op_n {K : α → Prop} : Op (none : Option α) K = False := propext ⟨fun ⟨_, e, _⟩ => (nomatch e), False.elim⟩
@[simp] theorem op_map {o : Option α} {f : α → β} {K : β → Prop} : Op (o.map f) K = Op o fun a => K (f a) := by
  cases o with
  | none => rw [op_n]; exact op_n
  | some v => rw [op_s]; exact op_s
@[simp] theorem op_if {c : Prop} [Decidable c] {a : α} {K : α → Prop} : Op (if c then some a else none) K = (c ∧ K a) := by
  by_cases h : c
  · rw [if_pos h, op_s]; exact propext ⟨fun q => ⟨h, q⟩, fun q => q.2⟩
  · rw [if_neg h, op_n]; exact propext ⟨False.elim, fun q => h q.1⟩
theorem wp_mono {r : R α} {Q Q' : α → S → Prop} (h : Wp r Q) (k : ∀ a s, Q a s → Q' a s) : Wp r Q' := let ⟨a, s, e, q⟩ := h; ⟨a, s, e, k a s q⟩
theorem wp_eq {r : R α} {a : α} {s : S} (h : Wp r fun b t => b = a ∧ t = s) : r = .ok a s := by
  obtain ⟨b, t, e, rfl, rfl⟩ := h
  exact e
theorem wp_of {r : R α} {a : α} {s : S} {Q : α → S → Prop} (e : r = .ok a s) (q : Q a s) : Wp r Q := ⟨a, s, e, q⟩
end
theorem wp_two {α : Type} {b : Bool} {x y : R α} {Q : α → S → Prop} (h1 : b = true → Wp x Q) (h2 : b = false → Wp y Q) : Wp (R.two b x y) Q := by
  cases b with
  | true => exact h1 rfl
  | false => exact h2 rfl
section
variable {T : Tab} {C : Call} {fs : List Fd} {n : Nat}
theorem wp_cons {st : IS} {r : List IS} {s : S} {Q : Fl → S → Prop} (h : ∀ K : Fl → S → Prop, (∀ s', Wp (execSs T C r s') Q → K .nx s') → (∀ v s', Q (.rt v) s' → K (.rt v) s') → (Q .bk = K .bk ∧ Q .ct = K .ct) → Wp (execS T C st s) K) : Wp (execSs T C (st :: r) s) Q := by
  obtain ⟨fl, s1, e, q⟩ := h (fun fl s' => match fl with
    | .nx => Wp (execSs T C r s') Q
    | fl => Q fl s') (fun s' q => q) (fun v s' q => q) ⟨rfl, rfl⟩
  cases s
  cases fl with
  | nx => rw [seq_nx e]; exact q
  | rt v => rw [seq_rt e]; exact wp_of rfl q
  | bk => refine wp_of ?_ q; rw [execSs_2]; simp only [e]
  | ct => refine wp_of ?_ q; rw [execSs_2]; simp only [e]
/-- what is left -/
def Sq (T : Tab) (C : Call) (r : List IS) (Q : Fl → S → Prop) (fl : Fl) (s : S) : Prop := match fl with
  | .nx => Wp (execSs T C r s) Q
  | fl => Q fl s
@[simp] theorem sq_nx {r : List IS} {Q : Fl → S → Prop} {s : S} : Sq T C r Q .nx s = Wp (execSs T C r s) Q := rfl
@[simp] theorem sq_rt {r : List IS} {Q : Fl → S → Prop} {s : S} {v : Val} : Sq T C r Q (.rt v) s = Q (.rt v) s := rfl
@[simp] theorem sq_bk {r : List IS} {Q : Fl → S → Prop} {s : S} : Sq T C r Q .bk s = Q .bk s := rfl
@[simp] theorem sq_ct {r : List IS} {Q : Fl → S → Prop} {s : S} : Sq T C r Q .ct s = Q .ct s := rfl
@[simp] theorem wp_ss {st : IS} {r : List IS} {e : List Slot} {h : List Cell} {Q : Fl → S → Prop} : Wp (execSs T C (st :: r) ⟨e, h⟩) Q = Wp (execS T C st ⟨e, h⟩) (Sq T C r Q) := by
  rw [execSs_2]
  show Wp (match execS T C st ⟨e, h⟩ with
    | .ok .nx s => execSs T C r s
    | x => x) Q = _
  cases execS T C st ⟨e, h⟩ with
  | ok fl s => cases fl <;> first | exact wp_ok.symm ▸ rfl | (rw [wp_ok, wp_ok]; rfl)
  | exc c p s => rw [wp_exc, wp_exc]
  | bad => rw [wp_bad, wp_bad]
@[simp] theorem wp_s0 {e : List Slot} {h : List Cell} {Q : Fl → S → Prop} : Wp (execSs T C [] ⟨e, h⟩) Q = Q .nx ⟨e, h⟩ := by
  rw [execSs_1]; exact wp_ok
theorem wp_nil {s : S} {Q : Fl → S → Prop} (h : Q .nx s) : Wp (execSs T C [] s) Q := by
  cases s
  exact wp_of execSs_1 h
@[simp] theorem execS_if {c : IE} {a b : List IS} {e0 : List Slot} {h0 : List Cell} : execS T C (.ite c a b) ⟨e0, h0⟩ = (evalB T C c ⟨e0, h0⟩).bnd fun k s => R.two k (execSs T C a s) (execSs T C b s) := by
  exact execS_10
def RetK (Q : Val → S → Prop) : Fl → S → Prop
  | .nx, s => Q .non ⟨[], s.h⟩
  | .rt v, s => Q v ⟨[], s.h⟩
  | _, _ => False
@[simp] theorem retK_nx {Q : Val → S → Prop} {e : List Slot} {h : List Cell} : RetK Q .nx ⟨e, h⟩ = Q .non ⟨[], h⟩ := rfl
@[simp] theorem retK_rt {Q : Val → S → Prop} {v : Val} {e : List Slot} {h : List Cell} : RetK Q (.rt v) ⟨e, h⟩ = Q v ⟨[], h⟩ := rfl
theorem wp_def {i : Nat} {d : Fd} {vs : List Val} {h : List Cell} {env : List Slot} {Q : Val → S → Prop} (e : fs[i]? = some d) (l : vs.length = d.np) (he : vs.map .val ++ List.replicate (d.nn - d.np) .no = env) (hb : Wp (execSs T (callI T fs n) d.body ⟨env, h⟩) (RetK Q)) : Wp (callI T fs (n + 1) i vs h) Q := by
  obtain ⟨fl, s, e2, q⟩ := hb
  cases fl with
  | nx => exact wp_of (call_nx e l he e2) q
  | rt v => exact wp_of (call_rt e l he e2) q
  | bk => exact q.elim
  | ct => exact q.elim
end
/-! ### loops -/
/-- some slots are changed -/
def Up : List Slot → List Nat → List Slot → List Slot
  | e, i :: is, a :: as => Up (e.set i a) is as
  | e, _, _ => e
@[simp] theorem up_0 {e : List Slot} {as : List Slot} : Up e [] as = e := by cases as <;> rfl
@[simp] theorem up_s {e : List Slot} {i : Nat} {is : List Nat} {a : Slot} {as : List Slot} : Up e (i :: is) (a :: as) = Up (e.set i a) is as := rfl
@[simp] theorem wipe_0 {e : List Slot} : wipeE e [] = e := rfl
@[simp] theorem wipe_s {e : List Slot} {v : Nat} {vs : List Nat} : wipeE e (v :: vs) = (wipeE e vs).set v .no := rfl
@[simp] theorem pat_nm {i : Nat} {v : Val} {e : List Slot} : patSet (.nm i) v e = some (e.set i (.val v)) := rfl
@[simp] theorem pat_tp {ps : List Pat} {vs : List Val} {e : List Slot} : patSet (.tp ps) (.tup vs) e = patSets ps vs e := rfl
@[simp] theorem pats_0 {e : List Slot} : patSets [] [] e = some e := rfl
@[simp] theorem pats_s {i : Nat} {ps : List Pat} {v : Val} {vs : List Val} {e : List Slot} : patSets (.nm i :: ps) (v :: vs) e = patSets ps vs (e.set i (.val v)) := rfl
@[simp] theorem filt_t {α : Type} {l : List α} : l.filter (fun _ => true) = l := by simp
section
variable {T : Tab} {C : Call}
theorem wp_forL {st : Val → List Slot → Option (List Slot)} {body : S → R Fl} {Q : Fl → S → Prop} (I : List Val → S → Prop) : ∀ (xs done : List Val) (s : S), I done s →
    (∀ pre x post s, done ++ xs = pre ++ x :: post → I pre s → ∃ e, st x s.e = some e ∧ Wp (body ⟨e, s.h⟩) fun fl s' => match fl with
      | .nx => I (pre ++ [x]) s'
      | .ct => I (pre ++ [x]) s'
      | .bk => Q .nx s'
      | .rt v => Q (.rt v) s') → (∀ s, I (done ++ xs) s → Q .nx s) → Wp (forL st body xs s) Q
  | [], done, s, h, _, f => wp_of (by simp [forL]) (f s (by simpa using h))
  | x :: xs, done, s, h, k, f => by
    obtain ⟨e, h1, fl, s1, h2, h3⟩ := k done x xs s rfl h
    have go : I (done ++ [x]) s1 → Wp (forL st body xs s1) Q := fun h3 => wp_forL I xs (done ++ [x]) s1 h3 (fun pre y post s hp hi => k pre y post s (by rw [← hp]; simp) hi) (fun s hs => f s (by simpa using hs))
    unfold forL
    have h2 : body { s with e := e } = .ok fl s1 := h2
    simp only [h1, h2]
    cases fl with
    | nx => exact go h3
    | ct => exact go h3
    | bk => exact wp_of rfl h3
    | rt v => exact wp_of rfl h3
/-! the source is walked, then the loop stands -/
def ForK (T : Tab) (C : Call) (p : Pat) (k : Sk) (b : List IS) (Q : Fl → S → Prop) (os : List Rv) (s : S) : Prop :=
  ∃ items, noSl os = true ∧ srcItems k (os.map (deref s)) = some items ∧ Wp (forL (patSet p) (execSs T C b) items (lockAll s os)) fun fl s2 => Q fl (unlockAll s s2 os)
@[simp] theorem wp_for {p : Pat} {k : Sk} {src : List IE} {b : List IS} {e : List Slot} {h : List Cell} {Q : Fl → S → Prop} : Wp (execS T C (.for_ p k src b) ⟨e, h⟩) Q = Wp (evalOs T C src ⟨e, h⟩) (ForK T C p k b Q) := by
  rw [execS_12]
  cases evalOs T C src ⟨e, h⟩ with
  | ok os s =>
    rw [wp_ok]
    show Wp (match noSl os, srcItems k (os.map (deref s)) with
      | true, some items => (forL (patSet p) (execSs T C b) items (lockAll s os)).bnd fun fl s2 => .ok fl (unlockAll s s2 os)
      | _, _ => .bad) Q = _
    unfold ForK
    cases noSl os with
    | false =>
      show Wp .bad Q = _
      rw [wp_bad]
      exact propext ⟨False.elim, fun ⟨_, z, _⟩ => nomatch z⟩
    | true =>
      cases srcItems k (os.map (deref s)) with
      | none =>
        show Wp .bad Q = _
        rw [wp_bad]
        exact propext ⟨False.elim, fun ⟨_, _, z, _⟩ => nomatch z⟩
      | some items =>
        show Wp ((forL (patSet p) (execSs T C b) items (lockAll s os)).bnd fun fl s2 => .ok fl (unlockAll s s2 os)) Q = _
        rw [wp_bnd]
        conv => lhs; simp only [wp_ok]
        exact propext ⟨fun z => ⟨items, rfl, rfl, z⟩, fun ⟨_, _, y, z⟩ => by cases y; exact z⟩
  | exc c v s => exact wp_exc.trans wp_exc.symm
  | bad => exact wp_bad.trans wp_bad.symm
/-- the end of a turn -/
def TurnK (e : List Slot) (ix : List Nat) (I : Nat → List Slot → List Cell → Prop) (Q : Fl → S → Prop) (i : Nat) (fl : Fl) (s : S) : Prop := match fl with
  | .nx => ∃ as, Up e ix as = s.e ∧ I i as s.h
  | .ct => ∃ as, Up e ix as = s.e ∧ I i as s.h
  | .bk => Q .nx s
  | .rt v => Q (.rt v) s
section
variable {e e0 : List Slot} {ix : List Nat} {I : Nat → List Slot → List Cell → Prop} {Q : Fl → S → Prop} {i : Nat} {h : List Cell}
theorem turn_nx {as : List Slot} (he : Up e ix as = e0) (hi : I i as h) : TurnK e ix I Q i .nx ⟨e0, h⟩ := ⟨as, he, hi⟩
theorem turn_ct {as : List Slot} (he : Up e ix as = e0) (hi : I i as h) : TurnK e ix I Q i .ct ⟨e0, h⟩ := ⟨as, he, hi⟩
@[simp] theorem turn_rt {v : Val} {s : S} : TurnK e ix I Q i (.rt v) s = Q (.rt v) s := rfl
@[simp] theorem turn_bk {s : S} : TurnK e ix I Q i .bk s = Q .nx s := rfl
end
/-- a for over what stays; the slots that its turns change are told -/
theorem forK_at {p : Pat} {k : Sk} {b : List IS} {e : List Slot} {h : List Cell} {os : List Rv} {items : List Val} {Q : Fl → S → Prop} (ix : List Nat) (I : Nat → List Slot → List Cell → Prop) (as0 : List Slot)
    (q2 : srcItems k (os.map (deref ⟨e, h⟩)) = some items) (he : Up e ix as0 = e) (h0 : I 0 as0 h)
    (hb : ∀ i x as g, items[i]? = some x → I i as g → ∀ K : Fl → S → Prop, (∀ as' g', I (i + 1) as' g' → K .nx ⟨Up e ix as', g'⟩) → (∀ v s, Q (.rt v) s → K (.rt v) s) → (∀ as' g', I (i + 1) as' g' → K .ct ⟨Up e ix as', g'⟩) → (∀ s, Q .nx s → K .bk s) → ∃ e', patSet p x (Up e ix as) = some e' ∧ Wp (execSs T C b ⟨e', g⟩) K)
    (hf : ∀ as g, I items.length as g → Q .nx ⟨Up e ix as, g⟩) (q0 : noSl os = true) (hl : lockAll ⟨e, h⟩ os = ⟨e, h⟩) (hu : ∀ s2, unlockAll ⟨e, h⟩ s2 os = s2) : ForK T C p k b Q os ⟨e, h⟩ := by
  refine ⟨items, q0, q2, ?_⟩
  rw [hl]
  simp only [hu]
  refine wp_forL (fun pre s => ∃ as, s.e = Up e ix as ∧ I pre.length as s.h) items [] ⟨e, h⟩ ⟨as0, he.symm, h0⟩ (fun pre x post s hp ⟨as, h2, h3⟩ => ?_) fun s ⟨as, h2, h3⟩ => ?_
  · rw [List.nil_append] at hp
    obtain ⟨e', h4, fl, s1, h5, h6⟩ := hb pre.length x as s.h (by rw [hp]; simp) h3 (TurnK e ix I Q (pre.length + 1)) (fun as' g' z => ⟨as', rfl, z⟩) (fun v s z => z) (fun as' g' z => ⟨as', rfl, z⟩) fun s z => z
    refine ⟨e', by rw [h2]; exact h4, fl, s1, h5, ?_⟩
    cases fl with
    | nx => obtain ⟨as', z1, z2⟩ := h6; exact ⟨as', z1.symm, by rw [List.length_append]; exact z2⟩
    | ct => obtain ⟨as', z1, z2⟩ := h6; exact ⟨as', z1.symm, by rw [List.length_append]; exact z2⟩
    | bk => exact h6
    | rt v => exact h6
  · have := hf as s.h h3
    rw [← h2] at this
    exact this
theorem forK_map {α : Type} {p : Pat} {b : List IS} {e : List Slot} {h : List Cell} {o : Rv} {Q : Fl → S → Prop} (ix : List Nat) (I : Nat → List Slot → List Cell → Prop) (as0 : List Slot) (l : List α) (f : α → Val)
    (q2 : deref ⟨e, h⟩ o = .lst (l.map f) ∨ deref ⟨e, h⟩ o = .tup (l.map f)) (he : Up e ix as0 = e) (h0 : I 0 as0 h)
    (hb : ∀ i a as g, l[i]? = some a → I i as g → ∀ K : Fl → S → Prop, (∀ as' g', I (i + 1) as' g' → K .nx ⟨Up e ix as', g'⟩) → (∀ v s, Q (.rt v) s → K (.rt v) s) → (∀ as' g', I (i + 1) as' g' → K .ct ⟨Up e ix as', g'⟩) → (∀ s, Q .nx s → K .bk s) → ∃ e', patSet p (f a) (Up e ix as) = some e' ∧ Wp (execSs T C b ⟨e', g⟩) K)
    (hf : ∀ as g, I l.length as g → Q .nx ⟨Up e ix as, g⟩) (q0 : noSl [o] = true := by rfl) (hl : lockAll ⟨e, h⟩ [o] = ⟨e, h⟩ := by rfl) (hu : ∀ s2, unlockAll ⟨e, h⟩ s2 [o] = s2 := by intro s2; rfl) : ForK T C p .it b Q [o] ⟨e, h⟩ :=
  forK_at (items := l.map f) ix I as0 (by simp only [List.map_cons, List.map_nil]; rcases q2 with q2 | q2 <;> rw [q2] <;> rfl) he h0 (fun i x as g hx hi => by
    rw [List.getElem?_map] at hx
    cases q : l[i]? with
    | none => rw [q] at hx; cases hx
    | some a => rw [q] at hx; cases hx; exact hb i a as g q hi) (fun as g hi => hf as g (by rwa [List.length_map] at hi)) q0 hl hu
theorem enumV_at' : ∀ (j i : Nat) (xs : List Val), (enumV j xs)[i]? = xs[i]?.map fun x => .tup [.int ((j + i : Nat) : Int), x]
  | j, i, [] => by simp [enumV]
  | j, 0, x :: xs => by simp [enumV]
  | j, i + 1, x :: xs => by
    simp only [enumV, List.getElem?_cons_succ]
    rw [enumV_at' (j + 1) i xs, show j + 1 + i = j + (i + 1) by omega]
theorem enumV_length : ∀ (j : Nat) (xs : List Val), (enumV j xs).length = xs.length
  | j, [] => rfl
  | j, x :: xs => by simp only [enumV, List.length_cons, enumV_length (j + 1) xs]
theorem forK_enum {α : Type} {p : Pat} {b : List IS} {e : List Slot} {h : List Cell} {o : Rv} {Q : Fl → S → Prop} (ix : List Nat) (I : Nat → List Slot → List Cell → Prop) (as0 : List Slot) (l : List α) (f : α → Val)
    (q2 : deref ⟨e, h⟩ o = .lst (l.map f)) (he : Up e ix as0 = e) (h0 : I 0 as0 h)
    (hb : ∀ i a as g, l[i]? = some a → I i as g → ∀ K : Fl → S → Prop, (∀ as' g', I (i + 1) as' g' → K .nx ⟨Up e ix as', g'⟩) → (∀ v s, Q (.rt v) s → K (.rt v) s) → (∀ as' g', I (i + 1) as' g' → K .ct ⟨Up e ix as', g'⟩) → (∀ s, Q .nx s → K .bk s) → ∃ e', patSet p (.tup [.int (i : Nat), f a]) (Up e ix as) = some e' ∧ Wp (execSs T C b ⟨e', g⟩) K)
    (hf : ∀ as g, I l.length as g → Q .nx ⟨Up e ix as, g⟩) (q0 : noSl [o] = true := by rfl) (hl : lockAll ⟨e, h⟩ [o] = ⟨e, h⟩ := by rfl) (hu : ∀ s2, unlockAll ⟨e, h⟩ s2 [o] = s2 := by intro s2; rfl) : ForK T C p .enum b Q [o] ⟨e, h⟩ :=
  forK_at (items := enumV 0 (l.map f)) ix I as0 (by simp only [List.map_cons, List.map_nil]; rw [q2]; rfl) he h0 (fun i x as g hx hi => by
    rw [enumV_at', List.getElem?_map] at hx
    cases q : l[i]? with
    | none => rw [q] at hx; cases hx
    | some a => rw [q] at hx; simp only [Option.map_some, Option.some.injEq, Nat.zero_add] at hx; rw [← hx]; exact hb i a as g q hi) (fun as g hi => hf as g (by rwa [enumV_length, List.length_map] at hi)) q0 hl hu
theorem forK_rng {p : Pat} {b : List IS} {e : List Slot} {h : List Cell} {os : List Rv} {Q : Fl → S → Prop} (ix : List Nat) (I : Nat → List Slot → List Cell → Prop) (as0 : List Slot) (lo : Int) (n : Nat)
    (q2 : srcItems .rng (os.map (deref ⟨e, h⟩)) = some (rangeV lo n)) (he : Up e ix as0 = e) (h0 : I 0 as0 h)
    (hb : ∀ i as g, i < n → I i as g → ∀ K : Fl → S → Prop, (∀ as' g', I (i + 1) as' g' → K .nx ⟨Up e ix as', g'⟩) → (∀ v s, Q (.rt v) s → K (.rt v) s) → (∀ as' g', I (i + 1) as' g' → K .ct ⟨Up e ix as', g'⟩) → (∀ s, Q .nx s → K .bk s) → ∃ e', patSet p (.int (lo + (i : Nat))) (Up e ix as) = some e' ∧ Wp (execSs T C b ⟨e', g⟩) K)
    (hf : ∀ as g, I n as g → Q .nx ⟨Up e ix as, g⟩) (q0 : noSl os = true := by rfl) (hl : lockAll ⟨e, h⟩ os = ⟨e, h⟩ := by rfl) (hu : ∀ s2, unlockAll ⟨e, h⟩ s2 os = s2 := by intro s2; rfl) : ForK T C p .rng b Q os ⟨e, h⟩ :=
  forK_at (items := rangeV lo n) ix I as0 q2 he h0 (fun i x as g hx hi => by
    unfold rangeV at hx
    rw [List.getElem?_map] at hx
    by_cases hn : i < n
    · rw [List.getElem?_range hn] at hx
      simp only [Option.map_some, Option.some.injEq] at hx
      rw [← hx]
      exact hb i as g hn hi
    · rw [List.getElem?_eq_none (by simpa using hn)] at hx
      cases hx) (fun as g hi => hf as g (by simpa [rangeV] using hi)) q0 hl hu
theorem small_ok {j : Int} (h0 : -1000000 ≤ j) (h : j < 1000000000) : smallI j = true := by unfold smallI; simp; omega
theorem rng1 {j : Int} (h0 : -1000000 ≤ j) (h : j < 1000000000) : srcItems .rng [.int j] = some (rangeV 0 j.toNat) := by
  simp only [srcItems]
  rw [if_pos (small_ok h0 h)]
theorem rng2 {i j : Int} (hi0 : -1000000 ≤ i) (hi : i < 1000000000) (h0 : -1000000 ≤ j) (h : j < 1000000000) : srcItems .rng [.int i, .int j] = some (rangeV i (j - i).toNat) := by
  simp only [srcItems]
  rw [if_pos (by rw [small_ok h0 h, small_ok hi0 hi]; rfl)]
/-! comprehensions -/
def LcK (T : Tab) (C : Call) (elt : IE) (p : Pat) (k : Sk) (conds : List IE) (vs : List Nat) (Q : Rv → S → Prop) (os : List Rv) (s : S) : Prop :=
  ∃ items, srcItems k (os.map (deref s)) = some items ∧ Wp (compL (patSet p) (evalTs T C conds) (fun s => (evalE T C elt s).val) vs putL items { lockAll s os with e := wipeE (lockAll s os).e vs } []) fun acc s2 => Q (.f (.lst acc false)) (unlockAll s { s2 with e := restE s.e s2.e vs } os)
@[simp] theorem wp_lc {elt : IE} {p : Pat} {k : Sk} {src conds : List IE} {vs : List Nat} {e : List Slot} {h : List Cell} {Q : Rv → S → Prop} : Wp (evalE T C (.lc elt p k src conds vs) ⟨e, h⟩) Q = Wp (evalOs T C src ⟨e, h⟩) (LcK T C elt p k conds vs Q) := by
  rw [evalE_21]
  cases evalOs T C src ⟨e, h⟩ with
  | ok os s =>
    rw [wp_ok]
    show Wp (match srcItems k (os.map (deref s)) with
      | none => .bad
      | some items => (compL (patSet p) (evalTs T C conds) (fun s => (evalE T C elt s).val) vs putL items { lockAll s os with e := wipeE (lockAll s os).e vs } []).bnd fun acc s2 => .ok (.f (.lst acc false)) (unlockAll s { s2 with e := restE s.e s2.e vs } os)) Q = _
    unfold LcK
    cases srcItems k (os.map (deref s)) with
    | none =>
      show Wp .bad Q = _
      rw [wp_bad]
      exact propext ⟨False.elim, fun ⟨_, z, _⟩ => nomatch z⟩
    | some items =>
      show Wp (R.bnd _ _) Q = _
      rw [wp_bnd]
      conv => lhs; simp only [wp_ok]
      exact propext ⟨fun z => ⟨items, rfl, z⟩, fun ⟨_, y, z⟩ => by cases y; exact z⟩
  | exc c v s => exact wp_exc.trans wp_exc.symm
  | bad => exact wp_bad.trans wp_bad.symm
/-- a comprehension that changes nothing: c tells what is taken, y what is made of it -/
theorem comp_map {α : Type} {st : Val → List Slot → Option (List Slot)} {tst : S → R Bool} {elt : S → R Val} {vs : List Nat} {ew : List Slot} {h : List Cell} (f : α → Val) (c : α → Bool) (y : α → Val) : ∀ (l : List α) (acc : List Val),
    (∀ a ∈ l, ∃ e1, st (f a) ew = some e1 ∧ wipeE e1 vs = ew ∧ tst ⟨e1, h⟩ = .ok (c a) ⟨e1, h⟩ ∧ (c a = true → elt ⟨e1, h⟩ = .ok (y a) ⟨e1, h⟩)) → acc.length + l.length ≤ sizeLine →
      compL st tst elt vs putL (l.map f) ⟨ew, h⟩ acc = .ok (acc ++ (l.filter c).map y) ⟨ew, h⟩
  | [], acc, _, _ => by simp [compL]
  | a :: l, acc, k, hl => by
    obtain ⟨e1, h1, h2, h3, h4⟩ := k a (by simp)
    simp only [List.length_cons] at hl
    rw [List.map_cons]
    unfold compL
    cases q : c a with
    | false =>
      rw [q] at h3
      simp only [h1, h3, R.bind, h2]
      rw [comp_map f c y l acc (fun b hb => k b (by simp [hb])) (by omega), List.filter_cons_of_neg (by simp [q])]
    | true =>
      rw [q] at h3
      have hp : putL acc (y a) = some (acc ++ [y a]) := by unfold putL; rw [if_pos (by omega)]
      simp only [h1, h3, R.bind, h4 q, hp, h2]
      rw [comp_map f c y l (acc ++ [y a]) (fun b hb => k b (by simp [hb])) (by simp; omega), List.filter_cons_of_pos (by simp [q])]
      simp
theorem lcK_map {α : Type} {elt : IE} {p : Pat} {k : Sk} {conds : List IE} {vs : List Nat} {e : List Slot} {h : List Cell} {os : List Rv} {Q : Rv → S → Prop} (l : List α) (f : α → Val) (c : α → Bool) (y : α → Val)
    (q2 : srcItems k (os.map (deref ⟨e, h⟩)) = some (l.map f)) (hs : l.length ≤ sizeLine)
    (hb : ∀ a ∈ l, ∃ e1, patSet p (f a) (wipeE e vs) = some e1 ∧ wipeE e1 vs = wipeE e vs ∧ (∀ K : Bool → S → Prop, K (c a) ⟨e1, h⟩ → Wp (evalTs T C conds ⟨e1, h⟩) K) ∧ (c a = true → ∀ K : Val → S → Prop, K (y a) ⟨e1, h⟩ → Wp (evalE T C elt ⟨e1, h⟩).vl K))
    (hq : Q (.f (.lst ((l.filter c).map y) false)) ⟨e, h⟩) (hr : restE e (wipeE e vs) vs = e := by rfl) (hl : lockAll ⟨e, h⟩ os = ⟨e, h⟩ := by rfl) (hu : unlockAll ⟨e, h⟩ ⟨e, h⟩ os = ⟨e, h⟩ := by rfl) : LcK T C elt p k conds vs Q os ⟨e, h⟩ := by
  refine ⟨_, q2, ?_⟩
  rw [hl]
  have := comp_map (st := patSet p) (tst := evalTs T C conds) (elt := fun s => (evalE T C elt s).val) (vs := vs) (ew := wipeE e vs) (h := h) f c y l [] (fun a ha => by
    obtain ⟨e1, h1, h2, h3, h4⟩ := hb a ha
    exact ⟨e1, h1, h2, wp_eq (h3 _ ⟨rfl, rfl⟩), fun hc => wp_eq (h4 hc _ ⟨rfl, rfl⟩)⟩) (by simpa using hs)
  refine wp_of this ?_
  simp only [hr, hu]
  exact hq
/-- a comprehension whose parts may change cells -/
theorem comp_I {α : Type} {st : Val → List Slot → Option (List Slot)} {tst : S → R Bool} {elt : S → R Val} {vs : List Nat} {ew : List Slot} (f : α → Val) (I : Nat → List Val → List Cell → Prop) (L : List α)
    (hb : ∀ i a acc h, L[i]? = some a → I i acc h → acc.length ≤ i → ∃ e1, st (f a) ew = some e1 ∧ Wp (tst ⟨e1, h⟩) fun b s => (b = false → wipeE s.e vs = ew ∧ I (i + 1) acc s.h) ∧ (b = true → Wp (elt s) fun v s => wipeE s.e vs = ew ∧ I (i + 1) (acc ++ [v]) s.h)) :
    ∀ (l : List α) (k : Nat) (acc : List Val) (h : List Cell), (∀ i, l[i]? = L[k + i]?) → I k acc h → acc.length ≤ k → k + l.length ≤ sizeLine →
      Wp (compL st tst elt vs putL (l.map f) ⟨ew, h⟩ acc) fun acc s => s.e = ew ∧ acc.length ≤ k + l.length ∧ I (k + l.length) acc s.h
  | [], k, acc, h, _, hi, ha, _ => wp_of (by unfold compL; rfl) ⟨rfl, by simpa using ha, by simpa using hi⟩
  | a :: l, k, acc, h, hL, hi, ha, hs => by
    obtain ⟨e1, h1, b, s1, h2, h3, h4⟩ := hb k a acc h (by have := hL 0; simpa using this.symm) hi ha
    have hL' : ∀ i, l[i]? = L[k + 1 + i]? := fun i => by have := hL (i + 1); rw [show k + 1 + i = k + (i + 1) by omega]; simpa using this
    simp only [List.length_cons] at hs
    rw [List.map_cons]
    unfold compL
    cases b with
    | false =>
      obtain ⟨z1, z2⟩ := h3 rfl
      have := comp_I f I L hb l (k + 1) acc s1.h hL' z2 (by omega) (by omega)
      simp only [h1, h2, R.bind, z1]
      rw [List.length_cons, show k + (l.length + 1) = k + 1 + l.length by omega]
      exact this
    | true =>
      obtain ⟨v, s2, h5, z1, z2⟩ := h4 rfl
      have hp : putL acc v = some (acc ++ [v]) := by unfold putL; rw [if_pos (by omega)]
      have := comp_I f I L hb l (k + 1) (acc ++ [v]) s2.h hL' z2 (by simp; omega) (by omega)
      simp only [h1, h2, R.bind, h5, hp, z1]
      rw [List.length_cons, show k + (l.length + 1) = k + 1 + l.length by omega]
      exact this
theorem lcK_I {α : Type} {elt : IE} {p : Pat} {k : Sk} {conds : List IE} {vs : List Nat} {e : List Slot} {h : List Cell} {os : List Rv} {Q : Rv → S → Prop} (l : List α) (f : α → Val) (I : Nat → List Val → List Cell → Prop)
    (q2 : srcItems k (os.map (deref ⟨e, h⟩)) = some (l.map f)) (hs : l.length ≤ sizeLine) (h0 : I 0 [] h)
    (hb : ∀ i a acc g, l[i]? = some a → I i acc g → acc.length ≤ i → ∃ e1 c, patSet p (f a) (wipeE e vs) = some e1 ∧ wipeE e1 vs = wipeE e vs ∧ (∀ K : Bool → S → Prop, K c ⟨e1, g⟩ → Wp (evalTs T C conds ⟨e1, g⟩) K) ∧ (c = false → I (i + 1) acc g) ∧ (c = true → ∀ K : Val → S → Prop, (∀ v g', I (i + 1) (acc ++ [v]) g' → K v ⟨e1, g'⟩) → Wp (evalE T C elt ⟨e1, g⟩).vl K))
    (hq : ∀ acc g, acc.length ≤ l.length → I l.length acc g → Q (.f (.lst acc false)) ⟨e, g⟩) (hr : restE e (wipeE e vs) vs = e := by rfl) (hl : lockAll ⟨e, h⟩ os = ⟨e, h⟩ := by rfl) (hu : ∀ g, unlockAll ⟨e, h⟩ ⟨e, g⟩ os = ⟨e, g⟩ := by intro g; rfl) : LcK T C elt p k conds vs Q os ⟨e, h⟩ := by
  refine ⟨_, q2, ?_⟩
  rw [hl]
  have := comp_I (st := patSet p) (tst := evalTs T C conds) (elt := fun s => (evalE T C elt s).val) (vs := vs) (ew := wipeE e vs) f I l (fun i a acc g h1 h2 h3 => by
    obtain ⟨e1, c, z1, z2, z3, z4, z5⟩ := hb i a acc g h1 h2 h3
    refine ⟨e1, z1, wp_mono (z3 (fun b s => b = c ∧ s = ⟨e1, g⟩) ⟨rfl, rfl⟩) fun b s hbs => ?_⟩
    obtain ⟨rfl, rfl⟩ := hbs
    exact ⟨fun hc => ⟨z2, z4 hc⟩, fun hc => z5 hc _ fun v g' hi => ⟨z2, hi⟩⟩) l 0 [] h (fun i => by rw [Nat.zero_add]) h0 (Nat.le_refl _) (by simpa using hs)
  refine wp_mono this fun acc s ⟨z1, z2, z3⟩ => ?_
  obtain ⟨se, sh⟩ := s
  cases z1
  simp only [hr, hu]
  rw [Nat.zero_add] at z2 z3
  exact hq acc sh z2 z3
/-! while -/
@[simp] theorem wp_whl {c : IE} {b : List IS} {e : List Slot} {h : List Cell} {Q : Fl → S → Prop} : Wp (execS T C (.whl c b) ⟨e, h⟩) Q = Wp (whileL (evalB T C c) (execSs T C b) T.fuel ⟨e, h⟩) Q := by
  rw [execS_11]
theorem whl_I {c : IE} {b : List IS} {e : List Slot} {Q : Fl → S → Prop} (ix : List Nat) (I : Nat → List Slot → List Cell → Prop)
    (hb : ∀ m as g, I m as g → ∃ k, (∀ K : Bool → S → Prop, K k ⟨Up e ix as, g⟩ → Wp (evalB T C c ⟨Up e ix as, g⟩) K) ∧ (k = false → Q .nx ⟨Up e ix as, g⟩) ∧ (k = true → ∀ K : Fl → S → Prop, (∀ m' as' g', m' < m → I m' as' g' → K .nx ⟨Up e ix as', g'⟩) → (∀ v s, Q (.rt v) s → K (.rt v) s) → Wp (execSs T C b ⟨Up e ix as, g⟩) K)) : ∀ (F m : Nat) (as : List Slot) (g : List Cell), I m as g → m < F → Wp (whileL (evalB T C c) (execSs T C b) F ⟨Up e ix as, g⟩) Q
  | 0, m, as, g, _, hm => absurd hm (Nat.not_lt_zero _)
  | F + 1, m, as, g, hi, hm => by
    obtain ⟨k, h0, h2, h3⟩ := hb m as g hi
    have h1 := wp_eq (h0 _ ⟨rfl, rfl⟩)
    unfold whileL
    simp only [h1, R.bind]
    cases k with
    | false => exact wp_of rfl (h2 rfl)
    | true =>
      obtain ⟨fl, s2, h4, h5⟩ := h3 rfl (fun fl s => match fl with
        | .nx => ∃ m' as', m' < m ∧ Up e ix as' = s.e ∧ I m' as' s.h
        | .rt v => Q (.rt v) s
        | _ => False) (fun m' as' g' z1 z2 => ⟨m', as', z1, rfl, z2⟩) fun v s z => z
      simp only [h4]
      cases fl with
      | nx =>
        obtain ⟨m', as', z1, z2, z3⟩ := h5
        obtain ⟨se, sh⟩ := s2
        cases z2
        exact whl_I ix I hb F m' as' sh z3 (by omega)
      | ct => exact h5.elim
      | bk => exact h5.elim
      | rt v => exact wp_of rfl h5
theorem whl_wp {c : IE} {b : List IS} {e : List Slot} {g : List Cell} {F : Nat} {Q : Fl → S → Prop} (ix : List Nat) (I : Nat → List Slot → List Cell → Prop) (as0 : List Slot) (m0 : Nat) (he : Up e ix as0 = e) (h0 : I m0 as0 g) (hF : m0 < F)
    (hb : ∀ m as g, I m as g → ∃ k, (∀ K : Bool → S → Prop, K k ⟨Up e ix as, g⟩ → Wp (evalB T C c ⟨Up e ix as, g⟩) K) ∧ (k = false → Q .nx ⟨Up e ix as, g⟩) ∧ (k = true → ∀ K : Fl → S → Prop, (∀ m' as' g', m' < m → I m' as' g' → K .nx ⟨Up e ix as', g'⟩) → (∀ v s, Q (.rt v) s → K (.rt v) s) → Wp (execSs T C b ⟨Up e ix as, g⟩) K)) :
    Wp (whileL (evalB T C c) (execSs T C b) F ⟨e, g⟩) Q := by
  have := whl_I ix I hb F m0 as0 g h0 hF
  rw [he] at this
  exact this
end
end Rs
end
section
set_option maxRecDepth 100000
set_option maxHeartbeats 400000
/-! Forward steps of the larger parts. -/
namespace Rs
open PySem L2
section
variable {T : Tab} {C : Call} {e : List Slot} {h : List Cell}
theorem pr_ext {α : Type} {r : R α} {P Q : α → S → Prop} (h : ∀ a s, P a s = Q a s) : Wp r P = Wp r Q := by rw [show P = Q from funext fun a => funext fun s => h a s]
@[simp] theorem wp_mt {m : Mt} {o : IE} {es : List IE} {Q : Rv → S → Prop} : Wp (evalE T C (.mt m o es) ⟨e, h⟩) Q = Wp (evalE T C o ⟨e, h⟩) fun x s => mkind m (deref s (opnd x)) = true ∧ Wp (evalVs T C es s) fun vs s => Op (mtop m (deref s (opnd x)) vs) fun ro => Op (putLoc s (opnd x) ro.2) fun s2 => Q ro.1 s2 := by
  rw [evalE_25, wp_bnd]
  refine pr_ext fun x s => ?_
  cases mkind m (deref s (opnd x)) with
  | false => simp
  | true =>
    simp only [wp_bnd, true_and]
    refine pr_ext fun vs s => ?_
    cases mtop m (deref s (opnd x)) vs with
    | none => simp
    | some ro =>
      obtain ⟨r, oc⟩ := ro
      simp only [op_s]
      cases putLoc s (opnd x) oc <;> simp
/-- a method's call, once the receiver stands -/
def MeK (T : Tab) (C : Call) (cs : List Nat) (m : Nat) (es : List IE) (pm : List (Nat ⊕ Val)) (Q : Rv → S → Prop) (x : Val) (s : S) : Prop :=
  Op (insAt s x) fun t => t.2.1 ∈ cs ∧ t.2.2.lookup m = none ∧ Op (T.mth t.2.1 m) fun f => Wp (evalVs T C es s) fun vs s => Wp (C f (x :: permV vs pm) s.h) fun v s2 => Q (.v v) ⟨s.e, s2.h⟩
@[simp] theorem wp_me {cs : List Nat} {m : Nat} {o : IE} {es : List IE} {pm : List (Nat ⊕ Val)} {Q : Rv → S → Prop} : Wp (evalE T C (.me cs m o es pm) ⟨e, h⟩) Q = Wp (evalE T C o ⟨e, h⟩) (Vl (MeK T C cs m es pm Q)) := by
  rw [evalE_27, wp_bnd, wp_vl]
  refine pr_ext fun x s => ?_
  unfold Vl
  refine propext ⟨fun ⟨v, h1, h2⟩ => ⟨v, h1, ?_⟩, fun ⟨v, h1, h2⟩ => ⟨v, h1, ?_⟩⟩
  · unfold MeK
    cases q : insAt s v with
    | none => simp [q] at h2
    | some t =>
      obtain ⟨n, c, fs⟩ := t
      simp only [q] at h2
      by_cases hc : c ∈ cs
      · cases q1 : fs.lookup m with
        | some _ => simp [q1, hc] at h2
        | none =>
          cases q2 : T.mth c m with
          | none => simp [q1, q2, hc] at h2
          | some f =>
            rw [q1, q2, decide_eq_true hc] at h2
            rw [op_s]
            refine ⟨hc, q1, ?_⟩
            show Op (T.mth c m) _
            rw [q2, op_s]
            simpa using h2
      · simp [hc] at h2
  · unfold MeK at h2
    cases q : insAt s v with
    | none => simp [q] at h2
    | some t =>
      obtain ⟨n, c, fs⟩ := t
      simp only [q, op_s] at h2
      obtain ⟨hc, q1, h2⟩ := h2
      cases q2 : T.mth c m with
      | none => simp [q2] at h2
      | some f =>
        have q1 : fs.lookup m = none := q1
        have hc : c ∈ cs := hc
        simp only [q, q1, q2, decide_eq_true hc]
        rw [q2, op_s] at h2
        simpa using h2
def NewK (T : Tab) (C : Call) (c : Nat) (pm : List (Nat ⊕ Val)) (Q : Rv → S → Prop) (vs : List Val) (s : S) : Prop :=
  Op (T.ini c) fun f => Wp (C f (.ref s.h.length :: permV vs pm) (s.h ++ [.ins c []])) fun v s2 => v = .non ∧ Q (.v (.ref s.h.length)) ⟨s.e, s2.h⟩
@[simp] theorem wp_new {c : Nat} {es : List IE} {pm : List (Nat ⊕ Val)} {Q : Rv → S → Prop} : Wp (evalE T C (.new c es pm) ⟨e, h⟩) Q = Wp (evalVs T C es ⟨e, h⟩) (NewK T C c pm Q) := by
  rw [evalE_28, wp_bnd]
  refine pr_ext fun vs s => ?_
  unfold NewK
  cases T.ini c with
  | none => simp
  | some f =>
    simp only [op_s]
    cases C f (.ref s.h.length :: permV vs pm) (s.h ++ [.ins c []]) with
    | ok v s2 => cases v <;> simp
    | exc c p s2 => simp
    | bad => simp
def AttK (T : Tab) (f : Nat) (Q : Rv → S → Prop) (x : Val) (s : S) : Prop := Op (insAt s x) fun t => T.fld t.2.1 f = true ∧ Op (t.2.2.lookup f) fun v => Q (.v v) s
@[simp] theorem wp_att {o : IE} {f : Nat} {Q : Rv → S → Prop} : Wp (evalE T C (.att o f) ⟨e, h⟩) Q = Wp (evalE T C o ⟨e, h⟩) (Vl (AttK T f Q)) := by
  rw [evalE_29, wp_bnd, wp_vl]
  refine pr_ext fun x s => ?_
  unfold Vl
  refine propext ⟨fun ⟨v, h1, h2⟩ => ⟨v, h1, ?_⟩, fun ⟨v, h1, h2⟩ => ⟨v, h1, ?_⟩⟩
  · unfold AttK
    cases q : insAt s v with
    | none => simp [q] at h2
    | some t =>
      obtain ⟨n, c, fs⟩ := t
      simp only [q] at h2
      cases q1 : T.fld c f with
      | false => simp [q1] at h2
      | true => simpa [q1] using h2
  · unfold AttK at h2
    cases q : insAt s v with
    | none => simp [q] at h2
    | some t =>
      obtain ⟨n, c, fs⟩ := t
      simp only [q, op_s] at h2
      simp only [q, h2.1, if_true]
      simpa using h2.2
def PrpK (T : Tab) (C : Call) (p : Nat) (Q : Rv → S → Prop) (x : Val) (s : S) : Prop := Op (insAt s x) fun t => Op (T.prp t.2.1 p) fun f => Wp (C f [x] s.h) fun v s2 => Q (.v v) ⟨s.e, s2.h⟩
@[simp] theorem wp_prp {o : IE} {p : Nat} {Q : Rv → S → Prop} : Wp (evalE T C (.prp o p) ⟨e, h⟩) Q = Wp (evalE T C o ⟨e, h⟩) (Vl (PrpK T C p Q)) := by
  rw [evalE_30, wp_bnd, wp_vl]
  refine pr_ext fun x s => ?_
  unfold Vl
  refine propext ⟨fun ⟨v, h1, h2⟩ => ⟨v, h1, ?_⟩, fun ⟨v, h1, h2⟩ => ⟨v, h1, ?_⟩⟩
  · unfold PrpK
    cases q : insAt s v with
    | none => simp [q] at h2
    | some t =>
      obtain ⟨n, c, fs⟩ := t
      simp only [q] at h2
      cases q1 : T.prp c p with
      | none => simp [q1] at h2
      | some f => simpa [q1] using h2
  · unfold PrpK at h2
    cases q : insAt s v with
    | none => simp [q] at h2
    | some t =>
      obtain ⟨n, c, fs⟩ := t
      simp only [q, op_s] at h2
      cases q1 : T.prp c p with
      | none => simp [q1] at h2
      | some f =>
        simp only [q, q1]
        rw [q1, op_s] at h2
        simpa using h2
def InK (T : Tab) (C : Call) (ng : Bool) (m : Nat) (Q : Rv → S → Prop) (x y : Val) (s : S) : Prop := Op (insAt s y) fun t => Op (T.mth t.2.1 m) fun f => Wp (C f [y, x] s.h) fun v s2 => Op (asB v) fun b => Q (.v (.bl (b != ng))) ⟨s.e, s2.h⟩
@[simp] theorem wp_in {ng : Bool} {m : Nat} {a o : IE} {Q : Rv → S → Prop} : Wp (evalE T C (.inown ng m a o) ⟨e, h⟩) Q = Wp (evalE T C a ⟨e, h⟩) (Vl fun x s => Wp (evalE T C o s) (Vl (InK T C ng m Q x))) := by
  rw [evalE_31, wp_bnd, wp_vl]
  refine congrArg (fun k => Wp (evalE T C a ⟨e, h⟩) (Vl k)) (funext fun x => funext fun s => ?_)
  rw [wp_bnd, wp_vl]
  refine congrArg (fun k => Wp (evalE T C o s) (Vl k)) (funext fun y => funext fun s => ?_)
  unfold InK
  cases insAt s y with
  | none => simp
  | some t =>
    obtain ⟨n, c, fs⟩ := t
    simp only [op_s]
    cases T.mth c m with
    | none => simp
    | some f =>
      simp only [op_s]
      cases C f [y, x] s.h with
      | ok v s2 =>
        obtain ⟨e2, h2⟩ := s2
        cases v <;> simp [asB]
      | exc c p s2 => obtain ⟨e2, h2⟩ := s2; simp
      | bad => simp
def LenK (T : Tab) (C : Call) (m : Nat) (Q : Rv → S → Prop) (y : Val) (s : S) : Prop := Op (insAt s y) fun t => Op (T.mth t.2.1 m) fun f => Wp (C f [y] s.h) fun v s2 => ∃ i : Int, v = .int i ∧ 0 ≤ i ∧ i < 2 ^ 63 ∧ Q (.v (.int i)) ⟨s.e, s2.h⟩
@[simp] theorem wp_len {m : Nat} {o : IE} {Q : Rv → S → Prop} : Wp (evalE T C (.lenown m o) ⟨e, h⟩) Q = Wp (evalE T C o ⟨e, h⟩) (Vl (LenK T C m Q)) := by
  rw [evalE_32, wp_bnd, wp_vl]
  refine congrArg (fun k => Wp (evalE T C o ⟨e, h⟩) (Vl k)) (funext fun y => funext fun s => ?_)
  unfold LenK
  cases insAt s y with
  | none => simp
  | some t =>
    obtain ⟨n, c, fs⟩ := t
    simp only [op_s]
    cases T.mth c m with
    | none => simp
    | some f =>
      simp only [op_s]
      cases C f [y] s.h with
      | ok v s2 =>
        obtain ⟨e2, h2⟩ := s2
        cases v with
        | int i =>
          simp only [bck_ok, wp_ok]
          by_cases hc : (decide (0 ≤ i) && decide (i < 2 ^ 63)) = true
          · rw [if_pos hc, wp_ok]
            simp only [Bool.and_eq_true, decide_eq_true_eq] at hc
            exact propext ⟨fun q => ⟨i, rfl, hc.1, hc.2, q⟩, fun ⟨j, z, _, _, q⟩ => by cases z; exact q⟩
          · rw [if_neg hc, wp_bad]
            simp only [Bool.and_eq_true, decide_eq_true_eq] at hc
            exact propext ⟨False.elim, fun ⟨j, z, a, b, q⟩ => by cases z; exact hc ⟨a, b⟩⟩
        | _ => simp
      | exc c p s2 => obtain ⟨e2, h2⟩ := s2; simp
      | bad => simp
def HeapK (Q : Rv → S → Prop) (x : Rv) (s : S) : Prop := match x with
  | .f c => Q (.v (.ref s.h.length)) { s with h := s.h ++ [c] }
  | _ => False
@[simp] theorem heapK_f {Q : Rv → S → Prop} {c : Cell} : HeapK Q (.f c) ⟨e, h⟩ = Q (.v (.ref h.length)) ⟨e, h ++ [c]⟩ := rfl
@[simp] theorem wp_heap {a : IE} {Q : Rv → S → Prop} : Wp (evalE T C (.heap a) ⟨e, h⟩) Q = Wp (evalE T C a ⟨e, h⟩) (HeapK Q) := by
  rw [evalE_33, wp_bnd]
  refine pr_ext fun x s => ?_
  cases x with
  | f c => exact wp_ok
  | v x => exact wp_bad
  | sl i => exact wp_bad
@[simp] theorem wp_dsp {es : List IE} {Q : Rv → S → Prop} : Wp (evalE T C (.dsp es) ⟨e, h⟩) Q = Wp (evalVs T C es ⟨e, h⟩) fun vs s => Op (kvsOf vs) fun kvs => Q (.f (.dct (dmerge [] kvs) false)) s := by
  rw [evalE_20, wp_bnd]
  refine pr_ext fun vs s => ?_
  cases kvsOf vs <;> simp
/-! targets -/
def TpK (T : Tab) (C : Call) (ts : List Tgt) (Q : Unit → S → Prop) (v : Val) (s : S) : Prop := ∃ vs, v = .tup vs ∧ Wp (tgtSets T C ts vs s) Q
@[simp] theorem tpK_t {ts : List Tgt} {vs : List Val} {Q : Unit → S → Prop} {s : S} : TpK T C ts Q (.tup vs) s = Wp (tgtSets T C ts vs s) Q := propext ⟨fun ⟨_, z, q⟩ => by cases z; exact q, fun q => ⟨_, rfl, q⟩⟩
@[simp] theorem wp_tp {ts : List Tgt} {v : Val} {Q : Unit → S → Prop} : Wp (tgtSet T C (.tp ts) v ⟨e, h⟩) Q = TpK T C ts Q v ⟨e, h⟩ := by
  rw [tgtSet_2]
  unfold TpK
  cases v with
  | tup vs => exact propext ⟨fun q => ⟨vs, rfl, q⟩, fun ⟨_, z, q⟩ => by cases z; exact q⟩
  | _ => exact wp_bad.trans (propext ⟨False.elim, fun ⟨_, z, _⟩ => nomatch z⟩)
/-- a store at a place of a list or a dict -/
def subV (o k v : Val) : Option Cell := match o with
  | .lst xs => match k with
    | .int i => (ixN xs.length i).map fun j => .lst (xs.set j v) false
    | _ => none
  | .dct kvs => match keyV k with
    | some k => if kvs.length < sizeLine then some (.dct (dput kvs k v) false) else none
    | none => none
  | _ => none
@[simp] theorem wp_sub {o k : IE} {v : Val} {Q : Unit → S → Prop} : Wp (tgtSet T C (.sub o k) v ⟨e, h⟩) Q = Wp (evalE T C o ⟨e, h⟩) fun x s => Wp (evalE T C k s) (Vl fun i s => Op (subV (deref s (opnd x)) i v) fun c => Op (setLoc s (opnd x) c) fun s => Q () s) := by
  rw [tgtSet_3, wp_bnd]
  refine pr_ext fun x s => ?_
  rw [wp_bnd, wp_vl]
  refine congrArg (fun k' => Wp (evalE T C k s) (Vl k')) (funext fun y => funext fun s => ?_)
  unfold subV
  cases deref s (opnd x) with
  | lst xs =>
    cases y with
    | int i =>
      cases q0 : ixN xs.length i with
      | none => simp [q0]
      | some j => cases q : setLoc s (opnd x) (.lst (xs.set j v) false) <;> simp [q0, q]
    | _ => simp
  | dct kvs =>
    simp only []
    cases keyV y with
    | none => simp
    | some k =>
      simp only []
      by_cases hl : kvs.length < sizeLine
      · rw [if_pos hl, if_pos hl]
        cases q : setLoc s (opnd x) (.dct (dput kvs k v) false) <;> simp [q]
      · rw [if_neg hl, if_neg hl]; simp
  | _ => simp
def SetAK (T : Tab) (f : Nat) (v : Val) (Q : Unit → S → Prop) (x : Val) (s : S) : Prop := Op (insAt s x) fun t => T.fld t.2.1 f = true ∧ t.2.2.length < 900 ∧ Q () { s with h := s.h.set t.1 (.ins t.2.1 (putFs f v t.2.2)) }
@[simp] theorem wp_setA {o : IE} {f : Nat} {v : Val} {Q : Unit → S → Prop} : Wp (tgtSet T C (.att o f) v ⟨e, h⟩) Q = Wp (evalE T C o ⟨e, h⟩) (Vl (SetAK T f v Q)) := by
  rw [tgtSet_4, wp_bnd, wp_vl]
  refine congrArg (fun k => Wp (evalE T C o ⟨e, h⟩) (Vl k)) (funext fun x => funext fun s => ?_)
  unfold SetAK
  cases insAt s x with
  | none => simp
  | some t =>
    obtain ⟨n, c, fs⟩ := t
    simp only [op_s]
    by_cases hc : (T.fld c f && decide (fs.length < 900)) = true
    · rw [if_pos hc, wp_ok]
      simp only [Bool.and_eq_true, decide_eq_true_eq] at hc
      simp [hc]
    · rw [if_neg hc, wp_bad]
      simp only [Bool.and_eq_true, decide_eq_true_eq] at hc
      exact propext ⟨False.elim, fun ⟨a, b, _⟩ => hc ⟨a, b⟩⟩
/-! statements -/
def OwnK (i : Nat) (Q : Fl → S → Prop) (x : Rv) (s : S) : Prop := match x with
  | .f c => Q .nx { s with e := s.e.set i (.own c) }
  | _ => False
@[simp] theorem ownK_f {i : Nat} {Q : Fl → S → Prop} {c : Cell} : OwnK i Q (.f c) ⟨e, h⟩ = Q .nx ⟨e.set i (.own c), h⟩ := rfl
@[simp] theorem wp_own {i : Nat} {a : IE} {Q : Fl → S → Prop} : Wp (execS T C (.own i a) ⟨e, h⟩) Q = Wp (evalE T C a ⟨e, h⟩) (OwnK i Q) := by
  rw [execS_3, wp_bnd]
  refine pr_ext fun x s => ?_
  cases x with
  | f c => exact wp_ok
  | v x => exact wp_bad
  | sl i => exact wp_bad
@[simp] theorem wp_par {i j : Nat} {oi oj : Bool} {a b : IE} {Q : Fl → S → Prop} : Wp (execS T C (.par i j oi oj a b) ⟨e, h⟩) Q = Wp (evalE T C a ⟨e, h⟩) fun x s => Wp (evalE T C b s) fun y s => Op (put1 oi x) fun u => Op (put1 oj y) fun v => Q .nx ⟨(s.e.set i u).set j v, s.h⟩ := by
  rw [execS_4, wp_bnd]
  refine pr_ext fun x s => ?_
  rw [wp_bnd]
  refine pr_ext fun y s => ?_
  cases put1 oi x with
  | none => simp
  | some u => cases put1 oj y <;> simp
@[simp] theorem wp_par3 {i j l : Nat} {oi oj ol : Bool} {a b c : IE} {Q : Fl → S → Prop} : Wp (execS T C (.par3 i j l oi oj ol a b c) ⟨e, h⟩) Q = Wp (evalE T C a ⟨e, h⟩) fun x s => Wp (evalE T C b s) fun y s => Wp (evalE T C c s) fun z s => Op (put1 oi x) fun u => Op (put1 oj y) fun v => Op (put1 ol z) fun w => Q .nx ⟨((s.e.set i u).set j v).set l w, s.h⟩ := by
  rw [execS_5, wp_bnd]
  refine pr_ext fun x s => ?_
  rw [wp_bnd]
  refine pr_ext fun y s => ?_
  rw [wp_bnd]
  refine pr_ext fun z s => ?_
  cases put1 oi x with
  | none => simp
  | some u =>
    cases put1 oj y with
    | none => simp
    | some v => cases put1 ol z <;> simp
def AugK (T : Tab) (C : Call) (i : Nat) (op : Bop) (a : IE) (Q : Fl → S → Prop) (x : Slot) (s : S) : Prop := match x with
  | .val x => Wp (evalE T C a s) fun y s => Op (iop op x (deref s (opnd y))) fun r => Op (freeze r) fun z => Q .nx { s with e := s.e.set i (.val z) }
  | _ => False
@[simp] theorem augK_v {i : Nat} {op : Bop} {a : IE} {Q : Fl → S → Prop} {x : Val} {s : S} : AugK T C i op a Q (.val x) s = Wp (evalE T C a s) fun y s => Op (iop op x (deref s (opnd y))) fun r => Op (freeze r) fun z => Q .nx { s with e := s.e.set i (.val z) } := rfl
@[simp] theorem wp_aug {i : Nat} {op : Bop} {a : IE} {Q : Fl → S → Prop} : Wp (execS T C (.aug i op a) ⟨e, h⟩) Q = AugK T C i op a Q (e.getD i .no) ⟨e, h⟩ := by
  rw [execS_6]
  show Wp (match slotOf ⟨e, h⟩ i with
    | .val x => (evalE T C a ⟨e, h⟩).bnd fun y s => (R.op (iop op x (deref s (opnd y))) s).vl.bnd fun z s => .ok .nx { s with e := s.e.set i (.val z) }
    | _ => .bad) Q = _
  rw [slotOf_mk]
  cases e.getD i .no with
  | val x =>
    simp only [wp_bnd, augK_v]
    refine pr_ext fun y s => ?_
    rw [wp_vl]
    cases iop op x (deref s (opnd y)) with
    | none => simp
    | some r =>
      simp only [wp_op, op_s, wp_ok]
      unfold Vl Op
      rfl
  | own c => exact wp_bad
  | no => exact wp_bad
def AugAK (T : Tab) (C : Call) (f : Nat) (op : Bop) (a : IE) (Q : Fl → S → Prop) (x : Val) (s : S) : Prop :=
  Op (insAt s x) fun t => T.fld t.2.1 f = true ∧ Op (t.2.2.lookup f) fun old => Wp (evalE T C a s) (Vl fun y s => Op (iop op old y) fun r => Op (freeze r) fun z => Op (insAt s x) fun t2 => t2.2.1 = t.2.1 ∧ t2.2.2.length < 900 ∧ Q .nx { s with h := s.h.set t2.1 (.ins t2.2.1 (putFs f z t2.2.2)) })
@[simp] theorem wp_augA {o : IE} {f : Nat} {op : Bop} {a : IE} {Q : Fl → S → Prop} : Wp (execS T C (.augA o f op a) ⟨e, h⟩) Q = Wp (evalE T C o ⟨e, h⟩) (Vl (AugAK T C f op a Q)) := by
  rw [execS_8, wp_bnd, wp_vl]
  refine congrArg (fun k => Wp (evalE T C o ⟨e, h⟩) (Vl k)) (funext fun x => funext fun s => ?_)
  unfold AugAK
  cases insAt s x with
  | none => simp
  | some t =>
    obtain ⟨n, c, fs⟩ := t
    simp only [op_s]
    cases T.fld c f with
    | false => cases fs.lookup f <;> simp
    | true =>
      simp only [true_and]
      cases fs.lookup f with
      | none => simp
      | some old =>
        simp only [op_s, wp_bnd, wp_vl]
        refine congrArg (fun k => Wp (evalE T C a s) (Vl k)) (funext fun y => funext fun s => ?_)
        cases iop op old y with
        | none => simp
        | some r =>
          simp only [wp_op, op_s]
          unfold Vl
          show (∃ v, freeze r = some v ∧ _) = Op (freeze r) _
          unfold Op
          refine propext ⟨fun ⟨z, h1, h2⟩ => ⟨z, h1, ?_⟩, fun ⟨z, h1, h2⟩ => ⟨z, h1, ?_⟩⟩
          · cases q : insAt s x with
            | none => simp [q] at h2
            | some t2 =>
              obtain ⟨n2, c2, fs2⟩ := t2
              simp only [q] at h2
              refine ⟨_, rfl, ?_⟩
              by_cases hc : (decide (c2 = c) && decide (fs2.length < 900)) = true
              · rw [if_pos hc, wp_ok] at h2
                simp only [Bool.and_eq_true, decide_eq_true_eq] at hc
                exact ⟨hc.1, hc.2, by have := hc.1; subst this; exact h2⟩
              · rw [if_neg hc, wp_bad] at h2; exact h2.elim
          · obtain ⟨⟨n2, c2, fs2⟩, q, h3, h4, h5⟩ := h2
            simp only [q]
            have h3 : c2 = c := h3
            have h4 : fs2.length < 900 := h4
            subst h3
            rw [if_pos (by simp; exact h4), wp_ok]
            exact h5
@[simp] theorem wp_augS {o k : IE} {op : Bop} {a : IE} {Q : Fl → S → Prop} : Wp (execS T C (.augS o k op a) ⟨e, h⟩) Q = Wp (evalE T C o ⟨e, h⟩) fun x s => Wp (evalE T C k s) (Vl fun i s => Op (vsub (deref s (opnd x)) i) fun old => Wp (evalE T C a s) (Vl fun y s => Op (iop op old y) fun r => Op (freeze r) fun z => ∃ xs j, deref s (opnd x) = .lst xs ∧ i = .int j ∧ Op (ixN xs.length j) fun q => Op (setLoc s (opnd x) (.lst (xs.set q z) false)) fun s => Q .nx s)) := by
  rw [execS_7, wp_bnd]
  refine pr_ext fun x s => ?_
  rw [wp_bnd, wp_vl]
  refine congrArg (fun k' => Wp (evalE T C k s) (Vl k')) (funext fun i => funext fun s => ?_)
  cases vsub (deref s (opnd x)) i with
  | none => simp
  | some old =>
    simp only [op_s, wp_bnd, wp_vl]
    refine congrArg (fun k => Wp (evalE T C a s) (Vl k)) (funext fun y => funext fun s => ?_)
    cases iop op old y with
    | none => simp
    | some r =>
      simp only [wp_op, op_s]
      show (∃ v, freeze r = some v ∧ _) = Op (freeze r) _
      unfold Op
      refine propext ⟨fun ⟨z, h1, h2⟩ => ⟨z, h1, ?_⟩, fun ⟨z, h1, h2⟩ => ⟨z, h1, ?_⟩⟩
      · simp only [] at h2
        cases hd : deref s (opnd x) with
        | lst xs =>
          cases i with
          | int j =>
            refine ⟨xs, j, rfl, rfl, ?_⟩
            simp only [hd] at h2
            cases q : ixN xs.length j with
            | none => simp [q] at h2
            | some p =>
              refine ⟨p, rfl, ?_⟩
              simp only [q] at h2
              cases q2 : setLoc s (opnd x) (.lst (xs.set p z) false) with
              | none => simp [q2] at h2
              | some s2 => exact ⟨s2, q2, by simpa [q2] using h2⟩
          | _ => simp [hd] at h2
        | _ => simp [hd] at h2
      · obtain ⟨xs, j, h3, rfl, p, h4, s2, h5, h6⟩ := h2
        simp only [h3, h4, h5, bnd_ok, op_some, wp_ok]
        exact h6
@[simp] theorem wp_del {o k : IE} {Q : Fl → S → Prop} : Wp (execS T C (.del o k) ⟨e, h⟩) Q = Wp (evalE T C o ⟨e, h⟩) fun x s => Wp (evalE T C k s) (Vl fun i s => ∃ kvs k, deref s (opnd x) = .dct kvs ∧ keyV i = some k ∧ (dget kvs k).isSome = true ∧ Op (setLoc s (opnd x) (.dct (ddrop kvs k) false)) fun s => Q .nx s) := by
  rw [execS_9, wp_bnd]
  refine pr_ext fun x s => ?_
  rw [wp_bnd, wp_vl]
  refine congrArg (fun k' => Wp (evalE T C k s) (Vl k')) (funext fun i => funext fun s => ?_)
  refine propext ⟨fun h2 => ?_, fun ⟨kvs, k, h1, h2, h3, h4⟩ => ?_⟩
  · split at h2
    · rename_i kvs k h3 h4
      refine ⟨kvs, k, h3, h4, ?_⟩
      by_cases hc : (dget kvs k).isSome = true
      · rw [if_pos hc] at h2
        refine ⟨hc, ?_⟩
        simpa using h2
      · rw [if_neg hc] at h2; simp at h2
    · simp at h2
  · simp only [h1, h2, h3, if_true]
    simpa using h4
/-! values stored by op= -/
@[simp] theorem iop_add {i j : Int} : iop .add (.int i) (.int j) = some (.v (.int (i + j))) := rfl
@[simp] theorem iop_sub {i j : Int} : iop .sub (.int i) (.int j) = some (.v (.int (i - j))) := rfl
end
end Rs
end
section
set_option maxRecDepth 100000
set_option maxHeartbeats 4000000
/-! Names, things, events, rows that are drawn. -/
namespace Rs
open PySem L2
def base1 : List Str := ["a", "b", "c", "d", "e", "f", "g", "h", "jug", "lamp", "map"]
def base2 : List Str := ["call", "void", "zz", "quilts", "abcdefgh", "n", "m", "rook", "waxy"]
def baseN : List Str := base1 ++ base2
theorem baseN_nodup : baseN.Nodup := by decide +kernel
theorem baseN_len : baseN.length = 20 := rfl
def arr (k : Nat) (rev : Bool) : List Str := if rev then (baseN.drop k ++ baseN.take k).reverse else baseN.drop k ++ baseN.take k
theorem arr_perm (k : Nat) (rev : Bool) : (arr k rev).Perm baseN := by
  have h : (baseN.drop k ++ baseN.take k).Perm baseN := List.perm_append_comm.trans (by rw [List.take_append_drop])
  unfold arr
  cases rev with
  | false => simpa using h
  | true => simpa using (List.reverse_perm _).trans h
structure NamesOK (ns : List Str) (m : Int) : Prop where
  nd : ns.Nodup
  sub : ∀ x ∈ ns, x ∈ baseN
  len : ns.length = min m.toNat 20
theorem cut_map_str (xs : List Str) (m : Int) (h : 0 ≤ m) : cut (xs.map Val.str) none (some m) = (xs.take m.toNat).map Val.str := by
  unfold cut
  have h1 : ∀ n d : Nat, HT.sIx n d (some m) = min m.toNat n := fun n d => by
    show (if m < 0 then (m + (n : Int)).toNat else min m.toNat n) = _
    rw [if_neg (by omega)]
  rw [HT.sIx_none, h1]
  simp
theorem drop_cut (xs : List Val) (k : Nat) (h : k ≤ xs.length) : cut xs (some (k : Int)) none = xs.drop k := by
  unfold cut
  rw [HT.sIx_none, HT.sIx_nat, Nat.min_eq_left h]
  simp [execSs_2, execS_10, evalE_20, evalE_25, evalE_27, evalE_28, evalE_29, evalE_30, evalE_31, evalE_32, evalE_33, tgtSet_2, tgtSet_3, tgtSet_4, execS_3, execS_4, execS_5, execS_6, execS_7, execS_8, execS_9, List.take_of_length_le]
theorem take_cut (xs : List Val) (k : Nat) (h : k ≤ xs.length) : cut xs none (some (k : Int)) = xs.take k := by
  unfold cut
  rw [HT.sIx_none, HT.sIx_nat, Nat.min_eq_left h]
  simp
section
variable {T : Tab} {fs : List Fd}
theorem names_ok (g : HasGen fs) (n : Nat) (h : List Cell) (i : Nat) (m : Int) (hc : IsFeed h i) (h0 : 0 ≤ m) :
    ∃ ns d' x' e2, callI T fs (n + 3) 3 [.ref i, .int m] h = .ok (.lst (ns.map Val.str)) ⟨e2, h.set i (fc d' x')⟩ ∧ NamesOK ns m := by
  obtain ⟨r, d1, x1, e1, k1, g1, g2⟩ := take_ok (T := T) g.f1 (n + 1) h i 4 hc (by omega) (by omega)
  obtain ⟨y, d2, x2, e2, k2, g3⟩ := pick_ok (T := T) g.f1 g.f2 n _ i [.int 1, .int (-1)] (hc.set d1 x1) (by simp) (by simp)
  rw [List.set_set] at k2
  obtain ⟨k, rfl⟩ := Int.eq_ofNat_of_zero_le g1
  have hk : k ≤ (baseN.map Val.str).length := by simp [execSs_2, execS_10, evalE_20, evalE_25, evalE_27, evalE_28, evalE_29, evalE_30, evalE_31, evalE_32, evalE_33, tgtSet_2, tgtSet_3, tgtSet_4, execS_3, execS_4, execS_5, execS_6, execS_7, execS_8, execS_9, baseN_len]; omega
  obtain ⟨rev, hr⟩ : ∃ rev : Bool, y = .int (if rev then -1 else 1) := by
    rcases List.mem_cons.mp g3 with rfl | g3
    · exact ⟨false, rfl⟩
    · exact ⟨true, by simpa using g3⟩
  subst hr
  refine ⟨(arr k rev).take m.toNat, d2, x2, ?_⟩
  refine ⟨_, call_rt (env := [.val (.ref i), .val (.int m), .no, .no]) (s2 := ⟨[.val (.ref i), .val (.int m), .val (.lst (baseN.map Val.str)), .val (.int (k : Int))], h.set i (fc d2 x2)⟩) g.f3 rfl rfl ?_, ⟨((arr_perm k rev).nodup_iff.mpr baseN_nodup).sublist (List.take_sublist _ _), fun x hx => (arr_perm k rev).mem_iff.mp (List.mem_of_mem_take hx), ?_⟩⟩
  case refine_2 => rw [List.length_take, (arr_perm k rev).length_eq, baseN_len]
  show execSs T (callI T fs (n + 2)) is__law_names _ = _
  unfold is__law_names
  rw [seq_nx (s1 := ⟨[.val (.ref i), .val (.int m), .val (.lst (base1.map Val.str)), .no], h⟩) (by rfl)]
  rw [seq_nx (s1 := ⟨[.val (.ref i), .val (.int m), .val (.lst (baseN.map Val.str)), .no], h⟩) (by rfl)]
  rw [seq_nx (s1 := ⟨[.val (.ref i), .val (.int m), .val (.lst (baseN.map Val.str)), .val (.int (k : Int))], h.set i (fc d1 x1)⟩) (by
    simp [execSs_2, execS_10, evalE_20, evalE_25, evalE_27, evalE_28, evalE_29, evalE_30, evalE_31, evalE_32, evalE_33, tgtSet_2, tgtSet_3, tgtSet_4, execS_3, execS_4, execS_5, execS_6, execS_7, execS_8, execS_9, k1])]
  have c1 : cut (baseN.map Val.str) (some (k : Int)) none = (baseN.drop k).map Val.str := by rw [drop_cut _ _ hk, List.map_drop]
  have c2 : cut (baseN.map Val.str) none (some (k : Int)) = (baseN.take k).map Val.str := by rw [take_cut _ _ hk, List.map_take]
  have hl : ((baseN.drop k).map Val.str).length + ((baseN.take k).map Val.str).length ≤ sizeLine := by
    have : (20 : Nat) ≤ sizeLine := by decide
    simp only [List.length_drop, List.length_take, List.length_map, baseN_len]
    omega
  have c3 : (baseN.drop k).map Val.str ++ (baseN.take k).map Val.str = (arr k false).map Val.str := by rw [← List.map_append]; rfl
  have c4 : ((arr k false).map Val.str).reverse = (arr k true).map Val.str := by rw [← List.map_reverse]; rfl
  cases rev with
  | false => simp [execSs_2, execS_10, evalE_20, evalE_25, evalE_27, evalE_28, evalE_29, evalE_30, evalE_31, evalE_32, evalE_33, tgtSet_2, tgtSet_3, tgtSet_4, execS_3, execS_4, execS_5, execS_6, execS_7, execS_8, execS_9, k2, partV, vslice, vstep, binop, hl, c1, c2, c3, cut_map_str _ _ h0, -List.length_map, -List.map_append, -List.map_take, -List.map_drop, -List.length_drop, -List.length_take]
  | true => simp [execSs_2, execS_10, evalE_20, evalE_25, evalE_27, evalE_28, evalE_29, evalE_30, evalE_31, evalE_32, evalE_33, tgtSet_2, tgtSet_3, tgtSet_4, execS_3, execS_4, execS_5, execS_6, execS_7, execS_8, execS_9, k2, partV, vslice, vstep, binop, hl, c1, c2, c3, c4, cut_map_str _ _ h0, -List.length_map, -List.map_append, -List.map_take, -List.map_reverse, -List.map_drop, -List.length_drop, -List.length_take]

/-- the menus of prices -/
theorem things_ok (g : HasGen fs) (n : Nat) (h : List Cell) (i : Nat) (m : Int) (hc : IsFeed h i) (h0 : 0 ≤ m) :
    ∃ (kps : List (Str × Int)) (d' x' : Int) (e2 : List Slot), callI T fs (n + 4) 4 [.ref i, .int m] h = .ok (.dct (kps.map fun kp => (.inr kp.1, .int kp.2))) ⟨e2, h.set i (fc d' x')⟩ ∧ NamesOK (kps.map (·.1)) m ∧ ∀ kp ∈ kps, 1 ≤ kp.2 ∧ kp.2 ≤ 1000000 := by
  have q1 := pick_ok (T := T) g.f1 g.f2 (n + 1) h i [.lst [.int 1], .lst [.int 7], .lst [.int 1, .int 2, .int 3], .lst [.int 1, .int 2, .int 4, .int 8, .int 16], .lst [.int 5, .int 6, .int 7], .lst [.int 1, .int 1000000], .lst [.int 999999, .int 1000000, .int 3, .int 1]] hc (by simp) (by simp)
  obtain ⟨y, d1, x1, e1, k1, g1⟩ := q1
  have hy : ∃ ps : List Int, y = .lst (ps.map .int) ∧ ps ≠ [] ∧ ps.length < 10 ∧ ∀ p ∈ ps, 1 ≤ p ∧ p ≤ 1000000 := by
    simp only [List.mem_cons, List.not_mem_nil, or_false] at g1
    rcases g1 with rfl | rfl | rfl | rfl | rfl | rfl | rfl
    · exact ⟨[1], rfl, by decide, by decide, by decide⟩
    · exact ⟨[7], rfl, by decide, by decide, by decide⟩
    · exact ⟨[1, 2, 3], rfl, by decide, by decide, by decide⟩
    · exact ⟨[1, 2, 4, 8, 16], rfl, by decide, by decide, by decide⟩
    · exact ⟨[5, 6, 7], rfl, by decide, by decide, by decide⟩
    · exact ⟨[1, 1000000], rfl, by decide, by decide, by decide⟩
    · exact ⟨[999999, 1000000, 3, 1], rfl, by decide, by decide, by decide⟩
  obtain ⟨ps, rfl, hp0, hp1, hp2⟩ := hy
  obtain ⟨ns, d2, x2, e2, k2, N⟩ := names_ok (T := T) g n _ i m (hc.set d1 x1) h0
  rw [List.set_set] at k2
  have hn : ns.length ≤ 20 := by rw [N.len]; exact Nat.min_le_right _ _
  obtain ⟨ys, d3, x3, k3, hy⟩ := comp_feed (st := patSet (.nm 3)) (tst := evalTs T (callI T fs (n + 3)) []) (elt := fun s => (evalE T (callI T fs (n + 3)) (.tup [(.var 3), (.fn 2 [(.var 0), (.var 2)] [])]) s).val) (vs := [3]) (e0 := [.val (.ref i), .val (.int m), .val (.lst (ps.map .int)), .no]) (i := i) (h0 := h)
    (fun it y => ∃ z : Int, (∃ nm, it = .str nm ∧ y = .tup [.str nm, .int z]) ∧ 1 ≤ z ∧ z ≤ 1000000) (ns.map .str) [] d2 x2 (fun it hit d x => by
      obtain ⟨nm, hnm, rfl⟩ := List.mem_map.mp hit
      obtain ⟨z, d', x', e', k', hz⟩ := pick_ok (T := T) g.f1 g.f2 (n + 1) (h.set i (fc d x)) i (ps.map .int) (hc.set d x) (by simpa using hp0) (by simp; omega)
      rw [List.set_set] at k'
      obtain ⟨p, hp, rfl⟩ := List.mem_map.mp hz
      refine ⟨[.val (.ref i), .val (.int m), .val (.lst (ps.map .int)), .val (.str nm)], _, d', x', by simp [execSs_2, execS_10, evalE_20, evalE_25, evalE_27, evalE_28, evalE_29, evalE_30, evalE_31, evalE_32, evalE_33, tgtSet_2, tgtSet_3, tgtSet_4, execS_3, execS_4, execS_5, execS_6, execS_7, execS_8, execS_9, patSet], by simp, ?_, by simp [execSs_2, execS_10, evalE_20, evalE_25, evalE_27, evalE_28, evalE_29, evalE_30, evalE_31, evalE_32, evalE_33, tgtSet_2, tgtSet_3, tgtSet_4, execS_3, execS_4, execS_5, execS_6, execS_7, execS_8, execS_9, wipeE], ⟨p, ⟨nm, rfl, rfl⟩, hp2 p hp⟩⟩
      show (evalE T _ _ _).vl = _
      simp [execSs_2, execS_10, evalE_20, evalE_25, evalE_27, evalE_28, evalE_29, evalE_30, evalE_31, evalE_32, evalE_33, tgtSet_2, tgtSet_3, tgtSet_4, execS_3, execS_4, execS_5, execS_6, execS_7, execS_8, execS_9, k']) (by
        have : (20 : Nat) ≤ sizeLine := by decide
        simp; omega)
  have hz : ∃ kps : List (Str × Int), ys = kps.map (fun kp => .tup [.str kp.1, .int kp.2]) ∧ kps.map (·.1) = ns ∧ ∀ kp ∈ kps, 1 ≤ kp.2 ∧ kp.2 ≤ 1000000 := by
    clear k3 k2 N hn
    revert ys
    induction ns with
    | nil => intro ys hy; cases ys with
      | nil => exact ⟨[], rfl, rfl, by simp⟩
      | cons a b => exact hy.elim
    | cons a ns ih => intro ys hy; cases ys with
      | nil => exact hy.elim
      | cons y ys =>
        obtain ⟨⟨z, ⟨nm, e1, e2⟩, h1⟩, h2⟩ := hy
        cases e1
        obtain ⟨kps, e3, e4, h3⟩ := ih ys h2
        exact ⟨(a, z) :: kps, by rw [e2, e3]; rfl, by rw [← e4]; rfl, fun kp hk => (List.mem_cons.mp hk).elim (fun e => e ▸ h1) (h3 kp)⟩
  obtain ⟨kps, rfl, rfl, hk⟩ := hz
  refine ⟨kps, d3, x3, _, call_rt (env := [.val (.ref i), .val (.int m), .no, .no]) (s2 := ⟨[.val (.ref i), .val (.int m), .val (.lst (ps.map .int)), .no], h.set i (fc d3 x3)⟩) g.f4 rfl rfl ?_, N, hk⟩
  show execSs T (callI T fs (n + 3)) is__law_things _ = _
  unfold is__law_things
  rw [seq_nx (s1 := ⟨[.val (.ref i), .val (.int m), .val (.lst (ps.map .int)), .no], h.set i (fc d1 x1)⟩) (by simp [execSs_2, execS_10, evalE_20, evalE_25, evalE_27, evalE_28, evalE_29, evalE_30, evalE_31, evalE_32, evalE_33, tgtSet_2, tgtSet_3, tgtSet_4, execS_3, execS_4, execS_5, execS_6, execS_7, execS_8, execS_9, binop, k1])]
  have hlc := lc_eq (T := T) (C := callI T fs (n + 3)) (elt := .tup [(.var 3), (.fn 2 [(.var 0), (.var 2)] [])]) (p := .nm 3) (k := .it) (src := [.fn 3 [.var 0, .var 1] []]) (conds := []) (vs := [3]) (s := ⟨[.val (.ref i), .val (.int m), .val (.lst (ps.map .int)), .no], h.set i (fc d1 x1)⟩) (s1 := ⟨[.val (.ref i), .val (.int m), .val (.lst (ps.map .int)), .no], h.set i (fc d2 x2)⟩) (os := [.v (.lst ((kps.map (·.1)).map .str))]) (items := (kps.map (·.1)).map .str) (by simp [execSs_2, execS_10, evalE_20, evalE_25, evalE_27, evalE_28, evalE_29, evalE_30, evalE_31, evalE_32, evalE_33, tgtSet_2, tgtSet_3, tgtSet_4, execS_3, execS_4, execS_5, execS_6, execS_7, execS_8, execS_9, k2]) (by simp [execSs_2, execS_10, evalE_20, evalE_25, evalE_27, evalE_28, evalE_29, evalE_30, evalE_31, evalE_32, evalE_33, tgtSet_2, tgtSet_3, tgtSet_4, execS_3, execS_4, execS_5, execS_6, execS_7, execS_8, execS_9, srcItems]) k3
  have hpairs : ∀ kps : List (Str × Int), pairsV (kps.map (fun kp => Val.tup [.str kp.1, .int kp.2])) = some (kps.map fun kp => (.inr kp.1, .int kp.2)) := fun kps => by
    induction kps with
    | nil => rfl
    | cons a b ih => simp [execSs_2, execS_10, evalE_20, evalE_25, evalE_27, evalE_28, evalE_29, evalE_30, evalE_31, evalE_32, evalE_33, tgtSet_2, tgtSet_3, tgtSet_4, execS_3, execS_4, execS_5, execS_6, execS_7, execS_8, execS_9, pairsV, keyV, ih]
  have hm : ∀ (acc more : List (Key × Val)), ((acc ++ more).map (·.1)).Nodup → dmerge acc more = acc ++ more := fun acc more => by
    induction more generalizing acc with
    | nil => intro _; simp [execSs_2, execS_10, evalE_20, evalE_25, evalE_27, evalE_28, evalE_29, evalE_30, evalE_31, evalE_32, evalE_33, tgtSet_2, tgtSet_3, tgtSet_4, execS_3, execS_4, execS_5, execS_6, execS_7, execS_8, execS_9, dmerge]
    | cons a more ih =>
      intro hd
      have e : dput acc a.1 a.2 = acc ++ [a] := by
        unfold dput
        rw [if_neg]
        simp only [List.any_eq_true, decide_eq_true_eq, not_exists, not_and]
        intro kv hkv e
        simp only [List.map_append, List.map_cons, List.nodup_append] at hd
        exact hd.2.2 kv.1 (List.mem_map_of_mem hkv) a.1 (by simp) e
      have : dmerge acc (a :: more) = dmerge (dput acc a.1 a.2) more := rfl
      rw [this, e, ih _ (by simpa using hd)]
      simp
  have hd : dmerge [] (kps.map fun kp => ((.inr kp.1 : Key), Val.int kp.2)) = kps.map fun kp => ((.inr kp.1 : Key), Val.int kp.2) := by
    rw [hm]
    · simp
    · have := N.nd
      simp only [List.nil_append, List.map_map]
      have e : (kps.map ((fun x : Key × Val => x.1) ∘ fun kp : Str × Int => ((.inr kp.1 : Key), Val.int kp.2))) = (kps.map (·.1)).map Sum.inr := by simp [execSs_2, execS_10, evalE_20, evalE_25, evalE_27, evalE_28, evalE_29, evalE_30, evalE_31, evalE_32, evalE_33, tgtSet_2, tgtSet_3, tgtSet_4, execS_3, execS_4, execS_5, execS_6, execS_7, execS_8, execS_9, Function.comp_def]
      rw [e]
      exact List.pairwise_map.mpr (List.Pairwise.imp (fun h e => h (by cases e; rfl)) this)
  rw [seq_rt (s1 := ⟨[.val (.ref i), .val (.int m), .val (.lst (ps.map .int)), .no], h.set i (fc d3 x3)⟩) (v := .dct (kps.map fun kp => (.inr kp.1, .int kp.2)))]
  simp [execSs_2, execS_10, evalE_20, evalE_25, evalE_27, evalE_28, evalE_29, evalE_30, evalE_31, evalE_32, evalE_33, tgtSet_2, tgtSet_3, tgtSet_4, execS_3, execS_4, execS_5, execS_6, execS_7, execS_8, execS_9, hlc, unlockAll, unlockLoc, restE, okV, biop, hpairs, hd]
end
end Rs
end
section
set_option maxRecDepth 100000
set_option maxHeartbeats 4000000
/-! Events and rows that are drawn. -/
namespace Rs
open PySem L2
theorem size_big : (1000000 : Nat) ≤ sizeLine := by decide
def evV (e : Bool × Str) : Val := .tup [.str (if e.1 then "void" else "call"), .str e.2]
def rowV (r : List (Bool × Str)) : Val := .lst (r.map evV)
theorem veq_int (a b : Int) : veq (.int a) (.int b) = some (decide (a = b)) := by
  simp [execSs_2, execS_10, evalE_20, evalE_25, evalE_27, evalE_28, evalE_29, evalE_30, evalE_31, evalE_32, evalE_33, tgtSet_2, tgtSet_3, tgtSet_4, execS_3, execS_4, execS_5, execS_6, execS_7, execS_8, execS_9, veq, toD, okD, PyData.plain, PyData.depth, PyData.eqv, Bool.beq_eq_decide_eq]
theorem veq_str (a b : Str) : veq (.str a) (.str b) = some (decide (a = b)) := by
  simp [execSs_2, execS_10, evalE_20, evalE_25, evalE_27, evalE_28, evalE_29, evalE_30, evalE_31, evalE_32, evalE_33, tgtSet_2, tgtSet_3, tgtSet_4, execS_3, execS_4, execS_5, execS_6, execS_7, execS_8, execS_9, veq, toD, okD, PyData.plain, PyData.depth, PyData.eqv, Bool.beq_eq_decide_eq]
theorem veq_bl (a b : Bool) : veq (.bl a) (.bl b) = some (decide (a = b)) := by
  simp [execSs_2, execS_10, evalE_20, evalE_25, evalE_27, evalE_28, evalE_29, evalE_30, evalE_31, evalE_32, evalE_33, tgtSet_2, tgtSet_3, tgtSet_4, execS_3, execS_4, execS_5, execS_6, execS_7, execS_8, execS_9, veq, toD, okD, PyData.plain, PyData.depth, PyData.eqv, Bool.beq_eq_decide_eq]
section
variable {T : Tab} {fs : List Fd}
theorem event_ok (g : HasGen fs) (n : Nat) (h : List Cell) (i : Nat) (ns hot : List Str) (hc : IsFeed h i) (h0 : ns ≠ []) (h1 : ns.length ≤ 1000) (h2 : hot.length ≤ 1000) :
    ∃ b x d' x' e2, callI T fs (n + 3) 5 [.ref i, .lst (ns.map .str), .lst (hot.map .str)] h = .ok (evV (b, x)) ⟨e2, h.set i (fc d' x')⟩ ∧ x ∈ hot ++ ns := by
  have hb := size_big
  obtain ⟨y1, d1, x1, e1, k1, g1⟩ := pick_ok (T := T) g.f1 g.f2 n h i (ns.map .str) hc (by simpa using h0) (by simp; omega)
  obtain ⟨z, hz, rfl⟩ := List.mem_map.mp g1
  obtain ⟨y2, d2, x2, e2, k2, g2⟩ := pick_ok (T := T) g.f1 g.f2 n _ i (hot.map .str ++ [.str z]) (hc.set d1 x1) (by simp) (by simp; omega)
  obtain ⟨x, rfl, hx⟩ : ∃ x, y2 = .str x ∧ x ∈ hot ++ ns := by
    rcases List.mem_append.mp g2 with g2 | g2
    · obtain ⟨x, hx, rfl⟩ := List.mem_map.mp g2
      exact ⟨x, rfl, by simp [execSs_2, execS_10, evalE_20, evalE_25, evalE_27, evalE_28, evalE_29, evalE_30, evalE_31, evalE_32, evalE_33, tgtSet_2, tgtSet_3, tgtSet_4, execS_3, execS_4, execS_5, execS_6, execS_7, execS_8, execS_9, hx]⟩
    · exact ⟨z, by simpa using g2, by simp [execSs_2, execS_10, evalE_20, evalE_25, evalE_27, evalE_28, evalE_29, evalE_30, evalE_31, evalE_32, evalE_33, tgtSet_2, tgtSet_3, tgtSet_4, execS_3, execS_4, execS_5, execS_6, execS_7, execS_8, execS_9, hz]⟩
  obtain ⟨r, d3, x3, e3, k3, g3, g4⟩ := take_ok (T := T) g.f1 (n + 1) _ i 9 ((hc.set d1 x1).set d2 x2) (by omega) (by omega)
  simp only [List.set_set] at k2 k3
  have hs : (hot.map Val.str).length + 1 ≤ sizeLine := by simp; omega
  have hs2 : hot.length + 1 ≤ sizeLine := by omega
  have hs3 : hot.length < sizeLine := by omega
  refine ⟨decide (r = 0), x, d3, x3, _, call_rt (env := [.val (.ref i), .val (.lst (ns.map .str)), .val (.lst (hot.map .str)), .no]) (s2 := ⟨[.val (.ref i), .val (.lst (ns.map .str)), .val (.lst (hot.map .str)), .val (.str x)], h.set i (fc d3 x3)⟩) g.f5 rfl rfl ?_, hx⟩
  show execSs T (callI T fs (n + 2)) is__law_event _ = _
  unfold is__law_event
  rw [seq_nx (s1 := ⟨[.val (.ref i), .val (.lst (ns.map .str)), .val (.lst (hot.map .str)), .val (.str x)], h.set i (fc d2 x2)⟩) (by simp [execSs_2, execS_10, evalE_20, evalE_25, evalE_27, evalE_28, evalE_29, evalE_30, evalE_31, evalE_32, evalE_33, tgtSet_2, tgtSet_3, tgtSet_4, execS_3, execS_4, execS_5, execS_6, execS_7, execS_8, execS_9, binop, k1, k2, hs, hs2, hs3])]
  by_cases hr : r = 0
  · subst hr
    simp [execSs_2, execS_10, evalE_20, evalE_25, evalE_27, evalE_28, evalE_29, evalE_30, evalE_31, evalE_32, evalE_33, tgtSet_2, tgtSet_3, tgtSet_4, execS_3, execS_4, execS_5, execS_6, execS_7, execS_8, execS_9, k3, cmpop, veq_int, evV]
  · simp [execSs_2, execS_10, evalE_20, evalE_25, evalE_27, evalE_28, evalE_29, evalE_30, evalE_31, evalE_32, evalE_33, tgtSet_2, tgtSet_3, tgtSet_4, execS_3, execS_4, execS_5, execS_6, execS_7, execS_8, execS_9, k3, cmpop, veq_int, evV, hr]

theorem filterMap_id {α : Type} : ∀ xs : List α, xs.filterMap some = xs
  | [] => rfl
  | x :: xs => by simp [execSs_2, execS_10, evalE_20, evalE_25, evalE_27, evalE_28, evalE_29, evalE_30, evalE_31, evalE_32, evalE_33, tgtSet_2, tgtSet_3, tgtSet_4, execS_3, execS_4, execS_5, execS_6, execS_7, execS_8, execS_9, List.filterMap_cons_some, filterMap_id xs]
/-- names drawn of a list, in a comprehension -/
theorem hot_ok (g : HasGen fs) (n : Nat) (h : List Cell) (i : Nat) (ss : List Str) (hc : IsFeed h i) (h0 : ss ≠ []) (h1 : ss.length ≤ 1000) (v : Nat) (e0 : List Slot) (he : e0.set v .no = e0) (hv : ∀ x, (e0.set v x).getD 0 .no = .val (.ref i) ∧ (e0.set v x).getD 6 .no = .val (.lst (ss.map .str))) (items : List Val) (hi : items.length ≤ 1000) (d x : Int) :
    ∃ (hot : List Str) (d' x' : Int), compL (patSet (.nm v)) (evalTs T (callI T fs (n + 3)) []) (fun s => (evalE T (callI T fs (n + 3)) (.fn 2 [(.var 0), (.var 6)] []) s).val) [v] putL items ⟨e0, h.set i (fc d x)⟩ [] = .ok (hot.map .str) ⟨e0, h.set i (fc d' x')⟩ ∧ hot.length = items.length ∧ ∀ x ∈ hot, x ∈ ss := by
  have hb := size_big
  obtain ⟨ys, d3, x3, k3, hy⟩ := comp_feed (st := patSet (.nm v)) (tst := evalTs T (callI T fs (n + 3)) []) (elt := fun s => (evalE T (callI T fs (n + 3)) (.fn 2 [(.var 0), (.var 6)] []) s).val) (vs := [v]) (e0 := e0) (i := i) (h0 := h)
    (fun _ y => ∃ z : Str, y = .str z ∧ z ∈ ss) items [] d x (fun it hit d x => by
      obtain ⟨z, d', x', e', k', hz⟩ := pick_ok (T := T) g.f1 g.f2 (n + 1) (h.set i (fc d x)) i (ss.map .str) (hc.set d x) (by simpa using h0) (by simp; omega)
      simp only [List.set_set] at k'
      obtain ⟨p, hp, rfl⟩ := List.mem_map.mp hz
      refine ⟨e0.set v (.val it), .str p, d', x', by simp [execSs_2, execS_10, evalE_20, evalE_25, evalE_27, evalE_28, evalE_29, evalE_30, evalE_31, evalE_32, evalE_33, tgtSet_2, tgtSet_3, tgtSet_4, execS_3, execS_4, execS_5, execS_6, execS_7, execS_8, execS_9, patSet], by simp, ?_, by simp [execSs_2, execS_10, evalE_20, evalE_25, evalE_27, evalE_28, evalE_29, evalE_30, evalE_31, evalE_32, evalE_33, tgtSet_2, tgtSet_3, tgtSet_4, execS_3, execS_4, execS_5, execS_6, execS_7, execS_8, execS_9, wipeE, he], ⟨p, rfl, hp⟩⟩
      show (evalE T _ _ _).vl = _
      have a1 := (hv (.val it)).1
      have a2 := (hv (.val it)).2
      simp only [evalE_26, evalVs_2, evalVs_1, evalE_1, rdVar_mk, a1, a2, vl_v, bnd_ok, permV_nil, k', bck_ok]) (by simp; omega)
  obtain ⟨zs, rfl, hz⟩ := All2.choose (f := Val.str) (Q := fun z => z ∈ ss) hy
  exact ⟨zs, d3, x3, k3, by simpa using hy.len, hz⟩
theorem row_ok (g : HasGen fs) (n : Nat) (h : List Cell) (i : Nat) (kvs : List (Str × Val)) (m : Int) (hc : IsFeed h i) (h0 : kvs ≠ []) (h1 : kvs.length < 64) (hm0 : 0 ≤ m) (hm1 : m < 10000) :
    ∃ (row : List (Bool × Str)) (d' x' : Int) (e2 : List Slot), callI T fs (n + 4) 6 [.ref i, .dct (kvs.map fun kp => (.inr kp.1, kp.2)), .int m] h = .ok (rowV row) ⟨e2, h.set i (fc d' x')⟩ ∧ row.length = m.toNat ∧ ∀ e ∈ row, e.2 ∈ kvs.map (·.1) := by
  have hb := size_big
  have hkeys : (kvs.map fun kp => ((.inr kp.1 : Key), kp.2)).map (fun kv => vKey kv.1) = (kvs.map (·.1)).map Val.str := by simp [execSs_2, execS_10, evalE_20, evalE_25, evalE_27, evalE_28, evalE_29, evalE_30, evalE_31, evalE_32, evalE_33, tgtSet_2, tgtSet_3, tgtSet_4, execS_3, execS_4, execS_5, execS_6, execS_7, execS_8, execS_9, vKey, Function.comp_def]
  obtain ⟨ss, hss, hp⟩ : ∃ ss : List Str, vsort ((kvs.map (·.1)).map Val.str) = some (ss.map Val.str) ∧ ss.Perm (kvs.map (·.1)) := ⟨_, vsort_str _ (by rw [List.length_map]; omega), sortS_perm _⟩
  have hs0 : ss ≠ [] := fun e => by subst e; have := hp.length_eq; simp at this; exact h0 (List.length_eq_zero_iff.mp this.symm)
  have hs1 : ss.length ≤ 1000 := by rw [hp.length_eq]; simp; omega
  have hsort : biop .sorted [.dct (kvs.map fun kp => ((.inr kp.1 : Key), kp.2))] = some (.f (.lst (ss.map Val.str) false)) := by
    simp only [biop]
    rw [if_pos]
    · rw [hkeys, hss]; rfl
    · simp [execSs_2, execS_10, evalE_20, evalE_25, evalE_27, evalE_28, evalE_29, evalE_30, evalE_31, evalE_32, evalE_33, tgtSet_2, tgtSet_3, tgtSet_4, execS_3, execS_4, execS_5, execS_6, execS_7, execS_8, execS_9, h1]
  obtain ⟨d, x, hd⟩ := id hc
  have hself : h.set i (fc d x) = h := by
    apply List.ext_getElem?
    intro j
    by_cases e : i = j
    · subst e; rw [List.getElem?_set_self hc.lt, hd]
    · rw [List.getElem?_set_ne e]
  obtain ⟨hot, d1, x1, k1, hl1, hm1'⟩ := hot_ok (T := T) g n h i ss hc hs0 hs1 4 [.val (.ref i), .val (.dct (kvs.map fun kp => (.inr kp.1, kp.2))), .val (.int m), .no, .no, .own (.lst [] false), .val (.lst (ss.map .str)), .no] (by simp) (by intro x; simp) (rangeV 0 3) (by simp [execSs_2, execS_10, evalE_20, evalE_25, evalE_27, evalE_28, evalE_29, evalE_30, evalE_31, evalE_32, evalE_33, tgtSet_2, tgtSet_3, tgtSet_4, execS_3, execS_4, execS_5, execS_6, execS_7, execS_8, execS_9, rangeV]) d x
  rw [hself] at k1
  have e1 : evalE T (callI T fs (n + 3)) (.lc (.fn 2 [(.var 0), (.var 6)] []) (.nm 4) .rng [.cst (.int 3)] [] [4]) ⟨[.val (.ref i), .val (.dct (kvs.map fun kp => (.inr kp.1, kp.2))), .val (.int m), .no, .no, .own (.lst [] false), .val (.lst (ss.map .str)), .no], h⟩ = .ok (.f (.lst (hot.map .str) false)) ⟨[.val (.ref i), .val (.dct (kvs.map fun kp => (.inr kp.1, kp.2))), .val (.int m), .no, .no, .own (.lst [] false), .val (.lst (ss.map .str)), .no], h.set i (fc d1 x1)⟩ :=
    lc_pl (os := [.v (.int 3)]) (items := rangeV 0 3) (by simp) (by simp [execSs_2, execS_10, evalE_20, evalE_25, evalE_27, evalE_28, evalE_29, evalE_30, evalE_31, evalE_32, evalE_33, tgtSet_2, tgtSet_3, tgtSet_4, execS_3, execS_4, execS_5, execS_6, execS_7, execS_8, execS_9, srcItems, smallI]) k1
  let I : List Val → S → Prop := fun done s => ∃ (hot : List Str) (t : Slot) (d x : Int) (es : List (Bool × Str)), s = ⟨[.val (.ref i), .val (.dct (kvs.map fun kp => (.inr kp.1, kp.2))), .val (.int m), .val (.lst (hot.map .str)), t, .own (.lst (es.map evV) false), .val (.lst (ss.map .str)), .no], h.set i (fc d x)⟩ ∧ hot.length ≤ 4 ∧ (∀ x ∈ hot, x ∈ ss) ∧ es.length = done.length ∧ ∀ e ∈ es, e.2 ∈ ss
  obtain ⟨s2, k2, hot2, t2, d2, x2, es, rfl, _, _, hl, hmem⟩ := for_nx (st := patSet (.nm 4)) (body := execSs T (callI T fs (n + 3)) [(.ite (.cmp .eq (.fn 1 [(.var 0), (.cst (.int 7))] []) (.cst (.int 0))) [(.asg (.nm 3) (.lc (.fn 2 [(.var 0), (.var 6)] []) (.nm 7) .rng [(.bin .add (.cst (.int 1)) (.fn 1 [(.var 0), (.cst (.int 4))] []))] [] [7]))] []), (.ex (.mt .append (.var 5) [(.fn 5 [(.var 0), (.var 6), (.var 3)] [])]))]) I (rangeV 0 m.toNat) [] ⟨[.val (.ref i), .val (.dct (kvs.map fun kp => (.inr kp.1, kp.2))), .val (.int m), .val (.lst (hot.map .str)), .no, .own (.lst [] false), .val (.lst (ss.map .str)), .no], h.set i (fc d1 x1)⟩
    ⟨hot, .no, d1, x1, [], rfl, by rw [hl1]; simp [execSs_2, execS_10, evalE_20, evalE_25, evalE_27, evalE_28, evalE_29, evalE_30, evalE_31, evalE_32, evalE_33, tgtSet_2, tgtSet_3, tgtSet_4, execS_3, execS_4, execS_5, execS_6, execS_7, execS_8, execS_9, rangeV], hm1', rfl, by simp⟩ (fun pre y s ⟨hot, t, d, x, es, hs, hl, hm, hle, hme⟩ ⟨post, hpost⟩ => by
      subst hs
      have hlen : pre.length < 10000 := by
        have := congrArg List.length hpost
        simp [execSs_2, execS_10, evalE_20, evalE_25, evalE_27, evalE_28, evalE_29, evalE_30, evalE_31, evalE_32, evalE_33, tgtSet_2, tgtSet_3, tgtSet_4, execS_3, execS_4, execS_5, execS_6, execS_7, execS_8, execS_9, rangeV] at this
        omega
      obtain ⟨r, d1, x1, e1, k1, g1, g2⟩ := take_ok (T := T) g.f1 (n + 2) (h.set i (fc d x)) i 7 (hc.set d x) (by omega) (by omega)
      simp only [List.set_set] at k1
      -- the hot ones
      have step : ∃ (hot' : List Str) (d2 x2 : Int), execS T (callI T fs (n + 3)) (.ite (.cmp .eq (.fn 1 [(.var 0), (.cst (.int 7))] []) (.cst (.int 0))) [(.asg (.nm 3) (.lc (.fn 2 [(.var 0), (.var 6)] []) (.nm 7) .rng [(.bin .add (.cst (.int 1)) (.fn 1 [(.var 0), (.cst (.int 4))] []))] [] [7]))] []) ⟨[.val (.ref i), .val (.dct (kvs.map fun kp => (.inr kp.1, kp.2))), .val (.int m), .val (.lst (hot.map .str)), .val y, .own (.lst (es.map evV) false), .val (.lst (ss.map .str)), .no], h.set i (fc d x)⟩ = .ok .nx ⟨[.val (.ref i), .val (.dct (kvs.map fun kp => (.inr kp.1, kp.2))), .val (.int m), .val (.lst (hot'.map .str)), .val y, .own (.lst (es.map evV) false), .val (.lst (ss.map .str)), .no], h.set i (fc d2 x2)⟩ ∧ hot'.length ≤ 4 ∧ ∀ x ∈ hot', x ∈ ss := by
        by_cases hr : r = 0
        · subst hr
          obtain ⟨r2, d2, x2, e2, k2, g3, g4⟩ := take_ok (T := T) g.f1 (n + 2) (h.set i (fc d1 x1)) i 4 (hc.set d1 x1) (by omega) (by omega)
          simp only [List.set_set] at k2
          obtain ⟨hot', d3, x3, k3, hl3, hm3⟩ := hot_ok (T := T) g n h i ss hc hs0 hs1 7 [.val (.ref i), .val (.dct (kvs.map fun kp => (.inr kp.1, kp.2))), .val (.int m), .val (.lst (hot.map .str)), .val y, .own (.lst (es.map evV) false), .val (.lst (ss.map .str)), .no] (by simp) (by intro x; simp) (rangeV 0 (1 + r2).toNat) (by simp [execSs_2, execS_10, evalE_20, evalE_25, evalE_27, evalE_28, evalE_29, evalE_30, evalE_31, evalE_32, evalE_33, tgtSet_2, tgtSet_3, tgtSet_4, execS_3, execS_4, execS_5, execS_6, execS_7, execS_8, execS_9, rangeV]; omega) d2 x2
          have e3 : evalE T (callI T fs (n + 3)) (.lc (.fn 2 [(.var 0), (.var 6)] []) (.nm 7) .rng [(.bin .add (.cst (.int 1)) (.fn 1 [(.var 0), (.cst (.int 4))] []))] [] [7]) ⟨[.val (.ref i), .val (.dct (kvs.map fun kp => (.inr kp.1, kp.2))), .val (.int m), .val (.lst (hot.map .str)), .val y, .own (.lst (es.map evV) false), .val (.lst (ss.map .str)), .no], h.set i (fc d1 x1)⟩ = .ok (.f (.lst (hot'.map .str) false)) ⟨[.val (.ref i), .val (.dct (kvs.map fun kp => (.inr kp.1, kp.2))), .val (.int m), .val (.lst (hot.map .str)), .val y, .own (.lst (es.map evV) false), .val (.lst (ss.map .str)), .no], h.set i (fc d3 x3)⟩ :=
            lc_pl (os := [.v (.int (1 + r2))]) (items := rangeV 0 (1 + r2).toNat) (by simp [execSs_2, execS_10, evalE_20, evalE_25, evalE_27, evalE_28, evalE_29, evalE_30, evalE_31, evalE_32, evalE_33, tgtSet_2, tgtSet_3, tgtSet_4, execS_3, execS_4, execS_5, execS_6, execS_7, execS_8, execS_9, k2, binop]) (by simp [execSs_2, execS_10, evalE_20, evalE_25, evalE_27, evalE_28, evalE_29, evalE_30, evalE_31, evalE_32, evalE_33, tgtSet_2, tgtSet_3, tgtSet_4, execS_3, execS_4, execS_5, execS_6, execS_7, execS_8, execS_9, srcItems, smallI]; omega) k3
          refine ⟨hot', d3, x3, by simp [execSs_2, execS_10, evalE_20, evalE_25, evalE_27, evalE_28, evalE_29, evalE_30, evalE_31, evalE_32, evalE_33, tgtSet_2, tgtSet_3, tgtSet_4, execS_3, execS_4, execS_5, execS_6, execS_7, execS_8, execS_9, k1, cmpop, veq_int, e3], ?_, hm3⟩
          rw [hl3]; simp [execSs_2, execS_10, evalE_20, evalE_25, evalE_27, evalE_28, evalE_29, evalE_30, evalE_31, evalE_32, evalE_33, tgtSet_2, tgtSet_3, tgtSet_4, execS_3, execS_4, execS_5, execS_6, execS_7, execS_8, execS_9, rangeV]; omega
        · exact ⟨hot, d1, x1, by simp [execSs_2, execS_10, evalE_20, evalE_25, evalE_27, evalE_28, evalE_29, evalE_30, evalE_31, evalE_32, evalE_33, tgtSet_2, tgtSet_3, tgtSet_4, execS_3, execS_4, execS_5, execS_6, execS_7, execS_8, execS_9, k1, cmpop, veq_int, hr], hl, hm⟩
      obtain ⟨hot', d2, x2, hst, hl', hm'⟩ := step
      obtain ⟨b, nm, d3, x3, e3, k3, g3⟩ := event_ok (T := T) g n (h.set i (fc d2 x2)) i ss hot' (hc.set d2 x2) hs0 hs1 (by omega)
      simp only [List.set_set] at k3
      refine ⟨[.val (.ref i), .val (.dct (kvs.map fun kp => (.inr kp.1, kp.2))), .val (.int m), .val (.lst (hot.map .str)), .val y, .own (.lst (es.map evV) false), .val (.lst (ss.map .str)), .no], ⟨[.val (.ref i), .val (.dct (kvs.map fun kp => (.inr kp.1, kp.2))), .val (.int m), .val (.lst (hot'.map .str)), .val y, .own (.lst ((es ++ [(b, nm)]).map evV) false), .val (.lst (ss.map .str)), .no], h.set i (fc d3 x3)⟩, by simp [execSs_2, execS_10, evalE_20, evalE_25, evalE_27, evalE_28, evalE_29, evalE_30, evalE_31, evalE_32, evalE_33, tgtSet_2, tgtSet_3, tgtSet_4, execS_3, execS_4, execS_5, execS_6, execS_7, execS_8, execS_9, patSet], .inl (by rw [seq_nx hst]; simp [execSs_2, execS_10, evalE_20, evalE_25, evalE_27, evalE_28, evalE_29, evalE_30, evalE_31, evalE_32, evalE_33, tgtSet_2, tgtSet_3, tgtSet_4, execS_3, execS_4, execS_5, execS_6, execS_7, execS_8, execS_9, k3, mkind, mtop, hle, show pre.length < sizeLine by omega]), ?_⟩
      refine ⟨hot', .val y, d3, x3, es ++ [(b, nm)], by simp, hl', hm', by simp [execSs_2, execS_10, evalE_20, evalE_25, evalE_27, evalE_28, evalE_29, evalE_30, evalE_31, evalE_32, evalE_33, tgtSet_2, tgtSet_3, tgtSet_4, execS_3, execS_4, execS_5, execS_6, execS_7, execS_8, execS_9, hle], fun e he => ?_⟩
      rcases List.mem_append.mp he with he | he
      · exact hme e he
      · simp only [List.mem_singleton] at he
        subst he
        rcases List.mem_append.mp g3 with g3 | g3
        · exact hm' _ g3
        · exact g3)
  refine ⟨es, d2, x2, _, call_rt (env := [.val (.ref i), .val (.dct (kvs.map fun kp => (.inr kp.1, kp.2))), .val (.int m), .no, .no, .no, .no, .no]) (s2 := ⟨[.val (.ref i), .val (.dct (kvs.map fun kp => (.inr kp.1, kp.2))), .val (.int m), .val (.lst (hot2.map .str)), t2, .val (.lst (es.map evV)), .val (.lst (ss.map .str)), .no], h.set i (fc d2 x2)⟩) g.f6 rfl rfl ?_, by rw [hl]; simp [execSs_2, execS_10, evalE_20, evalE_25, evalE_27, evalE_28, evalE_29, evalE_30, evalE_31, evalE_32, evalE_33, tgtSet_2, tgtSet_3, tgtSet_4, execS_3, execS_4, execS_5, execS_6, execS_7, execS_8, execS_9, rangeV], fun e he => hp.mem_iff.mp (hmem e he)⟩
  show execSs T (callI T fs (n + 3)) is__law_row _ = _
  unfold is__law_row
  rw [seq_nx (s1 := ⟨[.val (.ref i), .val (.dct (kvs.map fun kp => (.inr kp.1, kp.2))), .val (.int m), .no, .no, .own (.lst [] false), .val (.lst (ss.map .str)), .no], h⟩) (by simp [execSs_2, execS_10, evalE_20, evalE_25, evalE_27, evalE_28, evalE_29, evalE_30, evalE_31, evalE_32, evalE_33, tgtSet_2, tgtSet_3, tgtSet_4, execS_3, execS_4, execS_5, execS_6, execS_7, execS_8, execS_9, hsort, okV])]
  rw [seq_nx (s1 := ⟨[.val (.ref i), .val (.dct (kvs.map fun kp => (.inr kp.1, kp.2))), .val (.int m), .val (.lst (hot.map .str)), .no, .own (.lst [] false), .val (.lst (ss.map .str)), .no], h.set i (fc d1 x1)⟩) (by simp [execSs_2, execS_10, evalE_20, evalE_25, evalE_27, evalE_28, evalE_29, evalE_30, evalE_31, evalE_32, evalE_33, tgtSet_2, tgtSet_3, tgtSet_4, execS_3, execS_4, execS_5, execS_6, execS_7, execS_8, execS_9, e1])]
  rw [seq_nx (for_pl (os := [.v (.int m)]) (items := rangeV 0 m.toNat) (by simp) (by simp [execSs_2, execS_10, evalE_20, evalE_25, evalE_27, evalE_28, evalE_29, evalE_30, evalE_31, evalE_32, evalE_33, tgtSet_2, tgtSet_3, tgtSet_4, execS_3, execS_4, execS_5, execS_6, execS_7, execS_8, execS_9, srcItems, smallI]; omega) k2)]
  simp [execSs_2, execS_10, evalE_20, evalE_25, evalE_27, evalE_28, evalE_29, evalE_30, evalE_31, evalE_32, evalE_33, tgtSet_2, tgtSet_3, tgtSet_4, execS_3, execS_4, execS_5, execS_6, execS_7, execS_8, execS_9, rowV]
end
end Rs
end
section
set_option maxRecDepth 100000
set_option maxHeartbeats 4000000
/-! Dicts from names to whole numbers. -/
namespace Rs
open PySem L2
abbrev AL := List (Str × Int)
def alV (al : AL) : List (Key × Val) := al.map fun p => (.inr p.1, .int p.2)
def AL.get (al : AL) (x : Str) : Option Int := (al.find? fun p => decide (p.1 = x)).map (·.2)
def AL.put (al : AL) (x : Str) (k : Int) : AL := if x ∈ al.map (·.1) then al.map fun p => if p.1 = x then (p.1, k) else p else al ++ [(x, k)]
def AL.drop (al : AL) (x : Str) : AL := al.filter fun p => decide (p.1 ≠ x)
theorem dget_al (al : AL) (x : Str) : dget (alV al) (.inr x) = (AL.get al x).map .int := by
  unfold dget AL.get alV
  induction al with
  | nil => rfl
  | cons a al ih =>
    simp only [List.map_cons, List.find?_cons]
    by_cases h : a.1 = x
    · simp [execSs_2, execS_10, evalE_20, evalE_25, evalE_27, evalE_28, evalE_29, evalE_30, evalE_31, evalE_32, evalE_33, tgtSet_2, tgtSet_3, tgtSet_4, execS_3, execS_4, execS_5, execS_6, execS_7, execS_8, execS_9, h]
    · have h2 : ¬ ((.inr a.1 : Key) = .inr x) := fun e => h (Sum.inr.inj e)
      simp only [h, h2, decide_false]
      exact ih
theorem get_some {al : AL} {x : Str} {k : Int} (h : AL.get al x = some k) : (x, k) ∈ al := by
  unfold AL.get at h
  obtain ⟨p, hp, rfl⟩ := Option.map_eq_some_iff.mp h
  have h1 := List.find?_some hp
  have h2 := List.mem_of_find?_eq_some hp
  simp only [decide_eq_true_eq] at h1
  rw [← h1]
  exact h2
theorem get_none {al : AL} {x : Str} : AL.get al x = none ↔ x ∉ al.map (·.1) := by
  unfold AL.get
  rw [Option.map_eq_none_iff, List.find?_eq_none]
  simp only [decide_eq_true_eq, List.mem_map, not_exists, not_and]
theorem get_mem {al : AL} (nd : (al.map (·.1)).Nodup) {x : Str} {k : Int} (h : (x, k) ∈ al) : AL.get al x = some k := by
  cases q : AL.get al x with
  | none => exact absurd (List.mem_map_of_mem (f := (·.1)) h) (get_none.mp q)
  | some j =>
    have h2 := get_some q
    congr 1
    clear q
    induction al with
    | nil => cases h
    | cons a al ih =>
      simp only [List.map_cons, List.nodup_cons] at nd
      rcases List.mem_cons.mp h with h' | h'
      · subst h'
        rcases List.mem_cons.mp h2 with e | h2'
        · cases e; rfl
        · exact absurd (List.mem_map_of_mem (f := (·.1)) h2') nd.1
      · rcases List.mem_cons.mp h2 with e | h2'
        · subst e; exact absurd (List.mem_map_of_mem (f := (·.1)) h') nd.1
        · exact ih nd.2 h' h2'
theorem ddrop_al (al : AL) (x : Str) : ddrop (alV al) (.inr x) = alV (AL.drop al x) := by
  unfold ddrop AL.drop alV
  rw [List.filter_map]
  congr 1
  apply List.filter_congr
  intro p _
  simp only [Function.comp]
  by_cases h : p.1 = x
  · simp [execSs_2, execS_10, evalE_20, evalE_25, evalE_27, evalE_28, evalE_29, evalE_30, evalE_31, evalE_32, evalE_33, tgtSet_2, tgtSet_3, tgtSet_4, execS_3, execS_4, execS_5, execS_6, execS_7, execS_8, execS_9, h]
  · have h2 : ¬ ((.inr p.1 : Key) = .inr x) := fun e => h (Sum.inr.inj e)
    simp [execSs_2, execS_10, evalE_20, evalE_25, evalE_27, evalE_28, evalE_29, evalE_30, evalE_31, evalE_32, evalE_33, tgtSet_2, tgtSet_3, tgtSet_4, execS_3, execS_4, execS_5, execS_6, execS_7, execS_8, execS_9, h, h2]
theorem dput_al (al : AL) (x : Str) (k : Int) : dput (alV al) (.inr x) (.int k) = alV (AL.put al x k) := by
  have e1 : ((alV al).any fun kv => decide (kv.1 = .inr x)) = decide (x ∈ al.map (·.1)) := by
    unfold alV
    rw [Bool.eq_iff_iff, decide_eq_true_eq, List.any_eq_true]
    constructor
    · rintro ⟨kv, h, e⟩
      obtain ⟨p, hp, rfl⟩ := List.mem_map.mp h
      simp only [decide_eq_true_eq] at e
      exact List.mem_map.mpr ⟨p, hp, Sum.inr.inj e⟩
    · intro h
      obtain ⟨p, hp, rfl⟩ := List.mem_map.mp h
      exact ⟨_, List.mem_map_of_mem (f := fun p : Str × Int => ((.inr p.1 : Key), Val.int p.2)) hp, by simp⟩
  unfold dput AL.put
  rw [e1]
  by_cases h : x ∈ al.map (·.1)
  · simp only [h, decide_true, if_true]
    unfold alV
    rw [List.map_map, List.map_map]
    apply List.map_congr_left
    intro p _
    simp only [Function.comp]
    by_cases h : p.1 = x
    · simp [execSs_2, execS_10, evalE_20, evalE_25, evalE_27, evalE_28, evalE_29, evalE_30, evalE_31, evalE_32, evalE_33, tgtSet_2, tgtSet_3, tgtSet_4, execS_3, execS_4, execS_5, execS_6, execS_7, execS_8, execS_9, h]
    · have h2 : ¬ ((.inr p.1 : Key) = .inr x) := fun e => h (Sum.inr.inj e)
      simp [execSs_2, execS_10, evalE_20, evalE_25, evalE_27, evalE_28, evalE_29, evalE_30, evalE_31, evalE_32, evalE_33, tgtSet_2, tgtSet_3, tgtSet_4, execS_3, execS_4, execS_5, execS_6, execS_7, execS_8, execS_9, h, h2]
  · simp [execSs_2, execS_10, evalE_20, evalE_25, evalE_27, evalE_28, evalE_29, evalE_30, evalE_31, evalE_32, evalE_33, tgtSet_2, tgtSet_3, tgtSet_4, execS_3, execS_4, execS_5, execS_6, execS_7, execS_8, execS_9, h, alV]
theorem alV_len (al : AL) : (alV al).length = al.length := by unfold alV; simp
theorem put_names (al : AL) (x : Str) (k : Int) : (AL.put al x k).map (·.1) = if x ∈ al.map (·.1) then al.map (·.1) else al.map (·.1) ++ [x] := by
  unfold AL.put
  split
  · rw [List.map_map]
    apply List.map_congr_left
    intro p _
    simp only [Function.comp]
    split <;> rfl
  · simp
theorem drop_names (al : AL) (x : Str) : (AL.drop al x).map (·.1) = (al.map (·.1)).filter fun y => decide (y ≠ x) := by
  unfold AL.drop
  rw [List.filter_map]
  rfl
theorem put_perm {al : AL} (nd : (al.map (·.1)).Nodup) (x : Str) (k : Int) : (AL.put al x k).Perm (AL.drop al x ++ [(x, k)]) := by
  unfold AL.put AL.drop
  by_cases h : x ∈ al.map (·.1)
  · rw [if_pos h]
    induction al with
    | nil => simp at h
    | cons a al ih =>
      simp only [List.map_cons, List.nodup_cons] at nd
      by_cases e : a.1 = x
      · have hn : x ∉ al.map (·.1) := e ▸ nd.1
        have e1 : al.map (fun p => if p.1 = x then (p.1, k) else p) = al := by
          conv => rhs; rw [← List.map_id al]
          apply List.map_congr_left
          intro p hp
          rw [if_neg (fun z => hn (List.mem_map.mpr ⟨p, hp, z⟩))]
          rfl
        have e2 : al.filter (fun p => decide (p.1 ≠ x)) = al := by
          rw [List.filter_eq_self]
          intro p hp
          simp only [decide_eq_true_eq]
          exact fun z => hn (List.mem_map.mpr ⟨p, hp, z⟩)
        simp only [List.map_cons, e, if_true, e1]
        rw [List.filter_cons_of_neg (by simp [execSs_2, execS_10, evalE_20, evalE_25, evalE_27, evalE_28, evalE_29, evalE_30, evalE_31, evalE_32, evalE_33, tgtSet_2, tgtSet_3, tgtSet_4, execS_3, execS_4, execS_5, execS_6, execS_7, execS_8, execS_9, e]), e2]
        exact (List.perm_append_comm (l₁ := [(x, k)]) (l₂ := al))
      · simp only [List.map_cons, List.mem_cons] at h
        have h' : x ∈ al.map (·.1) := h.resolve_left (fun z => e z.symm)
        simp only [List.map_cons, if_neg e]
        rw [List.filter_cons_of_pos (by simp [execSs_2, execS_10, evalE_20, evalE_25, evalE_27, evalE_28, evalE_29, evalE_30, evalE_31, evalE_32, evalE_33, tgtSet_2, tgtSet_3, tgtSet_4, execS_3, execS_4, execS_5, execS_6, execS_7, execS_8, execS_9, e])]
        exact (ih nd.2 h').cons a
  · rw [if_neg h]
    have e2 : al.filter (fun p => decide (p.1 ≠ x)) = al := by
      rw [List.filter_eq_self]
      intro p hp
      simp only [decide_eq_true_eq]
      exact fun z => h (List.mem_map.mpr ⟨p, hp, z⟩)
    rw [e2]
/-! ### the least of pairs of a number and a name -/
def nxV (p : Str × Int) : Val := .tup [.int p.2, .str p.1]
theorem dataLt_pair (a b : Int) (x y : Str) : (a < b → PySem.W.dataLt (dD (.tup [.int a, .str x])) (dD (.tup [.int b, .str y])) = true) ∧ (b < a → PySem.W.dataLt (dD (.tup [.int a, .str x])) (dD (.tup [.int b, .str y])) = false) := by
  have e : ∀ (a : Int) (x : Str), dD (.tup [.int a, .str x]) = .tuple [.int a, .str x] := fun a x => by simp [execSs_2, execS_10, evalE_20, evalE_25, evalE_27, evalE_28, evalE_29, evalE_30, evalE_31, evalE_32, evalE_33, tgtSet_2, tgtSet_3, tgtSet_4, execS_3, execS_4, execS_5, execS_6, execS_7, execS_8, execS_9, dD, toD, toDs]
  rw [e, e]
  constructor
  · intro h
    have hb : decide (b < a) = false := by simp; omega
    simp [execSs_2, execS_10, evalE_20, evalE_25, evalE_27, evalE_28, evalE_29, evalE_30, evalE_31, evalE_32, evalE_33, tgtSet_2, tgtSet_3, tgtSet_4, execS_3, execS_4, execS_5, execS_6, execS_7, execS_8, execS_9, PySem.W.dataLt, PySem.W.keyToks, PySem.W.keyToksAll, PyProof.Rows.lexLt, PyProof.Rows.itemOrd, PyProof.Rows.itemLt, h]
  · intro h
    have hb : decide (a < b) = false := by simp; omega
    simp [execSs_2, execS_10, evalE_20, evalE_25, evalE_27, evalE_28, evalE_29, evalE_30, evalE_31, evalE_32, evalE_33, tgtSet_2, tgtSet_3, tgtSet_4, execS_3, execS_4, execS_5, execS_6, execS_7, execS_8, execS_9, PySem.W.dataLt, PySem.W.keyToks, PySem.W.keyToksAll, PyProof.Rows.lexLt, PyProof.Rows.itemOrd, PyProof.Rows.itemLt, h, hb]
theorem toDs_nx : ∀ al : AL, toDs (al.map nxV) = some (al.map fun p => PyData.tuple [.int p.2, .str p.1])
  | [] => by simp [execSs_2, execS_10, evalE_20, evalE_25, evalE_27, evalE_28, evalE_29, evalE_30, evalE_31, evalE_32, evalE_33, tgtSet_2, tgtSet_3, tgtSet_4, execS_3, execS_4, execS_5, execS_6, execS_7, execS_8, execS_9, toDs]
  | p :: al => by
    rw [List.map_cons]
    unfold toDs
    rw [toDs_nx al]
    simp [execSs_2, execS_10, evalE_20, evalE_25, evalE_27, evalE_28, evalE_29, evalE_30, evalE_31, evalE_32, evalE_33, tgtSet_2, tgtSet_3, tgtSet_4, execS_3, execS_4, execS_5, execS_6, execS_7, execS_8, execS_9, nxV, toD, toDs]
theorem vmin_nx (al : AL) (p0 : Str × Int) (h0 : p0 ∈ al) (h : ∀ p ∈ al, p ≠ p0 → p0.2 < p.2) : vmin (al.map nxV) = some (nxV p0) := by
  have hbest : ∀ (l : AL) (b : Str × Int), (∀ p ∈ l, p ≠ p0 → p0.2 < p.2) → (b = p0 ∨ (p0.2 < b.2 ∧ p0 ∈ l)) → (l.map nxV).foldl (fun b y => if PySem.W.dataLt (dD y) (dD b) then y else b) (nxV b) = nxV p0 := by
    intro l
    induction l with
    | nil => intro b _ hb; rcases hb with rfl | hb; rfl; exact absurd hb.2 (by simp)
    | cons y l ih =>
      intro b hl hb
      rw [List.map_cons, List.foldl_cons]
      have hl' : ∀ p ∈ l, p ≠ p0 → p0.2 < p.2 := fun p hp => hl p (by simp [execSs_2, execS_10, evalE_20, evalE_25, evalE_27, evalE_28, evalE_29, evalE_30, evalE_31, evalE_32, evalE_33, tgtSet_2, tgtSet_3, tgtSet_4, execS_3, execS_4, execS_5, execS_6, execS_7, execS_8, execS_9, hp])
      rcases hb with rfl | ⟨hb, hm⟩
      · by_cases e : y = b
        · subst e; rw [ite_self]; exact ih y hl' (.inl rfl)
        · rw [show PySem.W.dataLt (dD (nxV y)) (dD (nxV b)) = false from (dataLt_pair _ _ _ _).2 (hl y (by simp) e)]
          exact ih b hl' (.inl rfl)
      · by_cases e : y = p0
        · subst e
          rw [show PySem.W.dataLt (dD (nxV y)) (dD (nxV b)) = true from (dataLt_pair _ _ _ _).1 hb]
          exact ih y hl' (.inl rfl)
        · have hm' : p0 ∈ l := by
            rcases List.mem_cons.mp hm with z | z
            · exact absurd z.symm e
            · exact z
          split
          · exact ih y hl' (.inr ⟨hl y (by simp) e, hm'⟩)
          · exact ih b hl' (.inr ⟨hb, hm'⟩)
  cases al with
  | nil => cases h0
  | cons a al =>
    unfold vmin
    have e1 : intsOf ((a :: al).map nxV) = none := by simp [execSs_2, execS_10, evalE_20, evalE_25, evalE_27, evalE_28, evalE_29, evalE_30, evalE_31, evalE_32, evalE_33, tgtSet_2, tgtSet_3, tgtSet_4, execS_3, execS_4, execS_5, execS_6, execS_7, execS_8, execS_9, nxV, intsOf]
    rw [e1, toDs_nx]
    have h1 : allAlike ((a :: al).map fun p => PyData.tuple [.int p.2, .str p.1]) = true := by simp [execSs_2, execS_10, evalE_20, evalE_25, evalE_27, evalE_28, evalE_29, evalE_30, evalE_31, evalE_32, evalE_33, tgtSet_2, tgtSet_3, tgtSet_4, execS_3, execS_4, execS_5, execS_6, execS_7, execS_8, execS_9, allAlike, PySem.W.alike, PySem.W.alikeAll]
    have h3 : (((a :: al).map fun p => PyData.tuple [.int p.2, .str p.1]).all okD) = true := by
      rw [List.all_eq_true]
      intro d hd
      obtain ⟨p, _, rfl⟩ := List.mem_map.mp hd
      simp [execSs_2, execS_10, evalE_20, evalE_25, evalE_27, evalE_28, evalE_29, evalE_30, evalE_31, evalE_32, evalE_33, tgtSet_2, tgtSet_3, tgtSet_4, execS_3, execS_4, execS_5, execS_6, execS_7, execS_8, execS_9, okD, PyData.plain, PyData.plainAll, PyData.depth, PyData.depthAll]
    have h4 : (((a :: al).map fun p => PyData.tuple [.int p.2, .str p.1]).all notNone) = true := by simp [execSs_2, execS_10, evalE_20, evalE_25, evalE_27, evalE_28, evalE_29, evalE_30, evalE_31, evalE_32, evalE_33, tgtSet_2, tgtSet_3, tgtSet_4, execS_3, execS_4, execS_5, execS_6, execS_7, execS_8, execS_9, notNone]
    simp only [h1, h3, h4, Bool.and_self, if_true]
    unfold best
    simp only [List.map_cons]
    congr 1
    refine hbest al a (fun p hp => h p (by simp [execSs_2, execS_10, evalE_20, evalE_25, evalE_27, evalE_28, evalE_29, evalE_30, evalE_31, evalE_32, evalE_33, tgtSet_2, tgtSet_3, tgtSet_4, execS_3, execS_4, execS_5, execS_6, execS_7, execS_8, execS_9, hp])) ?_
    by_cases e : a = p0
    · exact .inl e
    · right
      refine ⟨h a (by simp) e, ?_⟩
      rcases List.mem_cons.mp h0 with z | z
      · exact absurd z.symm e
      · exact z
end Rs
end
section
set_option maxRecDepth 100000
set_option maxHeartbeats 4000000
/-! Texts of rows. -/
namespace Rs
open PySem L2
theorem textFrom_le (B : Nat) : ∀ (ts : List Str) (k : Nat) (acc : Str), (∀ t ∈ ts, t.length ≤ B) → (textFrom k acc ts).length ≤ acc.length + ts.length * (B + 2)
  | [], k, acc, _ => by show acc.length ≤ _; omega
  | t :: r, k, acc, h => by
    have ih := textFrom_le B r (k + 1) (acc ++ (if k > 0 then ", " else "" : String) ++ t) (fun t ht => h t (by simp [execSs_2, execS_10, evalE_20, evalE_25, evalE_27, evalE_28, evalE_29, evalE_30, evalE_31, evalE_32, evalE_33, tgtSet_2, tgtSet_3, tgtSet_4, execS_3, execS_4, execS_5, execS_6, execS_7, execS_8, execS_9, ht]))
    have h1 := h t (by simp)
    have e : (acc ++ (if k > 0 then ", " else "" : String) ++ t).length = acc.length + (if k > 0 then 2 else 0) + t.length := by
      rw [strLen_append, strLen_append]
      split <;> rfl
    have e2 : (if k > 0 then 2 else 0) ≤ 2 := by split <;> omega
    show (textFrom (k + 1) (acc ++ (if k > 0 then ", " else "" : String) ++ t) r).length ≤ _
    rw [e] at ih
    simp only [List.length_cons, Nat.add_mul, Nat.one_mul]
    omega
theorem listText_le (B : Nat) (ts : List Str) (h : ∀ t ∈ ts, t.length ≤ B) : (listText ts).length ≤ 2 + ts.length * (B + 2) := by
  have h1 := textFrom_le B ts 0 "[" h
  have e : (listText ts).length = (textFrom 0 "[" ts).length + 1 := by
    unfold listText
    rw [strLen_append]; rfl
  have e2 : (("[" : String) : Str).length = 1 := rfl
  omega
def evD (e : Bool × Str) : PyData := .tuple [.str (if e.1 then "void" else "call"), .str e.2]
theorem toD_ev (e : Bool × Str) : toD (evV e) = some (evD e) := by simp [execSs_2, execS_10, evalE_20, evalE_25, evalE_27, evalE_28, evalE_29, evalE_30, evalE_31, evalE_32, evalE_33, tgtSet_2, tgtSet_3, tgtSet_4, execS_3, execS_4, execS_5, execS_6, execS_7, execS_8, execS_9, evV, evD, toD, toDs]
theorem toDs_ev : ∀ es : List (Bool × Str), toDs (es.map evV) = some (es.map evD)
  | [] => by simp [execSs_2, execS_10, evalE_20, evalE_25, evalE_27, evalE_28, evalE_29, evalE_30, evalE_31, evalE_32, evalE_33, tgtSet_2, tgtSet_3, tgtSet_4, execS_3, execS_4, execS_5, execS_6, execS_7, execS_8, execS_9, toDs]
  | e :: es => by
    rw [List.map_cons]
    unfold toDs
    rw [toDs_ev es, toD_ev]
    rfl
theorem toD_row (es : List (Bool × Str)) : toD (rowV es) = some (.list (es.map evD)) := by
  unfold rowV toD
  rw [toDs_ev]
theorem ev_short : ∀ b : Bool, ∀ x ∈ baseN, (evD (b, x)).shown.length ≤ 30 := by
  intro b
  cases b <;> decide +kernel
theorem shownAll_map (ds : List PyData) : PyData.shownAll ds = ds.map PyData.shown := by
  induction ds with
  | nil => simp [execSs_2, execS_10, evalE_20, evalE_25, evalE_27, evalE_28, evalE_29, evalE_30, evalE_31, evalE_32, evalE_33, tgtSet_2, tgtSet_3, tgtSet_4, execS_3, execS_4, execS_5, execS_6, execS_7, execS_8, execS_9, PyData.shownAll]
  | cons a b ih => simp [execSs_2, execS_10, evalE_20, evalE_25, evalE_27, evalE_28, evalE_29, evalE_30, evalE_31, evalE_32, evalE_33, tgtSet_2, tgtSet_3, tgtSet_4, execS_3, execS_4, execS_5, execS_6, execS_7, execS_8, execS_9, PyData.shownAll, ih]
theorem repr_row (es : List (Bool × Str)) (h : ∀ e ∈ es, e.2 ∈ baseN) (hl : es.length ≤ 2000) : biop .repr [rowV es] = some (.v (.str (PyData.list (es.map evD)).shown)) := by
  have h1 : (PyData.list (es.map evD)).showable = true := by
    have : ∀ l : List (Bool × Str), PyData.showableAll (l.map evD) = true := fun l => by
      induction l with
      | nil => simp [execSs_2, execS_10, evalE_20, evalE_25, evalE_27, evalE_28, evalE_29, evalE_30, evalE_31, evalE_32, evalE_33, tgtSet_2, tgtSet_3, tgtSet_4, execS_3, execS_4, execS_5, execS_6, execS_7, execS_8, execS_9, PyData.showableAll]
      | cons a b ih => simp [execSs_2, execS_10, evalE_20, evalE_25, evalE_27, evalE_28, evalE_29, evalE_30, evalE_31, evalE_32, evalE_33, tgtSet_2, tgtSet_3, tgtSet_4, execS_3, execS_4, execS_5, execS_6, execS_7, execS_8, execS_9, PyData.showableAll, PyData.showable, evD, ih]
    simp [execSs_2, execS_10, evalE_20, evalE_25, evalE_27, evalE_28, evalE_29, evalE_30, evalE_31, evalE_32, evalE_33, tgtSet_2, tgtSet_3, tgtSet_4, execS_3, execS_4, execS_5, execS_6, execS_7, execS_8, execS_9, PyData.showable, this]
  have h2 : (PyData.list (es.map evD)).depth ≤ 60 := by
    have : ∀ l : List (Bool × Str), PyData.depthAll (l.map evD) ≤ 3 := fun l => by
      induction l with
      | nil => simp [execSs_2, execS_10, evalE_20, evalE_25, evalE_27, evalE_28, evalE_29, evalE_30, evalE_31, evalE_32, evalE_33, tgtSet_2, tgtSet_3, tgtSet_4, execS_3, execS_4, execS_5, execS_6, execS_7, execS_8, execS_9, PyData.depthAll]
      | cons a b ih => simp [execSs_2, execS_10, evalE_20, evalE_25, evalE_27, evalE_28, evalE_29, evalE_30, evalE_31, evalE_32, evalE_33, tgtSet_2, tgtSet_3, tgtSet_4, execS_3, execS_4, execS_5, execS_6, execS_7, execS_8, execS_9, PyData.depthAll, PyData.depth, evD]; omega
    have := this es
    simp only [PyData.depth]
    omega
  have h3 : (PyData.list (es.map evD)).shown.length ≤ sizeLine := by
    simp only [PyData.shown, shownAll_map]
    have := listText_le 30 ((es.map evD).map PyData.shown) (fun t ht => by
      obtain ⟨d, hd, rfl⟩ := List.mem_map.mp ht
      obtain ⟨e, he, rfl⟩ := List.mem_map.mp hd
      exact ev_short e.1 e.2 (h e he))
    have hb := size_big
    simp only [List.length_map] at this
    omega
  have hs : showOk (PyData.list (es.map evD)) = true := by simp only [showOk, h1, h2, h3, decide_true, Bool.and_self]
  simp only [biop, toD_row]
  show (if showOk _ = true then _ else _) = _
  rw [if_pos hs]
end Rs
end
section
set_option maxRecDepth 100000
set_option maxHeartbeats 4000000
/-! Stretches of a row. -/
namespace Rs
open PySem L2
abbrev Ev := Bool × Str
abbrev Pr := Int × Int
def pV (p : Pr) : Val := .tup [.int p.1, .int p.2]
def pD (p : Pr) : PyData := .tuple [.int p.1, .int p.2]
theorem evV_inj (a b : Ev) (h : evV a = evV b) : a = b := by
  obtain ⟨a1, a2⟩ := a
  obtain ⟨b1, b2⟩ := b
  have hne : ("void" : Str) ≠ "call" := by decide +kernel
  simp only [evV, Val.tup.injEq, List.cons.injEq, Val.str.injEq, and_true] at h
  obtain ⟨h1, rfl⟩ := h
  cases a1 <;> cases b1
  · rfl
  · simp only [Bool.false_eq_true, if_false, if_true] at h1; exact absurd h1.symm hne
  · simp only [Bool.false_eq_true, if_false, if_true] at h1; exact absurd h1 hne
  · rfl
theorem call_ne : ("call" : Str) ≠ "void" := by decide +kernel
theorem void_ne : ("void" : Str) ≠ "call" := by decide +kernel
theorem take_snoc {α : Type} {e : α} : ∀ {es : List α} {k : Nat}, es[k]? = some e → es.take (k + 1) = es.take k ++ [e]
  | [], _, h => by simp at h
  | x :: es, 0, h => by simp at h; simp [execSs_2, execS_10, evalE_20, evalE_25, evalE_27, evalE_28, evalE_29, evalE_30, evalE_31, evalE_32, evalE_33, tgtSet_2, tgtSet_3, tgtSet_4, execS_3, execS_4, execS_5, execS_6, execS_7, execS_8, execS_9, h]
  | x :: es, k + 1, h => by
    simp only [List.getElem?_cons_succ] at h
    rw [List.take_succ_cons, take_snoc h, List.take_succ_cons, List.cons_append]
theorem enumV_len (xs : List Val) : ∀ i : Nat, (enumV i xs).length = xs.length := by
  induction xs with
  | nil => intro i; rfl
  | cons a b ih => intro i; simp [execSs_2, execS_10, evalE_20, evalE_25, evalE_27, evalE_28, evalE_29, evalE_30, evalE_31, evalE_32, evalE_33, tgtSet_2, tgtSet_3, tgtSet_4, execS_3, execS_4, execS_5, execS_6, execS_7, execS_8, execS_9, enumV, ih]
theorem enumV_get (xs : List Val) : ∀ (i k : Nat), (enumV i xs)[k]? = xs[k]?.map fun x => .tup [.int ((i + k : Nat) : Int), x] := by
  induction xs with
  | nil => intro i k; simp [execSs_2, execS_10, evalE_20, evalE_25, evalE_27, evalE_28, evalE_29, evalE_30, evalE_31, evalE_32, evalE_33, tgtSet_2, tgtSet_3, tgtSet_4, execS_3, execS_4, execS_5, execS_6, execS_7, execS_8, execS_9, enumV]
  | cons x xs ih =>
    intro i k
    cases k with
    | zero => simp [execSs_2, execS_10, evalE_20, evalE_25, evalE_27, evalE_28, evalE_29, evalE_30, evalE_31, evalE_32, evalE_33, tgtSet_2, tgtSet_3, tgtSet_4, execS_3, execS_4, execS_5, execS_6, execS_7, execS_8, execS_9, enumV]
    | succ k =>
      simp only [enumV, List.getElem?_cons_succ]
      rw [ih]
      congr 2
      funext y
      congr 4
      omega
theorem enum_at {es : List Ev} {done post : List Val} {y : Val} (h : enumV 0 (es.map evV) = done ++ y :: post) : ∃ e, es[done.length]? = some e ∧ y = .tup [.int (done.length : Int), evV e] := by
  have h1 : (enumV 0 (es.map evV))[done.length]? = some y := by rw [h]; simp
  rw [enumV_get, List.getElem?_map] at h1
  cases q : es[done.length]? with
  | none => rw [q] at h1; simp at h1
  | some e =>
    rw [q] at h1
    simp only [Option.map_some, Option.some.injEq] at h1
    exact ⟨e, rfl, by rw [← h1, Nat.zero_add]⟩
theorem drop_none {al : AL} {x : Str} (h : x ∉ al.map (·.1)) : AL.drop al x = al := by
  unfold AL.drop
  rw [List.filter_eq_self]
  intro p hp
  simp only [decide_eq_true_eq]
  exact fun z => h (List.mem_map.mpr ⟨p, hp, z⟩)
theorem val_vl (r : R Rv) : r.val = r.vl := rfl
section
variable {T : Tab}
theorem lc_map {C : Call} {elt : IE} {p : Pat} {k : Sk} {src conds : List IE} {vs : List Nat} {e : List Slot} {h : List Cell} {os : List Rv} {items : List Val} (f : Val → Option Val) (q1 : evalOs T C src ⟨e, h⟩ = .ok os ⟨e, h⟩) (q2 : srcItems k (os.map (deref ⟨e, h⟩)) = some items) (hn : items.length ≤ sizeLine)
    (q3 : ∀ it ∈ items, ∃ e1, patSet p it (wipeE e vs) = some e1 ∧ wipeE e1 vs = wipeE e vs ∧ match f it with
      | none => evalTs T C conds ⟨e1, h⟩ = .ok false ⟨e1, h⟩
      | some y => evalTs T C conds ⟨e1, h⟩ = .ok true ⟨e1, h⟩ ∧ (evalE T C elt ⟨e1, h⟩).vl = .ok y ⟨e1, h⟩) (hr : restE e (wipeE e vs) vs = e := by rfl) (hl : lockAll ⟨e, h⟩ os = ⟨e, h⟩ := by rfl) (hu : unlockAll ⟨e, h⟩ ⟨e, h⟩ os = ⟨e, h⟩ := by rfl) : evalE T C (.lc elt p k src conds vs) ⟨e, h⟩ = .ok (.f (.lst (items.filterMap f) false)) ⟨e, h⟩ := by
  have := comp_pure (st := patSet p) (tst := evalTs T C conds) (elt := fun s => (evalE T C elt s).val) (vs := vs) (s0 := ⟨wipeE e vs, h⟩) f items [] (fun it hit => q3 it hit) (by simpa using hn)
  rw [List.nil_append] at this
  exact lc_pl q1 q2 this rfl hr hl hu
end
/-! ### pairs in order -/
def pLe (a b : Pr) : Bool := PySem.W.dataLe false dD (pV a) (pV b)
def sortP (xs : List Pr) : List Pr := xs.mergeSort pLe
theorem dD_pV (p : Pr) : dD (pV p) = pD p := by simp [execSs_2, execS_10, evalE_20, evalE_25, evalE_27, evalE_28, evalE_29, evalE_30, evalE_31, evalE_32, evalE_33, tgtSet_2, tgtSet_3, tgtSet_4, execS_3, execS_4, execS_5, execS_6, execS_7, execS_8, execS_9, dD, pV, pD, toD, toDs]
theorem toDs_pV : ∀ xs : List Pr, toDs (xs.map pV) = some (xs.map pD)
  | [] => by simp [execSs_2, execS_10, evalE_20, evalE_25, evalE_27, evalE_28, evalE_29, evalE_30, evalE_31, evalE_32, evalE_33, tgtSet_2, tgtSet_3, tgtSet_4, execS_3, execS_4, execS_5, execS_6, execS_7, execS_8, execS_9, toDs]
  | p :: al => by
    rw [List.map_cons]
    unfold toDs
    rw [toDs_pV al]
    simp [execSs_2, execS_10, evalE_20, evalE_25, evalE_27, evalE_28, evalE_29, evalE_30, evalE_31, evalE_32, evalE_33, tgtSet_2, tgtSet_3, tgtSet_4, execS_3, execS_4, execS_5, execS_6, execS_7, execS_8, execS_9, pV, pD, toD, toDs]
theorem pLe_iff (a b : Pr) : pLe a b = true ↔ a.1 < b.1 ∨ (a.1 = b.1 ∧ a.2 ≤ b.2) := by
  unfold pLe PySem.W.dataLe PySem.W.sortLe
  simp only [dD_pV, cond_false]
  show (!PyProof.Rows.lexLt PyProof.Rows.itemOrd (PySem.W.keyToks (pD b)) (PySem.W.keyToks (pD a))) = true ↔ _
  simp only [pD, PySem.W.keyToks, PySem.W.keyToksAll, List.singleton_append, PyProof.Rows.lexLt, PyProof.Rows.itemLt]
  simp
  omega
theorem okD_pV (p : Pr) : okD (pD p) = true := by simp [execSs_2, execS_10, evalE_20, evalE_25, evalE_27, evalE_28, evalE_29, evalE_30, evalE_31, evalE_32, evalE_33, tgtSet_2, tgtSet_3, tgtSet_4, execS_3, execS_4, execS_5, execS_6, execS_7, execS_8, execS_9, okD, pD, PyData.plain, PyData.plainAll, PyData.depth, PyData.depthAll]
theorem vsort_pairs (xs : List Pr) (h : xs.length ≤ sizeLine) : vsort (xs.map pV) = some ((sortP xs).map pV) := by
  unfold vsort
  rw [isort_data]
  rw [toDs_pV]
  have h1 : allAlike (xs.map pD) = true := by simp [execSs_2, execS_10, evalE_20, evalE_25, evalE_27, evalE_28, evalE_29, evalE_30, evalE_31, evalE_32, evalE_33, tgtSet_2, tgtSet_3, tgtSet_4, execS_3, execS_4, execS_5, execS_6, execS_7, execS_8, execS_9, allAlike, PySem.W.alike, PySem.W.alikeAll, pD]
  have h2 : sortable (xs.map pD) = true := by unfold sortable; rw [Bool.or_eq_true]; left; simp [execSs_2, execS_10, evalE_20, evalE_25, evalE_27, evalE_28, evalE_29, evalE_30, evalE_31, evalE_32, evalE_33, tgtSet_2, tgtSet_3, tgtSet_4, execS_3, execS_4, execS_5, execS_6, execS_7, execS_8, execS_9, pD]
  have h3 : ((xs.map pD).all okD) = true := by simp [execSs_2, execS_10, evalE_20, evalE_25, evalE_27, evalE_28, evalE_29, evalE_30, evalE_31, evalE_32, evalE_33, tgtSet_2, tgtSet_3, tgtSet_4, execS_3, execS_4, execS_5, execS_6, execS_7, execS_8, execS_9, okD_pV]
  simp only [h1, h2, h3, Bool.true_and, List.length_map]
  rw [if_pos (by simpa using h)]
  congr 1
  exact (List.map_mergeSort (f := pV) (r := pLe) (s := PySem.W.dataLe false dD) (l := xs) fun a _ b _ => rfl).symm
theorem sortP_perm (xs : List Pr) : (sortP xs).Perm xs := List.mergeSort_perm _ _
theorem sortP_sorted (xs : List Pr) : (sortP xs).Pairwise fun a b => pLe a b = true := by
  apply List.pairwise_mergeSort
  · intro a b c h1 h2
    rw [pLe_iff] at *
    omega
  · intro a b
    rw [Bool.or_eq_true, pLe_iff, pLe_iff]
    omega
theorem eq_of_perm {α : Type} {le : α → α → Prop} (anti : ∀ a b, le a b → le b a → a = b) : ∀ {xs ys : List α}, xs.Perm ys → xs.Pairwise le → ys.Pairwise le → (∀ a, le a a) → xs = ys
  | [], ys, p, _, _, _ => (List.Perm.nil_eq p)
  | x :: xs, [], p, _, _, _ => absurd p.length_eq (by simp)
  | x :: xs, y :: ys, p, hx, hy, rf => by
    rw [List.pairwise_cons] at hx hy
    have h1 : le x y := by
      rcases List.mem_cons.mp (p.mem_iff.mpr (List.mem_cons_self (a := y) (l := ys))) with e | h
      · rw [e]; exact rf x
      · exact hx.1 y h
    have h2 : le y x := by
      rcases List.mem_cons.mp (p.mem_iff.mp (List.mem_cons_self (a := x) (l := xs))) with e | h
      · rw [e]; exact rf y
      · exact hy.1 x h
    have e := anti x y h1 h2
    subst e
    rw [eq_of_perm anti (List.perm_cons x |>.mp p) hx.2 hy.2 rf]
theorem sortP_eq {xs ys : List Pr} (p : xs.Perm ys) : sortP xs = sortP ys := by
  refine eq_of_perm (le := fun a b => pLe a b = true) (fun a b h1 h2 => ?_) (((sortP_perm xs).trans p).trans (sortP_perm ys).symm) (sortP_sorted xs) (sortP_sorted ys) (fun a => by rw [pLe_iff]; omega)
  rw [pLe_iff] at *
  exact Prod.ext (by omega) (by omega)
/-! ### the program's stretches -/
def strF : Nat → AL → List Ev → List Pr
  | _, _, [] => []
  | n, al, e :: es => if e.1 then strF (n + 1) (AL.drop al e.2) es else (match AL.get al e.2 with
    | none => []
    | some i => [(i, (n : Int))]) ++ strF (n + 1) (AL.put al e.2 n) es
def strA : Nat → AL → List Ev → AL
  | _, al, [] => al
  | n, al, e :: es => strA (n + 1) (if e.1 then AL.drop al e.2 else AL.put al e.2 n) es
theorem strA_snoc : ∀ (n : Nat) (al : AL) (es : List Ev) (e : Ev), strA n al (es ++ [e]) = if e.1 then AL.drop (strA n al es) e.2 else AL.put (strA n al es) e.2 ((n + es.length : Nat) : Int)
  | n, al, [], e => by simp [execSs_2, execS_10, evalE_20, evalE_25, evalE_27, evalE_28, evalE_29, evalE_30, evalE_31, evalE_32, evalE_33, tgtSet_2, tgtSet_3, tgtSet_4, execS_3, execS_4, execS_5, execS_6, execS_7, execS_8, execS_9, strA]
  | n, al, x :: es, e => by
    rw [List.cons_append, strA, strA_snoc, strA]
    congr 3
    simp only [List.length_cons]
    omega
theorem strF_snoc : ∀ (n : Nat) (al : AL) (es : List Ev) (e : Ev), strF n al (es ++ [e]) = strF n al es ++ (if e.1 then [] else match AL.get (strA n al es) e.2 with
    | none => []
    | some i => [(i, ((n + es.length : Nat) : Int))])
  | n, al, [], e => by
    obtain ⟨b, x⟩ := e
    cases b <;> simp [execSs_2, execS_10, evalE_20, evalE_25, evalE_27, evalE_28, evalE_29, evalE_30, evalE_31, evalE_32, evalE_33, tgtSet_2, tgtSet_3, tgtSet_4, execS_3, execS_4, execS_5, execS_6, execS_7, execS_8, execS_9, strF, strA]
  | n, al, x :: es, e => by
    rw [List.cons_append, strF, strF]
    rw [strF_snoc, strF_snoc, strA]
    have e1 : n + 1 + es.length = n + (x :: es).length := by simp only [List.length_cons]; omega
    cases x.1 <;> simp [execSs_2, execS_10, evalE_20, evalE_25, evalE_27, evalE_28, evalE_29, evalE_30, evalE_31, evalE_32, evalE_33, tgtSet_2, tgtSet_3, tgtSet_4, execS_3, execS_4, execS_5, execS_6, execS_7, execS_8, execS_9, e1]
/-- a stretch, by its two calls -/
structure IsStr (es : List Ev) (i j : Nat) : Prop where
  lt : i < j
  ex : ∃ x, es[i]? = some (false, x) ∧ es[j]? = some (false, x) ∧ ∀ k e, i < k → k < j → es[k]? = some e → e.2 ≠ x
/-- what the dict of last calls holds behind a row -/
def LastOK (es : List Ev) (al : AL) : Prop := (al.map (·.1)).Nodup ∧ ∀ x i, (x, i) ∈ al ↔ ∃ n : Nat, i = n ∧ es[n]? = some (false, x) ∧ ∀ k e, n < k → es[k]? = some e → e.2 ≠ x
theorem drop_mem {al : AL} {x y : Str} {i : Int} : (y, i) ∈ AL.drop al x ↔ (y, i) ∈ al ∧ y ≠ x := by
  unfold AL.drop
  rw [List.mem_filter]
  simp
theorem put_mem {al : AL} (nd : (al.map (·.1)).Nodup) {x y : Str} {i k : Int} : (y, i) ∈ AL.put al x k ↔ (y = x ∧ i = k) ∨ ((y, i) ∈ al ∧ y ≠ x) := by
  rw [(put_perm nd x k).mem_iff, List.mem_append, drop_mem]
  simp only [List.mem_singleton, Prod.mk.injEq]
  exact or_comm
theorem drop_nd {al : AL} (nd : (al.map (·.1)).Nodup) (x : Str) : ((AL.drop al x).map (·.1)).Nodup := by
  rw [drop_names]
  exact nd.sublist List.filter_sublist
theorem put_nd {al : AL} (nd : (al.map (·.1)).Nodup) (x : Str) (k : Int) : ((AL.put al x k).map (·.1)).Nodup := by
  rw [put_names]
  split
  · exact nd
  · rename_i h
    rw [List.nodup_append]
    exact ⟨nd, by simp, fun a ha b hb z => h (by simp at hb; subst hb; subst z; exact ha)⟩
theorem get_snoc {α : Type} {es : List α} {e f : α} {k : Nat} (h : (es ++ [e])[k]? = some f) : es[k]? = some f ∨ (k = es.length ∧ f = e) := by
  by_cases hk : k < es.length
  · rw [List.getElem?_append_left hk] at h
    exact .inl h
  · rw [List.getElem?_append_right (by omega)] at h
    have h1 := (List.getElem?_eq_some_iff.mp h).1
    simp only [List.length_singleton] at h1
    have : k - es.length = 0 := by omega
    rw [this] at h
    simp at h
    exact .inr ⟨by omega, h.symm⟩
theorem get_snoc_l {α : Type} {es : List α} {e f : α} {k : Nat} (h : es[k]? = some f) : (es ++ [e])[k]? = some f := by
  rw [List.getElem?_append_left (List.getElem?_eq_some_iff.mp h).1]
  exact h
theorem get_snoc_r {α : Type} {es : List α} {e : α} : (es ++ [e])[es.length]? = some e := by simp
theorem get_lt {α : Type} {es : List α} {f : α} {k : Nat} (h : es[k]? = some f) : k < es.length := (List.getElem?_eq_some_iff.mp h).1
theorem last_snoc {es : List Ev} {al : AL} (h : LastOK es al) (e : Ev) : LastOK (es ++ [e]) (if e.1 then AL.drop al e.2 else AL.put al e.2 (es.length : Nat)) := by
  obtain ⟨nd, h⟩ := h
  obtain ⟨b, x⟩ := e
  have old : ∀ y i, y ≠ x → ((y, i) ∈ al ↔ ∃ n : Nat, i = n ∧ (es ++ [(b, x)])[n]? = some (false, y) ∧ ∀ k e, n < k → (es ++ [(b, x)])[k]? = some e → e.2 ≠ y) := fun y i hy => by
    rw [h]
    constructor
    · rintro ⟨n, rfl, h1, h2⟩
      refine ⟨n, rfl, get_snoc_l h1, fun k e hk he => ?_⟩
      rcases get_snoc he with he | ⟨_, rfl⟩
      · exact h2 k e hk he
      · exact fun z => hy z.symm
    · rintro ⟨n, rfl, h1, h2⟩
      rcases get_snoc h1 with h1 | ⟨_, h1⟩
      · exact ⟨n, rfl, h1, fun k e hk he => h2 k e hk (get_snoc_l he)⟩
      · cases h1; exact absurd rfl hy
  cases b with
  | true =>
    refine ⟨drop_nd nd x, fun y i => ?_⟩
    simp only [if_true]
    rw [drop_mem]
    by_cases hy : y = x
    · subst hy
      simp only [ne_eq, not_true, and_false, false_iff]
      rintro ⟨n, rfl, h1, h2⟩
      rcases get_snoc h1 with h1 | ⟨_, h1⟩
      · exact h2 es.length _ (get_lt h1) get_snoc_r rfl
      · cases h1
    · simp only [ne_eq, hy, not_false_eq_true, and_true]
      exact old y i hy
  | false =>
    refine ⟨put_nd nd x _, fun y i => ?_⟩
    simp only [Bool.false_eq_true, if_false]
    rw [put_mem nd]
    by_cases hy : y = x
    · subst hy
      simp only [true_and, ne_eq, not_true, and_false, or_false]
      constructor
      · rintro rfl
        refine ⟨es.length, rfl, get_snoc_r, fun k e hk he => ?_⟩
        have := get_lt he
        simp at this
        omega
      · rintro ⟨n, rfl, h1, h2⟩
        rcases get_snoc h1 with h1 | ⟨h1, _⟩
        · exact absurd rfl (h2 es.length _ (get_lt h1) get_snoc_r)
        · rw [h1]
    · simp only [hy, false_and, false_or, ne_eq, not_false_eq_true, and_true]
      exact old y i hy
theorem strF_last : ∀ (es : List Ev) (k : Nat), k ≤ es.length → LastOK (es.take k) (strA 0 [] (es.take k)) := fun es k => by
  induction k with
  | zero => intro _; exact ⟨by simp [execSs_2, execS_10, evalE_20, evalE_25, evalE_27, evalE_28, evalE_29, evalE_30, evalE_31, evalE_32, evalE_33, tgtSet_2, tgtSet_3, tgtSet_4, execS_3, execS_4, execS_5, execS_6, execS_7, execS_8, execS_9, strA], fun x i => by simp [execSs_2, execS_10, evalE_20, evalE_25, evalE_27, evalE_28, evalE_29, evalE_30, evalE_31, evalE_32, evalE_33, tgtSet_2, tgtSet_3, tgtSet_4, execS_3, execS_4, execS_5, execS_6, execS_7, execS_8, execS_9, strA]⟩
  | succ k ih =>
    intro hk
    have hk' : k < es.length := by omega
    have he : es[k]? = some es[k] := List.getElem?_eq_getElem hk'
    rw [take_snoc he, strA_snoc]
    have := last_snoc (ih (by omega)) es[k]
    rw [List.length_take, Nat.min_eq_left (by omega)] at this ⊢
    rw [Nat.zero_add]
    exact this
theorem strF_spec (es : List Ev) : ∀ k, k ≤ es.length → ∀ p, p ∈ strF 0 [] (es.take k) ↔ ∃ i j : Nat, p = ((i : Int), (j : Int)) ∧ j < k ∧ IsStr es i j := fun k => by
  induction k with
  | zero => intro _ p; simp [execSs_2, execS_10, evalE_20, evalE_25, evalE_27, evalE_28, evalE_29, evalE_30, evalE_31, evalE_32, evalE_33, tgtSet_2, tgtSet_3, tgtSet_4, execS_3, execS_4, execS_5, execS_6, execS_7, execS_8, execS_9, strF]
  | succ k ih =>
    intro hk p
    have hk' : k < es.length := by omega
    have he : es[k]? = some es[k] := List.getElem?_eq_getElem hk'
    obtain ⟨nd, L⟩ := strF_last es k (by omega)
    rw [take_snoc he, strF_snoc, List.mem_append, ih (by omega)]
    rw [List.length_take, Nat.min_eq_left (by omega), Nat.zero_add]
    generalize es[k] = e at he
    obtain ⟨b, x⟩ := e
    have tk : ∀ n e, (es.take k)[n]? = some e ↔ n < k ∧ es[n]? = some e := fun n e => by
      rw [List.getElem?_take]
      split
      · simp [execSs_2, execS_10, evalE_20, evalE_25, evalE_27, evalE_28, evalE_29, evalE_30, evalE_31, evalE_32, evalE_33, tgtSet_2, tgtSet_3, tgtSet_4, execS_3, execS_4, execS_5, execS_6, execS_7, execS_8, execS_9, *]
      · simp [execSs_2, execS_10, evalE_20, evalE_25, evalE_27, evalE_28, evalE_29, evalE_30, evalE_31, evalE_32, evalE_33, tgtSet_2, tgtSet_3, tgtSet_4, execS_3, execS_4, execS_5, execS_6, execS_7, execS_8, execS_9, *]
    constructor
    · rintro (⟨i, j, rfl, hj, hs⟩ | h)
      · exact ⟨i, j, rfl, by omega, hs⟩
      · cases b with
        | true => simp at h
        | false =>
          simp only [Bool.false_eq_true, if_false] at h
          cases q : AL.get (strA 0 [] (es.take k)) x with
          | none => simp [execSs_2, execS_10, evalE_20, evalE_25, evalE_27, evalE_28, evalE_29, evalE_30, evalE_31, evalE_32, evalE_33, tgtSet_2, tgtSet_3, tgtSet_4, execS_3, execS_4, execS_5, execS_6, execS_7, execS_8, execS_9, q] at h
          | some i =>
            simp only [q, List.mem_singleton] at h
            obtain ⟨n, rfl, h1, h2⟩ := (L x i).mp (get_some q)
            rw [tk] at h1
            exact ⟨n, k, h, by omega, h1.1, x, h1.2, he, fun m e hm hmk hme => h2 m e hm ((tk m e).mpr ⟨hmk, hme⟩)⟩
    · rintro ⟨i, j, rfl, hj, hs⟩
      by_cases hjk : j < k
      · exact .inl ⟨i, j, rfl, hjk, hs⟩
      · right
        have : j = k := by omega
        subst this
        obtain ⟨hlt, y, h1, h2, h3⟩ := hs
        rw [he] at h2
        cases h2
        simp only [Bool.false_eq_true, if_false]
        have hm : (x, (i : Int)) ∈ strA 0 [] (es.take j) := (L x i).mpr ⟨i, rfl, (tk i _).mpr ⟨hlt, h1⟩, fun m e hm hme => h3 m e hm ((tk m e).mp hme).1 ((tk m e).mp hme).2⟩
        rw [get_mem nd hm]
        simp
theorem strF_sorted : ∀ (n : Nat) (al : AL) (es : List Ev), (strF n al es).Pairwise (fun a b => a.2 < b.2) ∧ ∀ p ∈ strF n al es, (n : Int) ≤ p.2
  | n, al, [] => by simp [execSs_2, execS_10, evalE_20, evalE_25, evalE_27, evalE_28, evalE_29, evalE_30, evalE_31, evalE_32, evalE_33, tgtSet_2, tgtSet_3, tgtSet_4, execS_3, execS_4, execS_5, execS_6, execS_7, execS_8, execS_9, strF]
  | n, al, e :: es => by
    have g1 := strF_sorted (n + 1) (AL.drop al e.2) es
    have g2 := strF_sorted (n + 1) (AL.put al e.2 n) es
    unfold strF
    split
    · exact ⟨g1.1, fun p hp => by have := g1.2 p hp; omega⟩
    · cases AL.get al e.2 with
      | none => exact ⟨by simpa using g2.1, fun p hp => by have := g2.2 p (by simpa using hp); omega⟩
      | some i =>
        refine ⟨?_, fun p hp => ?_⟩
        · rw [List.singleton_append, List.pairwise_cons]
          exact ⟨fun p hp => by have := g2.2 p hp; simp only; omega, g2.1⟩
        · rcases List.mem_append.mp hp with hp | hp
          · simp at hp; subst hp; simp
          · have := g2.2 p hp; omega
theorem strF_nodup (es : List Ev) : (strF 0 [] es).Nodup := (strF_sorted 0 [] es).1.imp fun h e => by rw [e] at h; omega
end Rs
end
section
set_option maxRecDepth 100000
set_option maxHeartbeats 4000000
/-! The program's stretches, run. -/
namespace Rs
open PySem L2
section
variable {T : Tab}
def strBody : List IS := [(.ite (.cmp .eq (.var 4) (.cst (.str "void"))) [(.ex (.mt .dpop (.var 2) [(.var 5), (.cst .non)]))] [(.ite (.cmp .isin (.var 5) (.var 2)) [(.ex (.mt .append (.var 1) [(.tup [(.sub (.var 2) (.var 5)), (.var 3)])]))] []), (.asg (.sub (.var 2) (.var 5)) (.var 3))])]
theorem strA_len : ∀ (n : Nat) (al : AL) (es : List Ev), (strA n al es).length ≤ al.length + es.length
  | n, al, [] => by simp [execSs_2, execS_10, evalE_20, evalE_25, evalE_27, evalE_28, evalE_29, evalE_30, evalE_31, evalE_32, evalE_33, tgtSet_2, tgtSet_3, tgtSet_4, execS_3, execS_4, execS_5, execS_6, execS_7, execS_8, execS_9, strA]
  | n, al, e :: es => by
    have := strA_len (n + 1) (if e.1 then AL.drop al e.2 else AL.put al e.2 n) es
    have h1 : (if e.1 then AL.drop al e.2 else AL.put al e.2 n).length ≤ al.length + 1 := by
      split
      · have : (AL.drop al e.2).length ≤ al.length := List.length_filter_le _ _
        omega
      · unfold AL.put
        split <;> simp
    unfold strA
    simp only [List.length_cons]
    omega
theorem strF_len : ∀ (n : Nat) (al : AL) (es : List Ev), (strF n al es).length ≤ es.length
  | n, al, [] => by simp [execSs_2, execS_10, evalE_20, evalE_25, evalE_27, evalE_28, evalE_29, evalE_30, evalE_31, evalE_32, evalE_33, tgtSet_2, tgtSet_3, tgtSet_4, execS_3, execS_4, execS_5, execS_6, execS_7, execS_8, execS_9, strF]
  | n, al, e :: es => by
    have h1 := strF_len (n + 1) (AL.drop al e.2) es
    have h2 := strF_len (n + 1) (AL.put al e.2 n) es
    unfold strF
    split
    · simp only [List.length_cons]; omega
    · split
      · simp; omega
      · simp; omega
theorem str_loop (C : Call) (h : List Cell) (es : List Ev) (hl : es.length ≤ 10000) : ∃ (nu w nm : Slot), forL (patSet (.tp [(.nm 3), (.tp [(.nm 4), (.nm 5)])])) (execSs T C strBody) (enumV 0 (es.map evV)) ⟨[.val (rowV es), .own (.lst [] false), .own (.dct [] false), .no, .no, .no], h⟩ = .ok .nx ⟨[.val (rowV es), .own (.lst ((strF 0 [] es).map pV) false), .own (.dct (alV (strA 0 [] es)) false), nu, w, nm], h⟩ := by
  have hb := size_big
  obtain ⟨s2, k2, nu, w, nm, rfl⟩ := for_nx (st := patSet (.tp [(.nm 3), (.tp [(.nm 4), (.nm 5)])])) (body := execSs T C strBody) (fun done s => ∃ (nu w nm : Slot), s = ⟨[.val (rowV es), .own (.lst ((strF 0 [] (es.take done.length)).map pV) false), .own (.dct (alV (strA 0 [] (es.take done.length))) false), nu, w, nm], h⟩) (enumV 0 (es.map evV)) [] ⟨[.val (rowV es), .own (.lst [] false), .own (.dct [] false), .no, .no, .no], h⟩
    ⟨.no, .no, .no, rfl⟩ (fun done y s ⟨nu, w, nm, hs⟩ ⟨post, hpost⟩ => by
      subst hs
      rw [List.nil_append] at hpost
      obtain ⟨e, he, rfl⟩ := enum_at hpost
      have hdl : done.length < es.length := (List.getElem?_eq_some_iff.mp he).1
      have htl : (es.take done.length).length = done.length := by rw [List.length_take]; omega
      have hfl : ((strF 0 [] (es.take done.length)).map pV).length < sizeLine := by
        have := strF_len 0 [] (es.take done.length)
        rw [List.length_map]
        omega
      have hal : (alV (strA 0 [] (es.take done.length))).length < sizeLine := by
        have := strA_len 0 [] (es.take done.length)
        simp only [List.length_nil] at this
        rw [alV_len]
        omega
      obtain ⟨b, x⟩ := e
      refine ⟨[.val (rowV es), .own (.lst ((strF 0 [] (es.take done.length)).map pV) false), .own (.dct (alV (strA 0 [] (es.take done.length))) false), .val (.int done.length), .val (.str (if b then "void" else "call")), .val (.str x)], ⟨[.val (rowV es), .own (.lst ((strF 0 [] (es.take (done.length + 1))).map pV) false), .own (.dct (alV (strA 0 [] (es.take (done.length + 1)))) false), .val (.int done.length), .val (.str (if b then "void" else "call")), .val (.str x)], h⟩, by simp [execSs_2, execS_10, evalE_20, evalE_25, evalE_27, evalE_28, evalE_29, evalE_30, evalE_31, evalE_32, evalE_33, tgtSet_2, tgtSet_3, tgtSet_4, execS_3, execS_4, execS_5, execS_6, execS_7, execS_8, execS_9, patSet, patSets, evV], .inl ?_, ⟨.val (.int done.length), .val (.str (if b then "void" else "call")), .val (.str x), by simp⟩⟩
      rw [take_snoc he, strF_snoc, strA_snoc, htl, Nat.zero_add]
      generalize strA 0 [] (es.take done.length) = al at *
      generalize strF 0 [] (es.take done.length) = fo at *
      unfold strBody
      cases b with
      | true =>
        cases q : AL.get al x with
        | none => simp [execSs_2, execS_10, evalE_20, evalE_25, evalE_27, evalE_28, evalE_29, evalE_30, evalE_31, evalE_32, evalE_33, tgtSet_2, tgtSet_3, tgtSet_4, execS_3, execS_4, execS_5, execS_6, execS_7, execS_8, execS_9, cmpop, veq_str, mkind, mtop, keyV, dget_al, q, drop_none (get_none.mp q)]
        | some k => simp [execSs_2, execS_10, evalE_20, evalE_25, evalE_27, evalE_28, evalE_29, evalE_30, evalE_31, evalE_32, evalE_33, tgtSet_2, tgtSet_3, tgtSet_4, execS_3, execS_4, execS_5, execS_6, execS_7, execS_8, execS_9, cmpop, veq_str, mkind, mtop, keyV, dget_al, q, ddrop_al]
      | false =>
        cases q : AL.get al x with
        | none => simp [execSs_2, execS_10, evalE_20, evalE_25, evalE_27, evalE_28, evalE_29, evalE_30, evalE_31, evalE_32, evalE_33, tgtSet_2, tgtSet_3, tgtSet_4, execS_3, execS_4, execS_5, execS_6, execS_7, execS_8, execS_9, cmpop, veq_str, call_ne, vin, keyV, dget_al, q, hal, dput_al]
        | some k => simp [execSs_2, execS_10, evalE_20, evalE_25, evalE_27, evalE_28, evalE_29, evalE_30, evalE_31, evalE_32, evalE_33, tgtSet_2, tgtSet_3, tgtSet_4, execS_3, execS_4, execS_5, execS_6, execS_7, execS_8, execS_9, cmpop, veq_str, call_ne, vin, vsub, keyV, dget_al, q, hal, dput_al, mkind, mtop, hfl, pV, -List.length_map])
  refine ⟨nu, w, nm, ?_⟩
  rw [List.nil_append, enumV_len, List.length_map, List.take_length] at k2
  exact k2
theorem str_ret (C : Call) (h : List Cell) (es : List Ev) (hl : es.length ≤ 10000) (r : List IS) : ∃ (nu w nm : Slot), execSs T C ([(.own 1 (.lst [])), (.own 2 (.dsp [])), (.for_ (.tp [(.nm 3), (.tp [(.nm 4), (.nm 5)])]) .enum [(.var 0)] strBody)] ++ r) ⟨[.val (rowV es), .no, .no, .no, .no, .no], h⟩ = execSs T C r ⟨[.val (rowV es), .own (.lst ((strF 0 [] es).map pV) false), .own (.dct (alV (strA 0 [] es)) false), nu, w, nm], h⟩ := by
  obtain ⟨nu, w, nm, k⟩ := str_loop (T := T) C h es hl
  refine ⟨nu, w, nm, ?_⟩
  simp only [List.cons_append, List.nil_append]
  rw [seq_nx (s1 := ⟨[.val (rowV es), .own (.lst [] false), .no, .no, .no, .no], h⟩) (by simp [execSs_2, execS_10, evalE_20, evalE_25, evalE_27, evalE_28, evalE_29, evalE_30, evalE_31, evalE_32, evalE_33, tgtSet_2, tgtSet_3, tgtSet_4, execS_3, execS_4, execS_5, execS_6, execS_7, execS_8, execS_9])]
  rw [seq_nx (s1 := ⟨[.val (rowV es), .own (.lst [] false), .own (.dct [] false), .no, .no, .no], h⟩) (by simp [execSs_2, execS_10, evalE_20, evalE_25, evalE_27, evalE_28, evalE_29, evalE_30, evalE_31, evalE_32, evalE_33, tgtSet_2, tgtSet_3, tgtSet_4, execS_3, execS_4, execS_5, execS_6, execS_7, execS_8, execS_9, kvsOf, dmerge])]
  rw [seq_nx (for_pl (os := [.v (rowV es)]) (items := enumV 0 (es.map evV)) (by simp) (by simp [execSs_2, execS_10, evalE_20, evalE_25, evalE_27, evalE_28, evalE_29, evalE_30, evalE_31, evalE_32, evalE_33, tgtSet_2, tgtSet_3, tgtSet_4, execS_3, execS_4, execS_5, execS_6, execS_7, execS_8, execS_9, srcItems, rowV]) k)]
def strsOf (es : List Ev) : List Pr := sortP (strF 0 [] es)
theorem bsort_pairs (xs : List Pr) (h : xs.length ≤ sizeLine) : biop .sorted [.lst (xs.map pV)] = some (.f (.lst ((sortP xs).map pV) false)) := by
  simp only [biop, vsort_pairs xs h, Option.map_some]
theorem stretches_ok {fs : List Fd} (f : fs[7]? = some fd_stretches) (n : Nat) (h : List Cell) (es : List Ev) (hl : es.length ≤ 10000) : ∃ e2, callI T fs (n + 1) 7 [rowV es] h = .ok (.lst ((strsOf es).map pV)) ⟨e2, h⟩ := by
  have hb := size_big
  obtain ⟨nu, w, nm, k⟩ := str_ret (T := T) (callI T fs n) h es hl [(.ret (.bi .sorted [(.var 1)]))]
  have hs := strF_len 0 [] es
  refine ⟨_, call_rt (env := [.val (rowV es), .no, .no, .no, .no, .no]) (s2 := ⟨[.val (rowV es), .own (.lst ((strF 0 [] es).map pV) false), .own (.dct (alV (strA 0 [] es)) false), nu, w, nm], h⟩) f rfl rfl ?_⟩
  show execSs T (callI T fs n) is_stretches _ = _
  refine k.trans ?_
  simp [execSs_2, execS_10, evalE_20, evalE_25, evalE_27, evalE_28, evalE_29, evalE_30, evalE_31, evalE_32, evalE_33, tgtSet_2, tgtSet_3, tgtSet_4, execS_3, execS_4, execS_5, execS_6, execS_7, execS_8, execS_9, bsort_pairs _ (show (strF 0 [] es).length ≤ sizeLine by omega), okV, strsOf]
theorem stretches_o {fs : List Fd} {i : Nat} {d : Fd} (f : fs[i]? = some d) (hd : d = ⟨1, 6, [(.own 1 (.lst [])), (.own 2 (.dsp [])), (.for_ (.tp [(.nm 3), (.tp [(.nm 4), (.nm 5)])]) .enum [(.var 0)] strBody), (.ret (.heap (.bi .sorted [(.var 1)])))]⟩) (n : Nat) (h : List Cell) (es : List Ev) (hl : es.length ≤ 10000) : ∃ e2, callI T fs (n + 1) i [rowV es] h = .ok (.ref h.length) ⟨e2, h ++ [.lst ((strsOf es).map pV) false]⟩ := by
  have hb := size_big
  subst hd
  obtain ⟨nu, w, nm, k⟩ := str_ret (T := T) (callI T fs n) h es hl [(.ret (.heap (.bi .sorted [(.var 1)])))]
  have hs := strF_len 0 [] es
  refine ⟨_, call_rt (env := [.val (rowV es), .no, .no, .no, .no, .no]) (s2 := ⟨[.val (rowV es), .own (.lst ((strF 0 [] es).map pV) false), .own (.dct (alV (strA 0 [] es)) false), nu, w, nm], h ++ [.lst ((strsOf es).map pV) false]⟩) f rfl rfl ?_⟩
  refine k.trans ?_
  simp [execSs_2, execS_10, evalE_20, evalE_25, evalE_27, evalE_28, evalE_29, evalE_30, evalE_31, evalE_32, evalE_33, tgtSet_2, tgtSet_3, tgtSet_4, execS_3, execS_4, execS_5, execS_6, execS_7, execS_8, execS_9, bsort_pairs _ (show (strF 0 [] es).length ≤ sizeLine by omega), okV, strsOf]
/-! ### calls -/
def callsF : Nat → List Ev → List Nat
  | _, [] => []
  | n, e :: es => (if e.1 then [] else [n]) ++ callsF (n + 1) es
theorem callsF_len : ∀ (n : Nat) (es : List Ev), (callsF n es).length ≤ es.length
  | _, [] => by simp [execSs_2, execS_10, evalE_20, evalE_25, evalE_27, evalE_28, evalE_29, evalE_30, evalE_31, evalE_32, evalE_33, tgtSet_2, tgtSet_3, tgtSet_4, execS_3, execS_4, execS_5, execS_6, execS_7, execS_8, execS_9, callsF]
  | n, e :: es => by
    have := callsF_len (n + 1) es
    unfold callsF
    split <;> simp <;> omega
theorem callsF_mem : ∀ (n : Nat) (es : List Ev) (k : Nat), k ∈ callsF n es ↔ n ≤ k ∧ ∃ x, es[k - n]? = some (false, x)
  | n, [], k => by simp [execSs_2, execS_10, evalE_20, evalE_25, evalE_27, evalE_28, evalE_29, evalE_30, evalE_31, evalE_32, evalE_33, tgtSet_2, tgtSet_3, tgtSet_4, execS_3, execS_4, execS_5, execS_6, execS_7, execS_8, execS_9, callsF]
  | n, e :: es, k => by
    unfold callsF
    rw [List.mem_append, callsF_mem]
    obtain ⟨b, x⟩ := e
    constructor
    · rintro (h | ⟨h, y, hy⟩)
      · cases b with
        | true => simp at h
        | false => simp at h; subst h; exact ⟨Nat.le_refl _, x, by simp⟩
      · refine ⟨by omega, y, ?_⟩
        rw [show k - n = (k - (n + 1)) + 1 by omega, List.getElem?_cons_succ]
        exact hy
    · rintro ⟨h, y, hy⟩
      by_cases hk : k = n
      · subst hk
        simp at hy
        obtain ⟨rfl, rfl⟩ := hy
        left; simp
      · right
        refine ⟨by omega, y, ?_⟩
        rw [show k - n = (k - (n + 1)) + 1 by omega, List.getElem?_cons_succ] at hy
        exact hy
theorem callsF_fm : ∀ (n : Nat) (es : List Ev), (enumV n (es.map evV)).filterMap (fun v => match v with
    | .tup [.int i, .tup [.str w, .str x]] => if w = "call" then some (.int i) else none
    | _ => none) = (callsF n es).map fun k => Val.int (k : Nat)
  | n, [] => rfl
  | n, e :: es => by
    obtain ⟨b, x⟩ := e
    rw [List.map_cons]
    unfold enumV callsF
    cases b with
    | true => rw [List.filterMap_cons_none (by simp [execSs_2, execS_10, evalE_20, evalE_25, evalE_27, evalE_28, evalE_29, evalE_30, evalE_31, evalE_32, evalE_33, tgtSet_2, tgtSet_3, tgtSet_4, execS_3, execS_4, execS_5, execS_6, execS_7, execS_8, execS_9, evV, void_ne]), callsF_fm]; simp
    | false => rw [List.filterMap_cons_some (b := .int n) (by simp [execSs_2, execS_10, evalE_20, evalE_25, evalE_27, evalE_28, evalE_29, evalE_30, evalE_31, evalE_32, evalE_33, tgtSet_2, tgtSet_3, tgtSet_4, execS_3, execS_4, execS_5, execS_6, execS_7, execS_8, execS_9, evV]), callsF_fm]; simp
theorem calls_of_ok {fs : List Fd} (f : fs[8]? = some fd_calls_of) (n : Nat) (h : List Cell) (es : List Ev) (hl : es.length ≤ 10000) : ∃ e2, callI T fs (n + 1) 8 [rowV es] h = .ok (.lst ((callsF 0 es).map fun k => Val.int (k : Nat))) ⟨e2, h⟩ := by
  have hb := size_big
  refine ⟨_, call_rt (env := [.val (rowV es), .no, .no, .no]) (s2 := ⟨[.val (rowV es), .no, .no, .no], h⟩) f rfl rfl ?_⟩
  show execSs T (callI T fs n) is_calls_of _ = _
  unfold is_calls_of
  have k := comp_pure (st := patSet (.tp [(.nm 1), (.tp [(.nm 2), (.nm 3)])])) (tst := evalTs T (callI T fs n) [(.cmp .eq (.var 2) (.cst (.str "call")))]) (elt := fun s => (evalE T (callI T fs n) (.var 1) s).val) (vs := [1, 2, 3]) (s0 := ⟨[.val (rowV es), .no, .no, .no], h⟩) (fun v => match v with
    | .tup [.int i, .tup [.str w, .str x]] => if w = "call" then some (.int i) else none
    | _ => none) (enumV 0 (es.map evV)) [] (fun it hit => by
      obtain ⟨j, hj⟩ := List.getElem?_of_mem hit
      rw [enumV_get, List.getElem?_map] at hj
      cases q : es[j]? with
      | none => rw [q] at hj; simp at hj
      | some e =>
        rw [q] at hj
        simp only [Option.map_some, Option.some.injEq, Nat.zero_add] at hj
        subst hj
        obtain ⟨b, x⟩ := e
        refine ⟨[.val (rowV es), .val (.int j), .val (.str (if b then "void" else "call")), .val (.str x)], by simp [execSs_2, execS_10, evalE_20, evalE_25, evalE_27, evalE_28, evalE_29, evalE_30, evalE_31, evalE_32, evalE_33, tgtSet_2, tgtSet_3, tgtSet_4, execS_3, execS_4, execS_5, execS_6, execS_7, execS_8, execS_9, patSet, patSets, evV], by simp [execSs_2, execS_10, evalE_20, evalE_25, evalE_27, evalE_28, evalE_29, evalE_30, evalE_31, evalE_32, evalE_33, tgtSet_2, tgtSet_3, tgtSet_4, execS_3, execS_4, execS_5, execS_6, execS_7, execS_8, execS_9, wipeE], ?_⟩
        cases b with
        | true => simp [execSs_2, execS_10, evalE_20, evalE_25, evalE_27, evalE_28, evalE_29, evalE_30, evalE_31, evalE_32, evalE_33, tgtSet_2, tgtSet_3, tgtSet_4, execS_3, execS_4, execS_5, execS_6, execS_7, execS_8, execS_9, evV, void_ne, cmpop, veq_str]
        | false =>
          simp only [evV, Bool.false_eq_true, if_false, if_true]
          refine ⟨by simp [execSs_2, execS_10, evalE_20, evalE_25, evalE_27, evalE_28, evalE_29, evalE_30, evalE_31, evalE_32, evalE_33, tgtSet_2, tgtSet_3, tgtSet_4, execS_3, execS_4, execS_5, execS_6, execS_7, execS_8, execS_9, cmpop, veq_str], ?_⟩
          rw [val_vl]
          simp) (by rw [enumV_len]; simp; omega)
  rw [callsF_fm, List.nil_append] at k
  have hlc : evalE T (callI T fs n) (.lc (.var 1) (.tp [(.nm 1), (.tp [(.nm 2), (.nm 3)])]) .enum [(.var 0)] [(.cmp .eq (.var 2) (.cst (.str "call")))] [1, 2, 3]) ⟨[.val (rowV es), .no, .no, .no], h⟩ = .ok (.f (.lst ((callsF 0 es).map fun k => Val.int (k : Nat)) false)) ⟨[.val (rowV es), .no, .no, .no], h⟩ :=
    lc_pl (os := [.v (rowV es)]) (items := enumV 0 (es.map evV)) (by simp) (by simp [execSs_2, execS_10, evalE_20, evalE_25, evalE_27, evalE_28, evalE_29, evalE_30, evalE_31, evalE_32, evalE_33, tgtSet_2, tgtSet_3, tgtSet_4, execS_3, execS_4, execS_5, execS_6, execS_7, execS_8, execS_9, srcItems, rowV]) k
  simp [execSs_2, execS_10, evalE_20, evalE_25, evalE_27, evalE_28, evalE_29, evalE_30, evalE_31, evalE_32, evalE_33, tgtSet_2, tgtSet_3, tgtSet_4, execS_3, execS_4, execS_5, execS_6, execS_7, execS_8, execS_9, hlc]
end
end Rs
end
section
set_option maxRecDepth 100000
set_option maxHeartbeats 4000000
/-! Costs. -/
namespace Rs
open PySem L2
def priceOf (ts : AL) (x : Str) : Int := (AL.get ts x).getD 0
def evAt (es : List Ev) (k : Nat) : Ev := es.getD k (true, "")
def Known (ts : AL) (es : List Ev) : Prop := ∀ e ∈ es, e.2 ∈ ts.map (·.1)
theorem get_price {ts : AL} {x : Str} (h : x ∈ ts.map (·.1)) : AL.get ts x = some (priceOf ts x) := by
  unfold priceOf
  cases q : AL.get ts x with
  | none => exact absurd h (get_none.mp q)
  | some k => rfl
theorem vsub_al {ts : AL} {x : Str} (h : x ∈ ts.map (·.1)) : vsub (.dct (alV ts)) (.str x) = some (Val.int (priceOf ts x)) := by
  simp only [vsub, keyV, dget_al, get_price h, Option.map_some]
theorem intsOf_map : ∀ xs : List Int, intsOf (xs.map .int) = some xs
  | [] => rfl
  | x :: xs => by simp [execSs_2, execS_10, evalE_20, evalE_25, evalE_27, evalE_28, evalE_29, evalE_30, evalE_31, evalE_32, evalE_33, tgtSet_2, tgtSet_3, tgtSet_4, execS_3, execS_4, execS_5, execS_6, execS_7, execS_8, execS_9, intsOf, intsOf_map xs]
theorem bsum (xs : List Int) : biop .sum [.lst (xs.map .int)] = some (.v (.int xs.sum)) := by
  simp [execSs_2, execS_10, evalE_20, evalE_25, evalE_27, evalE_28, evalE_29, evalE_30, evalE_31, evalE_32, evalE_33, tgtSet_2, tgtSet_3, tgtSet_4, execS_3, execS_4, execS_5, execS_6, execS_7, execS_8, execS_9, biop, intsOf_map]
theorem vsub_row {es : List Ev} {k : Nat} {e : Ev} (h : es[k]? = some e) : vsub (rowV es) (.int (k : Int)) = some (evV e) := by
  have hk := get_lt h
  show atI (es.map evV) (k : Int) = _
  unfold atI ixN
  have h1 : (k : Int) < ((es.map evV).length : Int) := by simp; omega
  rw [if_pos (by omega), if_pos h1]
  simp [execSs_2, execS_10, evalE_20, evalE_25, evalE_27, evalE_28, evalE_29, evalE_30, evalE_31, evalE_32, evalE_33, tgtSet_2, tgtSet_3, tgtSet_4, execS_3, execS_4, execS_5, execS_6, execS_7, execS_8, execS_9, h]
section
variable {T : Tab} {fs : List Fd}
def callSum (ts : AL) (es : List Ev) : Int := (es.filterMap fun e => if e.1 then none else some (priceOf ts e.2)).sum
theorem filterMap_int {α : Type} (g : α → Option Int) : ∀ xs : List α, (xs.filterMap fun a => (g a).map Val.int) = (xs.filterMap g).map Val.int
  | [] => rfl
  | x :: xs => by
    cases q : g x with
    | none => rw [List.filterMap_cons_none (by simp [execSs_2, execS_10, evalE_20, evalE_25, evalE_27, evalE_28, evalE_29, evalE_30, evalE_31, evalE_32, evalE_33, tgtSet_2, tgtSet_3, tgtSet_4, execS_3, execS_4, execS_5, execS_6, execS_7, execS_8, execS_9, q]), List.filterMap_cons_none q, filterMap_int]
    | some y => rw [List.filterMap_cons_some (b := .int y) (by simp [execSs_2, execS_10, evalE_20, evalE_25, evalE_27, evalE_28, evalE_29, evalE_30, evalE_31, evalE_32, evalE_33, tgtSet_2, tgtSet_3, tgtSet_4, execS_3, execS_4, execS_5, execS_6, execS_7, execS_8, execS_9, q]), List.filterMap_cons_some q, filterMap_int]; rfl
theorem filterMap_map' {α β γ : Type} (g : β → Option γ) (f : α → β) : ∀ xs : List α, (xs.map f).filterMap g = xs.filterMap fun a => g (f a) := fun xs => by rw [List.filterMap_map]; rfl
theorem filterMap_congr' {α β : Type} {f g : α → Option β} : ∀ {xs : List α}, (∀ a ∈ xs, f a = g a) → xs.filterMap f = xs.filterMap g
  | [], _ => rfl
  | x :: xs, h => by
    have h1 := h x (by simp)
    have h2 := filterMap_congr' (xs := xs) fun a ha => h a (by simp [execSs_2, execS_10, evalE_20, evalE_25, evalE_27, evalE_28, evalE_29, evalE_30, evalE_31, evalE_32, evalE_33, tgtSet_2, tgtSet_3, tgtSet_4, execS_3, execS_4, execS_5, execS_6, execS_7, execS_8, execS_9, ha])
    rw [List.filterMap_cons, List.filterMap_cons, h1, h2]
theorem calls_sum (ts : AL) (es : List Ev) : ((callsF 0 es).map fun k => priceOf ts (evAt es k).2).sum = callSum ts es := by
  have : ∀ (pre es : List Ev), ((callsF pre.length es).map fun k => priceOf ts (evAt (pre ++ es) k).2) = es.filterMap fun e => if e.1 then none else some (priceOf ts e.2) := by
    intro pre es
    induction es generalizing pre with
    | nil => rfl
    | cons e es ih =>
      have := ih (pre ++ [e])
      rw [List.append_assoc, List.length_append] at this
      unfold callsF
      obtain ⟨b, x⟩ := e
      cases b with
      | true =>
        simp only [if_true, List.nil_append]
        rw [List.filterMap_cons_none (by simp [execSs_2, execS_10, evalE_20, evalE_25, evalE_27, evalE_28, evalE_29, evalE_30, evalE_31, evalE_32, evalE_33, tgtSet_2, tgtSet_3, tgtSet_4, execS_3, execS_4, execS_5, execS_6, execS_7, execS_8, execS_9])]
        exact this
      | false =>
        simp only [Bool.false_eq_true, if_false, List.singleton_append, List.map_cons]
        rw [List.filterMap_cons_some (b := priceOf ts x) (by simp [execSs_2, execS_10, evalE_20, evalE_25, evalE_27, evalE_28, evalE_29, evalE_30, evalE_31, evalE_32, evalE_33, tgtSet_2, tgtSet_3, tgtSet_4, execS_3, execS_4, execS_5, execS_6, execS_7, execS_8, execS_9])]
        congr 1
        simp [execSs_2, execS_10, evalE_20, evalE_25, evalE_27, evalE_28, evalE_29, evalE_30, evalE_31, evalE_32, evalE_33, tgtSet_2, tgtSet_3, tgtSet_4, execS_3, execS_4, execS_5, execS_6, execS_7, execS_8, execS_9, evAt]
  have := this [] es
  unfold callSum
  rw [← this]
  rfl
theorem price_of_calls_ok (f8 : fs[8]? = some fd_calls_of) (f9 : fs[9]? = some fd_price_of_calls) (n : Nat) (h : List Cell) (ts : AL) (es : List Ev) (hk : Known ts es) (hl : es.length ≤ 10000) : ∃ e2, callI T fs (n + 2) 9 [.dct (alV ts), rowV es] h = .ok (.int (callSum ts es)) ⟨e2, h⟩ := by
  have hb := size_big
  obtain ⟨e2, k1⟩ := calls_of_ok (T := T) f8 n h es hl
  have hcl := callsF_len 0 es
  refine ⟨_, call_rt (env := [.val (.dct (alV ts)), .val (rowV es), .no]) (s2 := ⟨[.val (.dct (alV ts)), .val (rowV es), .no], h⟩) f9 rfl rfl ?_⟩
  show execSs T (callI T fs (n + 1)) is_price_of_calls _ = _
  unfold is_price_of_calls
  have hlc : evalE T (callI T fs (n + 1)) (.lc (.sub (.var 0) (.sub (.sub (.var 1) (.var 2)) (.cst (.int 1)))) (.nm 2) .it [(.fn 8 [(.var 1)] [])] [] [2]) ⟨[.val (.dct (alV ts)), .val (rowV es), .no], h⟩ = _ :=
    lc_map (os := [.v (.lst ((callsF 0 es).map fun k => Val.int (k : Nat)))]) (items := (callsF 0 es).map fun k => Val.int (k : Nat)) (fun v => match v with | .int k => some (Val.int (priceOf ts (evAt es k.toNat).2)) | _ => none) (by simp [execSs_2, execS_10, evalE_20, evalE_25, evalE_27, evalE_28, evalE_29, evalE_30, evalE_31, evalE_32, evalE_33, tgtSet_2, tgtSet_3, tgtSet_4, execS_3, execS_4, execS_5, execS_6, execS_7, execS_8, execS_9, k1]) (by simp [execSs_2, execS_10, evalE_20, evalE_25, evalE_27, evalE_28, evalE_29, evalE_30, evalE_31, evalE_32, evalE_33, tgtSet_2, tgtSet_3, tgtSet_4, execS_3, execS_4, execS_5, execS_6, execS_7, execS_8, execS_9, srcItems]) (by simp; omega) (fun it hit => by
      obtain ⟨k, hk2, rfl⟩ := List.mem_map.mp hit
      obtain ⟨_, x, hx⟩ := (callsF_mem 0 es k).mp hk2
      rw [Nat.sub_zero] at hx
      have hn : x ∈ ts.map (·.1) := hk (false, x) (List.mem_of_getElem? hx)
      refine ⟨[.val (.dct (alV ts)), .val (rowV es), .val (.int k)], by simp [execSs_2, execS_10, evalE_20, evalE_25, evalE_27, evalE_28, evalE_29, evalE_30, evalE_31, evalE_32, evalE_33, tgtSet_2, tgtSet_3, tgtSet_4, execS_3, execS_4, execS_5, execS_6, execS_7, execS_8, execS_9, patSet, wipeE], by simp [execSs_2, execS_10, evalE_20, evalE_25, evalE_27, evalE_28, evalE_29, evalE_30, evalE_31, evalE_32, evalE_33, tgtSet_2, tgtSet_3, tgtSet_4, execS_3, execS_4, execS_5, execS_6, execS_7, execS_8, execS_9, wipeE], ?_⟩
      have he : evAt es k = (false, x) := by unfold evAt; rw [List.getD_eq_getElem?_getD, hx]; rfl
      have hdr : ∀ s, deref s (.v (rowV es)) = rowV es := fun s => rfl
      have hdr2 : ∀ s e, deref s (.v (evV e)) = evV e := fun s e => rfl
      have hv2 : vsub (evV (false, x)) (.int 1) = some (.str x) := rfl
      simp [execSs_2, execS_10, evalE_20, evalE_25, evalE_27, evalE_28, evalE_29, evalE_30, evalE_31, evalE_32, evalE_33, tgtSet_2, tgtSet_3, tgtSet_4, execS_3, execS_4, execS_5, execS_6, execS_7, execS_8, execS_9, he, hdr, hdr2, vsub_row hx, hv2, vsub_al hn])
  have e1 : ((callsF 0 es).map fun k => Val.int (k : Nat)).filterMap (fun v => match v with | .int k => some (Val.int (priceOf ts (evAt es k.toNat).2)) | _ => none) = ((callsF 0 es).map fun k => priceOf ts (evAt es k).2).map Val.int := by
    rw [List.filterMap_map, List.map_map]
    rw [← List.filterMap_eq_map]
    apply filterMap_congr'
    intro a _
    simp
  rw [e1] at hlc
  simp [execSs_2, execS_10, evalE_20, evalE_25, evalE_27, evalE_28, evalE_29, evalE_30, evalE_31, evalE_32, evalE_33, tgtSet_2, tgtSet_3, tgtSet_4, execS_3, execS_4, execS_5, execS_6, execS_7, execS_8, execS_9, hlc, okV, bsum, calls_sum, -List.map_map]
/-- stretches that a row has, as pairs -/
def PlanIn (es : List Ev) (pl : List Pr) : Prop := ∀ p ∈ pl, ∃ i j : Nat, p = ((i : Int), (j : Int)) ∧ IsStr es i j
def planSum (ts : AL) (es : List Ev) (pl : List Pr) : Int := (pl.map fun p => priceOf ts (evAt es p.1.toNat).2).sum
theorem plan_lc (C : Call) (h : List Cell) (ts : AL) (es : List Ev) (pl : List Pr) (hk : Known ts es) (hp : PlanIn es pl) (hpl : pl.length ≤ 100000) (a b : Nat) (e ew : List Slot) (src : IE) (hs : evalE T C src ⟨e, h⟩ = .ok (.v (.lst (pl.map pV))) ⟨e, h⟩) (hw : wipeE e [a, b] = ew) (hr : restE e ew [a, b] = e) (hst : ∀ x y, wipeE ((ew.set a (.val x)).set b (.val y)) [a, b] = ew)
    (g0 : ∀ x y, ((ew.set a (.val x)).set b (.val y)).getD 0 .no = .val (.dct (alV ts))) (g1 : ∀ x y, ((ew.set a (.val x)).set b (.val y)).getD 1 .no = .val (rowV es)) (g2 : ∀ x y, ((ew.set a (.val x)).set b (.val y)).getD a .no = .val x) :
    evalE T C (.lc (.sub (.var 0) (.sub (.sub (.var 1) (.var a)) (.cst (.int 1)))) (.tp [(.nm a), (.nm b)]) .it [src] [] [a, b]) ⟨e, h⟩ = .ok (.f (.lst ((pl.map fun p => priceOf ts (evAt es p.1.toNat).2).map .int) false)) ⟨e, h⟩ := by
  have hb := size_big
  have := lc_map (T := T) (C := C) (elt := .sub (.var 0) (.sub (.sub (.var 1) (.var a)) (.cst (.int 1)))) (p := .tp [(.nm a), (.nm b)]) (k := .it) (src := [src]) (conds := []) (vs := [a, b]) (e := e) (h := h) (os := [.v (.lst (pl.map pV))]) (items := pl.map pV) (fun v => match v with | .tup [.int i, _] => some (Val.int (priceOf ts (evAt es i.toNat).2)) | _ => none) (by simp [execSs_2, execS_10, evalE_20, evalE_25, evalE_27, evalE_28, evalE_29, evalE_30, evalE_31, evalE_32, evalE_33, tgtSet_2, tgtSet_3, tgtSet_4, execS_3, execS_4, execS_5, execS_6, execS_7, execS_8, execS_9, hs]) (by simp [execSs_2, execS_10, evalE_20, evalE_25, evalE_27, evalE_28, evalE_29, evalE_30, evalE_31, evalE_32, evalE_33, tgtSet_2, tgtSet_3, tgtSet_4, execS_3, execS_4, execS_5, execS_6, execS_7, execS_8, execS_9, srcItems]) (by simp; omega) (fun it hit => by
      obtain ⟨p, hp2, rfl⟩ := List.mem_map.mp hit
      obtain ⟨i, j, rfl, hij⟩ := hp p hp2
      obtain ⟨hlt, x, h1, h2, h3⟩ := hij
      have hn : x ∈ ts.map (·.1) := hk (false, x) (List.mem_of_getElem? h1)
      refine ⟨(ew.set a (.val (.int i))).set b (.val (.int j)), by simp [execSs_2, execS_10, evalE_20, evalE_25, evalE_27, evalE_28, evalE_29, evalE_30, evalE_31, evalE_32, evalE_33, tgtSet_2, tgtSet_3, tgtSet_4, execS_3, execS_4, execS_5, execS_6, execS_7, execS_8, execS_9, pV, patSet, patSets, hw], by rw [hw]; exact hst _ _, ?_⟩
      have he : evAt es i = (false, x) := by unfold evAt; rw [List.getD_eq_getElem?_getD, h1]; rfl
      have hdr : ∀ s, deref s (.v (rowV es)) = rowV es := fun s => rfl
      have hdr2 : ∀ s e, deref s (.v (evV e)) = evV e := fun s e => rfl
      have hv2 : vsub (evV (false, x)) (.int 1) = some (.str x) := rfl
      simp only [pV, Int.toNat_natCast, he]
      refine ⟨by simp, ?_⟩
      simp [execSs_2, execS_10, evalE_20, evalE_25, evalE_27, evalE_28, evalE_29, evalE_30, evalE_31, evalE_32, evalE_33, tgtSet_2, tgtSet_3, tgtSet_4, execS_3, execS_4, execS_5, execS_6, execS_7, execS_8, execS_9, g0, g1, g2, hdr, hdr2, vsub_row h1, hv2, vsub_al hn, -List.getD_eq_getElem?_getD]) (by rw [hw]; exact hr)
  rw [this]
  congr 3
  rw [filterMap_map', List.map_map, ← List.filterMap_eq_map]
  rfl
theorem plan_cost_ok (f8 : fs[8]? = some fd_calls_of) (f9 : fs[9]? = some fd_price_of_calls) (f10 : fs[10]? = some fd_plan_cost) (n : Nat) (h : List Cell) (ts : AL) (es : List Ev) (pl : List Pr) (hk : Known ts es) (hl : es.length ≤ 10000) (hp : PlanIn es pl) (hpl : pl.length ≤ 100000) : ∃ e2, callI T fs (n + 3) 10 [.dct (alV ts), rowV es, .lst (pl.map pV)] h = .ok (.int (callSum ts es - planSum ts es pl)) ⟨e2, h⟩ := by
  obtain ⟨e2, k1⟩ := price_of_calls_ok (T := T) f8 f9 n h ts es hk hl
  refine ⟨_, call_rt (env := [.val (.dct (alV ts)), .val (rowV es), .val (.lst (pl.map pV)), .no, .no]) (s2 := ⟨[.val (.dct (alV ts)), .val (rowV es), .val (.lst (pl.map pV)), .no, .no], h⟩) f10 rfl rfl ?_⟩
  show execSs T (callI T fs (n + 2)) is_plan_cost _ = _
  unfold is_plan_cost
  have hlc := plan_lc (T := T) (callI T fs (n + 2)) h ts es pl hk hp hpl 3 4 [.val (.dct (alV ts)), .val (rowV es), .val (.lst (pl.map pV)), .no, .no] [.val (.dct (alV ts)), .val (rowV es), .val (.lst (pl.map pV)), .no, .no] (.var 2) (by simp) rfl rfl (fun _ _ => rfl) (fun _ _ => rfl) (fun _ _ => rfl) (fun _ _ => rfl)
  simp [execSs_2, execS_10, evalE_20, evalE_25, evalE_27, evalE_28, evalE_29, evalE_30, evalE_31, evalE_32, evalE_33, tgtSet_2, tgtSet_3, tgtSet_4, execS_3, execS_4, execS_5, execS_6, execS_7, execS_8, execS_9, k1, hlc, okV, bsum, binop, planSum, -List.map_map]
theorem law_cost_ok (f21 : fs[21]? = some fd__law_cost) (n : Nat) (h : List Cell) (ts : AL) (es : List Ev) (pl : List Pr) (hk : Known ts es) (hl : es.length ≤ 10000) (hp : PlanIn es pl) (hpl : pl.length ≤ 100000) : ∃ e2, callI T fs (n + 1) 21 [.dct (alV ts), rowV es, .lst (pl.map pV)] h = .ok (.int (callSum ts es - planSum ts es pl)) ⟨e2, h⟩ := by
  have hb := size_big
  refine ⟨_, call_rt (env := [.val (.dct (alV ts)), .val (rowV es), .val (.lst (pl.map pV)), .no, .no, .no, .no, .no]) (s2 := ⟨[.val (.dct (alV ts)), .val (rowV es), .val (.lst (pl.map pV)), .val (.int (callSum ts es)), .no, .no, .no, .no], h⟩) f21 rfl rfl ?_⟩
  show execSs T (callI T fs n) is__law_cost _ = _
  unfold is__law_cost
  have hlc1 : evalE T (callI T fs n) (.lc (.sub (.var 0) (.var 5)) (.tp [(.nm 4), (.nm 5)]) .it [(.var 1)] [(.cmp .eq (.var 4) (.cst (.str "call")))] [4, 5]) ⟨[.val (.dct (alV ts)), .val (rowV es), .val (.lst (pl.map pV)), .no, .no, .no, .no, .no], h⟩ = _ :=
    lc_map (os := [.v (rowV es)]) (items := es.map evV) (fun v => match v with | .tup [.str w, .str x] => if w = "call" then some (Val.int (priceOf ts x)) else none | _ => none) (by simp) (by simp [execSs_2, execS_10, evalE_20, evalE_25, evalE_27, evalE_28, evalE_29, evalE_30, evalE_31, evalE_32, evalE_33, tgtSet_2, tgtSet_3, tgtSet_4, execS_3, execS_4, execS_5, execS_6, execS_7, execS_8, execS_9, srcItems, rowV]) (by simp; omega) (fun it hit => by
      obtain ⟨e, he, rfl⟩ := List.mem_map.mp hit
      have hn := hk e he
      obtain ⟨b, x⟩ := e
      refine ⟨[.val (.dct (alV ts)), .val (rowV es), .val (.lst (pl.map pV)), .no, .val (.str (if b then "void" else "call")), .val (.str x), .no, .no], by simp [execSs_2, execS_10, evalE_20, evalE_25, evalE_27, evalE_28, evalE_29, evalE_30, evalE_31, evalE_32, evalE_33, tgtSet_2, tgtSet_3, tgtSet_4, execS_3, execS_4, execS_5, execS_6, execS_7, execS_8, execS_9, evV, patSet, patSets, wipeE], by simp [execSs_2, execS_10, evalE_20, evalE_25, evalE_27, evalE_28, evalE_29, evalE_30, evalE_31, evalE_32, evalE_33, tgtSet_2, tgtSet_3, tgtSet_4, execS_3, execS_4, execS_5, execS_6, execS_7, execS_8, execS_9, wipeE], ?_⟩
      cases b with
      | true => simp [execSs_2, execS_10, evalE_20, evalE_25, evalE_27, evalE_28, evalE_29, evalE_30, evalE_31, evalE_32, evalE_33, tgtSet_2, tgtSet_3, tgtSet_4, execS_3, execS_4, execS_5, execS_6, execS_7, execS_8, execS_9, evV, void_ne, cmpop, veq_str]
      | false =>
        simp only [evV, Bool.false_eq_true, if_false, if_true]
        refine ⟨by simp [execSs_2, execS_10, evalE_20, evalE_25, evalE_27, evalE_28, evalE_29, evalE_30, evalE_31, evalE_32, evalE_33, tgtSet_2, tgtSet_3, tgtSet_4, execS_3, execS_4, execS_5, execS_6, execS_7, execS_8, execS_9, cmpop, veq_str], ?_⟩
        simp [execSs_2, execS_10, evalE_20, evalE_25, evalE_27, evalE_28, evalE_29, evalE_30, evalE_31, evalE_32, evalE_33, tgtSet_2, tgtSet_3, tgtSet_4, execS_3, execS_4, execS_5, execS_6, execS_7, execS_8, execS_9, vsub_al hn])
  have e1 : (es.map evV).filterMap (fun v => match v with | .tup [.str w, .str x] => if w = "call" then some (Val.int (priceOf ts x)) else none | _ => none) = (es.filterMap fun e => if e.1 then none else some (priceOf ts e.2)).map Val.int := by
    rw [filterMap_map', ← filterMap_int]
    apply filterMap_congr'
    rintro ⟨b, x⟩ _
    cases b <;> simp [execSs_2, execS_10, evalE_20, evalE_25, evalE_27, evalE_28, evalE_29, evalE_30, evalE_31, evalE_32, evalE_33, tgtSet_2, tgtSet_3, tgtSet_4, execS_3, execS_4, execS_5, execS_6, execS_7, execS_8, execS_9, evV, void_ne]
  rw [e1] at hlc1
  have hlc := plan_lc (T := T) (callI T fs n) h ts es pl hk hp hpl 6 7 [.val (.dct (alV ts)), .val (rowV es), .val (.lst (pl.map pV)), .val (.int (callSum ts es)), .no, .no, .no, .no] [.val (.dct (alV ts)), .val (rowV es), .val (.lst (pl.map pV)), .val (.int (callSum ts es)), .no, .no, .no, .no] (.var 2) (by simp) rfl rfl (fun _ _ => rfl) (fun _ _ => rfl) (fun _ _ => rfl) (fun _ _ => rfl)
  rw [seq_nx (s1 := ⟨[.val (.dct (alV ts)), .val (rowV es), .val (.lst (pl.map pV)), .val (.int (callSum ts es)), .no, .no, .no, .no], h⟩) (by simp [execSs_2, execS_10, evalE_20, evalE_25, evalE_27, evalE_28, evalE_29, evalE_30, evalE_31, evalE_32, evalE_33, tgtSet_2, tgtSet_3, tgtSet_4, execS_3, execS_4, execS_5, execS_6, execS_7, execS_8, execS_9, hlc1, okV, bsum, callSum])]
  simp [execSs_2, execS_10, evalE_20, evalE_25, evalE_27, evalE_28, evalE_29, evalE_30, evalE_31, evalE_32, evalE_33, tgtSet_2, tgtSet_3, tgtSet_4, execS_3, execS_4, execS_5, execS_6, execS_7, execS_8, execS_9, hlc, okV, bsum, binop, planSum, -List.map_map]
end
end Rs
end
section
set_option maxRecDepth 100000
set_option maxHeartbeats 4000000
/-! How long a repr is, at most. -/
namespace Rs
open PySem L2 Builtin.Str
mutual
def szD : PyData → Nat
  | .none => 4
  | .bool _ => 5
  | .int _ => 1921
  | .str x => 2 + 4 * x.length
  | .list xs => 2 + szDs xs
  | .tuple xs => 3 + szDs xs
  | .dict kvs => 2 + szDk kvs
def szDs : List PyData → Nat
  | [] => 0
  | x :: xs => szD x + 2 + szDs xs
def szDk : List (PyData × PyData) → Nat
  | [] => 0
  | (k, v) :: r => szD k + szD v + 4 + szDk r
end
def lowS (x : Str) : Bool := x.cps.toList.all fun c => decide (c < 128)
mutual
/-- texts of plain signs alone -/
def lowD : PyData → Bool
  | .str x => lowS x
  | .int i => decide (i.natAbs.log2 < 1920)
  | .list xs => lowDs xs
  | .tuple xs => lowDs xs
  | .dict kvs => lowDk kvs
  | _ => true
def lowDs : List PyData → Bool
  | [] => true
  | x :: xs => lowD x && lowDs xs
def lowDk : List (PyData × PyData) → Bool
  | [] => true
  | (k, v) :: r => lowD k && (lowD v && lowDk r)
end
theorem reprChar_le : ∀ c < 128, (reprChar 34 c).length ≤ 4 ∧ (reprChar 39 c).length ≤ 4 := by decide +kernel
theorem reprText_le (x : Str) (h : lowS x = true) : (reprText x).length ≤ 2 + 4 * x.length := by
  rw [← reprLen_eq, ← Array.foldl_toList]
  have q : reprQuote x = 34 ∨ reprQuote x = 39 := by unfold reprQuote; split <;> simp
  have : ∀ (l : List Nat) (n : Nat), (l.all fun c => decide (c < 128)) = true → l.foldl (fun n c => n + (reprChar (reprQuote x) c).length) n ≤ n + 4 * l.length := by
    intro l
    induction l with
    | nil => intro n _; simp
    | cons c l ih =>
      intro n hl
      simp only [List.all_cons, Bool.and_eq_true, decide_eq_true_eq] at hl
      have h1 := ih (n + (reprChar (reprQuote x) c).length) hl.2
      have h2 := reprChar_le c hl.1
      have h3 : (reprChar (reprQuote x) c).length ≤ 4 := by 
        rcases q with q | q
        · rw [q]; exact h2.1
        · rw [q]; exact h2.2
      simp only [List.foldl_cons, List.length_cons]
      omega
  have := this x.cps.toList 2 h
  rw [Array.length_toList] at this
  exact this
theorem piled_cons (t : Str) (ts : List Str) : piled (t :: ts) = t.length + 2 + piled ts := by simp [execSs_2, execS_10, evalE_20, evalE_25, evalE_27, evalE_28, evalE_29, evalE_30, evalE_31, evalE_32, evalE_33, tgtSet_2, tgtSet_3, tgtSet_4, execS_3, execS_4, execS_5, execS_6, execS_7, execS_8, execS_9, piled]
theorem listText_piled (ts : List Str) : (listText ts).length ≤ 2 + piled ts := by
  have : ∀ (ts : List Str) (k : Nat) (acc : Str), (textFrom k acc ts).length ≤ acc.length + piled ts := by
    intro ts
    induction ts with
    | nil => intro k acc; show acc.length ≤ _; omega
    | cons t r ih =>
      intro k acc
      have ih := ih (k + 1) (acc ++ (if k > 0 then ", " else "" : String) ++ t)
      have e : (acc ++ (if k > 0 then ", " else "" : String) ++ t).length = acc.length + (if k > 0 then 2 else 0) + t.length := by
        rw [strLen_append, strLen_append]
        split <;> rfl
      have e2 : (if k > 0 then 2 else 0) ≤ 2 := by split <;> omega
      show (textFrom (k + 1) (acc ++ (if k > 0 then ", " else "" : String) ++ t) r).length ≤ _
      rw [e] at ih
      rw [piled_cons]
      omega
  have h1 := this ts 0 "["
  have e : (listText ts).length = (textFrom 0 "[" ts).length + 1 := by
    unfold listText
    rw [strLen_append]; rfl
  have e2 : (("[" : String) : Str).length = 1 := rfl
  omega
theorem join_piled (ts : List Str) : (Str.join ", " ts).length ≤ piled ts := by
  by_cases h : ts = []
  · subst h; show (Str.join ", " []).length ≤ _; exact Nat.zero_le _
  · have := join_length_add ts h
    omega
theorem tupleText_piled (ts : List Str) : (tupleText ts).length ≤ 3 + piled ts := by
  have e : (tupleText ts).length ≤ 1 + (Str.join ", " ts).length + 2 := by
    unfold tupleText
    rw [strLen_append, strLen_append]
    split
    · exact Nat.le_refl _
    · exact Nat.add_le_add_left (by decide) _
  have := join_piled ts
  omega
theorem dictText_piled (ts : List Str) : (dictText ts).length ≤ 2 + piled ts := by
  have e : (dictText ts).length = 1 + (Str.join ", " ts).length + 1 := by
    unfold dictText
    rw [strLen_append, strLen_append]; rfl
  have := join_piled ts
  omega
mutual
theorem shown_le : ∀ d : PyData, lowD d = true → d.shown.length ≤ szD d
  | .none, _ => by unfold PyData.shown szD; decide
  | .bool b, _ => by unfold PyData.shown szD; cases b <;> decide
  | .int i, h => by
    unfold lowD at h
    unfold PyData.shown szD
    exact PyProof.Rows.int_text_len_1921 (of_decide_eq_true h)
  | .str x, h => by
    unfold lowD at h
    unfold PyData.shown szD
    exact reprText_le x h
  | .list xs, h => by
    unfold lowD at h
    unfold PyData.shown szD
    exact Nat.le_trans (listText_piled _) (Nat.add_le_add_left (shownAll_le xs h) 2)
  | .tuple xs, h => by
    unfold lowD at h
    unfold PyData.shown szD
    exact Nat.le_trans (tupleText_piled _) (Nat.add_le_add_left (shownAll_le xs h) 3)
  | .dict kvs, h => by
    unfold lowD at h
    unfold PyData.shown szD
    exact Nat.le_trans (dictText_piled _) (Nat.add_le_add_left (shownKv_le kvs h) 2)
theorem shownAll_le : ∀ xs : List PyData, lowDs xs = true → piled (PyData.shownAll xs) ≤ szDs xs
  | [], _ => by unfold PyData.shownAll szDs; exact Nat.le_refl _
  | x :: xs, h => by
    unfold lowDs at h
    rw [Bool.and_eq_true] at h
    unfold PyData.shownAll szDs
    rw [piled_cons]
    have h1 := shown_le x h.1
    have h2 := shownAll_le xs h.2
    omega
theorem shownKv_le : ∀ xs : List (PyData × PyData), lowDk xs = true → piled (PyData.shownKv xs) ≤ szDk xs
  | [], _ => by unfold PyData.shownKv szDk; exact Nat.le_refl _
  | (k, v) :: r, h => by
    unfold lowDk at h
    rw [Bool.and_eq_true, Bool.and_eq_true] at h
    unfold PyData.shownKv szDk
    rw [piled_cons]
    have h1 := shown_le k h.1
    have h2 := shown_le v h.2.1
    have h3 := shownKv_le r h.2.2
    have e : (k.shown ++ ": " ++ v.shown).length = k.shown.length + 2 + v.shown.length := by
      rw [strLen_append, strLen_append]; rfl
    omega
end
theorem showOk_of {d : PyData} (h1 : d.showable = true) (h2 : d.depth ≤ 60) (h3 : lowD d = true) (h4 : szD d ≤ 16000000) : showOk d = true := by
  have h5 := shown_le d h3
  have h6 : (16000000 : Nat) ≤ sizeLine := by decide
  simp only [showOk, h1, Bool.true_and, Bool.and_eq_true, decide_eq_true_eq]
  omega
theorem brepr {x : Val} {d : PyData} (h : toD x = some d) (hs : showOk d = true) : biop .repr [x] = some (.v (.str d.shown)) := by
  simp only [biop, h]
  rw [if_pos hs]
end Rs
end
section
set_option maxRecDepth 100000
set_option maxHeartbeats 4000000
/-! The laws' own stretches: the same as the program's. -/
namespace Rs
open PySem L2
def latF (es : List Ev) (x : Str) : Nat → Nat → List Nat
  | _, 0 => []
  | s, n + 1 => (if (evAt es s).2 = x then [s] else []) ++ latF es x (s + 1) n
theorem latF_len (es : List Ev) (x : Str) : ∀ n s, (latF es x s n).length ≤ n
  | 0, s => by simp [execSs_2, execS_10, evalE_20, evalE_25, evalE_27, evalE_28, evalE_29, evalE_30, evalE_31, evalE_32, evalE_33, tgtSet_2, tgtSet_3, tgtSet_4, execS_3, execS_4, execS_5, execS_6, execS_7, execS_8, execS_9, latF]
  | n + 1, s => by
    have := latF_len es x n (s + 1)
    unfold latF
    split <;> simp <;> omega
theorem latF_head (es : List Ev) (x : Str) : ∀ n s, match latF es x s n with
    | [] => ∀ k, s ≤ k → k < s + n → (evAt es k).2 ≠ x
    | j :: _ => s ≤ j ∧ j < s + n ∧ (evAt es j).2 = x ∧ ∀ k, s ≤ k → k < j → (evAt es k).2 ≠ x
  | 0, s => by simp only [latF]; intro k h1 h2; omega
  | n + 1, s => by
    have ih := latF_head es x n (s + 1)
    unfold latF
    by_cases h : (evAt es s).2 = x
    · simp only [h, if_true, List.singleton_append]
      exact ⟨Nat.le_refl _, by omega, trivial, fun k h1 h2 => by omega⟩
    · simp only [h, if_false, List.nil_append]
      cases q : latF es x (s + 1) n with
      | nil =>
        rw [q] at ih
        intro k h1 h2
        by_cases e : k = s
        · subst e; exact h
        · exact ih k (by omega) (by omega)
      | cons j r =>
        rw [q] at ih
        obtain ⟨a, b, c, d⟩ := ih
        refine ⟨by omega, by omega, c, fun k h1 h2 => ?_⟩
        by_cases e : k = s
        · subst e; exact h
        · exact d k (by omega) h2
theorem rangeV_succ (lo : Int) (n : Nat) : rangeV lo (n + 1) = .int lo :: rangeV (lo + 1) n := by
  unfold rangeV
  rw [List.range_succ_eq_map, List.map_cons, List.map_map]
  congr 1
  · simp
  · apply List.map_congr_left
    intro a _
    simp only [Function.comp]
    congr 1
    omega
theorem latF_fm (es : List Ev) (x : Str) : ∀ n s : Nat, (rangeV (s : Int) n).filterMap (fun v => match v with | .int k => if (evAt es k.toNat).2 = x then some (Val.int k) else none | _ => none) = (latF es x s n).map fun k => Val.int (k : Nat)
  | 0, s => rfl
  | n + 1, s => by
    have ih := latF_fm es x n (s + 1)
    rw [rangeV_succ]
    unfold latF
    by_cases h : (evAt es s).2 = x
    · rw [List.filterMap_cons_some (b := .int s) (by simp [execSs_2, execS_10, evalE_20, evalE_25, evalE_27, evalE_28, evalE_29, evalE_30, evalE_31, evalE_32, evalE_33, tgtSet_2, tgtSet_3, tgtSet_4, execS_3, execS_4, execS_5, execS_6, execS_7, execS_8, execS_9, h])]
      simp only [h, if_true, List.singleton_append, List.map_cons]
      congr 1
    · rw [List.filterMap_cons_none (by simp [execSs_2, execS_10, evalE_20, evalE_25, evalE_27, evalE_28, evalE_29, evalE_30, evalE_31, evalE_32, evalE_33, tgtSet_2, tgtSet_3, tgtSet_4, execS_3, execS_4, execS_5, execS_6, execS_7, execS_8, execS_9, h])]
      simp only [h, if_false, List.nil_append]
      exact ih
def lawF (es : List Ev) (i : Nat) : List Pr := if (evAt es i).1 then [] else match latF es (evAt es i).2 (i + 1) (es.length - (i + 1)) with
  | [] => []
  | j :: _ => if (evAt es j).1 then [] else [((i : Int), (j : Int))]
def lawS (es : List Ev) (k : Nat) : List Pr := (List.range k).flatMap (lawF es)
theorem lawS_succ (es : List Ev) (k : Nat) : lawS es (k + 1) = lawS es k ++ lawF es k := by
  unfold lawS
  rw [List.range_succ, List.flatMap_append]
  simp
theorem lawF_len (es : List Ev) (i : Nat) : (lawF es i).length ≤ 1 := by
  unfold lawF
  split
  · simp
  · split
    · simp
    · split <;> simp
theorem lawS_len (es : List Ev) : ∀ k, (lawS es k).length ≤ k
  | 0 => by simp [execSs_2, execS_10, evalE_20, evalE_25, evalE_27, evalE_28, evalE_29, evalE_30, evalE_31, evalE_32, evalE_33, tgtSet_2, tgtSet_3, tgtSet_4, execS_3, execS_4, execS_5, execS_6, execS_7, execS_8, execS_9, lawS]
  | k + 1 => by
    have h1 := lawS_len es k
    have h2 := lawF_len es k
    rw [lawS_succ, List.length_append]
    omega
theorem evAt_get {es : List Ev} {k : Nat} (h : k < es.length) : es[k]? = some (evAt es k) := by
  unfold evAt
  rw [List.getD_eq_getElem?_getD, List.getElem?_eq_getElem h]
  rfl
theorem evAt_of {es : List Ev} {k : Nat} {e : Ev} (h : es[k]? = some e) : evAt es k = e := by
  unfold evAt
  rw [List.getD_eq_getElem?_getD, h]
  rfl
theorem lawF_mem {es : List Ev} {i : Nat} (hi : i < es.length) (p : Pr) : p ∈ lawF es i ↔ ∃ j : Nat, p = ((i : Int), (j : Int)) ∧ IsStr es i j := by
  have hg := evAt_get hi
  have hh := latF_head es (evAt es i).2 (es.length - (i + 1)) (i + 1)
  have hI : ∀ j, IsStr es i j ↔ i < j ∧ j < es.length ∧ (evAt es i).1 = false ∧ (evAt es j).1 = false ∧ (evAt es j).2 = (evAt es i).2 ∧ ∀ k, i < k → k < j → (evAt es k).2 ≠ (evAt es i).2 := fun j => by
    constructor
    · rintro ⟨lt, x, h1, h2, h3⟩
      have hj := get_lt h2
      rw [evAt_of h1, evAt_of h2]
      exact ⟨lt, hj, rfl, rfl, rfl, fun k k1 k2 => h3 k _ k1 k2 (evAt_get (by omega))⟩
    · rintro ⟨lt, hj, h1, h2, h3, h4⟩
      refine ⟨lt, (evAt es i).2, ?_, ?_, fun k e k1 k2 ke => ?_⟩
      · rw [hg, ← h1]
      · rw [evAt_get hj, ← h3, ← h2]
      · rw [← evAt_of ke]; exact h4 k k1 k2
  unfold lawF
  cases hb : (evAt es i).1 with
  | true =>
    simp only [if_true, List.not_mem_nil, false_iff]
    rintro ⟨j, _, hs⟩
    have := (hI j).mp hs
    rw [hb] at this
    exact absurd this.2.2.1 (by simp)
  | false =>
    simp only [Bool.false_eq_true, if_false]
    cases q : latF es (evAt es i).2 (i + 1) (es.length - (i + 1)) with
    | nil =>
      rw [q] at hh
      simp only [List.not_mem_nil, false_iff]
      rintro ⟨j, _, hs⟩
      have := (hI j).mp hs
      exact hh j (by omega) (by omega) this.2.2.2.2.1
    | cons j r =>
      rw [q] at hh
      obtain ⟨a, b, c, d⟩ := hh
      have uniq : ∀ j', IsStr es i j' → j' = j := fun j' hs => by
        obtain ⟨g1, g2, _, _, g3, g4⟩ := (hI j').mp hs
        rcases Nat.lt_trichotomy j' j with h | h | h
        · exact absurd g3 (d j' (by omega) h)
        · exact h
        · exact absurd c (g4 j (by omega) h)
      simp only
      cases hbj : (evAt es j).1 with
      | true =>
        simp only [if_true, List.not_mem_nil, false_iff]
        rintro ⟨j', _, hs⟩
        have e := uniq j' hs
        subst e
        have := (hI j').mp hs
        rw [hbj] at this
        exact absurd this.2.2.2.1 (by simp)
      | false =>
        simp only [Bool.false_eq_true, if_false, List.mem_singleton]
        constructor
        · rintro rfl
          exact ⟨j, rfl, (hI j).mpr ⟨by omega, by omega, hb, hbj, c, fun k k1 k2 => d k (by omega) k2⟩⟩
        · rintro ⟨j', rfl, hs⟩
          rw [uniq j' hs]
theorem lawS_mem (es : List Ev) : ∀ k, k ≤ es.length → ∀ p, p ∈ lawS es k ↔ ∃ i j : Nat, p = ((i : Int), (j : Int)) ∧ i < k ∧ IsStr es i j
  | 0, _, p => by simp [execSs_2, execS_10, evalE_20, evalE_25, evalE_27, evalE_28, evalE_29, evalE_30, evalE_31, evalE_32, evalE_33, tgtSet_2, tgtSet_3, tgtSet_4, execS_3, execS_4, execS_5, execS_6, execS_7, execS_8, execS_9, lawS]
  | k + 1, hk, p => by
    rw [lawS_succ, List.mem_append, lawS_mem es k (by omega), lawF_mem (by omega)]
    constructor
    · rintro (⟨i, j, rfl, h1, h2⟩ | ⟨j, rfl, h2⟩)
      · exact ⟨i, j, rfl, by omega, h2⟩
      · exact ⟨k, j, rfl, by omega, h2⟩
    · rintro ⟨i, j, rfl, h1, h2⟩
      by_cases e : i = k
      · subst e; exact .inr ⟨j, rfl, h2⟩
      · exact .inl ⟨i, j, rfl, by omega, h2⟩
theorem lawS_nodup (es : List Ev) : ∀ k, k ≤ es.length → (lawS es k).Nodup
  | 0, _ => by simp [execSs_2, execS_10, evalE_20, evalE_25, evalE_27, evalE_28, evalE_29, evalE_30, evalE_31, evalE_32, evalE_33, tgtSet_2, tgtSet_3, tgtSet_4, execS_3, execS_4, execS_5, execS_6, execS_7, execS_8, execS_9, lawS]
  | k + 1, hk => by
    rw [lawS_succ, List.nodup_append]
    refine ⟨lawS_nodup es k (by omega), ?_, fun a ha b hb e => ?_⟩
    · have := lawF_len es k
      match hq : lawF es k with
      | [] => simp
      | [a] => simp
      | a :: b :: r => rw [hq] at this; simp at this
    · subst e
      obtain ⟨i, j, rfl, h1, _⟩ := (lawS_mem es k (by omega) a).mp ha
      obtain ⟨j', e, _⟩ := (lawF_mem (by omega) _).mp hb
      simp only [Prod.mk.injEq] at e
      omega
theorem lawS_perm (es : List Ev) : (strF 0 [] es).Perm (lawS es es.length) := by
  refine (List.perm_ext_iff_of_nodup (strF_nodup es) (lawS_nodup es _ (Nat.le_refl _))).mpr fun p => ?_
  have h1 := strF_spec es es.length (Nat.le_refl _) p
  rw [List.take_length] at h1
  rw [h1, lawS_mem es _ (Nat.le_refl _)]
  constructor
  · rintro ⟨i, j, rfl, hj, hs⟩
    exact ⟨i, j, rfl, by have := hs.lt; omega, hs⟩
  · rintro ⟨i, j, rfl, hi, hs⟩
    obtain ⟨lt, x, h1, h2, h3⟩ := id hs
    exact ⟨i, j, rfl, get_lt h2, hs⟩
theorem strsOf_law (es : List Ev) : sortP (lawS es es.length) = strsOf es := (sortP_eq (lawS_perm es)).symm
theorem strsOf_mem (es : List Ev) (p : Pr) : p ∈ strsOf es ↔ ∃ i j : Nat, p = ((i : Int), (j : Int)) ∧ IsStr es i j := by
  unfold strsOf
  rw [(sortP_perm _).mem_iff]
  have h1 := strF_spec es es.length (Nat.le_refl _) p
  rw [List.take_length] at h1
  rw [h1]
  constructor
  · rintro ⟨i, j, rfl, hj, hs⟩
    exact ⟨i, j, rfl, hs⟩
  · rintro ⟨i, j, rfl, hs⟩
    obtain ⟨lt, x, h1, h2, h3⟩ := id hs
    exact ⟨i, j, rfl, get_lt h2, hs⟩
theorem strsOf_len (es : List Ev) : (strsOf es).length ≤ es.length := by
  unfold strsOf
  rw [(sortP_perm _).length_eq]
  exact strF_len 0 [] es
theorem veq_ints_nil (xs : List Int) : veq (.lst (xs.map Val.int)) (.lst []) = some (decide (xs = [])) := by
  have h1 : ∀ xs : List Int, toDs (xs.map Val.int) = some (xs.map PyData.int) := fun xs => by
    induction xs with
    | nil => simp [execSs_2, execS_10, evalE_20, evalE_25, evalE_27, evalE_28, evalE_29, evalE_30, evalE_31, evalE_32, evalE_33, tgtSet_2, tgtSet_3, tgtSet_4, execS_3, execS_4, execS_5, execS_6, execS_7, execS_8, execS_9, toDs]
    | cons a b ih => rw [List.map_cons]; unfold toDs; rw [ih]; simp [execSs_2, execS_10, evalE_20, evalE_25, evalE_27, evalE_28, evalE_29, evalE_30, evalE_31, evalE_32, evalE_33, tgtSet_2, tgtSet_3, tgtSet_4, execS_3, execS_4, execS_5, execS_6, execS_7, execS_8, execS_9, toD]
  have h2 : ∀ xs : List Int, PyData.plainAll (xs.map PyData.int) = true ∧ PyData.depthAll (xs.map PyData.int) ≤ 1 := fun xs => by
    induction xs with
    | nil => simp [execSs_2, execS_10, evalE_20, evalE_25, evalE_27, evalE_28, evalE_29, evalE_30, evalE_31, evalE_32, evalE_33, tgtSet_2, tgtSet_3, tgtSet_4, execS_3, execS_4, execS_5, execS_6, execS_7, execS_8, execS_9, PyData.plainAll, PyData.depthAll]
    | cons a b ih => simp [execSs_2, execS_10, evalE_20, evalE_25, evalE_27, evalE_28, evalE_29, evalE_30, evalE_31, evalE_32, evalE_33, tgtSet_2, tgtSet_3, tgtSet_4, execS_3, execS_4, execS_5, execS_6, execS_7, execS_8, execS_9, PyData.plainAll, PyData.depthAll, PyData.plain, PyData.depth, ih]
  have e : toD (.lst (xs.map Val.int)) = some (.list (xs.map PyData.int)) := by unfold toD; rw [h1]
  have e2 : toD (.lst []) = some (.list []) := by simp [execSs_2, execS_10, evalE_20, evalE_25, evalE_27, evalE_28, evalE_29, evalE_30, evalE_31, evalE_32, evalE_33, tgtSet_2, tgtSet_3, tgtSet_4, execS_3, execS_4, execS_5, execS_6, execS_7, execS_8, execS_9, toD, toDs]
  unfold veq
  simp only [e, e2]
  have ok1 : okD (.list (xs.map PyData.int)) = true := by
    obtain ⟨a, b⟩ := h2 xs
    simp [execSs_2, execS_10, evalE_20, evalE_25, evalE_27, evalE_28, evalE_29, evalE_30, evalE_31, evalE_32, evalE_33, tgtSet_2, tgtSet_3, tgtSet_4, execS_3, execS_4, execS_5, execS_6, execS_7, execS_8, execS_9, okD, PyData.plain, PyData.depth, a]
    omega
  have ok2 : okD (.list []) = true := by simp [execSs_2, execS_10, evalE_20, evalE_25, evalE_27, evalE_28, evalE_29, evalE_30, evalE_31, evalE_32, evalE_33, tgtSet_2, tgtSet_3, tgtSet_4, execS_3, execS_4, execS_5, execS_6, execS_7, execS_8, execS_9, okD, PyData.plain, PyData.plainAll, PyData.depth, PyData.depthAll]
  simp only [ok1, ok2, Bool.and_self, if_true]
  cases xs <;> simp [execSs_2, execS_10, evalE_20, evalE_25, evalE_27, evalE_28, evalE_29, evalE_30, evalE_31, evalE_32, evalE_33, tgtSet_2, tgtSet_3, tgtSet_4, execS_3, execS_4, execS_5, execS_6, execS_7, execS_8, execS_9, PyData.eqv, PyData.eqvAll]
section
variable {T : Tab} {fs : List Fd}
theorem ite_t {C : Call} {c : IE} {a b : List IS} {s s1 : S} {r : R Fl} (h : evalB T C c s = .ok true s1) (k : execSs T C a s1 = r) : execS T C (.ite c a b) s = r := by
  cases s; rw [execS_10]; simp only [h]; exact k
theorem ite_f {C : Call} {c : IE} {a b : List IS} {s s1 : S} {r : R Fl} (h : evalB T C c s = .ok false s1) (k : execSs T C b s1 = r) : execS T C (.ite c a b) s = r := by
  cases s; rw [execS_10]; simp only [h]; exact k
theorem ite_fn {C : Call} {c : IE} {a : List IS} {s s1 : S} (h : evalB T C c s = .ok false s1) : execS T C (.ite c a []) s = .ok .nx s1 := ite_f h (by cases s1; simp)
theorem ite_tn {C : Call} {c : IE} {a b : List IS} {s s1 s2 : S} (h : evalB T C c s = .ok true s1) (k : execSs T C a s1 = .ok .nx s2) : execS T C (.ite c a b) s = .ok .nx s2 := ite_t h k
theorem seq_one {C : Call} {st : IS} {s s1 : S} (h : execS T C st s = .ok .nx s1) : execSs T C [st] s = .ok .nx s1 := by
  rw [seq_nx h]; cases s1; simp
theorem seq_two {C : Call} {st : IS} {r : List IS} {s s1 s2 : S} (h : execS T C st s = .ok .nx s1) (k : execSs T C r s1 = .ok .nx s2) : execSs T C (st :: r) s = .ok .nx s2 := by
  rw [seq_nx h, k]
theorem later_lc (C : Call) (h : List Cell) (es : List Ev) (hl : es.length ≤ 10000) (i : Nat) (hi : i < es.length) (x : Str) (a1 a3 a5 : Slot) :
    evalE T C (.lc (.var 6) (.nm 6) .rng [(.bin .add (.var 2) (.cst (.int 1))), (.bi .len [(.var 0)])] [(.cmp .eq (.sub (.sub (.var 0) (.var 6)) (.cst (.int 1))) (.var 4))] [6]) ⟨[.val (rowV es), a1, .val (.int i), a3, .val (.str x), a5, .no], h⟩ = .ok (.f (.lst ((latF es x (i + 1) (es.length - (i + 1))).map fun k => Val.int (k : Nat)) false)) ⟨[.val (rowV es), a1, .val (.int i), a3, .val (.str x), a5, .no], h⟩ := by
  have hb := size_big
  have hdr : ∀ s, deref s (.v (rowV es)) = rowV es := fun s => rfl
  have hdr2 : ∀ s e, deref s (.v (evV e)) = evV e := fun s e => rfl
  have hlen : biop .len [rowV es] = some (.v (.int es.length)) := by simp [execSs_2, execS_10, evalE_20, evalE_25, evalE_27, evalE_28, evalE_29, evalE_30, evalE_31, evalE_32, evalE_33, tgtSet_2, tgtSet_3, tgtSet_4, execS_3, execS_4, execS_5, execS_6, execS_7, execS_8, execS_9, biop, rowV]
  have hok : okV (rowV es) = true := rfl
  have hlc : evalE T C (.lc (.var 6) (.nm 6) .rng [(.bin .add (.var 2) (.cst (.int 1))), (.bi .len [(.var 0)])] [(.cmp .eq (.sub (.sub (.var 0) (.var 6)) (.cst (.int 1))) (.var 4))] [6]) ⟨[.val (rowV es), a1, .val (.int i), a3, .val (.str x), a5, .no], h⟩ = _ :=
    lc_map (os := [.v (.int (i + 1)), .v (.int es.length)]) (items := rangeV ((i + 1 : Nat) : Int) (es.length - (i + 1))) (fun v => match v with | .int k => if (evAt es k.toNat).2 = x then some (Val.int k) else none | _ => none) (by simp [execSs_2, execS_10, evalE_20, evalE_25, evalE_27, evalE_28, evalE_29, evalE_30, evalE_31, evalE_32, evalE_33, tgtSet_2, tgtSet_3, tgtSet_4, execS_3, execS_4, execS_5, execS_6, execS_7, execS_8, execS_9, binop, hdr, hok, hlen]) (by
      simp only [List.map_cons, List.map_nil, deref_int, srcItems]
      have e1 : (smallI ((i : Int) + 1) && smallI (es.length : Int)) = true := by simp [execSs_2, execS_10, evalE_20, evalE_25, evalE_27, evalE_28, evalE_29, evalE_30, evalE_31, evalE_32, evalE_33, tgtSet_2, tgtSet_3, tgtSet_4, execS_3, execS_4, execS_5, execS_6, execS_7, execS_8, execS_9, smallI]; omega
      have e2 : ((es.length : Int) - ((i : Int) + 1)).toNat = es.length - (i + 1) := by omega
      rw [e1, e2]
      rfl) (by simp [execSs_2, execS_10, evalE_20, evalE_25, evalE_27, evalE_28, evalE_29, evalE_30, evalE_31, evalE_32, evalE_33, tgtSet_2, tgtSet_3, tgtSet_4, execS_3, execS_4, execS_5, execS_6, execS_7, execS_8, execS_9, rangeV]; omega) (fun it hit => by
      unfold rangeV at hit
      obtain ⟨a, ha, rfl⟩ := List.mem_map.mp hit
      have ha := List.mem_range.mp ha
      have ea : (((i + 1 : Nat) : Int) + (a : Int)) = ((i + 1 + a : Nat) : Int) := by omega
      rw [ea]
      have hg := evAt_get (es := es) (k := i + 1 + a) (by omega)
      generalize i + 1 + a = j at *
      refine ⟨[.val (rowV es), a1, .val (.int i), a3, .val (.str x), a5, .val (.int j)], by simp [execSs_2, execS_10, evalE_20, evalE_25, evalE_27, evalE_28, evalE_29, evalE_30, evalE_31, evalE_32, evalE_33, tgtSet_2, tgtSet_3, tgtSet_4, execS_3, execS_4, execS_5, execS_6, execS_7, execS_8, execS_9, patSet, wipeE], by simp [execSs_2, execS_10, evalE_20, evalE_25, evalE_27, evalE_28, evalE_29, evalE_30, evalE_31, evalE_32, evalE_33, tgtSet_2, tgtSet_3, tgtSet_4, execS_3, execS_4, execS_5, execS_6, execS_7, execS_8, execS_9, wipeE], ?_⟩
      have hv2 : vsub (evV (evAt es j)) (.int 1) = some (.str (evAt es j).2) := rfl
      have hv1 := vsub_row hg
      by_cases q : (evAt es j).2 = x
      · simp only [Int.toNat_natCast, q, if_true]
        refine ⟨by simp [execSs_2, execS_10, evalE_20, evalE_25, evalE_27, evalE_28, evalE_29, evalE_30, evalE_31, evalE_32, evalE_33, tgtSet_2, tgtSet_3, tgtSet_4, execS_3, execS_4, execS_5, execS_6, execS_7, execS_8, execS_9, hdr, hdr2, hv1, hv2, cmpop, veq_str, q], by simp⟩
      · simp only [Int.toNat_natCast, q, if_false]
        simp [execSs_2, execS_10, evalE_20, evalE_25, evalE_27, evalE_28, evalE_29, evalE_30, evalE_31, evalE_32, evalE_33, tgtSet_2, tgtSet_3, tgtSet_4, execS_3, execS_4, execS_5, execS_6, execS_7, execS_8, execS_9, hdr, hdr2, hv1, hv2, cmpop, veq_str, q])
  rw [latF_fm] at hlc
  exact hlc
def lawBody : List IS := [(.ite (.cmp .eq (.var 3) (.cst (.str "call"))) [(.asg (.nm 5) (.lc (.var 6) (.nm 6) .rng [(.bin .add (.var 2) (.cst (.int 1))), (.bi .len [(.var 0)])] [(.cmp .eq (.sub (.sub (.var 0) (.var 6)) (.cst (.int 1))) (.var 4))] [6])), (.ite (.and (.cmp .ne (.var 5) (.lst [])) (.cmp .eq (.sub (.sub (.var 0) (.sub (.var 5) (.cst (.int 0)))) (.cst (.int 0))) (.cst (.str "call")))) [(.ex (.mt .append (.var 1) [(.tup [(.var 2), (.sub (.var 5) (.cst (.int 0)))])]))] [])] [])]
theorem str_asg (C : Call) (h : List Cell) (es : List Ev) (hl : es.length ≤ 10000) (i : Nat) (hi : i < es.length) (x : Str) (a1 a3 a5 : Slot) :
    execS T C (.asg (.nm 5) (.lc (.var 6) (.nm 6) .rng [(.bin .add (.var 2) (.cst (.int 1))), (.bi .len [(.var 0)])] [(.cmp .eq (.sub (.sub (.var 0) (.var 6)) (.cst (.int 1))) (.var 4))] [6])) ⟨[.val (rowV es), a1, .val (.int i), a3, .val (.str x), a5, .no], h⟩ = .ok .nx ⟨[.val (rowV es), a1, .val (.int i), a3, .val (.str x), .val (.lst ((latF es x (i + 1) (es.length - (i + 1))).map fun k => Val.int (k : Nat))), .no], h⟩ := by
  have hlc := later_lc (T := T) C h es hl i hi x a1 a3 a5
  simp [execSs_2, execS_10, evalE_20, evalE_25, evalE_27, evalE_28, evalE_29, evalE_30, evalE_31, evalE_32, evalE_33, tgtSet_2, tgtSet_3, tgtSet_4, execS_3, execS_4, execS_5, execS_6, execS_7, execS_8, execS_9, hlc]
theorem str_and (C : Call) (h : List Cell) (es : List Ev) (js : List Nat) (hj : ∀ j r, js = j :: r → j < es.length) (a1 a2 a3 a4 a6 : Slot) :
    evalB T C (.and (.cmp .ne (.var 5) (.lst [])) (.cmp .eq (.sub (.sub (.var 0) (.sub (.var 5) (.cst (.int 0)))) (.cst (.int 0))) (.cst (.str "call")))) ⟨[.val (rowV es), a1, a2, a3, a4, .val (.lst (js.map fun k => Val.int (k : Nat))), a6], h⟩ = .ok (match js with | [] => false | j :: _ => !(evAt es j).1) ⟨[.val (rowV es), a1, a2, a3, a4, .val (.lst (js.map fun k => Val.int (k : Nat))), a6], h⟩ := by
  have hdr : ∀ s, deref s (.v (rowV es)) = rowV es := fun s => rfl
  have hdr2 : ∀ s e, deref s (.v (evV e)) = evV e := fun s e => rfl
  have hvq := veq_ints_nil (js.map fun k : Nat => (k : Int))
  rw [List.map_map] at hvq
  have hcomp : (Val.int ∘ fun k : Nat => (k : Int)) = fun k : Nat => Val.int (k : Nat) := rfl
  rw [hcomp] at hvq
  cases js with
  | nil =>
    rw [List.map_nil] at hvq
    rw [List.map_nil]
    simp [execSs_2, execS_10, evalE_20, evalE_25, evalE_27, evalE_28, evalE_29, evalE_30, evalE_31, evalE_32, evalE_33, tgtSet_2, tgtSet_3, tgtSet_4, execS_3, execS_4, execS_5, execS_6, execS_7, execS_8, execS_9, cmpop, hvq]
  | cons j r =>
    have hv1 := vsub_row (evAt_get (es := es) (k := j) (hj j r rfl))
    rw [List.map_cons] at hvq
    rw [List.map_cons]
    have hvq' : veq (.lst (.int (j : Int) :: r.map fun k => Val.int (k : Nat))) (.lst []) = some false := by rw [hvq]; simp
    have hw : vsub (.lst (.int (j : Int) :: r.map fun k => Val.int (k : Nat))) (.int 0) = some (.int j) := by
      show atI _ 0 = _
      unfold atI ixN
      simp only [List.length_cons]
      rw [if_pos (by omega), if_pos (by omega)]
      rfl
    have hv2 : vsub (evV (evAt es j)) (.int 0) = some (.str (if (evAt es j).1 then "void" else "call")) := rfl
    show _ = R.ok (!(evAt es j).1) _
    generalize evAt es j = e at *
    obtain ⟨b, y⟩ := e
    cases b with
    | true => simp [execSs_2, execS_10, evalE_20, evalE_25, evalE_27, evalE_28, evalE_29, evalE_30, evalE_31, evalE_32, evalE_33, tgtSet_2, tgtSet_3, tgtSet_4, execS_3, execS_4, execS_5, execS_6, execS_7, execS_8, execS_9, cmpop, veq_str, hvq', hw, hdr, hdr2, hv1, hv2, void_ne]
    | false => simp [execSs_2, execS_10, evalE_20, evalE_25, evalE_27, evalE_28, evalE_29, evalE_30, evalE_31, evalE_32, evalE_33, tgtSet_2, tgtSet_3, tgtSet_4, execS_3, execS_4, execS_5, execS_6, execS_7, execS_8, execS_9, cmpop, veq_str, hvq', hw, hdr, hdr2, hv1, hv2, void_ne]
theorem str_app (C : Call) (h : List Cell) (j : Nat) (r : List Val) (i : Int) (fo : List Val) (hfl : fo.length < sizeLine) (a0 a3 a4 a6 : Slot) :
    execS T C (.ex (.mt .append (.var 1) [(.tup [(.var 2), (.sub (.var 5) (.cst (.int 0)))])])) ⟨[a0, .own (.lst fo false), .val (.int i), a3, a4, .val (.lst (.int j :: r)), a6], h⟩ = .ok .nx ⟨[a0, .own (.lst (fo ++ [pV (i, j)]) false), .val (.int i), a3, a4, .val (.lst (.int j :: r)), a6], h⟩ := by
  have hw : vsub (.lst (.int (j : Int) :: r)) (.int 0) = some (.int j) := by
    show atI _ 0 = _
    unfold atI ixN
    simp only [List.length_cons]
    rw [if_pos (by omega), if_pos (by omega)]
    rfl
  simp [execSs_2, execS_10, evalE_20, evalE_25, evalE_27, evalE_28, evalE_29, evalE_30, evalE_31, evalE_32, evalE_33, tgtSet_2, tgtSet_3, tgtSet_4, execS_3, execS_4, execS_5, execS_6, execS_7, execS_8, execS_9, hw, mkind, mtop, hfl, pV]
theorem law_str_step (C : Call) (h : List Cell) (es : List Ev) (hl : es.length ≤ 10000) (i : Nat) (hi : i < es.length) (b : Bool) (x : Str) (he : evAt es i = (b, x)) (fo : List Val) (hfl : fo.length < sizeLine) (a5 : Slot) :
    ∃ a5', execSs T C lawBody ⟨[.val (rowV es), .own (.lst fo false), .val (.int i), .val (.str (if b then "void" else "call")), .val (.str x), a5, .no], h⟩ = .ok .nx ⟨[.val (rowV es), .own (.lst (fo ++ (lawF es i).map pV) false), .val (.int i), .val (.str (if b then "void" else "call")), .val (.str x), a5', .no], h⟩ := by
  have hc : evalB T C (.cmp .eq (.var 3) (.cst (.str "call"))) ⟨[.val (rowV es), .own (.lst fo false), .val (.int i), .val (.str (if b then "void" else "call")), .val (.str x), a5, .no], h⟩ = .ok (!b) ⟨[.val (rowV es), .own (.lst fo false), .val (.int i), .val (.str (if b then "void" else "call")), .val (.str x), a5, .no], h⟩ := by
    cases b <;> simp [execSs_2, execS_10, evalE_20, evalE_25, evalE_27, evalE_28, evalE_29, evalE_30, evalE_31, evalE_32, evalE_33, tgtSet_2, tgtSet_3, tgtSet_4, execS_3, execS_4, execS_5, execS_6, execS_7, execS_8, execS_9, cmpop, veq_str, void_ne]
  unfold lawBody
  cases b with
  | true =>
    have e : lawF es i = [] := by unfold lawF; rw [he]; rfl
    rw [e]
    exact ⟨a5, by rw [List.map_nil, List.append_nil]; exact seq_one (ite_fn hc)⟩
  | false =>
    have e : lawF es i = match latF es x (i + 1) (es.length - (i + 1)) with
      | [] => []
      | j :: _ => if (evAt es j).1 then [] else [((i : Int), (j : Int))] := by unfold lawF; rw [he]; rfl
    have hh := latF_head es x (es.length - (i + 1)) (i + 1)
    have ha := str_asg (T := T) C h es hl i hi x (.own (.lst fo false)) (.val (.str "call")) a5
    rw [e]
    clear e
    generalize latF es x (i + 1) (es.length - (i + 1)) = js at *
    have hb := str_and (T := T) C h es js (fun j r q => by subst q; simp only at hh; omega) (.own (.lst fo false)) (.val (.int i)) (.val (.str "call")) (.val (.str x)) .no
    cases js with
    | nil =>
      refine ⟨.val (.lst []), ?_⟩
      simp only [List.map_nil, List.append_nil]
      exact seq_one (ite_tn hc (seq_two ha (seq_one (ite_fn hb))))
    | cons j r =>
      refine ⟨.val (.lst (.int (j : Int) :: r.map fun k => Val.int (k : Nat))), ?_⟩
      have hp := str_app (T := T) C h j (r.map fun k => Val.int (k : Nat)) i fo hfl (.val (rowV es)) (.val (.str "call")) (.val (.str x)) .no
      simp only [List.map_cons] at ha hb
      cases hbj : (evAt es j).1 with
      | true =>
        rw [hbj] at hb
        simp only [hbj, if_true, List.map_nil, List.append_nil]
        exact seq_one (ite_tn hc (seq_two ha (seq_one (ite_fn hb))))
      | false =>
        rw [hbj] at hb
        simp only [hbj, Bool.false_eq_true, if_false, List.map_cons, List.map_nil]
        exact seq_one (ite_tn hc (seq_two ha (seq_one (ite_tn hb (seq_one hp)))))
theorem law_stretches_ok (f20 : fs[20]? = some fd__law_stretches) (n : Nat) (h : List Cell) (es : List Ev) (hl : es.length ≤ 10000) : ∃ e2, callI T fs (n + 1) 20 [rowV es] h = .ok (.lst ((lawS es es.length).map pV)) ⟨e2, h⟩ := by
  have hb := size_big
  obtain ⟨s2, k2, a2, a3, a4, a5, rfl⟩ := for_nx (st := patSet (.tp [(.nm 2), (.tp [(.nm 3), (.nm 4)])])) (body := execSs T (callI T fs n) lawBody)
    (fun done s => ∃ (a2 a3 a4 a5 : Slot), s = ⟨[.val (rowV es), .own (.lst ((lawS es done.length).map pV) false), a2, a3, a4, a5, .no], h⟩) (enumV 0 (es.map evV)) [] ⟨[.val (rowV es), .own (.lst [] false), .no, .no, .no, .no, .no], h⟩
    ⟨.no, .no, .no, .no, rfl⟩ (fun done y s ⟨a2, a3, a4, a5, hs⟩ ⟨post, hpost⟩ => by
      subst hs
      rw [List.nil_append] at hpost
      obtain ⟨e, he, rfl⟩ := enum_at hpost
      have hdl : done.length < es.length := (List.getElem?_eq_some_iff.mp he).1
      have hel := lawS_len es done.length
      obtain ⟨b, x⟩ := e
      obtain ⟨a5', k⟩ := law_str_step (T := T) (callI T fs n) h es hl done.length hdl b x (evAt_of he) ((lawS es done.length).map pV) (by rw [List.length_map]; omega) a5
      refine ⟨_, _, by simp [execSs_2, execS_10, evalE_20, evalE_25, evalE_27, evalE_28, evalE_29, evalE_30, evalE_31, evalE_32, evalE_33, tgtSet_2, tgtSet_3, tgtSet_4, execS_3, execS_4, execS_5, execS_6, execS_7, execS_8, execS_9, patSet, patSets, evV], .inl k, ⟨.val (.int done.length), .val (.str (if b then "void" else "call")), .val (.str x), a5', ?_⟩⟩
      rw [List.length_append, List.length_singleton, lawS_succ, List.map_append])
  rw [List.nil_append, enumV_len, List.length_map] at k2
  refine ⟨_, call_rt (env := [.val (rowV es), .no, .no, .no, .no, .no, .no]) (s2 := ⟨[.val (rowV es), .val (.lst ((lawS es es.length).map pV)), a2, a3, a4, a5, .no], h⟩) f20 rfl rfl ?_⟩
  show execSs T (callI T fs n) is__law_stretches _ = _
  unfold is__law_stretches
  unfold lawBody at k2
  rw [seq_nx (s1 := ⟨[.val (rowV es), .own (.lst [] false), .no, .no, .no, .no, .no], h⟩) (by simp [execSs_2, execS_10, evalE_20, evalE_25, evalE_27, evalE_28, evalE_29, evalE_30, evalE_31, evalE_32, evalE_33, tgtSet_2, tgtSet_3, tgtSet_4, execS_3, execS_4, execS_5, execS_6, execS_7, execS_8, execS_9])]
  rw [seq_nx (for_pl (os := [.v (rowV es)]) (items := enumV 0 (es.map evV)) (by simp) (by simp [execSs_2, execS_10, evalE_20, evalE_25, evalE_27, evalE_28, evalE_29, evalE_30, evalE_31, evalE_32, evalE_33, tgtSet_2, tgtSet_3, tgtSet_4, execS_3, execS_4, execS_5, execS_6, execS_7, execS_8, execS_9, srcItems, rowV]) k2)]
  simp [execSs_2, execS_10, evalE_20, evalE_25, evalE_27, evalE_28, evalE_29, evalE_30, evalE_31, evalE_32, evalE_33, tgtSet_2, tgtSet_3, tgtSet_4, execS_3, execS_4, execS_5, execS_6, execS_7, execS_8, execS_9]
end
end Rs
end
section
set_option maxRecDepth 100000
set_option maxHeartbeats 4000000
/-! The reprs of rows, of things, of pairs. -/
namespace Rs
open PySem L2
theorem log_small {n : Nat} (h : n < 2 ^ 64) : n.log2 < 1920 := by
  by_cases e : n = 0
  · subst e; decide
  · exact (Nat.log2_lt e).mpr (Nat.lt_trans h (by decide +kernel))
theorem base_ok : ∀ x ∈ baseN, lowS x = true ∧ x.length ≤ 8 := by decide +kernel
theorem ev_sz : ∀ b : Bool, ∀ x : Str, lowS x = true → x.length ≤ 8 → szD (evD (b, x)) ≤ 70 ∧ lowD (evD (b, x)) = true := by
  intro b x h1 h2
  have hv : lowS "void" = true ∧ ("void" : Str).length = 4 := by decide +kernel
  have hc : lowS "call" = true ∧ ("call" : Str).length = 4 := by decide +kernel
  cases b
  · simp [execSs_2, execS_10, evalE_20, evalE_25, evalE_27, evalE_28, evalE_29, evalE_30, evalE_31, evalE_32, evalE_33, tgtSet_2, tgtSet_3, tgtSet_4, execS_3, execS_4, execS_5, execS_6, execS_7, execS_8, execS_9, evD, szD, szDs, lowD, lowDs, h1, hc]; omega
  · simp [execSs_2, execS_10, evalE_20, evalE_25, evalE_27, evalE_28, evalE_29, evalE_30, evalE_31, evalE_32, evalE_33, tgtSet_2, tgtSet_3, tgtSet_4, execS_3, execS_4, execS_5, execS_6, execS_7, execS_8, execS_9, evD, szD, szDs, lowD, lowDs, h1, hv]; omega
theorem row_sz : ∀ es : List Ev, (∀ e ∈ es, e.2 ∈ baseN) → szDs (es.map evD) ≤ es.length * 72 ∧ lowDs (es.map evD) = true
  | [], _ => by simp [execSs_2, execS_10, evalE_20, evalE_25, evalE_27, evalE_28, evalE_29, evalE_30, evalE_31, evalE_32, evalE_33, tgtSet_2, tgtSet_3, tgtSet_4, execS_3, execS_4, execS_5, execS_6, execS_7, execS_8, execS_9, szDs, lowDs]
  | (b, x) :: es, h => by
    have ih := row_sz es fun e he => h e (by simp [execSs_2, execS_10, evalE_20, evalE_25, evalE_27, evalE_28, evalE_29, evalE_30, evalE_31, evalE_32, evalE_33, tgtSet_2, tgtSet_3, tgtSet_4, execS_3, execS_4, execS_5, execS_6, execS_7, execS_8, execS_9, he])
    have hb := base_ok x (h (b, x) (by simp [execSs_2, execS_10, evalE_20, evalE_25, evalE_27, evalE_28, evalE_29, evalE_30, evalE_31, evalE_32, evalE_33, tgtSet_2, tgtSet_3, tgtSet_4, execS_3, execS_4, execS_5, execS_6, execS_7, execS_8, execS_9]))
    have h1 := ev_sz b x hb.1 hb.2
    simp only [List.map_cons, szDs, lowDs, List.length_cons, h1.2, ih.2, Bool.and_self, and_true]
    omega
theorem row_plain : ∀ es : List Ev, PyData.showableAll (es.map evD) = true ∧ PyData.depthAll (es.map evD) ≤ 3
  | [] => by simp [execSs_2, execS_10, evalE_20, evalE_25, evalE_27, evalE_28, evalE_29, evalE_30, evalE_31, evalE_32, evalE_33, tgtSet_2, tgtSet_3, tgtSet_4, execS_3, execS_4, execS_5, execS_6, execS_7, execS_8, execS_9, PyData.showableAll, PyData.depthAll]
  | (b, x) :: es => by
    have ih := row_plain es
    simp [execSs_2, execS_10, evalE_20, evalE_25, evalE_27, evalE_28, evalE_29, evalE_30, evalE_31, evalE_32, evalE_33, tgtSet_2, tgtSet_3, tgtSet_4, execS_3, execS_4, execS_5, execS_6, execS_7, execS_8, execS_9, PyData.showableAll, PyData.depthAll, PyData.showable, PyData.depth, evD, ih]
    omega
def alD (ts : AL) : List (PyData × PyData) := ts.map fun p => (.str p.1, .int p.2)
theorem toDk_al : ∀ ts : AL, toDk (alV ts) = some (alD ts)
  | [] => by simp [execSs_2, execS_10, evalE_20, evalE_25, evalE_27, evalE_28, evalE_29, evalE_30, evalE_31, evalE_32, evalE_33, tgtSet_2, tgtSet_3, tgtSet_4, execS_3, execS_4, execS_5, execS_6, execS_7, execS_8, execS_9, alV, alD, toDk]
  | (x, k) :: ts => by
    have ih := toDk_al ts
    unfold alV alD at *
    rw [List.map_cons, List.map_cons]
    unfold toDk
    rw [ih]
    simp [execSs_2, execS_10, evalE_20, evalE_25, evalE_27, evalE_28, evalE_29, evalE_30, evalE_31, evalE_32, evalE_33, tgtSet_2, tgtSet_3, tgtSet_4, execS_3, execS_4, execS_5, execS_6, execS_7, execS_8, execS_9, toD]
theorem toD_al (ts : AL) : toD (.dct (alV ts)) = some (.dict (alD ts)) := by
  unfold toD
  rw [toDk_al]
structure GoodT (ts : AL) : Prop where
  sub : ∀ p ∈ ts, p.1 ∈ baseN
  val : ∀ p ∈ ts, 1 ≤ p.2 ∧ p.2 ≤ 1000000
  nd : (ts.map (·.1)).Nodup
  len : ts.length ≤ 20
  ne : ts ≠ []
theorem al_sz : ∀ ts : AL, (∀ p ∈ ts, p.1 ∈ baseN) → (∀ p ∈ ts, 1 ≤ p.2 ∧ p.2 ≤ 1000000) → szDk (alD ts) ≤ ts.length * 2000 ∧ lowDk (alD ts) = true ∧ PyData.showableKv (alD ts) = true ∧ PyData.depthKv (alD ts) ≤ 1
  | [], _, _ => by simp [execSs_2, execS_10, evalE_20, evalE_25, evalE_27, evalE_28, evalE_29, evalE_30, evalE_31, evalE_32, evalE_33, tgtSet_2, tgtSet_3, tgtSet_4, execS_3, execS_4, execS_5, execS_6, execS_7, execS_8, execS_9, alD, szDk, lowDk, PyData.showableKv, PyData.depthKv]
  | (x, k) :: ts, h, g => by
    have ih := al_sz ts (fun e he => h e (by simp [execSs_2, execS_10, evalE_20, evalE_25, evalE_27, evalE_28, evalE_29, evalE_30, evalE_31, evalE_32, evalE_33, tgtSet_2, tgtSet_3, tgtSet_4, execS_3, execS_4, execS_5, execS_6, execS_7, execS_8, execS_9, he])) (fun e he => g e (by simp [execSs_2, execS_10, evalE_20, evalE_25, evalE_27, evalE_28, evalE_29, evalE_30, evalE_31, evalE_32, evalE_33, tgtSet_2, tgtSet_3, tgtSet_4, execS_3, execS_4, execS_5, execS_6, execS_7, execS_8, execS_9, he]))
    have hb := base_ok x (h (x, k) (by simp [execSs_2, execS_10, evalE_20, evalE_25, evalE_27, evalE_28, evalE_29, evalE_30, evalE_31, evalE_32, evalE_33, tgtSet_2, tgtSet_3, tgtSet_4, execS_3, execS_4, execS_5, execS_6, execS_7, execS_8, execS_9]))
    have hk := g (x, k) (by simp)
    simp only at hk
    have hl : k.natAbs.log2 < 1920 := log_small (by omega)
    unfold alD at *
    rw [List.map_cons]
    simp only [szDk, lowDk, szD, lowD, hb.1, hl, decide_true, ih.2.1, Bool.and_self, List.length_cons, PyData.showableKv, PyData.showable, ih.2.2.1, PyData.depthKv, PyData.depth, true_and]
    have := hb.2
    have := ih.1
    have := ih.2.2.2
    omega
theorem repr_rt (es : List Ev) (ts : AL) (h1 : ∀ e ∈ es, e.2 ∈ baseN) (h2 : es.length ≤ 10000) (h3 : ∀ p ∈ ts, p.1 ∈ baseN) (h4 : ∀ p ∈ ts, 1 ≤ p.2 ∧ p.2 ≤ 1000000) (h5 : ts.length ≤ 20) : ∃ t, biop .repr [.lst [rowV es, .dct (alV ts)]] = some (.v (.str t)) := by
  have e : toD (.lst [rowV es, .dct (alV ts)]) = some (.list [.list (es.map evD), .dict (alD ts)]) := by
    simp [execSs_2, execS_10, evalE_20, evalE_25, evalE_27, evalE_28, evalE_29, evalE_30, evalE_31, evalE_32, evalE_33, tgtSet_2, tgtSet_3, tgtSet_4, execS_3, execS_4, execS_5, execS_6, execS_7, execS_8, execS_9, toD, toDs, toD_row, toD_al, toDk_al]
  refine ⟨_, brepr e (showOk_of ?_ ?_ ?_ ?_)⟩
  · have := row_plain es
    have := al_sz ts h3 h4
    simp [execSs_2, execS_10, evalE_20, evalE_25, evalE_27, evalE_28, evalE_29, evalE_30, evalE_31, evalE_32, evalE_33, tgtSet_2, tgtSet_3, tgtSet_4, execS_3, execS_4, execS_5, execS_6, execS_7, execS_8, execS_9, PyData.showable, PyData.showableAll, *]
  · have := row_plain es
    have := al_sz ts h3 h4
    simp only [PyData.depth, PyData.depthAll]
    omega
  · have := row_sz es h1
    have := al_sz ts h3 h4
    simp [execSs_2, execS_10, evalE_20, evalE_25, evalE_27, evalE_28, evalE_29, evalE_30, evalE_31, evalE_32, evalE_33, tgtSet_2, tgtSet_3, tgtSet_4, execS_3, execS_4, execS_5, execS_6, execS_7, execS_8, execS_9, lowD, lowDs, *]
  · have := row_sz es h1
    have := al_sz ts h3 h4
    simp only [szD, szDs]
    omega
theorem pairs_sz : ∀ xs : List Pr, (∀ p ∈ xs, p.1.natAbs < 2 ^ 64 ∧ p.2.natAbs < 2 ^ 64) → szDs (xs.map pD) ≤ xs.length * 4000 ∧ lowDs (xs.map pD) = true ∧ PyData.showableAll (xs.map pD) = true ∧ PyData.depthAll (xs.map pD) ≤ 3
  | [], _ => by simp [execSs_2, execS_10, evalE_20, evalE_25, evalE_27, evalE_28, evalE_29, evalE_30, evalE_31, evalE_32, evalE_33, tgtSet_2, tgtSet_3, tgtSet_4, execS_3, execS_4, execS_5, execS_6, execS_7, execS_8, execS_9, szDs, lowDs, PyData.showableAll, PyData.depthAll]
  | (i, j) :: xs, h => by
    have ih := pairs_sz xs fun e he => h e (by simp [execSs_2, execS_10, evalE_20, evalE_25, evalE_27, evalE_28, evalE_29, evalE_30, evalE_31, evalE_32, evalE_33, tgtSet_2, tgtSet_3, tgtSet_4, execS_3, execS_4, execS_5, execS_6, execS_7, execS_8, execS_9, he])
    have hk := h (i, j) (by simp)
    have h1 := log_small hk.1
    have h2 := log_small hk.2
    simp only at h1 h2
    rw [List.map_cons]
    simp only [szDs, lowDs, pD, szD, lowD, h1, h2, decide_true, ih.2.1, Bool.and_self, List.length_cons, PyData.showableAll, PyData.showable, ih.2.2.1, PyData.depthAll, PyData.depth, true_and]
    have := ih.1
    have := ih.2.2.2
    omega
theorem toD_pairs (xs : List Pr) : toD (.lst (xs.map pV)) = some (.list (xs.map pD)) := by
  unfold toD
  rw [toDs_pV]
theorem repr_pairs (xs : List Pr) (h : ∀ p ∈ xs, p.1.natAbs < 2 ^ 64 ∧ p.2.natAbs < 2 ^ 64) (hl : xs.length ≤ 3000) : ∃ t, biop .repr [.lst (xs.map pV)] = some (.v (.str t)) := by
  obtain ⟨a, b, c, d⟩ := pairs_sz xs h
  refine ⟨_, brepr (toD_pairs xs) (showOk_of ?_ ?_ ?_ ?_)⟩
  · simp [execSs_2, execS_10, evalE_20, evalE_25, evalE_27, evalE_28, evalE_29, evalE_30, evalE_31, evalE_32, evalE_33, tgtSet_2, tgtSet_3, tgtSet_4, execS_3, execS_4, execS_5, execS_6, execS_7, execS_8, execS_9, PyData.showable, c]
  · simp only [PyData.depth]; omega
  · simp [execSs_2, execS_10, evalE_20, evalE_25, evalE_27, evalE_28, evalE_29, evalE_30, evalE_31, evalE_32, evalE_33, tgtSet_2, tgtSet_3, tgtSet_4, execS_3, execS_4, execS_5, execS_6, execS_7, execS_8, execS_9, lowD, b]
  · simp only [szD]; omega
theorem repr_int (i : Int) (h : i.natAbs < 2 ^ 64) : ∃ t, biop .repr [.int i] = some (.v (.str t)) := by
  refine ⟨_, brepr (d := .int i) (by simp [execSs_2, execS_10, evalE_20, evalE_25, evalE_27, evalE_28, evalE_29, evalE_30, evalE_31, evalE_32, evalE_33, tgtSet_2, tgtSet_3, tgtSet_4, execS_3, execS_4, execS_5, execS_6, execS_7, execS_8, execS_9, toD]) (showOk_of ?_ ?_ ?_ ?_)⟩
  · simp [execSs_2, execS_10, evalE_20, evalE_25, evalE_27, evalE_28, evalE_29, evalE_30, evalE_31, evalE_32, evalE_33, tgtSet_2, tgtSet_3, tgtSet_4, execS_3, execS_4, execS_5, execS_6, execS_7, execS_8, execS_9, PyData.showable, log_small h]
  · simp [execSs_2, execS_10, evalE_20, evalE_25, evalE_27, evalE_28, evalE_29, evalE_30, evalE_31, evalE_32, evalE_33, tgtSet_2, tgtSet_3, tgtSet_4, execS_3, execS_4, execS_5, execS_6, execS_7, execS_8, execS_9, PyData.depth]
  · simp [execSs_2, execS_10, evalE_20, evalE_25, evalE_27, evalE_28, evalE_29, evalE_30, evalE_31, evalE_32, evalE_33, tgtSet_2, tgtSet_3, tgtSet_4, execS_3, execS_4, execS_5, execS_6, execS_7, execS_8, execS_9, lowD, log_small h]
  · simp [execSs_2, execS_10, evalE_20, evalE_25, evalE_27, evalE_28, evalE_29, evalE_30, evalE_31, evalE_32, evalE_33, tgtSet_2, tgtSet_3, tgtSet_4, execS_3, execS_4, execS_5, execS_6, execS_7, execS_8, execS_9, szD]
theorem strsOf_small (es : List Ev) (h : es.length ≤ 10000) : ∀ p ∈ strsOf es, p.1.natAbs < 2 ^ 64 ∧ p.2.natAbs < 2 ^ 64 := fun p hp => by
  obtain ⟨i, j, rfl, hs⟩ := (strsOf_mem es p).mp hp
  obtain ⟨lt, x, h1, h2, _⟩ := hs
  have := get_lt h2
  simp only
  omega
/-- a comprehension whose test draws -/
theorem comp_sel {st : Val → List Slot → Option (List Slot)} {tst : S → R Bool} {elt : S → R Val} {vs : List Nat} {e0 : List Slot} {i : Nat} {h0 : List Cell} :
    ∀ (items acc : List Val) (d x : Int), (∀ it ∈ items, ∀ d x, ∃ e1 b d' x', st it e0 = some e1 ∧ tst ⟨e1, h0.set i (fc d x)⟩ = .ok b ⟨e1, h0.set i (fc d' x')⟩ ∧ elt ⟨e1, h0.set i (fc d' x')⟩ = .ok it ⟨e1, h0.set i (fc d' x')⟩ ∧ wipeE e1 vs = e0) →
      acc.length + items.length ≤ sizeLine → ∃ ys d' x', compL st tst elt vs putL items ⟨e0, h0.set i (fc d x)⟩ acc = .ok (acc ++ ys) ⟨e0, h0.set i (fc d' x')⟩ ∧ ys.Sublist items
  | [], acc, d, x, _, _ => ⟨[], d, x, by simp [execSs_2, execS_10, evalE_20, evalE_25, evalE_27, evalE_28, evalE_29, evalE_30, evalE_31, evalE_32, evalE_33, tgtSet_2, tgtSet_3, tgtSet_4, execS_3, execS_4, execS_5, execS_6, execS_7, execS_8, execS_9, compL], List.Sublist.refl _⟩
  | it :: items, acc, d, x, h, hl => by
    obtain ⟨e1, b, d1, x1, h1, h2, h3, h4⟩ := h it (by simp) d x
    simp only [List.length_cons] at hl
    unfold compL
    cases b with
    | false =>
      obtain ⟨ys, d2, x2, k1, k2⟩ := comp_sel items acc d1 x1 (fun it hit => h it (by simp [execSs_2, execS_10, evalE_20, evalE_25, evalE_27, evalE_28, evalE_29, evalE_30, evalE_31, evalE_32, evalE_33, tgtSet_2, tgtSet_3, tgtSet_4, execS_3, execS_4, execS_5, execS_6, execS_7, execS_8, execS_9, hit])) (by omega)
      refine ⟨ys, d2, x2, ?_, k2.cons it⟩
      simp only [h1, h2, R.bind, h4]
      exact k1
    | true =>
      obtain ⟨ys, d2, x2, k1, k2⟩ := comp_sel items (acc ++ [it]) d1 x1 (fun it hit => h it (by simp [execSs_2, execS_10, evalE_20, evalE_25, evalE_27, evalE_28, evalE_29, evalE_30, evalE_31, evalE_32, evalE_33, tgtSet_2, tgtSet_3, tgtSet_4, execS_3, execS_4, execS_5, execS_6, execS_7, execS_8, execS_9, hit])) (by simp; omega)
      refine ⟨it :: ys, d2, x2, ?_, k2.cons₂ it⟩
      have hp : putL acc it = some (acc ++ [it]) := by unfold putL; rw [if_pos (by omega)]
      simp only [h1, h2, R.bind, h3, hp, h4]
      rw [k1]
      simp
theorem sub_map {α β : Type} {f : α → β} : ∀ {ys : List β} {xs : List α}, ys.Sublist (xs.map f) → ∃ zs : List α, ys = zs.map f ∧ zs.Sublist xs := fun {ys xs} h => by
  obtain ⟨zs, h1, h2⟩ := List.sublist_map_iff.mp h
  exact ⟨zs, h2, h1⟩
end Rs
end
section
set_option maxRecDepth 100000
set_option maxHeartbeats 4000000
/-! What most laws begin with; values that are data of a bounded size. -/
namespace Rs
open PySem L2
theorem app_feed {h : List Cell} {i : Nat} (f : IsFeed h i) (l : List Cell) : IsFeed (h ++ l) i := by
  obtain ⟨d, x, e⟩ := f
  exact ⟨d, x, by rw [List.getElem?_append_left (List.getElem?_eq_some_iff.mp e).1]; exact e⟩
theorem feed_self {h : List Cell} {i : Nat} (f : IsFeed h i) : ∃ d x, h.set i (fc d x) = h := by
  obtain ⟨d, x, e⟩ := id f
  refine ⟨d, x, ?_⟩
  apply List.ext_getElem?
  intro j
  by_cases q : i = j
  · subst q; rw [List.getElem?_set_self f.lt, e]
  · rw [List.getElem?_set_ne q]
theorem get_app0 {α : Type} (h l : List α) : (h ++ l)[h.length]? = l[0]? := by
  rw [List.getElem?_append_right (Nat.le_refl _), Nat.sub_self]
theorem set_app0 {α : Type} (h l : List α) (c : α) : (h ++ l).set h.length c = h ++ l.set 0 c := by
  rw [List.set_append_right _ _ (Nat.le_refl _), Nat.sub_self]
theorem cells_ok {T : Tab} (C : Call) (N : Int) (hN : 0 ≤ N) (hN2 : N ≤ 100) (ns : List Int) (e : List Slot) (h : List Cell) : ∃ m : Int, 0 ≤ m ∧ m ≤ 100 ∧ evalOs T C [.bi .max [.cst (.int 1), .bi .min [.cst (.int N), .bi .len [.var 0]]]] ⟨.val (.scr ns) :: e, h⟩ = .ok [.v (.int m)] ⟨.val (.scr ns) :: e, h⟩ ∧ srcItems .rng [.int m] = some (rangeV 0 m.toNat) := by
  refine ⟨_, ?_, ?_, by simp [execSs_2, execS_10, evalE_20, evalE_25, evalE_27, evalE_28, evalE_29, evalE_30, evalE_31, evalE_32, evalE_33, tgtSet_2, tgtSet_3, tgtSet_4, execS_3, execS_4, execS_5, execS_6, execS_7, execS_8, execS_9, biop, okV]; rfl, ?_⟩
  · split <;> split <;> omega
  · split <;> split <;> omega
  · simp only [srcItems]
    rw [if_pos]
    simp only [smallI, Bool.and_eq_true, decide_eq_true_eq]
    constructor
    · split <;> split <;> omega
    · split <;> split <;> omega
theorem rangeV_mem {m : Nat} {x : Val} (h : x ∈ rangeV 0 m) : ∃ k : Int, x = .int k ∧ 0 ≤ k ∧ k < m := by
  unfold rangeV at h
  obtain ⟨i, hi, rfl⟩ := List.mem_map.mp h
  exact ⟨_, rfl, by omega, by have := List.mem_range.mp hi; omega⟩
theorem goodT_of {kps : List (Str × Int)} {m : Int} (N : NamesOK (kps.map (·.1)) m) (hp : ∀ kp ∈ kps, 1 ≤ kp.2 ∧ kp.2 ≤ 1000000) (hm : 1 ≤ m) : GoodT kps where
  sub := fun p hpm => N.sub p.1 (List.mem_map_of_mem (f := (·.1)) hpm)
  val := hp
  nd := N.nd
  len := by have := N.len; rw [List.length_map] at this; omega
  ne := fun e => by have := N.len; rw [e] at this; simp at this; omega
/-- the draws that most cells begin with: a feed, things -/
theorem begin_ok {T : Tab} {fs : List Fd} (g : HasGen fs) (n : Nat) (h : List Cell) (ns : List Int) (hns : ns.length ≤ 63) (k : Int) (many : Int) (hm : 0 < many) (hm2 : many < 1000000) :
    ∃ (r : Int) (ts : AL) (d1 x1 d2 x2 d3 x3 : Int) (e1 e2 e3 : List Slot), callI T fs (n + 5) 0 [.scr ns, .int k] h = .ok (.ref h.length) ⟨e1, h ++ [fc d1 x1]⟩ ∧ callI T fs (n + 5) 1 [.ref h.length, .int many] (h ++ [fc d1 x1]) = .ok (.int r) ⟨e2, h ++ [fc d2 x2]⟩ ∧ callI T fs (n + 5) 4 [.ref h.length, .int (1 + r)] (h ++ [fc d2 x2]) = .ok (.dct (alV ts)) ⟨e3, h ++ [fc d3 x3]⟩ ∧ GoodT ts := by
  obtain ⟨d1, x1, e1, k1⟩ := feed_ok (T := T) g.f0 (n + 4) h ns k hns
  have f1 : ∀ d x, IsFeed (h ++ [fc d x]) h.length := fun d x => isFeed_app h d x
  obtain ⟨r1, d2, x2, e2, k2, q1, q2⟩ := take_ok (T := T) g.f1 (n + 4) (h ++ [fc d1 x1]) h.length many (f1 _ _) hm (by omega)
  obtain ⟨kps, d3, x3, e3, k3, N, hpr⟩ := things_ok (T := T) g (n + 1) (h ++ [fc d2 x2]) h.length (1 + r1) (f1 _ _) (by omega)
  simp only [set_app] at k2 k3
  exact ⟨r1, kps, d1, x1, d2, x2, d3, x3, e1, e2, e3, k1, k2, k3, goodT_of N hpr (by omega)⟩
theorem row_ok' {T : Tab} {fs : List Fd} (g : HasGen fs) (n : Nat) (h : List Cell) (i : Nat) (hF : IsFeed h i) (ts : AL) (gt : GoodT ts) (m : Int) (hm : 0 ≤ m) (hm2 : m < 10000) : ∃ (es : List Ev) (d x : Int) (e : List Slot), callI T fs (n + 4) 6 [.ref i, .dct (alV ts), .int m] h = .ok (rowV es) ⟨e, h.set i (fc d x)⟩ ∧ es.length = m.toNat ∧ Known ts es := by
  obtain ⟨es, d, x, e, k, hl, hm⟩ := row_ok (T := T) g n h i (ts.map fun kp => (kp.1, Val.int kp.2)) m hF (by simpa using gt.ne) (by rw [List.length_map]; have := gt.len; omega) hm hm2
  refine ⟨es, d, x, e, ?_, hl, fun e he => by simpa [Function.comp_def] using hm e he⟩
  rw [List.map_map] at k
  exact k
theorem sorted_names {ts : AL} (gt : GoodT ts) : ∃ ss : List Str, biop .sorted [.dct (alV ts)] = some (.f (.lst (ss.map .str) false)) ∧ ss.Perm (ts.map (·.1)) ∧ ss ≠ [] ∧ ss.length ≤ 20 := by
  have hb := size_big
  have hl := gt.len
  have hkeys : (alV ts).map (fun kv => vKey kv.1) = (ts.map (·.1)).map Val.str := by unfold alV; simp [execSs_2, execS_10, evalE_20, evalE_25, evalE_27, evalE_28, evalE_29, evalE_30, evalE_31, evalE_32, evalE_33, tgtSet_2, tgtSet_3, tgtSet_4, execS_3, execS_4, execS_5, execS_6, execS_7, execS_8, execS_9, vKey, Function.comp_def]
  refine ⟨sortS (ts.map (·.1)), ?_, sortS_perm _, fun e => ?_, by rw [(sortS_perm _).length_eq, List.length_map]; exact hl⟩
  · simp only [biop]
    rw [if_pos]
    · rw [hkeys, vsort_str _ (by rw [List.length_map]; omega)]; rfl
    · simp [execSs_2, execS_10, evalE_20, evalE_25, evalE_27, evalE_28, evalE_29, evalE_30, evalE_31, evalE_32, evalE_33, tgtSet_2, tgtSet_3, tgtSet_4, execS_3, execS_4, execS_5, execS_6, execS_7, execS_8, execS_9, alV]; omega
  · have := (sortS_perm (ts.map (·.1))).length_eq
    rw [e] at this
    simp at this
    exact gt.ne (List.length_eq_zero_iff.mp this.symm)

/-! ### data of a bounded size -/
def bdD (n dp : Nat) (d : PyData) : Bool := d.showable && (decide (d.depth ≤ dp) && (lowD d && decide (szD d ≤ n)))
def bdV (n dp : Nat) (v : Val) : Bool := match toD v with
  | some d => bdD n dp d
  | none => false
theorem bdV_iff {n dp : Nat} {v : Val} : bdV n dp v = true ↔ ∃ d, toD v = some d ∧ d.showable = true ∧ d.depth ≤ dp ∧ lowD d = true ∧ szD d ≤ n := by
  unfold bdV
  cases q : toD v with
  | none => simp
  | some d => simp [execSs_2, execS_10, evalE_20, evalE_25, evalE_27, evalE_28, evalE_29, evalE_30, evalE_31, evalE_32, evalE_33, tgtSet_2, tgtSet_3, tgtSet_4, execS_3, execS_4, execS_5, execS_6, execS_7, execS_8, execS_9, bdD]
theorem bdV_mono {n m a b : Nat} {v : Val} (h : bdV n a v = true) (h1 : n ≤ m) (h2 : a ≤ b) : bdV m b v = true := by
  obtain ⟨d, e, x, y, z, w⟩ := bdV_iff.mp h
  exact bdV_iff.mpr ⟨d, e, x, by omega, z, by omega⟩
theorem bdVs {n dp : Nat} : ∀ {xs : List Val}, (∀ x ∈ xs, bdV n dp x = true) → ∃ ds, toDs xs = some ds ∧ PyData.showableAll ds = true ∧ PyData.depthAll ds ≤ dp ∧ lowDs ds = true ∧ szDs ds ≤ xs.length * (n + 2)
  | [], _ => ⟨[], by simp [execSs_2, execS_10, evalE_20, evalE_25, evalE_27, evalE_28, evalE_29, evalE_30, evalE_31, evalE_32, evalE_33, tgtSet_2, tgtSet_3, tgtSet_4, execS_3, execS_4, execS_5, execS_6, execS_7, execS_8, execS_9, toDs], by simp [execSs_2, execS_10, evalE_20, evalE_25, evalE_27, evalE_28, evalE_29, evalE_30, evalE_31, evalE_32, evalE_33, tgtSet_2, tgtSet_3, tgtSet_4, execS_3, execS_4, execS_5, execS_6, execS_7, execS_8, execS_9, PyData.showableAll], by simp [execSs_2, execS_10, evalE_20, evalE_25, evalE_27, evalE_28, evalE_29, evalE_30, evalE_31, evalE_32, evalE_33, tgtSet_2, tgtSet_3, tgtSet_4, execS_3, execS_4, execS_5, execS_6, execS_7, execS_8, execS_9, PyData.depthAll], by simp [execSs_2, execS_10, evalE_20, evalE_25, evalE_27, evalE_28, evalE_29, evalE_30, evalE_31, evalE_32, evalE_33, tgtSet_2, tgtSet_3, tgtSet_4, execS_3, execS_4, execS_5, execS_6, execS_7, execS_8, execS_9, lowDs], by simp [execSs_2, execS_10, evalE_20, evalE_25, evalE_27, evalE_28, evalE_29, evalE_30, evalE_31, evalE_32, evalE_33, tgtSet_2, tgtSet_3, tgtSet_4, execS_3, execS_4, execS_5, execS_6, execS_7, execS_8, execS_9, szDs]⟩
  | x :: xs, h => by
    obtain ⟨d, e, a1, a2, a3, a4⟩ := bdV_iff.mp (h x (by simp [execSs_2, execS_10, evalE_20, evalE_25, evalE_27, evalE_28, evalE_29, evalE_30, evalE_31, evalE_32, evalE_33, tgtSet_2, tgtSet_3, tgtSet_4, execS_3, execS_4, execS_5, execS_6, execS_7, execS_8, execS_9]))
    obtain ⟨ds, e2, b1, b2, b3, b4⟩ := bdVs (xs := xs) fun y hy => h y (by simp [execSs_2, execS_10, evalE_20, evalE_25, evalE_27, evalE_28, evalE_29, evalE_30, evalE_31, evalE_32, evalE_33, tgtSet_2, tgtSet_3, tgtSet_4, execS_3, execS_4, execS_5, execS_6, execS_7, execS_8, execS_9, hy])
    refine ⟨d :: ds, by unfold toDs; rw [e, e2], by simp [execSs_2, execS_10, evalE_20, evalE_25, evalE_27, evalE_28, evalE_29, evalE_30, evalE_31, evalE_32, evalE_33, tgtSet_2, tgtSet_3, tgtSet_4, execS_3, execS_4, execS_5, execS_6, execS_7, execS_8, execS_9, PyData.showableAll, a1, b1], by simp only [PyData.depthAll]; omega, by simp [execSs_2, execS_10, evalE_20, evalE_25, evalE_27, evalE_28, evalE_29, evalE_30, evalE_31, evalE_32, evalE_33, tgtSet_2, tgtSet_3, tgtSet_4, execS_3, execS_4, execS_5, execS_6, execS_7, execS_8, execS_9, lowDs, a3, b3], ?_⟩
    have e3 : (x :: xs).length * (n + 2) = xs.length * (n + 2) + (n + 2) := by rw [List.length_cons, Nat.add_mul, Nat.one_mul]
    rw [e3]
    simp only [szDs]
    omega
theorem bdV_lst {n dp m : Nat} {xs : List Val} (h : ∀ x ∈ xs, bdV n dp x = true) (hl : xs.length ≤ m) : bdV (2 + m * (n + 2)) (dp + 1) (.lst xs) = true := by
  obtain ⟨ds, e, b1, b2, b3, b4⟩ := bdVs h
  have := Nat.mul_le_mul_right (n + 2) hl
  exact bdV_iff.mpr ⟨.list ds, by unfold toD; rw [e], by simp [execSs_2, execS_10, evalE_20, evalE_25, evalE_27, evalE_28, evalE_29, evalE_30, evalE_31, evalE_32, evalE_33, tgtSet_2, tgtSet_3, tgtSet_4, execS_3, execS_4, execS_5, execS_6, execS_7, execS_8, execS_9, PyData.showable, b1], by simp only [PyData.depth]; omega, by simp [execSs_2, execS_10, evalE_20, evalE_25, evalE_27, evalE_28, evalE_29, evalE_30, evalE_31, evalE_32, evalE_33, tgtSet_2, tgtSet_3, tgtSet_4, execS_3, execS_4, execS_5, execS_6, execS_7, execS_8, execS_9, lowD, b3], by simp only [szD]; omega⟩
theorem bdV_tup {n dp m : Nat} {xs : List Val} (h : ∀ x ∈ xs, bdV n dp x = true) (hl : xs.length ≤ m) : bdV (3 + m * (n + 2)) (dp + 1) (.tup xs) = true := by
  obtain ⟨ds, e, b1, b2, b3, b4⟩ := bdVs h
  have := Nat.mul_le_mul_right (n + 2) hl
  exact bdV_iff.mpr ⟨.tuple ds, by unfold toD; rw [e], by simp [execSs_2, execS_10, evalE_20, evalE_25, evalE_27, evalE_28, evalE_29, evalE_30, evalE_31, evalE_32, evalE_33, tgtSet_2, tgtSet_3, tgtSet_4, execS_3, execS_4, execS_5, execS_6, execS_7, execS_8, execS_9, PyData.showable, b1], by simp only [PyData.depth]; omega, by simp [execSs_2, execS_10, evalE_20, evalE_25, evalE_27, evalE_28, evalE_29, evalE_30, evalE_31, evalE_32, evalE_33, tgtSet_2, tgtSet_3, tgtSet_4, execS_3, execS_4, execS_5, execS_6, execS_7, execS_8, execS_9, lowD, b3], by simp only [szD]; omega⟩
theorem bdV_str {n : Nat} {x : Str} (h : lowS x = true) (hl : 2 + 4 * x.length ≤ n) : bdV n 1 (.str x) = true := bdV_iff.mpr ⟨.str x, by simp [execSs_2, execS_10, evalE_20, evalE_25, evalE_27, evalE_28, evalE_29, evalE_30, evalE_31, evalE_32, evalE_33, tgtSet_2, tgtSet_3, tgtSet_4, execS_3, execS_4, execS_5, execS_6, execS_7, execS_8, execS_9, toD], by simp [execSs_2, execS_10, evalE_20, evalE_25, evalE_27, evalE_28, evalE_29, evalE_30, evalE_31, evalE_32, evalE_33, tgtSet_2, tgtSet_3, tgtSet_4, execS_3, execS_4, execS_5, execS_6, execS_7, execS_8, execS_9, PyData.showable], by simp [execSs_2, execS_10, evalE_20, evalE_25, evalE_27, evalE_28, evalE_29, evalE_30, evalE_31, evalE_32, evalE_33, tgtSet_2, tgtSet_3, tgtSet_4, execS_3, execS_4, execS_5, execS_6, execS_7, execS_8, execS_9, PyData.depth], by simpa [lowD] using h, by simpa [szD] using hl⟩
theorem bdV_int {n : Nat} {i : Int} (h : i.natAbs < 2 ^ 64) (hl : 1921 ≤ n) : bdV n 1 (.int i) = true := bdV_iff.mpr ⟨.int i, by simp [execSs_2, execS_10, evalE_20, evalE_25, evalE_27, evalE_28, evalE_29, evalE_30, evalE_31, evalE_32, evalE_33, tgtSet_2, tgtSet_3, tgtSet_4, execS_3, execS_4, execS_5, execS_6, execS_7, execS_8, execS_9, toD], by simp [execSs_2, execS_10, evalE_20, evalE_25, evalE_27, evalE_28, evalE_29, evalE_30, evalE_31, evalE_32, evalE_33, tgtSet_2, tgtSet_3, tgtSet_4, execS_3, execS_4, execS_5, execS_6, execS_7, execS_8, execS_9, PyData.showable, log_small h], by simp [execSs_2, execS_10, evalE_20, evalE_25, evalE_27, evalE_28, evalE_29, evalE_30, evalE_31, evalE_32, evalE_33, tgtSet_2, tgtSet_3, tgtSet_4, execS_3, execS_4, execS_5, execS_6, execS_7, execS_8, execS_9, PyData.depth], by simp [execSs_2, execS_10, evalE_20, evalE_25, evalE_27, evalE_28, evalE_29, evalE_30, evalE_31, evalE_32, evalE_33, tgtSet_2, tgtSet_3, tgtSet_4, execS_3, execS_4, execS_5, execS_6, execS_7, execS_8, execS_9, lowD, log_small h], by simpa [szD] using hl⟩
theorem bdV_dct {n dp m : Nat} : ∀ {kvs : List (Key × Val)}, (∀ kv ∈ kvs, bdV n dp (vKey kv.1) = true ∧ bdV n dp kv.2 = true) → ∃ ds, toDk kvs = some ds ∧ PyData.showableKv ds = true ∧ PyData.depthKv ds ≤ dp ∧ lowDk ds = true ∧ szDk ds ≤ kvs.length * (2 * n + 4)
  | [], _ => ⟨[], by simp [execSs_2, execS_10, evalE_20, evalE_25, evalE_27, evalE_28, evalE_29, evalE_30, evalE_31, evalE_32, evalE_33, tgtSet_2, tgtSet_3, tgtSet_4, execS_3, execS_4, execS_5, execS_6, execS_7, execS_8, execS_9, toDk], by simp [execSs_2, execS_10, evalE_20, evalE_25, evalE_27, evalE_28, evalE_29, evalE_30, evalE_31, evalE_32, evalE_33, tgtSet_2, tgtSet_3, tgtSet_4, execS_3, execS_4, execS_5, execS_6, execS_7, execS_8, execS_9, PyData.showableKv], by simp [execSs_2, execS_10, evalE_20, evalE_25, evalE_27, evalE_28, evalE_29, evalE_30, evalE_31, evalE_32, evalE_33, tgtSet_2, tgtSet_3, tgtSet_4, execS_3, execS_4, execS_5, execS_6, execS_7, execS_8, execS_9, PyData.depthKv], by simp [execSs_2, execS_10, evalE_20, evalE_25, evalE_27, evalE_28, evalE_29, evalE_30, evalE_31, evalE_32, evalE_33, tgtSet_2, tgtSet_3, tgtSet_4, execS_3, execS_4, execS_5, execS_6, execS_7, execS_8, execS_9, lowDk], by simp [execSs_2, execS_10, evalE_20, evalE_25, evalE_27, evalE_28, evalE_29, evalE_30, evalE_31, evalE_32, evalE_33, tgtSet_2, tgtSet_3, tgtSet_4, execS_3, execS_4, execS_5, execS_6, execS_7, execS_8, execS_9, szDk]⟩
  | (k, x) :: kvs, h => by
    obtain ⟨⟨d, e, a1, a2, a3, a4⟩, ⟨d2, e2, c1, c2, c3, c4⟩⟩ := (h (k, x) (by simp [execSs_2, execS_10, evalE_20, evalE_25, evalE_27, evalE_28, evalE_29, evalE_30, evalE_31, evalE_32, evalE_33, tgtSet_2, tgtSet_3, tgtSet_4, execS_3, execS_4, execS_5, execS_6, execS_7, execS_8, execS_9])).imp bdV_iff.mp bdV_iff.mp
    obtain ⟨ds, e3, b1, b2, b3, b4⟩ := bdV_dct (m := m) (kvs := kvs) fun y hy => h y (by simp [execSs_2, execS_10, evalE_20, evalE_25, evalE_27, evalE_28, evalE_29, evalE_30, evalE_31, evalE_32, evalE_33, tgtSet_2, tgtSet_3, tgtSet_4, execS_3, execS_4, execS_5, execS_6, execS_7, execS_8, execS_9, hy])
    cases k with
    | inl i =>
      simp only [vKey, toD, Option.some.injEq] at e
      subst e
      refine ⟨(.int i, d2) :: ds, by unfold toDk; simp only at e2; rw [e2, e3], by simp [execSs_2, execS_10, evalE_20, evalE_25, evalE_27, evalE_28, evalE_29, evalE_30, evalE_31, evalE_32, evalE_33, tgtSet_2, tgtSet_3, tgtSet_4, execS_3, execS_4, execS_5, execS_6, execS_7, execS_8, execS_9, PyData.showableKv, a1, c1, b1], by simp only [PyData.depthKv]; omega, by simp [execSs_2, execS_10, evalE_20, evalE_25, evalE_27, evalE_28, evalE_29, evalE_30, evalE_31, evalE_32, evalE_33, tgtSet_2, tgtSet_3, tgtSet_4, execS_3, execS_4, execS_5, execS_6, execS_7, execS_8, execS_9, lowDk, a3, c3, b3], ?_⟩
      have e4 : ((Sum.inl i, x) :: kvs).length * (2 * n + 4) = kvs.length * (2 * n + 4) + (2 * n + 4) := by rw [List.length_cons, Nat.add_mul, Nat.one_mul]
      rw [e4]
      simp only [szDk]
      omega
    | inr i =>
      simp only [vKey, toD, Option.some.injEq] at e
      subst e
      refine ⟨(.str i, d2) :: ds, by unfold toDk; simp only at e2; rw [e2, e3], by simp [execSs_2, execS_10, evalE_20, evalE_25, evalE_27, evalE_28, evalE_29, evalE_30, evalE_31, evalE_32, evalE_33, tgtSet_2, tgtSet_3, tgtSet_4, execS_3, execS_4, execS_5, execS_6, execS_7, execS_8, execS_9, PyData.showableKv, a1, c1, b1], by simp only [PyData.depthKv]; omega, by simp [execSs_2, execS_10, evalE_20, evalE_25, evalE_27, evalE_28, evalE_29, evalE_30, evalE_31, evalE_32, evalE_33, tgtSet_2, tgtSet_3, tgtSet_4, execS_3, execS_4, execS_5, execS_6, execS_7, execS_8, execS_9, lowDk, a3, c3, b3], ?_⟩
      have e4 : ((Sum.inr i, x) :: kvs).length * (2 * n + 4) = kvs.length * (2 * n + 4) + (2 * n + 4) := by rw [List.length_cons, Nat.add_mul, Nat.one_mul]
      rw [e4]
      simp only [szDk]
      omega
theorem bdV_al {ts : AL} {m : Nat} (h : ∀ p ∈ ts, lowS p.1 = true ∧ p.1.length ≤ 100 ∧ p.2.natAbs < 2 ^ 64) (hl : ts.length ≤ m) : bdV (2 + m * 4004) 2 (.dct (alV ts)) = true := by
  obtain ⟨ds, e, b1, b2, b3, b4⟩ := bdV_dct (n := 2000) (dp := 1) (m := m) (kvs := alV ts) fun kv hkv => by
    obtain ⟨p, hp, rfl⟩ := List.mem_map.mp hkv
    obtain ⟨x, y, z⟩ := h p hp
    exact ⟨bdV_str x (by omega), bdV_int z (by omega)⟩
  rw [alV_len] at b4
  have := Nat.mul_le_mul_right 4004 hl
  exact bdV_iff.mpr ⟨.dict ds, by unfold toD; rw [e], by simp [execSs_2, execS_10, evalE_20, evalE_25, evalE_27, evalE_28, evalE_29, evalE_30, evalE_31, evalE_32, evalE_33, tgtSet_2, tgtSet_3, tgtSet_4, execS_3, execS_4, execS_5, execS_6, execS_7, execS_8, execS_9, PyData.showable, b1], by simp only [PyData.depth]; omega, by simp [execSs_2, execS_10, evalE_20, evalE_25, evalE_27, evalE_28, evalE_29, evalE_30, evalE_31, evalE_32, evalE_33, tgtSet_2, tgtSet_3, tgtSet_4, execS_3, execS_4, execS_5, execS_6, execS_7, execS_8, execS_9, lowD, b3], by simp only [szD]; omega⟩
theorem bdV_good {ts : AL} (g : GoodT ts) : bdV 100000 2 (.dct (alV ts)) = true :=
  bdV_mono (bdV_al (m := 20) (fun p hp => by
    obtain ⟨a, b⟩ := base_ok _ (g.sub p hp)
    have := g.val p hp
    exact ⟨a, by omega, by omega⟩) g.len) (by omega) (by omega)
theorem bdV_ev {e : Ev} (h : e.2 ∈ baseN) : bdV 70 2 (evV e) = true := by
  obtain ⟨b, x⟩ := e
  have hb := base_ok x h
  obtain ⟨h1, h2⟩ := ev_sz b x hb.1 hb.2
  exact bdV_iff.mpr ⟨evD (b, x), by cases b <;> simp [execSs_2, execS_10, evalE_20, evalE_25, evalE_27, evalE_28, evalE_29, evalE_30, evalE_31, evalE_32, evalE_33, tgtSet_2, tgtSet_3, tgtSet_4, execS_3, execS_4, execS_5, execS_6, execS_7, execS_8, execS_9, evV, evD, toD, toDs], by cases b <;> simp [execSs_2, execS_10, evalE_20, evalE_25, evalE_27, evalE_28, evalE_29, evalE_30, evalE_31, evalE_32, evalE_33, tgtSet_2, tgtSet_3, tgtSet_4, execS_3, execS_4, execS_5, execS_6, execS_7, execS_8, execS_9, evD, PyData.showable, PyData.showableAll], by cases b <;> simp [execSs_2, execS_10, evalE_20, evalE_25, evalE_27, evalE_28, evalE_29, evalE_30, evalE_31, evalE_32, evalE_33, tgtSet_2, tgtSet_3, tgtSet_4, execS_3, execS_4, execS_5, execS_6, execS_7, execS_8, execS_9, evD, PyData.depth, PyData.depthAll], h2, h1⟩
theorem repr_bd {n dp : Nat} {v : Val} (h : bdV n dp v = true) (h1 : n ≤ 16000000 := by decide) (h2 : dp ≤ 60 := by decide) : ∃ t, biop .repr [v] = some (.v (.str t)) := by
  obtain ⟨d, e, a, b, c, f⟩ := bdV_iff.mp h
  exact ⟨_, brepr e (showOk_of a (by omega) c (by omega))⟩
theorem repr_bl (b : Bool) : ∃ t, biop .repr [.bl b] = some (.v (.str t)) := repr_bd (n := 5) (dp := 2) (by cases b <;> decide +kernel)
theorem bdV_kind {n dp : Nat} {v : Val} (h : bdV n dp v = true) : kindV v < 7 := by
  obtain ⟨d, e, _⟩ := bdV_iff.mp h
  cases v <;> simp [execSs_2, execS_10, evalE_20, evalE_25, evalE_27, evalE_28, evalE_29, evalE_30, evalE_31, evalE_32, evalE_33, tgtSet_2, tgtSet_3, tgtSet_4, execS_3, execS_4, execS_5, execS_6, execS_7, execS_8, execS_9, toD] at e <;> simp [execSs_2, execS_10, evalE_20, evalE_25, evalE_27, evalE_28, evalE_29, evalE_30, evalE_31, evalE_32, evalE_33, tgtSet_2, tgtSet_3, tgtSet_4, execS_3, execS_4, execS_5, execS_6, execS_7, execS_8, execS_9, kindV]
theorem bdV_toD {n dp : Nat} {v : Val} (h : bdV n dp v = true) : (toD v).isSome = true := by
  obtain ⟨d, e, _⟩ := bdV_iff.mp h
  rw [e]; rfl
end Rs
end
section
set_option maxRecDepth 100000
set_option maxHeartbeats 400000
/-! Values under the operators, for simp. -/
namespace Rs
open PySem L2
section
variable {i j : Int} {a b : Bool} {x y : Str} {xs ys : List Val} {kvs : List (Key × Val)} {v w : Val} {n : Nat}
@[simp] theorem okV_non : okV .non = true := rfl
@[simp] theorem okV_bl : okV (.bl a) = true := rfl
@[simp] theorem okV_int : okV (.int i) = true := rfl
@[simp] theorem okV_str : okV (.str x) = true := rfl
@[simp] theorem okV_lst : okV (.lst xs) = true := rfl
@[simp] theorem okV_tup : okV (.tup xs) = true := rfl
@[simp] theorem okV_dct : okV (.dct kvs) = true := rfl
@[simp] theorem okV_scr {ns : List Int} : okV (.scr ns) = true := rfl
@[simp] theorem okV_ref : okV (.ref n) = true := rfl
@[simp] theorem kd_non : kindV .non = 0 := by simp only [kindV]
@[simp] theorem kd_bl : kindV (.bl a) = 1 := by simp only [kindV]
@[simp] theorem kd_int : kindV (.int i) = 2 := by simp only [kindV]
@[simp] theorem kd_str : kindV (.str x) = 3 := by simp only [kindV]
@[simp] theorem kd_lst : kindV (.lst xs) = 4 := by simp only [kindV]
@[simp] theorem kd_tup : kindV (.tup xs) = 5 := by simp only [kindV]
@[simp] theorem kd_dct : kindV (.dct kvs) = 6 := by simp only [kindV]
theorem okV_of (h : kindV v < 7) : okV v = true := by cases v <;> first | rfl | (exact absurd h (by decide))
theorem deref_of (h : kindV v < 7) (s : S) : deref s (.v v) = v := by cases v <;> first | rfl | (exact absurd h (by simp [kindV]))
@[simp] theorem bq_isInt' (h : kindV v < 7) : biop .isInt [v] = some (.v (.bl (kindV v == 1 || kindV v == 2))) := by simp only [biop, kInt]; rw [if_neg (by omega)]; rfl
@[simp] theorem bq_isBool' (h : kindV v < 7) : biop .isBool [v] = some (.v (.bl (kindV v == 1))) := by simp only [biop, kBool]; rw [if_neg (by omega)]; rfl
@[simp] theorem bq_isStr' (h : kindV v < 7) : biop .isStr [v] = some (.v (.bl (kindV v == 3))) := by simp only [biop, kStr]; rw [if_neg (by omega)]; rfl
@[simp] theorem bq_isLst' (h : kindV v < 7) : biop .isLst [v] = some (.v (.bl (kindV v == 4))) := by simp only [biop, kLst]; rw [if_neg (by omega)]; rfl
@[simp] theorem bq_isTup' (h : kindV v < 7) : biop .isTup [v] = some (.v (.bl (kindV v == 5))) := by simp only [biop, kTup]; rw [if_neg (by omega)]; rfl
@[simp] theorem bq_isDct' (h : kindV v < 7) : biop .isDct [v] = some (.v (.bl (kindV v == 6))) := by simp only [biop, kDct]; rw [if_neg (by omega)]; rfl
@[simp] theorem bo_addI : binop .add (.int i) (.int j) = some (.v (.int (i + j))) := rfl
@[simp] theorem bo_subI : binop .sub (.int i) (.int j) = some (.v (.int (i - j))) := rfl
@[simp] theorem bo_mulI : binop .mul (.int i) (.int j) = if okMul i j then some (.v (.int (i * j))) else none := rfl
@[simp] theorem bo_divI : binop .fdiv (.int i) (.int j) = if 0 < j ∧ j < 1073741824 then some (.v (.int (i / j))) else none := rfl
@[simp] theorem bo_modI : binop .mod (.int i) (.int j) = if 0 < j then some (.v (.int (i % j))) else none := rfl
@[simp] theorem bo_addS : binop .add (.str x) (.str y) = if x.length + y.length ≤ sizeLine then some (.v (.str (x ++ y))) else none := rfl
@[simp] theorem bo_addL : binop .add (.lst xs) (.lst ys) = if xs.length + ys.length ≤ sizeLine then some (.f (.lst (xs ++ ys) false)) else none := rfl
@[simp] theorem bo_addT : binop .add (.tup xs) (.tup ys) = if xs.length + ys.length ≤ sizeLine then some (.v (.tup (xs ++ ys))) else none := rfl
@[simp] theorem bo_mulL : binop .mul (.lst xs) (.int i) = if -(2 ^ 63) ≤ i ∧ i < 2 ^ 63 ∧ xs.length * i.toNat ≤ sizeLine then some (.f (.lst (rep xs i) false)) else none := rfl
@[simp] theorem co_eqI : cmpop .eq (.int i) (.int j) = some (decide (i = j)) := veq_int _ _
@[simp] theorem co_eqS : cmpop .eq (.str x) (.str y) = some (decide (x = y)) := veq_str _ _
@[simp] theorem co_eqB : cmpop .eq (.bl a) (.bl b) = some (decide (a = b)) := veq_bl _ _
@[simp] theorem co_neI : cmpop .ne (.int i) (.int j) = some (!decide (i = j)) := by simp [cmpop, veq_int]
@[simp] theorem co_neS : cmpop .ne (.str x) (.str y) = some (!decide (x = y)) := by simp [cmpop, veq_str]
@[simp] theorem co_ltI : cmpop .lt (.int i) (.int j) = some (decide (i < j)) := rfl
@[simp] theorem co_gtI : cmpop .gt (.int i) (.int j) = some (decide (j < i)) := rfl
@[simp] theorem co_leI : cmpop .le (.int i) (.int j) = some (!decide (j < i)) := rfl
@[simp] theorem co_geI : cmpop .ge (.int i) (.int j) = some (!decide (i < j)) := rfl
@[simp] theorem co_in : cmpop .isin v w = vin v w := rfl
@[simp] theorem co_nin : cmpop .notin v w = (vin v w).map (!·) := rfl
@[simp] theorem co_isN : cmpop .is_ .non .non = some true := rfl
theorem co_isN' (h : kindV v ≠ 0) (h2 : kindV v < 8) : cmpop .is_ v .non = some false := by cases v <;> first | rfl | (exact absurd rfl h) | (exact absurd h2 (by decide))
@[simp] theorem co_isB : cmpop .is_ (.bl a) (.bl b) = some (a == b) := rfl
@[simp] theorem co_isntB : cmpop .isnot (.bl a) (.bl b) = some (!(a == b)) := rfl
@[simp] theorem co_isntN : cmpop .isnot .non .non = some false := rfl
@[simp] theorem bq_lenL : biop .len [.lst xs] = some (.v (.int xs.length)) := rfl
@[simp] theorem bq_lenT : biop .len [.tup xs] = some (.v (.int xs.length)) := rfl
@[simp] theorem bq_lenD : biop .len [.dct kvs] = some (.v (.int kvs.length)) := rfl
@[simp] theorem bq_lenS : biop .len [.str x] = if x.length ≤ sizeLine then some (.v (.int x.length)) else none := rfl
@[simp] theorem bq_lenG {ns : List Int} : biop .len [.scr ns] = some (.v (.int ns.length)) := rfl
@[simp] theorem bq_max2 : biop .max [.int i, .int j] = some (.v (.int (if j > i then j else i))) := rfl
@[simp] theorem bq_min2 : biop .min [.int i, .int j] = some (.v (.int (if j < i then j else i))) := rfl
@[simp] theorem bq_tupL : biop .tuple [.lst xs] = some (.v (.tup xs)) := rfl
@[simp] theorem bq_tupT : biop .tuple [.tup xs] = some (.v (.tup xs)) := rfl
@[simp] theorem bq_dictD : biop .dict [.dct kvs] = some (.f (.dct kvs false)) := rfl
@[simp] theorem bq_listL : biop .list [.lst xs] = some (.f (.lst xs false)) := rfl
@[simp] theorem bq_listT : biop .list [.tup xs] = some (.f (.lst xs false)) := rfl
@[simp] theorem bq_listD : biop .list [.dct kvs] = some (.f (.lst (kvs.map fun kv => vKey kv.1) false)) := rfl
@[simp] theorem bq_intI : biop .int [.int i] = some (.v (.int i)) := rfl
@[simp] theorem mk_app : mkind .append (.lst xs) = true := rfl
@[simp] theorem mk_pop : mkind .pop (.lst xs) = true := rfl
@[simp] theorem mk_ins : mkind .insert (.lst xs) = true := rfl
@[simp] theorem mk_dget : mkind .dget (.dct kvs) = true := rfl
@[simp] theorem mk_dpop : mkind .dpop (.dct kvs) = true := rfl
@[simp] theorem mk_dclear : mkind .dclear (.dct kvs) = true := rfl
@[simp] theorem mk_upd : mkind .upd (.dct kvs) = true := rfl
@[simp] theorem mk_join : mkind .join (.str x) = true := rfl
@[simp] theorem mk_split : mkind .split (.str x) = true := rfl
@[simp] theorem mk_upper : mkind .upper (.str x) = true := rfl
@[simp] theorem vs_lst : vsub (.lst xs) (.int i) = atI xs i := rfl
@[simp] theorem vs_tup : vsub (.tup xs) (.int i) = atI xs i := rfl
@[simp] theorem vs_dctS : vsub (.dct kvs) (.str x) = dget kvs (.inr x) := rfl
@[simp] theorem vsl_lst {lo hi : Option Int} : vslice (.lst xs) lo hi = some (.f (.lst (cut xs lo hi) false)) := rfl
@[simp] theorem vsl_tup {lo hi : Option Int} : vslice (.tup xs) lo hi = some (.v (.tup (cut xs lo hi))) := rfl
@[simp] theorem part_0 : partV [] = some none := rfl
@[simp] theorem part_i : partV [.int i] = some (some i) := rfl
@[simp] theorem step_m1 : vstep (.lst xs) (-1) = some (.f (.lst xs.reverse false)) := rfl
@[simp] theorem step_1 : vstep (.lst xs) 1 = some (.f (.lst xs false)) := rfl
@[simp] theorem src_itL : srcItems .it [.lst xs] = some xs := rfl
@[simp] theorem src_itT : srcItems .it [.tup xs] = some xs := rfl
@[simp] theorem mt_appL {xs : List Val} : mtop .append (.lst xs) [v] = if xs.length < sizeLine then some (.v .non, some (.lst (xs ++ [v]) false)) else none := rfl
@[simp] theorem noSl_v : noSl [.v v] = true := rfl
end
@[simp] theorem beq_no {v : Val} {k : Nat} (h : ¬ kindV v = k) : (kindV v == k) = false := by simpa using h
theorem atI_0 {α : Type} {x : α} {xs : List α} : atI (x :: xs) 0 = some x := by simp [atI, ixN]
end Rs
end
section
set_option maxRecDepth 100000
set_option maxHeartbeats 400000
/-! things.py -/
namespace Rs
open PySem L2
section
variable {T : Tab} {fs : List Fd} [HasD fs 14 fd_is_one_of] [HasD fs 15 fd_is_event]
def oneOf (ns : List Str) : Val → Bool
  | .str x => decide (x ∈ ns)
  | _ => false
theorem oneOf_no {ns : List Str} {v : Val} (h : kindV v ≠ 3) : oneOf ns v = false := by cases v <;> first | rfl | exact absurd rfl h
theorem vin_al (x : Str) (ts : AL) : vin (.str x) (.dct (alV ts)) = some (decide (x ∈ ts.map (·.1))) := by
  simp only [vin, keyV, dget_al]
  cases q : AL.get ts x with
  | none => simp [get_none.mp q]
  | some k => simp [List.mem_map.mpr ⟨_, get_some q, rfl⟩]
omit [HasD fs 15 fd_is_event] in
@[simp] theorem is_one_of_ok (n : Nat) (h : List Cell) (v : Val) (ts : AL) (hv : kindV v < 7) : callI T fs (n + 1) 14 [v, .dct (alV ts)] h = .ok (.bl (oneOf (ts.map (·.1)) v)) ⟨[], h⟩ := by
  refine wp_eq (wp_def (d := fd_is_one_of) HasD.e rfl rfl ?_)
  show Wp (execSs T (callI T fs n) is_is_one_of ⟨[.val v, .val (.dct (alV ts))], h⟩) _
  unfold is_is_one_of
  by_cases h3 : kindV v = 3
  · obtain ⟨x, rfl⟩ : ∃ x, v = .str x := by cases v <;> first | exact ⟨_, rfl⟩ | cases h3
    simp [vin_al, oneOf]
  · have h3' : (kindV v == 3) = false := by simpa using h3
    simp [okV_of hv, deref_of hv, hv, h3', oneOf_no h3]
def evOk (ns : List Str) : Val → Bool
  | .tup [.str w, b] => (decide (w = "call") || decide (w = "void")) && oneOf ns b
  | _ => false
theorem vin_words (x : Str) : vin (.str x) (.tup [.str "call", .str "void"]) = some (decide (x = "call") || decide (x = "void")) := by
  have e : ∀ y : Str, PyData.eqv (.str y) (.str x) = decide (x = y) := fun y => by
    have := veq_str y x
    simp only [veq, toD] at this
    rw [if_pos (by rfl)] at this
    rw [Option.some.inj this]
    exact decide_eq_decide.mpr eq_comm
  simp [vin, toD, toDs, okD, PyData.plain, PyData.depth, PyData.plainAll, PyData.depthAll, e]
theorem is_event_ok (n : Nat) (h : List Cell) (v : Val) (ts : AL) (hv : kindV v < 7) (hs : ∀ a b, v = .tup [a, b] → kindV a < 7 ∧ kindV b < 7) : callI T fs (n + 2) 15 [.dct (alV ts), v] h = .ok (.bl (evOk (ts.map (·.1)) v)) ⟨[], h⟩ := by
  refine wp_eq (wp_def (d := fd_is_event) HasD.e rfl rfl ?_)
  show Wp (execSs T (callI T fs (n + 1)) is_is_event ⟨[.val (.dct (alV ts)), .val v], h⟩) _
  unfold is_is_event
  have hno : (∀ a b, v ≠ .tup [a, b]) → evOk (ts.map (·.1)) v = false := fun hx => by unfold evOk; split <;> first | rfl | exact absurd rfl (hx _ _)
  by_cases h5 : kindV v = 5
  · obtain ⟨xs, rfl⟩ : ∃ x, v = .tup x := by cases v <;> first | exact ⟨_, rfl⟩ | cases h5
    match xs, hs, hno with
    | [a, b], hs, _ =>
      obtain ⟨h1, h2⟩ := hs a b rfl
      by_cases h3 : kindV a = 3
      · obtain ⟨x, rfl⟩ : ∃ x, a = .str x := by cases a <;> first | exact ⟨_, rfl⟩ | cases h3
        simp [atI, ixN, vin_words, deref_of h2]
        generalize hb : (decide (x = "call") || decide (x = "void")) = wb
        cases wb
        · simp [evOk, hb]
        · simp [h2, atI, ixN, evOk, hb]
      · have h3' : (kindV a == 3) = false := by simpa using h3
        have : evOk (ts.map (·.1)) (.tup [a, b]) = false := by cases a <;> first | rfl | exact absurd rfl h3
        simp [atI, ixN, okV_of h1, deref_of h1, h1, h3', this]
    | [], _, hno => simp [evOk]
    | [a], _, hno => simp [evOk]
    | a :: b :: c :: r, _, hno =>
      have : ¬ ((r.length : Int) + 1 + 1 + 1 = 2) := by omega
      simp [this, hno]
  · have h5' : (kindV v == 5) = false := by simpa using h5
    simp [okV_of hv, deref_of hv, hv, h5', hno fun a b z => h5 (by rw [z]; simp)]
@[simp] theorem is_event_str (n : Nat) (h : List Cell) (w x : Str) (ts : AL) : callI T fs (n + 2) 15 [.dct (alV ts), .tup [.str w, .str x]] h = .ok (.bl (evOk (ts.map (·.1)) (.tup [.str w, .str x]))) ⟨[], h⟩ :=
  is_event_ok n h _ ts (by simp) fun a b e => by cases e; simp
end
end Rs
end
section
set_option maxRecDepth 100000
set_option maxHeartbeats 400000
/-! Texts in order; in a list of texts. -/
namespace Rs
open PySem L2
theorem str_eq' {a b : Str} (h : a.cps.toList = b.cps.toList) : a = b := by
  cases a; cases b
  simp only at h
  rw [Array.toList_inj.mp h]
theorem strLe_eq (a b : Str) : strLe a b = decide (a.cps.toList ≤ b.cps.toList) := by
  have := congrFun (congrFun (PySem.W.dataLe_str (β := Str) (fun x => x)) a) b
  exact this
theorem strLe_trans (a b c : Str) (h1 : strLe a b = true) (h2 : strLe b c = true) : strLe a c = true := by
  rw [strLe_eq] at *
  simp only [decide_eq_true_eq] at *
  exact List.le_trans h1 h2
theorem strLe_total (a b : Str) : (strLe a b || strLe b a) = true := by
  rw [strLe_eq, strLe_eq, Bool.or_eq_true, decide_eq_true_eq, decide_eq_true_eq]
  exact List.le_total ..
theorem strLe_anti {a b : Str} (h1 : strLe a b = true) (h2 : strLe b a = true) : a = b := by
  rw [strLe_eq] at *
  simp only [decide_eq_true_eq] at *
  exact str_eq' (List.le_antisymm h1 h2)
theorem sortS_pw (xs : List Str) : (sortS xs).Pairwise fun a b => strLe a b = true := List.pairwise_mergeSort strLe_trans strLe_total xs
theorem sorted_unique {xs ys : List Str} (p : xs.Perm ys) (h1 : xs.Pairwise fun a b => strLe a b = true) (h2 : ys.Pairwise fun a b => strLe a b = true) : xs = ys :=
  List.Perm.eq_of_pairwise (le := fun a b => strLe a b = true) (fun _ _ _ _ => strLe_anti) h1 h2 p
theorem sortS_congr {xs ys : List Str} (p : xs.Perm ys) : sortS xs = sortS ys := sorted_unique (((sortS_perm xs).trans p).trans (sortS_perm ys).symm) (sortS_pw xs) (sortS_pw ys)
theorem sortS_filter (f : Str → Bool) (xs : List Str) : (sortS xs).filter f = sortS (xs.filter f) :=
  sorted_unique (((sortS_perm xs).filter f).trans (sortS_perm _).symm) ((sortS_pw xs).filter _) (sortS_pw _)
theorem sortS_app {xs : List Str} (x : Str) : sortS (sortS xs ++ [x]) = sortS (xs ++ [x]) := sortS_congr ((sortS_perm xs).append_right _)
theorem sortS_idem {xs : List Str} : sortS (sortS xs) = sortS xs := sortS_congr (sortS_perm xs)
theorem sortS_mem {xs : List Str} {x : Str} : x ∈ sortS xs ↔ x ∈ xs := (sortS_perm xs).mem_iff
theorem sortS_len {xs : List Str} : (sortS xs).length = xs.length := (sortS_perm xs).length_eq
@[simp] theorem bq_sortS {xs : List Str} (h : xs.length ≤ 1000000) : biop .sorted [.lst (xs.map .str)] = some (.f (.lst ((sortS xs).map .str) false)) := by
  have hb := size_big
  simp only [biop, vsort_str xs (by omega), Option.map_some]
theorem eqv_strs (x y : Str) : PyData.eqv (.str y) (.str x) = decide (x = y) := by
  have := veq_str y x
  simp only [veq, toD] at this
  rw [if_pos (by rfl)] at this
  rw [Option.some.inj this]
  exact decide_eq_decide.mpr eq_comm
theorem plain_strs : ∀ ys : List Str, PyData.plainAll (ys.map PyData.str) = true ∧ PyData.depthAll (ys.map PyData.str) = 0
  | [] => by simp [PyData.plainAll, PyData.depthAll]
  | y :: ys => by
    have := plain_strs ys
    simp [PyData.plainAll, PyData.plain, PyData.depthAll, PyData.depth, this]
theorem any_strs (x : Str) : ∀ ys : List Str, ((ys.map PyData.str).any fun z => PyData.eqv z (.str x)) = decide (x ∈ ys)
  | [] => by simp
  | y :: ys => by
    rw [List.map_cons, List.any_cons, eqv_strs, any_strs x ys, Bool.eq_iff_iff]
    simp
@[simp] theorem vin_strs (x : Str) (ys : List Str) : vin (.str x) (.lst (ys.map .str)) = some (decide (x ∈ ys)) := by
  obtain ⟨h1, h2⟩ := plain_strs ys
  simp only [vin, toD, toDs_str]
  rw [if_pos (by simp [okD, PyData.plain, PyData.depth, h1, h2]), any_strs]
@[simp] theorem vin_strsT (x : Str) (ys : List Str) : vin (.str x) (.tup (ys.map .str)) = some (decide (x ∈ ys)) := by
  obtain ⟨h1, h2⟩ := plain_strs ys
  simp only [vin, toD, toDs_str]
  rw [if_pos (by simp [okD, PyData.plain, PyData.depth, h1, h2]), any_strs]
@[simp] theorem vin_str1 (x y : Str) : vin (.str x) (.lst [.str y]) = some (decide (x = y)) := by
  have := vin_strs x [y]
  simpa using this
@[simp] theorem vin_tup0 (x : Str) : vin (.str x) (.tup []) = some false := by
  have := vin_strsT x []
  simpa using this
@[simp] theorem vin_lst0 (x : Str) : vin (.str x) (.lst []) = some false := by
  have := vin_strs x []
  simpa using this
end Rs
end
section
set_option maxRecDepth 100000
set_option maxHeartbeats 400000
/-! A while whose condition changes cells; ends of lists. -/
namespace Rs
open PySem L2
section
variable {T : Tab} {C : Call}
theorem whl2_I {c : IE} {b : List IS} {e : List Slot} {Q : Fl → S → Prop} (ix : List Nat) (I : Nat → List Slot → List Cell → Prop)
    (hb : ∀ m as g, I m as g → ∀ K : Bool → S → Prop, (∀ g', Q .nx ⟨Up e ix as, g'⟩ → K false ⟨Up e ix as, g'⟩) → (∀ g', (∀ K2 : Fl → S → Prop, (∀ m' as' g', m' < m → I m' as' g' → K2 .nx ⟨Up e ix as', g'⟩) → (∀ v s, Q (.rt v) s → K2 (.rt v) s) → Wp (execSs T C b ⟨Up e ix as, g'⟩) K2) → K true ⟨Up e ix as, g'⟩) → Wp (evalB T C c ⟨Up e ix as, g⟩) K) :
    ∀ (F m : Nat) as g, I m as g → m < F → Wp (whileL (evalB T C c) (execSs T C b) F ⟨Up e ix as, g⟩) Q
  | 0, m, as, g, _, hm => absurd hm (Nat.not_lt_zero _)
  | F + 1, m, as, g, hi, hm => by
    obtain ⟨k, s1, h1, h2⟩ := hb m as g hi (fun k s => s.e = Up e ix as ∧ if k then ∀ K2 : Fl → S → Prop, (∀ m' as' g', m' < m → I m' as' g' → K2 .nx ⟨Up e ix as', g'⟩) → (∀ v s, Q (.rt v) s → K2 (.rt v) s) → Wp (execSs T C b s) K2 else Q .nx s) (fun g' z => ⟨rfl, by simpa using z⟩) fun g' z => ⟨rfl, by simpa using z⟩
    obtain ⟨se, sh⟩ := s1
    obtain ⟨h2a, h2b⟩ := h2
    cases h2a
    unfold whileL
    simp only [h1, R.bind]
    cases k with
    | false => exact wp_of rfl (by simpa using h2b)
    | true =>
      simp only [if_true] at h2b
      obtain ⟨fl, s2, h4, h5⟩ := h2b (fun fl s => match fl with
        | .nx => ∃ m' as', m' < m ∧ Up e ix as' = s.e ∧ I m' as' s.h
        | .rt v => Q (.rt v) s
        | _ => False) (fun m' as' g' z1 z2 => ⟨m', as', z1, rfl, z2⟩) fun v s z => z
      simp only [h4]
      cases fl with
      | nx =>
        obtain ⟨m', as', z1, z2, z3⟩ := h5
        obtain ⟨se, sh⟩ := s2
        cases z2
        exact whl2_I ix I hb F m' as' sh z3 (by omega)
      | ct => exact h5.elim
      | bk => exact h5.elim
      | rt v => exact wp_of rfl h5
theorem whl2_wp {c : IE} {b : List IS} {e : List Slot} {g : List Cell} {F : Nat} {Q : Fl → S → Prop} (ix : List Nat) (I : Nat → List Slot → List Cell → Prop) (as0 : List Slot) (m0 : Nat) (he : Up e ix as0 = e) (h0 : I m0 as0 g) (hF : m0 < F)
    (hb : ∀ m as g, I m as g → ∀ K : Bool → S → Prop, (∀ g', Q .nx ⟨Up e ix as, g'⟩ → K false ⟨Up e ix as, g'⟩) → (∀ g', (∀ K2 : Fl → S → Prop, (∀ m' as' g', m' < m → I m' as' g' → K2 .nx ⟨Up e ix as', g'⟩) → (∀ v s, Q (.rt v) s → K2 (.rt v) s) → Wp (execSs T C b ⟨Up e ix as, g'⟩) K2) → K true ⟨Up e ix as, g'⟩) → Wp (evalB T C c ⟨Up e ix as, g⟩) K) :
    Wp (whileL (evalB T C c) (execSs T C b) F ⟨e, g⟩) Q := by
  have := whl2_I ix I hb F m0 as0 g h0 hF
  rw [he] at this
  exact this
end
/-- the i-th goes, from the front -/
theorem mt_popI {xs : List Val} {i : Nat} {v : Val} (h : xs[i]? = some v) (hl : xs.length ≤ 1000000) : mtop .pop (.lst xs) [.int i] = some (.v v, some (.lst (xs.eraseIdx i) false)) := by
  have hi : i < xs.length := (List.getElem?_eq_some_iff.mp h).1
  simp only [mtop, ixN]
  rw [if_pos (by omega)]
  simp [hi, (List.getElem?_eq_some_iff.mp h).2]
theorem eraseIdx_perm {α : Type} : ∀ {xs : List α} {i : Nat} {v : α}, xs[i]? = some v → (v :: xs.eraseIdx i).Perm xs
  | [], _, _, h => by simp at h
  | x :: xs, 0, v, h => by simp at h; subst h; exact List.Perm.refl _
  | x :: xs, i + 1, v, h => by
    simp only [List.getElem?_cons_succ] at h
    simp only [List.eraseIdx_cons_succ]
    exact (List.Perm.swap _ _ _).trans ((eraseIdx_perm h).cons x)
theorem map_eraseIdx {α β : Type} (f : α → β) : ∀ (xs : List α) (i : Nat), (xs.map f).eraseIdx i = (xs.eraseIdx i).map f
  | [], _ => by simp
  | x :: xs, 0 => by simp
  | x :: xs, i + 1 => by simp [map_eraseIdx f xs i]
end Rs
end
section
set_option maxRecDepth 100000
set_option maxHeartbeats 400000
/-! Rows as texts: write and read. -/
namespace Rs
open PySem L2
theorem str_assoc (a b c : Str) : a ++ b ++ c = a ++ (b ++ c) := by
  apply TL.ext_tl
  simp only [TL.tl_append, List.append_assoc]
theorem str_empty (a : Str) : ("" : Str) ++ a = a := by
  apply TL.ext_tl
  rw [TL.tl_append]
  rfl
def wordS (b : Bool) : Str := if b then "void" else "call"
def lineS (e : Ev) : Str := wordS e.1 ++ " " ++ e.2
def textS (es : List Ev) : Str := Txt.join "\n" (es.map lineS)
theorem join_snoc (y : Str) (x : Str) : ∀ (xs : List Str), xs ≠ [] → Str.join y (xs ++ [x]) = Str.join y xs ++ y ++ x
  | [], h => absurd rfl h
  | [a], _ => rfl
  | a :: b :: r, _ => by
    show a ++ y ++ Str.join y (b :: r ++ [x]) = (a ++ y ++ Str.join y (b :: r)) ++ y ++ x
    rw [join_snoc y x (b :: r) (by simp)]
    simp only [str_assoc]
theorem text_snoc (es : List Ev) (e : Ev) : textS (es ++ [e]) = textS es ++ (if es.length > 0 then "\n" else "" : Str) ++ wordS e.1 ++ " " ++ e.2 := by
  unfold textS
  rw [TL.join_eq, TL.join_eq, List.map_append, List.map_singleton]
  cases es with
  | nil =>
    show wordS e.1 ++ " " ++ e.2 = ("" : Str) ++ ("" : Str) ++ wordS e.1 ++ " " ++ e.2
    rw [str_empty, str_empty]
  | cons a r =>
    rw [join_snoc _ _ _ (by simp), if_pos (by simp)]
    unfold lineS
    simp only [str_assoc]
theorem lineS_len (e : Ev) : (lineS e).length = 5 + e.2.length := by
  obtain ⟨b, x⟩ := e
  have h : (wordS b).length = 4 := by cases b <;> rfl
  unfold lineS
  rw [strLen_append, strLen_append, h]
  rfl
theorem textS_len (es : List Ev) (h : ∀ e ∈ es, e.2.length ≤ 8) : (textS es).length ≤ 14 * es.length := by
  have := StrLaws.join_length_le "\n" (es.map lineS)
  unfold textS
  rw [TL.join_eq]
  have h2 : ((es.map lineS).map (·.length)).sum ≤ 13 * es.length := by
    clear this
    induction es with
    | nil => simp
    | cons e es ih =>
      have := ih fun x hx => h x (by simp [hx])
      have h1 := h e (by simp)
      simp only [List.map_cons, List.sum_cons, List.length_cons, lineS_len]
      omega
  have h3 : ("\n" : Str).length = 1 := rfl
  rw [List.length_map, h3] at this
  omega
/-- names that fit into texts -/
def Free (x : Str) : Prop := 10 ∉ TL.tl x ∧ 32 ∉ TL.tl x
theorem free_base : ∀ x ∈ baseN, Free x := by unfold Free; decide +kernel
theorem line_free {e : Ev} (h : Free e.2) : 10 ∉ TL.tl (lineS e) := by
  obtain ⟨b, x⟩ := e
  have hw : 10 ∉ TL.tl (wordS b) := by cases b <;> decide +kernel
  have hs : 10 ∉ TL.tl (" " : Str) := by decide +kernel
  unfold lineS
  rw [TL.tl_append, TL.tl_append]
  intro hm
  rcases List.mem_append.mp hm with hm | hm
  · rcases List.mem_append.mp hm with hm | hm
    · exact hw hm
    · exact hs hm
  · exact h.1 hm
theorem split_text {es : List Ev} (hne : es ≠ []) (h : ∀ e ∈ es, Free e.2) : Txt.split (textS es) "\n" = es.map lineS :=
  TL.split_join (y := "\n") (s := 10) (S := []) rfl (by decide +kernel) (by simpa using hne) fun p hp => by
    obtain ⟨e, he, rfl⟩ := List.mem_map.mp hp
    exact line_free (h e he)
theorem split_line {e : Ev} (h : Free e.2) : Txt.split (lineS e) " " = [wordS e.1, e.2] := by
  have := TL.split_join (y := " ") (s := 32) (S := []) rfl (by decide +kernel) (parts := [wordS e.1, e.2]) (by simp) fun p hp => by
    simp only [List.mem_cons, List.not_mem_nil, or_false] at hp
    rcases hp with rfl | rfl
    · cases e.1 <;> decide +kernel
    · exact h.2
  rw [TL.join_eq] at this
  exact this
theorem strsV_map : ∀ ys : List Str, strsV (ys.map .str) = some ys
  | [] => rfl
  | y :: ys => by simp [strsV, strsV_map ys]
theorem evV_word (e : Ev) : evV e = .tup [.str (wordS e.1), .str e.2] := by obtain ⟨b, x⟩ := e; cases b <;> rfl
section
variable {T : Tab} {fs : List Fd}
theorem add_str {a b : Str} (h : a.length + b.length ≤ 1000000) : binop .add (.str a) (.str b) = some (.v (.str (a ++ b))) := by
  have := size_big
  simp only [binop]
  rw [if_pos (by omega)]
theorem word_len (b : Bool) : (wordS b).length = 4 := by cases b <;> rfl
@[simp] theorem len_rowV {es : List Ev} : biop .len [rowV es] = some (.v (.int es.length)) := by simp [rowV]
theorem row_lst (es : List Ev) : rowV es = .lst (es.map evV) := rfl
@[simp] theorem deref_row {s : S} {es : List Ev} : deref s (.v (rowV es)) = rowV es := rfl
@[simp] theorem okV_row {es : List Ev} : okV (rowV es) = true := rfl
theorem patSet_ev {i j : Nat} {e : List Slot} (v : Ev) : patSet (.tp [.nm i, .nm j]) (evV v) e = some ((e.set i (.val (.str (wordS v.1)))).set j (.val (.str v.2))) := by
  rw [evV_word]; rfl
@[simp] theorem write_ok [HasD fs 30 fd_write] (n : Nat) (h : List Cell) (es : List Ev) (hn : ∀ e ∈ es, e.2.length ≤ 8) (hl : es.length ≤ 5000) : callI T fs (n + 1) 30 [rowV es] h = .ok (.str (textS es)) ⟨[], h⟩ := by
  have hb := size_big
  refine wp_eq (wp_def (d := fd_write) HasD.e rfl rfl ?_)
  show Wp (execSs T (callI T fs n) is_write ⟨[.val (rowV es), .no, .no], h⟩) _
  unfold is_write
  simp
  refine lcK_map es evV (fun _ => true) (fun e => .str (lineS e)) rfl (by omega) (fun e he => ?_) ?_
  · refine ⟨_, patSet_ev e, rfl, fun K hK => by simpa using hK, fun _ K hK => ?_⟩
    have h8 := hn e he
    have hw := word_len e.1
    have h1 : (" " : Str).length = 1 := rfl
    simp [strLen_append, hw, h1]
    exact ⟨by omega, by omega, hK⟩
  · have : ((es.map lineS).map (·.length)).sum ≤ 13 * es.length := by
      clear hl
      induction es with
      | nil => simp
      | cons e es ih =>
        have := ih fun x hx => hn x (by simp [hx])
        have h1 := hn e (by simp)
        simp only [List.map_cons, List.sum_cons, List.length_cons, lineS_len]
        omega
    have h3 : ("\n" : Str).length = 1 := rfl
    have hj : mtop .join (.str "\n") [.lst ((es.map lineS).map .str)] = some (.v (.str (textS es)), none) := by
      simp only [mtop, strsV_map]
      rw [if_pos (by rw [List.length_map, h3]; omega)]
      rfl
    have he : ((es.filter fun _ => true).map fun e => Val.str (lineS e)) = (es.map lineS).map .str := by simp
    rw [he]
    generalize (es.map lineS).map Val.str = ls at *
    simp [hj]
@[simp] theorem read_ok [HasD fs 14 fd_is_one_of] [HasD fs 15 fd_is_event] [HasD fs 31 fd_read] (n : Nat) (h : List Cell) (ts : AL) (es : List Ev) (hk : ∀ e ∈ es, e.2 ∈ ts.map (·.1)) (hf : ∀ e ∈ es, Free e.2) (hn : ∀ e ∈ es, e.2.length ≤ 8) (hl : es.length ≤ 5000) :
    callI T fs (n + 3) 31 [.dct (alV ts), .str (textS es)] h = .ok (.ref h.length) ⟨[], h ++ [.lst (es.map evV) false]⟩ := by
  have hb := size_big
  refine wp_eq (wp_def (d := fd_read) HasD.e rfl rfl ?_)
  show Wp (execSs T (callI T fs (n + 2)) is_read ⟨[.val (.dct (alV ts)), .val (.str (textS es)), .no, .no, .no, .no], h⟩) _
  unfold is_read
  cases es with
  | nil =>
    have ht : textS [] = "" := by unfold textS; rw [TL.join_eq]; rfl
    simp [ht]
  | cons e0 r =>
    generalize hes : e0 :: r = es at *
    have hne : es ≠ [] := by rw [← hes]; simp
    have ht : ¬ textS es = "" := fun z => by
      have h1 := split_text hne hf
      rw [z] at h1
      have h2 : Txt.split "" "\n" = [("" : Str)] := by decide +kernel
      rw [h2] at h1
      have h3 : lineS e0 = "" := by rw [← hes] at h1; exact (List.cons.inj h1).1.symm
      have h4 := lineS_len e0
      rw [h3] at h4
      have h5 : ("" : Str).length = 0 := rfl
      omega
    have hsp : mtop .split (.str (textS es)) [.str "\n"] = some (.f (.lst ((es.map lineS).map .str) false), none) := by
      have := textS_len es hn
      simp only [mtop, split_text hne hf]
      rw [if_pos (by simp; exact ⟨by decide +kernel, by omega⟩)]
    rw [List.map_map] at hsp
    generalize hls : es.map (Val.str ∘ lineS) = ls at *
    simp [ht, hsp]
    refine forK_enum [2, 3, 4, 5] (fun i as g => g = h ∧ ∃ l c3 c4 c5, as = [.own (.lst l false), c3, c4, c5] ∧ l = (es.take i).map evV) [_, _, _, _] es (Val.str ∘ lineS) (by simp [hls]) rfl ⟨rfl, _, _, _, _, rfl, rfl⟩ (fun i e as g he ⟨hg, l1, c3, c4, c5, has, hl1⟩ K hn2 hr _ _ => ?_) fun as g ⟨hg, l1, c3, c4, c5, has, hl1⟩ => ?_
    · subst hg has
      have hm := List.mem_of_getElem? he
      have hi : i < es.length := by have := List.getElem?_eq_some_iff.mp he; exact this.1
      have hs2 : mtop .split (.str (lineS e)) [.str " "] = some (.f (.lst [.str (wordS e.1), .str e.2] false), none) := by
        simp only [mtop, split_line (hf e hm)]
        rw [if_pos (by have := hn e hm; rw [lineS_len]; simp; exact ⟨by decide +kernel, by omega⟩)]
        rfl
      have hev : evOk (ts.map (·.1)) (.tup [.str (wordS e.1), .str e.2]) = true := by
        have := hk e hm
        obtain ⟨b, x⟩ := e
        cases b <;> simpa [wordS, evOk, oneOf] using this
      have hap : mtop .append (.lst l1) [.tup [.str (wordS e.1), .str e.2]] = some (.v .non, some (.lst ((es.take (i + 1)).map evV) false)) := by
        simp only [mtop, hl1]
        rw [if_pos (by simp; omega), ← evV_word, List.take_add_one, he]
        simp
      refine ⟨_, rfl, ?_⟩
      simp [hs2, hev, hap]
      exact hn2 [_, _, _, _] _ ⟨rfl, _, _, _, _, rfl, by simp⟩
    · subst hg has hl1
      simp
end
end Rs
end
section
set_option maxRecDepth 100000
set_option maxHeartbeats 400000
/-! shelves.py -/
namespace Rs
open PySem L2
/-! ### objects, for simp -/
section
variable {T : Tab} {C : Call} {e : List Slot} {h : List Cell}
def noLk (m : Nat) (fs : List (Nat × Val)) : Prop := fs.lookup m = none
@[simp] theorem noLk_n {m : Nat} : noLk m [] := rfl
@[simp] theorem noLk_c {m g : Nat} {v : Val} {r : List (Nat × Val)} : noLk m ((g, v) :: r) ↔ m ≠ g ∧ noLk m r := by
  unfold noLk
  simp only [List.lookup]
  by_cases q : m = g
  · simp [q]
  · have : (m == g) = false := by simpa using q
    simp [this, q]
@[simp] theorem insAt_mk {r : Nat} : insAt ⟨e, h⟩ (.ref r) = (match h[r]? with
  | some (.ins c fs) => some (r, c, fs)
  | _ => none) := rfl
@[simp] theorem attK_mk {f : Nat} {Q : Rv → S → Prop} {r : Nat} : AttK T f Q (.ref r) ⟨e, h⟩ = Op (insAt ⟨e, h⟩ (.ref r)) fun t => T.fld t.2.1 f = true ∧ Op (t.2.2.lookup f) fun v => Q (.v v) ⟨e, h⟩ := rfl
@[simp] theorem meK_mk {cs : List Nat} {m : Nat} {es : List IE} {pm : List (Nat ⊕ Val)} {Q : Rv → S → Prop} {r : Nat} : MeK T C cs m es pm Q (.ref r) ⟨e, h⟩ = Op (insAt ⟨e, h⟩ (.ref r)) fun t => t.2.1 ∈ cs ∧ noLk m t.2.2 ∧ Op (T.mth t.2.1 m) fun f => Wp (evalVs T C es ⟨e, h⟩) fun vs s => Wp (C f (.ref r :: permV vs pm) s.h) fun v s2 => Q (.v v) ⟨s.e, s2.h⟩ := rfl
@[simp] theorem newK_mk {c : Nat} {pm : List (Nat ⊕ Val)} {Q : Rv → S → Prop} {vs : List Val} : NewK T C c pm Q vs ⟨e, h⟩ = Op (T.ini c) fun f => Wp (C f (.ref h.length :: permV vs pm) (h ++ [.ins c []])) fun v s2 => v = .non ∧ Q (.v (.ref h.length)) ⟨e, s2.h⟩ := rfl
@[simp] theorem prpK_mk {p : Nat} {Q : Rv → S → Prop} {r : Nat} : PrpK T C p Q (.ref r) ⟨e, h⟩ = Op (insAt ⟨e, h⟩ (.ref r)) fun t => Op (T.prp t.2.1 p) fun f => Wp (C f [.ref r] h) fun v s2 => Q (.v v) ⟨e, s2.h⟩ := rfl
@[simp] theorem inK_mk {ng : Bool} {m : Nat} {Q : Rv → S → Prop} {x : Val} {r : Nat} : InK T C ng m Q x (.ref r) ⟨e, h⟩ = Op (insAt ⟨e, h⟩ (.ref r)) fun t => Op (T.mth t.2.1 m) fun f => Wp (C f [.ref r, x] h) fun v s2 => Op (asB v) fun b => Q (.v (.bl (b != ng))) ⟨e, s2.h⟩ := rfl
@[simp] theorem lenK_mk {m : Nat} {Q : Rv → S → Prop} {r : Nat} : LenK T C m Q (.ref r) ⟨e, h⟩ = Op (insAt ⟨e, h⟩ (.ref r)) fun t => Op (T.mth t.2.1 m) fun f => Wp (C f [.ref r] h) fun v s2 => ∃ i : Int, v = .int i ∧ 0 ≤ i ∧ i < 2 ^ 63 ∧ Q (.v (.int i)) ⟨e, s2.h⟩ := rfl
@[simp] theorem setAK_mk {f : Nat} {v : Val} {Q : Unit → S → Prop} {r : Nat} : SetAK T f v Q (.ref r) ⟨e, h⟩ = Op (insAt ⟨e, h⟩ (.ref r)) fun t => T.fld t.2.1 f = true ∧ t.2.2.length < 900 ∧ Q () ⟨e, h.set t.1 (.ins t.2.1 (putFs f v t.2.2))⟩ := rfl
@[simp] theorem augAK_mk {f : Nat} {op : Bop} {a : IE} {Q : Fl → S → Prop} {r : Nat} : AugAK T C f op a Q (.ref r) ⟨e, h⟩ = Op (insAt ⟨e, h⟩ (.ref r)) fun t => T.fld t.2.1 f = true ∧ Op (t.2.2.lookup f) fun old => Wp (evalE T C a ⟨e, h⟩) (Vl fun y s => Op (iop op old y) fun r2 => Op (freeze r2) fun z => Op (insAt s (.ref r)) fun t2 => t2.2.1 = t.2.1 ∧ t2.2.2.length < 900 ∧ Q .nx { s with h := s.h.set t2.1 (.ins t2.2.1 (putFs f z t2.2.2)) }) := rfl
@[simp] theorem permV_0 {vs : List Val} : permV vs [] = vs := rfl
@[simp] theorem mth_e {c m i : Nat} [q : HasM T c m i] : T.mth c m = some i := q.e
@[simp] theorem ini_e {c i : Nat} [q : HasI T c i] : T.ini c = some i := q.e
@[simp] theorem prp_e {c p i : Nat} [q : HasP T c p i] : T.prp c p = some i := q.e
@[simp] theorem fld_e {c f : Nat} [q : HasF T c f] : T.fld c f = true := q.e
@[simp] theorem lk_n {f : Nat} : List.lookup f ([] : List (Nat × Val)) = none := rfl
@[simp] theorem lk_c {f g : Nat} {v : Val} {r : List (Nat × Val)} : List.lookup f ((g, v) :: r) = if f = g then some v else r.lookup f := by
  simp only [List.lookup]
  by_cases q : f = g
  · simp [q]
  · have : (f == g) = false := by simpa using q
    simp [this, q]
theorem set_self {α : Type} : ∀ {h : List α} {r : Nat} {c : α}, h[r]? = some c → h.set r c = h
  | [], _, _, q => by simp at q
  | x :: h, 0, c, q => by simp at q; simp [q]
  | x :: h, r + 1, c, q => by simp at q; simp [set_self q]
@[simp] theorem putFs_0 {f : Nat} {v : Val} : putFs f v [] = [(f, v)] := rfl
@[simp] theorem putFs_s {f g : Nat} {v x : Val} {r : List (Nat × Val)} : putFs f v ((g, x) :: r) = if g = f then (f, v) :: r else (g, x) :: putFs f v r := rfl
end
/-! ### the shelf -/
abbrev shelfC (p : Int) (ts : AL) (pl : List Str) (sp : Int) : Cell := .ins 0 [(12, .int p), (13, .dct (alV ts)), (14, .lst (pl.map .str)), (15, .int sp)]
section
variable {T : Tab} {fs : List Fd} {n : Nat} {h : List Cell} {r : Nat} {p : Int} {ts : AL} {pl : List Str} {sp : Int}
theorem shelf_new [HasD fs 50 fd_Shelf___init__] [HasF T 0 12] [HasF T 0 13] [HasF T 0 14] [HasF T 0 15] {x : Val} (hx : ∀ e g, deref ⟨e, h ++ g⟩ (.v x) = .dct (alV ts)) : callI T fs (n + 1) 50 [.ref h.length, .int p, x] (h ++ [.ins 0 []]) = .ok .non ⟨[], h ++ [shelfC p ts [] 0]⟩ := by
  refine wp_eq (wp_def (d := fd_Shelf___init__) HasD.e rfl rfl ?_)
  show Wp (execSs T (callI T fs n) is_Shelf___init__ ⟨[.val (.ref h.length), .val (.int p), .val x], h ++ [.ins 0 []]⟩) _
  unfold is_Shelf___init__
  simp [hx]
@[simp] theorem shelf_in [HasD fs 51 fd_Shelf___contains__] [HasF T 0 14] {v : Val} (hr : h[r]? = some (shelfC p ts pl sp)) (hv : kindV v < 7) : callI T fs (n + 1) 51 [.ref r, v] h = .ok (.bl (oneOf pl v)) ⟨[], h⟩ := by
  refine wp_eq (wp_def (d := fd_Shelf___contains__) HasD.e rfl rfl ?_)
  show Wp (execSs T (callI T fs n) is_Shelf___contains__ ⟨[.val (.ref r), .val v], h⟩) _
  unfold is_Shelf___contains__
  by_cases h3 : kindV v = 3
  · obtain ⟨x, rfl⟩ : ∃ x, v = .str x := by cases v <;> first | exact ⟨_, rfl⟩ | cases h3
    simp [hr, oneOf]
  · simp [okV_of hv, deref_of hv, hv, h3, oneOf_no h3]
@[simp] theorem shelf_len [HasD fs 52 fd_Shelf___len__] [HasF T 0 14] (hr : h[r]? = some (shelfC p ts pl sp)) : callI T fs (n + 1) 52 [.ref r] h = .ok (.int pl.length) ⟨[], h⟩ := by
  refine wp_eq (wp_def (d := fd_Shelf___len__) HasD.e rfl rfl ?_)
  show Wp (execSs T (callI T fs n) is_Shelf___len__ ⟨[.val (.ref r)], h⟩) _
  unfold is_Shelf___len__
  simp [hr]
@[simp] theorem shelf_names [HasD fs 54 fd_Shelf_names] [HasF T 0 14] (hr : h[r]? = some (shelfC p ts pl sp)) : callI T fs (n + 1) 54 [.ref r] h = .ok (.lst (pl.map .str)) ⟨[], h⟩ := by
  refine wp_eq (wp_def (d := fd_Shelf_names) HasD.e rfl rfl ?_)
  show Wp (execSs T (callI T fs n) is_Shelf_names ⟨[.val (.ref r)], h⟩) _
  unfold is_Shelf_names
  simp [hr]
@[simp] theorem shelf_prices [HasD fs 53 fd_Shelf_prices] [HasF T 0 13] (hr : h[r]? = some (shelfC p ts pl sp)) : callI T fs (n + 1) 53 [.ref r] h = .ok (.dct (alV ts)) ⟨[], h⟩ := by
  refine wp_eq (wp_def (d := fd_Shelf_prices) HasD.e rfl rfl ?_)
  show Wp (execSs T (callI T fs n) is_Shelf_prices ⟨[.val (.ref r)], h⟩) _
  unfold is_Shelf_prices
  simp [hr]
@[simp] theorem shelf_paid [HasD fs 55 fd_Shelf_paid] [HasF T 0 15] (hr : h[r]? = some (shelfC p ts pl sp)) : callI T fs (n + 1) 55 [.ref r] h = .ok (.int sp) ⟨[], h⟩ := by
  refine wp_eq (wp_def (d := fd_Shelf_paid) HasD.e rfl rfl ?_)
  show Wp (execSs T (callI T fs n) is_Shelf_paid ⟨[.val (.ref r)], h⟩) _
  unfold is_Shelf_paid
  simp [hr]
@[simp] theorem check_thing_ok [HasD fs 28 fd_check_thing] [HasD fs 14 fd_is_one_of] {x : Str} (hx : x ∈ ts.map (·.1)) : callI T fs (n + 2) 28 [.dct (alV ts), .str x] h = .ok .non ⟨[], h⟩ := by
  refine wp_eq (wp_def (d := fd_check_thing) HasD.e rfl rfl ?_)
  show Wp (execSs T (callI T fs (n + 1)) is_check_thing ⟨[.val (.dct (alV ts)), .val (.str x)], h⟩) _
  unfold is_check_thing
  have io := is_one_of_ok (T := T) (fs := fs) n h (.str x) ts (show kindV (.str x) < 7 by simp)
  have ht : oneOf (ts.map (·.1)) (.str x) = true := by simp only [oneOf, hx, decide_true]
  simp [io, ht]
theorem blsOf_map : ∀ bs : List Bool, blsOf (bs.map .bl) = some bs
  | [] => rfl
  | b :: bs => by simp [blsOf, blsOf_map bs]
@[simp] theorem bq_all {bs : List Bool} : biop .all [.lst (bs.map .bl)] = some (.v (.bl (bs.all id))) := by simp [biop, blsOf_map]
theorem dd_nodup {α : Type} [DecidableEq α] (xs : List α) (h : xs.Nodup) : dd xs = xs := by
  suffices g : ∀ (ys acc : List α), (acc ++ ys).Nodup → ys.foldl (fun acc k => if k ∈ acc then acc else acc ++ [k]) acc = acc ++ ys by
    have := g xs [] (by simpa using h)
    simpa [dd] using this
  intro ys
  induction ys with
  | nil => intro acc _; simp
  | cons y ys ih =>
    intro acc hn
    rw [List.foldl_cons]
    have hy : y ∉ acc := fun z => by
      rw [List.nodup_append] at hn
      exact hn.2.2 y z y (by simp) rfl
    rw [if_neg hy, ih _ (by simpa using hn)]
    simp
theorem strsV_map' : ∀ ys : List Str, strsV (ys.map .str) = some ys
  | [] => rfl
  | y :: ys => by simp [strsV, strsV_map' ys]
/-- unlike names, each of some -/
@[simp] theorem are_unlike_ok [HasD fs 29 fd_are_unlike] {gone : List Str} (hs : ∀ x ∈ gone, x ∈ pl) (nd : gone.Nodup) (hl : gone.length < 64) : callI T fs (n + 1) 29 [.tup (gone.map .str), .lst (pl.map .str)] h = .ok (.bl true) ⟨[], h⟩ := by
  have hb := size_big
  refine wp_eq (wp_def (d := fd_are_unlike) HasD.e rfl rfl ?_)
  show Wp (execSs T (callI T fs n) is_are_unlike ⟨[.val (.tup (gone.map .str)), .val (.lst (pl.map .str)), .no], h⟩) _
  unfold is_are_unlike
  have hset : biop .lenset [.tup (gone.map .str)] = some (.v (.int gone.length)) := by
    simp only [biop, strsV_map']
    rw [if_pos hl, dd_nodup gone nd]
  simp
  refine lcK_map gone Val.str (fun _ => true) (fun x => .bl true) rfl (by omega) (fun x hx => ?_) ?_
  · refine ⟨_, rfl, rfl, fun K hK => by simpa using hK, fun _ K hK => ?_⟩
    simp [hs x hx]
    exact hK
  · have : ((gone.filter fun _ => true).map fun _ => Val.bl true) = (gone.map fun _ => true).map .bl := by simp
    rw [this]
    have ha := bq_all (bs := gone.map fun _ => true)
    simp only [List.map_map] at ha
    have hat : (gone.all fun _ => true) = true := by simp
    simp [hset, ha, hat]
/-- what a call leaves: what stands there, what was paid -/
def callPl (pl gone : List Str) (x : Str) : List Str := if x ∈ pl then pl else sortS (pl.filter (fun y => decide (y ∉ gone)) ++ [x])
def callPr (ts : AL) (pl : List Str) (x : Str) : Int := if x ∈ pl then 0 else (AL.get ts x).getD 0
structure OutOk (p : Int) (pl gone : List Str) (x : Str) : Prop where
  sub : ∀ y ∈ gone, y ∈ pl
  nd : gone.Nodup
  few : gone.length < 64
  stay : x ∈ pl → gone = []
  room : x ∉ pl → (pl.length : Int) - gone.length < p
theorem check_out_ok [HasD fs 29 fd_are_unlike] [HasD fs 56 fd_Shelf_check_out] [HasF T 0 12] [HasF T 0 14] {x : Str} {gone : List Str} (hr : h[r]? = some (shelfC p ts pl sp)) (ok : OutOk p pl gone x) : callI T fs (n + 2) 56 [.ref r, .str x, .tup (gone.map .str)] h = .ok .non ⟨[], h⟩ := by
  refine wp_eq (wp_def (d := fd_Shelf_check_out) HasD.e rfl rfl ?_)
  show Wp (execSs T (callI T fs (n + 1)) is_Shelf_check_out ⟨[.val (.ref r), .val (.str x), .val (.tup (gone.map .str))], h⟩) _
  unfold is_Shelf_check_out
  have un := are_unlike_ok (T := T) (fs := fs) (n := n) (h := h) ok.sub ok.nd ok.few
  have ne : cmpop .ne (.tup []) (.tup []) = some false := by decide +kernel
  by_cases hx : x ∈ pl
  · have hg := ok.stay hx
    subst hg
    simp only [List.map_nil] at un
    simp [hr, un, hx, ne]
  · have := ok.room hx
    simp [hr, un, hx, this]
@[simp] theorem shelf_call [HasD fs 14 fd_is_one_of] [HasD fs 28 fd_check_thing] [HasD fs 29 fd_are_unlike] [HasD fs 56 fd_Shelf_check_out] [HasD fs 57 fd_Shelf_call] [HasM T 0 18 56] [HasF T 0 12] [HasF T 0 13] [HasF T 0 14] [HasF T 0 15] {x : Str} {gone : List Str} (hr : h[r]? = some (shelfC p ts pl sp)) (hx : x ∈ ts.map (·.1)) (ok : OutOk p pl gone x) (few : pl.length ≤ 1000) :
    callI T fs (n + 3) 57 [.ref r, .str x, .tup (gone.map .str)] h = .ok (.int (callPr ts pl x)) ⟨[], h.set r (shelfC p ts (callPl pl gone x) (sp + callPr ts pl x))⟩ := by
  have hb := size_big
  have hlt : r < h.length := (List.getElem?_eq_some_iff.mp hr).1
  refine wp_eq (wp_def (d := fd_Shelf_call) HasD.e rfl rfl ?_)
  show Wp (execSs T (callI T fs (n + 2)) is_Shelf_call ⟨[.val (.ref r), .val (.str x), .val (.tup (gone.map .str)), .no], h⟩) _
  unfold is_Shelf_call
  have ck := fun n => check_out_ok (T := T) (fs := fs) (n := n) hr ok
  have ct := fun n => check_thing_ok (T := T) (fs := fs) (n := n) (h := h) hx
  have self : h.set r (shelfC p ts pl sp) = h := set_self hr
  obtain ⟨c, hc⟩ : ∃ c, AL.get ts x = some c := by
    cases q : AL.get ts x with
    | none => exact absurd hx (get_none.mp q)
    | some c => exact ⟨c, rfl⟩
  by_cases hp : x ∈ pl
  · simp [hr, ck, ct, hp, callPr, callPl, self]
  · simp [hr, ck, ct, hp]
    refine lcK_map pl Val.str (fun y => decide (y ∉ gone)) Val.str rfl (by omega) (fun y hy => ?_) ?_
    · refine ⟨_, rfl, rfl, fun K hK => ?_, fun _ K hK => by simpa using hK⟩
      have := fun (K : Bool → S → Prop) => @two_t
      by_cases hg : y ∈ gone
      · simpa [hg] using hK
      · simpa [hg] using hK
    · have hl : (pl.filter fun y => decide (y ∉ gone)).length ≤ pl.length := List.length_filter_le _ _
      have hm : ((pl.filter fun y => decide (y ∉ gone)).map Val.str) ++ [.str x] = (pl.filter (fun y => decide (y ∉ gone)) ++ [x]).map Val.str := by simp
      have hso := bq_sortS (xs := pl.filter (fun y => decide (y ∉ gone)) ++ [x]) (by rw [List.length_append]; simp only [List.length_cons, List.length_nil]; omega)
      have st : ∀ c, (h.set r c)[r]? = some c := fun c => by simp [hlt]
      have hle : (pl.filter fun y => decide (y ∉ gone)).length + 1 ≤ sizeLine := by omega
      simp only [List.map_append, List.map_cons, List.map_nil] at hso
      generalize hfl : (pl.filter fun y => decide (y ∉ gone)) = fl at *
      clear hlt
      have e1 : callPl pl gone x = sortS (fl ++ [x]) := by rw [callPl, if_neg hp, hfl]
      have e2 : callPr ts pl x = c := by rw [callPr, if_neg hp, hc]; rfl
      rw [e1, e2]
      simp [hle, hso, hr, st, dget_al, hc, hp]
@[simp] theorem shelf_void [HasD fs 14 fd_is_one_of] [HasD fs 28 fd_check_thing] [HasD fs 58 fd_Shelf_void] [HasF T 0 13] [HasF T 0 14] {x : Str} (hr : h[r]? = some (shelfC p ts pl sp)) (hx : x ∈ ts.map (·.1)) (few : pl.length ≤ 1000) :
    callI T fs (n + 3) 58 [.ref r, .str x] h = .ok .non ⟨[], h.set r (shelfC p ts (pl.filter fun y => decide (y ≠ x)) sp)⟩ := by
  have hb := size_big
  refine wp_eq (wp_def (d := fd_Shelf_void) HasD.e rfl rfl ?_)
  show Wp (execSs T (callI T fs (n + 2)) is_Shelf_void ⟨[.val (.ref r), .val (.str x), .no], h⟩) _
  unfold is_Shelf_void
  have ct := fun n => check_thing_ok (T := T) (fs := fs) (n := n) (h := h) hx
  simp [hr, ct]
  refine lcK_map pl Val.str (fun y => decide (y ≠ x)) Val.str rfl (by omega) (fun y hy => ?_) ?_
  · refine ⟨_, rfl, rfl, fun K hK => ?_, fun _ K hK => by simpa using hK⟩
    by_cases hg : y = x
    · simpa [hg] using hK
    · simpa [hg] using hK
  · simp [hr]
end
end Rs
end
section
set_option maxRecDepth 100000
set_option maxHeartbeats 400000
/-! The laws' own draws, forwards. -/
namespace Rs
open PySem L2
/-- the law's own draws stand there -/
class Gen (fs : List Fd) : Prop where
  g : HasGen fs
instance {fs : List Fd} [HasD fs 0 fd__law_feed] [HasD fs 1 fd__law_take] [HasD fs 2 fd__law_pick] [HasD fs 3 fd__law_names] [HasD fs 4 fd__law_things] [HasD fs 5 fd__law_event] [HasD fs 6 fd__law_row] : Gen fs :=
  ⟨⟨HasD.e, HasD.e, HasD.e, HasD.e, HasD.e, HasD.e, HasD.e⟩⟩
theorem fd_len {h : List Cell} {i : Nat} {c : Cell} : (h.set i c).length = h.length := List.length_set
@[simp] theorem feed_set (h : List Cell) (i : Nat) (c c' : Cell) : (h.set i c).set i c' = h.set i c' := List.set_set ..
section
variable {T : Tab} {fs : List Fd}
theorem call_e {n i : Nat} {vs : List Val} {h : List Cell} {v : Val} {s : S} (e : callI T fs n i vs h = .ok v s) : s.e = [] := by
  cases n with
  | zero => cases e
  | succ n =>
    unfold callI at e
    cases q : fs[i]? with
    | none => rw [q] at e; cases e
    | some d =>
      rw [q] at e
      simp only [runFd] at e
      split at e
      · split at e <;> first | (cases e; rfl) | (cases e)
      · cases e
theorem call_e' {n i : Nat} {vs : List Val} {h h2 : List Cell} {v : Val} {e2 : List Slot} (e : callI T fs n i vs h = .ok v ⟨e2, h2⟩) : callI T fs n i vs h = .ok v ⟨[], h2⟩ := by
  have := call_e e
  simp only at this
  rw [this] at e
  exact e
theorem feed_wp {n : Nat} {h : List Cell} {ns : List Int} {k : Int} {Q : Val → S → Prop} [HasD fs 0 fd__law_feed] (hl : ns.length ≤ 63) (q : ∀ d x, Q (.ref h.length) ⟨[], h ++ [fc d x]⟩) : Wp (callI T fs (n + 1) 0 [.scr ns, .int k] h) Q := by
  obtain ⟨d, x, s2, e⟩ := feed_ok (T := T) (HasD.e (fs := fs) (i := 0)) n h ns k hl
  exact wp_of (call_e' e) (q d x)
theorem take_wp {n : Nat} {h : List Cell} {i : Nat} {size : Int} {Q : Val → S → Prop} [HasD fs 1 fd__law_take] (hc : IsFeed h i) (h0 : 0 < size) (h1 : size < 1073741824) (q : ∀ y d x, 0 ≤ y → y < size → Q (.int y) ⟨[], h.set i (fc d x)⟩) : Wp (callI T fs (n + 1) 1 [.ref i, .int size] h) Q := by
  obtain ⟨r, d, x, s2, e, g1, g2⟩ := take_ok (T := T) (HasD.e (fs := fs) (i := 1)) n h i size hc h0 h1
  exact wp_of (call_e' e) (q r d x g1 g2)
theorem pick_wp {n : Nat} {h : List Cell} {i : Nat} {cs : List Val} {Q : Val → S → Prop} [HasD fs 1 fd__law_take] [HasD fs 2 fd__law_pick] (hc : IsFeed h i) (h0 : cs ≠ []) (h1 : cs.length < 1073741824) (q : ∀ y d x, y ∈ cs → Q y ⟨[], h.set i (fc d x)⟩) : Wp (callI T fs (n + 2) 2 [.ref i, .lst cs] h) Q := by
  obtain ⟨r, d, x, s2, e, g⟩ := pick_ok (T := T) (HasD.e (fs := fs) (i := 1)) (HasD.e (fs := fs) (i := 2)) n h i cs hc h0 h1
  exact wp_of (call_e' e) (q r d x g)
/-- a pick of things that are told in Lean -/
theorem pickT_wp {α : Type} (f : α → Val) (l : List α) {n : Nat} {h : List Cell} {i : Nat} {cs : List Val} {Q : Val → S → Prop} [HasD fs 1 fd__law_take] [HasD fs 2 fd__law_pick] (hc : IsFeed h i) (hl : cs = l.map f) (h0 : l ≠ []) (h1 : l.length < 1073741824) (q : ∀ a d x, a ∈ l → Q (f a) ⟨[], h.set i (fc d x)⟩) : Wp (callI T fs (n + 2) 2 [.ref i, .lst cs] h) Q := by
  subst hl
  refine pick_wp hc (by simpa using h0) (by simpa using h1) fun y d x hy => ?_
  obtain ⟨a, ha, rfl⟩ := List.mem_map.mp hy
  exact q a d x ha
theorem things_wp {n : Nat} {h : List Cell} {i : Nat} {m : Int} {Q : Val → S → Prop} [Gen fs] (hc : IsFeed h i) (h0 : 1 ≤ m) (q : ∀ ts d x, GoodT ts → (ts.length : Int) = min m 20 → Q (.dct (alV ts)) ⟨[], h.set i (fc d x)⟩) : Wp (callI T fs (n + 4) 4 [.ref i, .int m] h) Q := by
  obtain ⟨kps, d, x, s2, e, N, hp⟩ := things_ok (T := T) (Gen.g (fs := fs)) n h i m hc (by omega)
  exact wp_of (call_e' e) (q kps d x (goodT_of N hp h0) (by have := N.len; simp at this; omega))
theorem row_wp {n : Nat} {h : List Cell} {i : Nat} {ts : AL} {m : Int} {Q : Val → S → Prop} [Gen fs] (hc : IsFeed h i) (gt : GoodT ts) (h0 : 0 ≤ m) (h1 : m < 10000) (q : ∀ es d x, es.length = m.toNat → Known ts es → Q (rowV es) ⟨[], h.set i (fc d x)⟩) : Wp (callI T fs (n + 4) 6 [.ref i, .dct (alV ts), .int m] h) Q := by
  obtain ⟨es, d, x, s2, e, hl, hk⟩ := row_ok' (T := T) (Gen.g (fs := fs)) n h i hc ts gt m h0 h1
  exact wp_of (call_e' e) (q es d x hl hk)
end
/-- repr's text -/
def rp (v : Val) : Str := ((toD v).map PyData.shown).getD ""
theorem rp_ok {n dp : Nat} {v : Val} (h : bdV n dp v = true) (h1 : n ≤ 16000000 := by decide) (h2 : dp ≤ 60 := by decide) : biop .repr [v] = some (.v (.str (rp v))) := by
  obtain ⟨t, ht⟩ := repr_bd h h1 h2
  rw [ht]
  simp only [biop] at ht
  unfold rp
  cases q : toD v with
  | none => rw [q] at ht; cases ht
  | some d =>
    rw [q] at ht
    simp only at ht
    split at ht
    · exact ht.symm
    · cases ht
@[simp] theorem dp_str {n : Nat} {h : List Cell} {x : Str} : dp n h (.str x) = .str x := by cases n <;> rfl
@[simp] theorem dp_int {n : Nat} {h : List Cell} {x : Int} : dp n h (.int x) = .int x := by cases n <;> rfl
@[simp] theorem dp_bl {n : Nat} {h : List Cell} {x : Bool} : dp n h (.bl x) = .bl x := by cases n <;> rfl
@[simp] theorem dp_non {n : Nat} {h : List Cell} : dp n h .non = .non := by cases n <;> rfl
@[simp] theorem veq_strs (a b : Str) : veq (.str a) (.str b) = some (decide (a = b)) := veq_str a b
@[simp] theorem veq_ints (a b : Int) : veq (.int a) (.int b) = some (decide (a = b)) := veq_int a b
/-- how many cells of the script a law looks at -/
def cellsN (N : Int) (ns : List Int) : Int := if (if (ns.length : Int) < N then (ns.length : Int) else N) > 1 then (if (ns.length : Int) < N then (ns.length : Int) else N) else 1
theorem cellsN_ok {N : Int} {ns : List Int} (h : N ≤ 1000) : 1 ≤ cellsN N ns ∧ cellsN N ns ≤ 1000 := by unfold cellsN; split <;> split at * <;> omega
theorem cells_rng {N : Int} {ns : List Int} (h : N ≤ 1000) : srcItems .rng [.int (cellsN N ns)] = some (rangeV 0 (cellsN N ns).toNat) := by
  have := cellsN_ok (ns := ns) h
  exact rng1 (by omega) (by omega)
end Rs
end
section
set_option maxRecDepth 100000
set_option maxHeartbeats 400000
/-! A shelf, the state that a law keeps beside it, the feed. -/
namespace Rs
open PySem L2
section
variable {a b c v : Val}
def stL (a b c : Val) : List (Key × Val) := [(.inr "places", a), (.inr "standing", b), (.inr "paid", c)]
@[simp] theorem stL_1 : dget (stL a b c) (.inr "places") = some a := rfl
@[simp] theorem stL_2 : dget (stL a b c) (.inr "standing") = some b := rfl
@[simp] theorem stL_3 : dget (stL a b c) (.inr "paid") = some c := rfl
@[simp] theorem stL_4 : dput (stL a b c) (.inr "standing") v = stL a v c := rfl
@[simp] theorem stL_5 : dput (stL a b c) (.inr "paid") v = stL a b v := rfl
@[simp] theorem stL_6 : (stL a b c).length = 3 := rfl
@[simp] theorem stL_0 : dmerge [] [(.inr "places", a), (.inr "standing", b), (.inr "paid", c)] = stL a b c := rfl
end
abbrev stC (p : Int) (st : List Str) (sp : Int) : Cell := .dct (stL (.int p) (.lst (st.map .str)) (.int sp)) false
structure At (h : List Cell) (f r s : Nat) (p : Int) (ts : AL) (st : List Str) (sp : Int) : Prop where
  feed : IsFeed h f
  sh : h[r]? = some (shelfC p ts (sortS st) sp)
  st : h[s]? = some (stC p st sp)
  fr : f ≠ r
  fs : f ≠ s
  rs : r ≠ s
section
variable {h : List Cell} {f r s : Nat} {p : Int} {ts : AL} {st : List Str} {sp : Int}
theorem At.fset (a : At h f r s p ts st sp) (d x : Int) : At (h.set f (fc d x)) f r s p ts st sp :=
  ⟨a.feed.set d x, by rw [List.getElem?_set_ne a.fr]; exact a.sh, by rw [List.getElem?_set_ne a.fs]; exact a.st, a.fr, a.fs, a.rs⟩
theorem At.fset' {h' : List Cell} (a : At h f r s p ts st sp) (hF : IsFeed h' f) (e : ∃ c, h' = h.set f c) : At h' f r s p ts st sp := by
  obtain ⟨c, rfl⟩ := e
  exact ⟨hF, by rw [List.getElem?_set_ne a.fr]; exact a.sh, by rw [List.getElem?_set_ne a.fs]; exact a.st, a.fr, a.fs, a.rs⟩
theorem At.app (a : At h f r s p ts st sp) (c : List Cell) : At (h ++ c) f r s p ts st sp :=
  have lt := fun {i c} (q : h[i]? = some c) => (List.getElem?_eq_some_iff.mp q).1
  ⟨app_feed a.feed c, by rw [List.getElem?_append_left (lt a.sh)]; exact a.sh, by rw [List.getElem?_append_left (lt a.st)]; exact a.st, a.fr, a.fs, a.rs⟩
theorem At.both (a : At h f r s p ts st sp) (st2 : List Str) (sp2 : Int) : At ((h.set r (shelfC p ts (sortS st2) sp2)).set s (stC p st2 sp2)) f r s p ts st2 sp2 :=
  have lt := fun {i c} (q : h[i]? = some c) => (List.getElem?_eq_some_iff.mp q).1
  ⟨by
    obtain ⟨d, x, e⟩ := a.feed
    exact ⟨d, x, by rw [List.getElem?_set_ne (Ne.symm a.fs), List.getElem?_set_ne (Ne.symm a.fr)]; exact e⟩,
   by rw [List.getElem?_set_ne (Ne.symm a.rs), List.getElem?_set_self (lt a.sh)], by rw [List.getElem?_set_self (by rw [List.length_set]; exact lt a.st)], a.fr, a.fs, a.rs⟩
end
/-- what stands is told well -/
structure Fine (p : Int) (ts : AL) (st : List Str) : Prop where
  sub : ∀ x ∈ st, x ∈ ts.map (·.1)
  nd : st.Nodup
  len : (st.length : Int) ≤ p
/-- unlike things of some are no more than these -/
theorem nd_len {α : Type} [DecidableEq α] : ∀ {xs ys : List α}, xs.Nodup → (∀ x ∈ xs, x ∈ ys) → xs.length ≤ ys.length
  | [], _, _, _ => Nat.zero_le _
  | x :: xs, ys, nd, h => by
    rw [List.nodup_cons] at nd
    have hx := h x (by simp)
    have := nd_len (ys := ys.erase x) nd.2 fun z hz => (List.mem_erase_of_ne (fun e => nd.1 (by rw [← e]; exact hz))).mpr (h z (by simp [hz]))
    rw [List.length_erase_of_mem hx] at this
    have := List.length_pos_of_mem hx
    simp only [List.length_cons]
    omega
theorem Fine.len20 {p : Int} {ts : AL} {st : List Str} (fi : Fine p ts st) (gt : GoodT ts) : st.length ≤ 20 := by
  have := nd_len fi.nd fi.sub
  rw [List.length_map] at this
  have := gt.len
  omega
theorem getD_str {α : Type} {l : List α} {f : α → Val} {i : Nat} {a : α} (h : l[i]? = some a) : (l.map f)[i]? = some (f a) := by rw [List.getElem?_map, h]; rfl
end Rs
end
section
set_option maxRecDepth 100000
set_option maxHeartbeats 400000
/-! Data whose comparison is Lean's. -/
namespace Rs
open PySem L2
structure EqD {α : Type} [DecidableEq α] (f : α → Val) (g : α → PyData) (n : Nat) : Prop where
  to : ∀ a, toD (f a) = some (g a) ∧ (g a).plain = true ∧ (g a).depth ≤ n
  eq : ∀ a b, PyData.eqv (g a) (g b) = decide (a = b)
class EqT {α : Type} [DecidableEq α] (f : α → Val) (n : outParam Nat) : Prop where
  ex : ∃ g, EqD f g n
instance : EqT Val.str 0 := ⟨PyData.str, fun a => ⟨rfl, rfl, Nat.le_refl _⟩, fun a b => by rw [eqv_strs]; exact decide_eq_decide.mpr eq_comm⟩
instance : EqT Val.int 0 := ⟨PyData.int, fun a => ⟨rfl, rfl, Nat.le_refl _⟩, fun a b => by simp only [PyData.eqv]; exact Bool.eq_iff_iff.mpr (by simp)⟩
instance : EqT Val.bl 0 := ⟨PyData.bool, fun a => ⟨rfl, rfl, Nat.le_refl _⟩, fun a b => by simp only [PyData.eqv]; exact Bool.eq_iff_iff.mpr (by simp)⟩
section
variable {α : Type} [DecidableEq α] {f : α → Val} {g : α → PyData} {n : Nat}
theorem EqD.tos (q : EqD f g n) : ∀ xs : List α, toDs (xs.map f) = some (xs.map g) ∧ PyData.plainAll (xs.map g) = true ∧ PyData.depthAll (xs.map g) ≤ n
  | [] => by simp [toDs, PyData.plainAll, PyData.depthAll]
  | x :: xs => by
    obtain ⟨a, b, c⟩ := q.to x
    obtain ⟨d, e, k⟩ := q.tos xs
    simp only [List.map_cons, toDs, a, d, PyData.plainAll, PyData.depthAll, b, e, Bool.and_self, true_and]
    omega
theorem EqD.eqs (q : EqD f g n) : ∀ xs ys : List α, PyData.eqvAll (xs.map g) (ys.map g) = decide (xs = ys)
  | [], [] => rfl
  | [], y :: ys => rfl
  | x :: xs, [] => rfl
  | x :: xs, y :: ys => by
    simp only [List.map_cons, PyData.eqvAll, q.eq, q.eqs xs ys]
    exact Bool.eq_iff_iff.mpr (by simp)
instance [h : EqT f n] : EqT (fun xs : List α => Val.lst (xs.map f)) (n + 1) := by
  obtain ⟨g, q⟩ := h.ex
  exact ⟨fun xs => .list (xs.map g), fun xs => by
    obtain ⟨a, b, c⟩ := q.tos xs
    simp only [toD, a, PyData.plain, PyData.depth, b, true_and]
    omega, fun xs ys => by simp only [PyData.eqv, q.eqs]⟩
instance [h : EqT f n] : EqT (fun xs : List α => Val.tup (xs.map f)) (n + 1) := by
  obtain ⟨g, q⟩ := h.ex
  exact ⟨fun xs => .tuple (xs.map g), fun xs => by
    obtain ⟨a, b, c⟩ := q.tos xs
    simp only [toD, a, PyData.plain, PyData.depth, b, true_and]
    omega, fun xs ys => by simp only [PyData.eqv, q.eqs]⟩
theorem veq_T (h : EqT f n) (a b : α) (hn : n ≤ 50 := by decide) : veq (f a) (f b) = some (decide (a = b)) := by
  obtain ⟨g, q⟩ := h.ex
  obtain ⟨a1, a2, a3⟩ := q.to a
  obtain ⟨b1, b2, b3⟩ := q.to b
  unfold veq
  simp only [a1, b1]
  rw [if_pos (by simp [okD, a2, b2]; omega), q.eq]
end
@[simp] theorem co_eqLS (xs ys : List Str) : cmpop .eq (.lst (xs.map .str)) (.lst (ys.map .str)) = some (decide (xs = ys)) := by
  have := veq_T (f := fun xs => Val.lst (xs.map .str)) inferInstance xs ys
  simp only [cmpop, veqX, this]
@[simp] theorem co_neLS (xs ys : List Str) : cmpop .ne (.lst (xs.map .str)) (.lst (ys.map .str)) = some (!decide (xs = ys)) := by
  have := veq_T (f := fun xs => Val.lst (xs.map .str)) inferInstance xs ys
  simp only [cmpop, veqX, this, Option.map_some]
@[simp] theorem co_neLS0 (xs : List Str) : cmpop .ne (.lst (xs.map .str)) (.lst []) = some (!decide (xs = [])) := co_neLS xs []
@[simp] theorem co_eqLS0 (xs : List Str) : cmpop .eq (.lst (xs.map .str)) (.lst []) = some (decide (xs = [])) := co_eqLS xs []
@[simp] theorem co_neTS0 (xs : List Str) : cmpop .ne (.tup (xs.map .str)) (.tup []) = some (!decide (xs = [])) := by
  have := veq_T (f := fun xs => Val.tup (xs.map .str)) inferInstance xs ([] : List Str)
  simp only [List.map_nil] at this
  simp only [cmpop, veqX, this, Option.map_some]
@[simp] theorem co_eqTS0 (xs : List Str) : cmpop .eq (.tup (xs.map .str)) (.tup []) = some (decide (xs = [])) := by
  have := veq_T (f := fun xs => Val.tup (xs.map .str)) inferInstance xs ([] : List Str)
  simp only [List.map_nil] at this
  simp only [cmpop, veqX, this]
@[simp] theorem co_neLI2 (a b c d : Int) : cmpop .ne (.lst [.int a, .int b]) (.lst [.int c, .int d]) = some (!(decide (a = c) && decide (b = d))) := by
  have := veq_T (f := fun xs => Val.lst (xs.map .int)) inferInstance [a, b] [c, d]
  simp only [List.map_cons, List.map_nil] at this
  simp only [cmpop, veqX, this, Option.map_some]
  simp
end Rs
end
section
set_option maxRecDepth 100000
set_option maxHeartbeats 400000
/-! comprehensions over the dict of a name -/
namespace Rs
open PySem L2
section
variable {T : Tab} {C : Call}
def LckK (T : Tab) (C : Call) (elt : IE) (p : Pat) (its : Bool) (i : Nat) (conds : List IE) (vs : List Nat) (Q : Rv → S → Prop) (sl : Slot) (s : S) : Prop :=
  Wp (match sl with
    | .val (.dct kvs) => (compL (patSet p) (evalTs T C conds) (fun s => (evalE T C elt s).val) vs putL (keysV its kvs) { s with e := wipeE s.e vs } []).bind fun acc s2 => .ok (.f (.lst acc false)) { s2 with e := restE s.e s2.e vs }
    | .own (.dct kvs false) => (compL (patSet p) (evalTs T C conds) (fun s => (evalE T C elt s).val) vs putL (keysV its kvs) { s with e := wipeE (s.e.set i (.own (.dct kvs true))) vs } []).bind fun acc s2 => match slotOf { s2 with e := restE s.e s2.e vs } i with
      | .own (.dct kvs2 true) => .ok (.f (.lst acc false)) { s2 with e := (restE s.e s2.e vs).set i (.own (.dct kvs2 false)) }
      | _ => .bad
    | _ => .bad) Q
@[simp] theorem wp_lck {elt : IE} {p : Pat} {its : Bool} {i : Nat} {conds : List IE} {vs : List Nat} {e : List Slot} {h : List Cell} {Q : Rv → S → Prop} : Wp (evalE T C (.lck elt p its i conds vs) ⟨e, h⟩) Q = LckK T C elt p its i conds vs Q (e.getD i .no) ⟨e, h⟩ := by
  rw [evalE_23]
  rfl
section
variable {α : Type} {elt : IE} {p : Pat} {its : Bool} {i : Nat} {conds : List IE} {vs : List Nat} {e : List Slot} {h : List Cell} {Q : Rv → S → Prop} {kvs : List (Key × Val)}
theorem lckV_map (l : List α) (f : α → Val) (c : α → Bool) (y : α → Val) (q2 : keysV its kvs = l.map f) (hs : l.length ≤ sizeLine)
    (hb : ∀ a ∈ l, ∃ e1, patSet p (f a) (wipeE e vs) = some e1 ∧ wipeE e1 vs = wipeE e vs ∧ (∀ K : Bool → S → Prop, K (c a) ⟨e1, h⟩ → Wp (evalTs T C conds ⟨e1, h⟩) K) ∧ (c a = true → ∀ K : Val → S → Prop, K (y a) ⟨e1, h⟩ → Wp (evalE T C elt ⟨e1, h⟩).vl K))
    (hq : Q (.f (.lst ((l.filter c).map y) false)) ⟨e, h⟩) (hr : restE e (wipeE e vs) vs = e := by rfl) : LckK T C elt p its i conds vs Q (.val (.dct kvs)) ⟨e, h⟩ := by
  have := comp_map (st := patSet p) (tst := evalTs T C conds) (elt := fun s => (evalE T C elt s).val) (vs := vs) (ew := wipeE e vs) (h := h) f c y l [] (fun a ha => by
    obtain ⟨e1, h1, h2, h3, h4⟩ := hb a ha
    exact ⟨e1, h1, h2, wp_eq (h3 _ ⟨rfl, rfl⟩), fun hc => wp_eq (h4 hc _ ⟨rfl, rfl⟩)⟩) (by simpa using hs)
  unfold LckK
  simp only [q2, this, R.bind, List.nil_append]
  refine wp_of rfl ?_
  rw [hr]
  exact hq
theorem lckO_map (l : List α) (f : α → Val) (c : α → Bool) (y : α → Val) (q2 : keysV its kvs = l.map f) (hs : l.length ≤ sizeLine)
    (hb : ∀ a ∈ l, ∃ e1, patSet p (f a) (wipeE (e.set i (.own (.dct kvs true))) vs) = some e1 ∧ wipeE e1 vs = wipeE (e.set i (.own (.dct kvs true))) vs ∧ (∀ K : Bool → S → Prop, K (c a) ⟨e1, h⟩ → Wp (evalTs T C conds ⟨e1, h⟩) K) ∧ (c a = true → ∀ K : Val → S → Prop, K (y a) ⟨e1, h⟩ → Wp (evalE T C elt ⟨e1, h⟩).vl K))
    (hq : Q (.f (.lst ((l.filter c).map y) false)) ⟨e, h⟩) (hr : restE e (wipeE (e.set i (.own (.dct kvs true))) vs) vs = e.set i (.own (.dct kvs true)) := by rfl) (hg : (e.set i (.own (.dct kvs true))).getD i .no = .own (.dct kvs true) := by rfl) (hx : (e.set i (.own (.dct kvs true))).set i (.own (.dct kvs false)) = e := by rfl) : LckK T C elt p its i conds vs Q (.own (.dct kvs false)) ⟨e, h⟩ := by
  have := comp_map (st := patSet p) (tst := evalTs T C conds) (elt := fun s => (evalE T C elt s).val) (vs := vs) (ew := wipeE (e.set i (.own (.dct kvs true))) vs) (h := h) f c y l [] (fun a ha => by
    obtain ⟨e1, h1, h2, h3, h4⟩ := hb a ha
    exact ⟨e1, h1, h2, wp_eq (h3 _ ⟨rfl, rfl⟩), fun hc => wp_eq (h4 hc _ ⟨rfl, rfl⟩)⟩) (by simpa using hs)
  unfold LckK
  simp only [q2, this, R.bind, List.nil_append]
  simp only [hr]
  unfold slotOf
  simp only [hg]
  refine wp_of rfl ?_
  rw [hx]
  exact hq
end
end
@[simp] theorem mt_clear (kvs : List (Key × Val)) : mtop .dclear (.dct kvs) [] = some (.v .non, some (.dct [] false)) := rfl
@[simp] theorem co_neB (a b : Bool) : cmpop .ne (.bl a) (.bl b) = some (!decide (a = b)) := by simp [cmpop, veqX, veq_bl]
@[simp] theorem kvs_0 : kvsOf [] = some [] := rfl
@[simp] theorem kvs_s (x : Str) (v : Val) (r : List Val) : kvsOf (.str x :: v :: r) = (kvsOf r).map fun t => (.inr x, v) :: t := by
  simp only [kvsOf, keyV]
  cases kvsOf r <;> rfl
@[simp] theorem dmerge_0 : dmerge [] [] = [] := rfl
@[simp] theorem dmerge_1 (k : Key) (v : Val) : dmerge [] [(k, v)] = [(k, v)] := rfl
@[simp] theorem bo_pow (i j : Int) : binop .pow (.int i) (.int j) = if 0 ≤ j ∧ j ≤ 1000000 ∧ i.natAbs < 2 ^ 64 then some (.v (.int (i ^ j.toNat))) else none := rfl
@[simp] theorem wp_twoB {b : Bool} {s : S} {K : Bool → S → Prop} : Wp (R.two b (R.ok true s) (R.ok false s)) K = K b s := by
  cases b <;> exact wp_ok
@[simp] theorem subV_d (kvs : List (Key × Val)) (k : Str) (v : Val) : subV (.dct kvs) (.str k) v = if kvs.length < sizeLine then some (.dct (dput kvs (.inr k) v) false) else none := rfl
@[simp] theorem subV_l (xs : List Val) (i : Int) (v : Val) : subV (.lst xs) (.int i) v = (ixN xs.length i).map fun j => .lst (xs.set j v) false := rfl
theorem wp_append {T : Tab} {C : Call} {b : List IS} {Q : Fl → S → Prop} : ∀ (a : List IS) (s : S), Wp (execSs T C (a ++ b) s) Q = Wp (execSs T C a s) (Sq T C b Q)
  | [], ⟨e, h⟩ => by rw [wp_s0]; rfl
  | st :: a, ⟨e, h⟩ => by
    rw [List.cons_append, wp_ss, wp_ss]
    refine pr_ext fun fl s => ?_
    cases fl with
    | nx => exact wp_append a s
    | rt v => rfl
    | bk => rfl
    | ct => rfl
/-- a body in two parts -/
theorem wp_app {T : Tab} {C : Call} {a b : List IS} {Q : Fl → S → Prop} {s : S} (h : ∀ K : Fl → S → Prop, (∀ s', Wp (execSs T C b s') Q → K .nx s') → (∀ v s', Q (.rt v) s' → K (.rt v) s') → (∀ s', Q .bk s' → K .bk s') → (∀ s', Q .ct s' → K .ct s') → Wp (execSs T C a s) K) : Wp (execSs T C (a ++ b) s) Q := by
  rw [wp_append]
  exact h _ (fun s' z => z) (fun v s' z => z) (fun s' z => z) fun s' z => z
def permF (vs : List Val) : Nat ⊕ Val → Val
  | .inl k => vs.getD k .non
  | .inr d => d
@[simp] theorem permF_l (vs : List Val) (k : Nat) : permF vs (.inl k) = vs.getD k .non := rfl
@[simp] theorem permF_r (vs : List Val) (v : Val) : permF vs (.inr v) = v := rfl
@[simp] theorem permV_c (vs : List Val) (x : Nat ⊕ Val) (pm : List (Nat ⊕ Val)) : permV vs (x :: pm) = (x :: pm).map (permF vs) := by
  unfold permV
  exact List.map_congr_left fun y _ => by cases y <;> rfl
theorem keys_al (ts : AL) : keysV false (alV ts) = (ts.map (·.1)).map Val.str := by
  unfold keysV alV
  simp [vKey]
theorem deqK_self {ts : AL} : ∀ (l : AL), (∀ q ∈ l, AL.get ts q.1 = some q.2) → deqK (alV ts) (alV l) = some true
  | [], _ => rfl
  | (x, k) :: l, h => by
    have h1 := h (x, k) (by simp)
    have ih := deqK_self l fun q hq => h q (by simp [hq])
    simp only at h1
    show deqK (alV ts) ((.inr x, .int k) :: alV l) = _
    simp only [deqK, dget_al, h1, Option.map_some, veq_int, ih]
    simp
@[simp] theorem co_neD {ts : AL} (nd : (ts.map (·.1)).Nodup) : cmpop .ne (.dct (alV ts)) (.dct (alV ts)) = some false := by
  have := deqK_self (ts := ts) ts (fun q hq => get_mem nd hq)
  simp [cmpop, veqX, this]
end Rs
end
section
set_option maxRecDepth 100000
set_option maxHeartbeats 400000
namespace Rs
open PySem L2
/-- what is handed out before a call: some of what stands, so that there is room -/
theorem away_wp {n : Nat} {h : List Cell} {f : Nat} {st : List Str} {p : Int} {x : Str} {Q : Val → S → Prop} (hF : IsFeed h f) (hp : 1 ≤ p) (hl : st.length ≤ 100)
    (q : ∀ gone h', IsFeed h' f → (∃ c, h' = h.set f c) → (x ∈ st → gone = []) → (x ∉ st → ∃ left, (left ++ gone).Perm st ∧ (left.length : Int) < p) → Q (.tup (gone.map .str)) ⟨[], h'⟩) : Wp (callI tabL fds (n + 2) 59 [.ref f, .lst (st.map .str), .int p, .str x] h) Q := by
  have hb := size_big
  have hself : ∃ c, h = h.set f c := by
    obtain ⟨d, x, e⟩ := hF
    exact ⟨_, (set_self e).symm⟩
  refine wp_def (d := fd__law_away_k04) HasD.e rfl rfl ?_
  show Wp (execSs tabL (callI tabL fds (n + 1)) is__law_away_k04 ⟨[.val (.ref f), .val (.lst (st.map .str)), .val (.int p), .val (.str x), .no, .no], h⟩) _
  unfold is__law_away_k04
  simp
  by_cases hx : x ∈ st
  · simp [hx]
    exact q [] h hF hself (fun _ => rfl) fun z => absurd hx z
  · simp [hx]
    refine whl2_wp [4, 5] (fun m as g => IsFeed g f ∧ (∃ c, g = h.set f c) ∧ ∃ left out : List Str, as = [.own (.lst (left.map .str) false), .own (.lst (out.map .str) false)] ∧ m = left.length ∧ (left ++ out).Perm st) [_, _] st.length rfl ⟨hF, hself, st, [], rfl, rfl, by simp⟩ (by show _ < 200; omega) fun m as g ⟨gF, ⟨c, hg⟩, left, out, has, hm, hpm⟩ K hk0 hk1 => ?_
    subst has hm
    have hlen := hpm.length_eq
    rw [List.length_append] at hlen
    have out1 : ∀ g', IsFeed g' f → (∃ c, g' = h.set f c) → (left.length : Int) < p → Wp (execSs tabL (callI tabL fds (n + 1)) [.ret (.bi .tuple [.var 5])] ⟨Up [.val (.ref f), .val (.lst (st.map .str)), .val (.int p), .val (.str x), .own (.lst (st.map .str) false), .own (.lst [] false)] [4, 5] [.own (.lst (left.map .str) false), .own (.lst (out.map .str) false)], g'⟩) (RetK Q) := fun g' gF' hg' hlt => by
      simp
      exact q out g' gF' hg' (fun z => absurd z hx) fun _ => ⟨left, hpm, hlt⟩
    have body : ∀ g', IsFeed g' f → (∃ c, g' = h.set f c) → left ≠ [] → ∀ K2 : Fl → S → Prop, (∀ m' as' g', m' < left.length → (IsFeed g' f ∧ (∃ c, g' = h.set f c) ∧ ∃ left out : List Str, as' = [.own (.lst (left.map .str) false), .own (.lst (out.map .str) false)] ∧ m' = left.length ∧ (left ++ out).Perm st) → K2 .nx ⟨Up [.val (.ref f), .val (.lst (st.map .str)), .val (.int p), .val (.str x), .own (.lst (st.map .str) false), .own (.lst [] false)] [4, 5] as', g'⟩) → Wp (execSs tabL (callI tabL fds (n + 1)) [(.ex (.mt .append (.var 5) [(.mt .pop (.var 4) [(.fn 1 [(.var 0), (.bi .len [(.var 4)])] [])])]))] ⟨Up [.val (.ref f), .val (.lst (st.map .str)), .val (.int p), .val (.str x), .own (.lst (st.map .str) false), .own (.lst [] false)] [4, 5] [.own (.lst (left.map .str) false), .own (.lst (out.map .str) false)], g'⟩) K2 := fun g' gF' ⟨c, hg'⟩ hne K2 hk => by
      have hpos : 0 < left.length := List.length_pos_iff.mpr hne
      simp
      refine take_wp gF' (by omega) (by omega) fun y d x1 hy0 hy1 => ?_
      obtain ⟨i, rfl⟩ : ∃ i : Nat, y = i := ⟨y.toNat, by omega⟩
      have hi : i < left.length := by omega
      have hgi : left[i]? = some left[i] := List.getElem?_eq_getElem hi
      have hp1 := mt_popI (xs := left.map .str) (v := .str left[i]) (i := i) (getD_str hgi) (by simp; omega)
      have he := eraseIdx_perm hgi
      simp [hp1]
      refine ⟨by omega, ?_⟩
      subst hg'
      refine hk (left.eraseIdx i).length [_, _] _ ?_ ⟨gF'.set d x1, ⟨_, by rw [List.set_set]⟩, left.eraseIdx i, out ++ [left[i]], by rw [map_eraseIdx]; simp, rfl, ?_⟩
      · have := he.length_eq; simp only [List.length_cons] at this; omega
      · refine List.Perm.trans ?_ hpm
        refine List.Perm.trans ?_ (he.append_right out)
        rw [List.cons_append, ← List.append_assoc]
        exact List.perm_append_singleton _ _
    by_cases hlt : (left.length : Int) < p
    · simp [hlt]
      by_cases hne : left = []
      · subst hne
        simp
        exact hk0 _ (out1 _ gF ⟨c, hg⟩ hlt)
      · simp [hne]
        refine take_wp gF (by omega) (by omega) fun y d x1 hy0 hy1 => ?_
        have gF1 := gF.set d x1
        have hg1 : ∃ c, g.set f (fc d x1) = h.set f c := ⟨_, by rw [hg, List.set_set]⟩
        by_cases hy : y = 0
        · simp [hy]
          exact hk1 _ fun K2 hK _ => body _ gF1 hg1 hne K2 hK
        · simp [hy]
          exact hk0 _ (out1 _ gF1 hg1 hlt)
    · have hne : left ≠ [] := fun z => by rw [z] at hlt; simp at hlt; omega
      simp [hlt]
      exact hk1 _ fun K2 hK _ => body _ gF ⟨c, hg⟩ hne K2 hK
theorem prices04 {n : Nat} {h : List Cell} {r : Nat} {p : Int} {ts : AL} {pl : List Str} {sp : Int} (hr : h[r]? = some (shelfC p ts pl sp)) : callI tabL fds (n + 1) 252 [.ref r] h = .ok (.ref h.length) ⟨[], h ++ [.dct (alV ts) false]⟩ := by
  refine wp_eq (wp_def (d := fd_Shelf_prices_k04) HasD.e rfl rfl ?_)
  show Wp (execSs tabL (callI tabL fds n) is_Shelf_prices_k04 ⟨[.val (.ref r)], h⟩) _
  unfold is_Shelf_prices_k04
  simp [hr]
theorem is_at_wp {n : Nat} {h : List Cell} {f r s : Nat} {p : Int} {ts : AL} {st : List Str} {sp : Int} {Q : Val → S → Prop} (a : At h f r s p ts st sp) (fi : Fine p ts st) (gt : GoodT ts) (h0 : 0 ≤ sp) (h1 : sp < 2 ^ 60)
    (q : ∀ h', At h' f r s p ts st sp → Q (.bl true) ⟨[], h'⟩) : Wp (callI tabL fds (n + 4) 253 [.ref f, .ref r, .dct (alV ts), .ref s] h) Q := by
  have hb := size_big
  refine wp_def (d := fd__law_is_at_k04) HasD.e rfl rfl ?_
  show Wp (execSs tabL (callI tabL fds (n + 3)) is__law_is_at_k04 ⟨[.val (.ref f), .val (.ref r), .val (.dct (alV ts)), .val (.ref s), .no, .no, .no, .no], h⟩) _
  unfold is__law_is_at_k04
  have hrp := rp_ok (bdV_int (n := 2000) (i := sp) (by omega) (by omega))
  have hst := a.st
  have hsh := a.sh
  have hln : (sortS st).length = st.length := sortS_len
  have hl20 : st.length ≤ 20 := by
    have := fi.len20 gt
    exact this
  have hso := bq_sortS (xs := st) (by omega)
  have hpr := fun n => prices04 (n := n) hsh
  have hnm := fun n => shelf_names (T := tabL) (fs := fds) (n := n) hsh
  have hle := fun n => shelf_len (T := tabL) (fs := fds) (n := n) hsh
  have hpd := fun n => shelf_paid (T := tabL) (fs := fds) (n := n) hsh
  have hcn := co_neD gt.nd
  have a' := a.app [.dct [] false]
  have hst' := a'.st
  have hsh' := a'.sh
  simp [hst, hsh, hrp, hln, hso, hpr, hnm, hle, hpd, hcn, set_app]
  generalize h ++ [Cell.dct [] false] = g at *
  have hin := fun n (x : Str) => shelf_in (T := tabL) (fs := fds) (n := n) (v := .str x) hsh' (by simp)
  have hdi : ∀ x : Str, decide (x ∈ sortS st) = decide (x ∈ st) := fun x => decide_eq_decide.mpr sortS_mem
  refine ⟨by omega, ?_⟩
  refine lckV_map (ts.map (·.1)) Val.str (fun _ => false) Val.str (keys_al ts) (by rw [List.length_map]; have := gt.len; omega) (fun x hx => ?_) ?_
  · refine ⟨_, rfl, rfl, fun K hK => ?_, fun z => by cases z⟩
    simp [hin, hst', hsh', oneOf, hdi]
    exact hK
  · simp
    refine ⟨by omega, ?_⟩
    refine pick_wp a'.feed (by simp) (by simp) fun y d x hy => ?_
    have a2 := a'.fset d x
    have hno : ∀ z : Str, z ∉ baseN → z ∉ sortS st := fun z hz hm => hz (by
      obtain ⟨p, hp, rfl⟩ := List.mem_map.mp (fi.sub z (sortS_mem.mp hm))
      exact gt.sub p hp)
    have hk : kindV y < 7 ∧ oneOf (sortS st) y = false := by
      have j1 := hno "" (by decide +kernel)
      have j2 := hno "none" (by decide +kernel)
      have j3 := hno "Jug" (by decide +kernel)
      simp only [List.mem_cons, List.not_mem_nil, or_false] at hy
      rcases hy with rfl | rfl | rfl | rfl | rfl | rfl | rfl | rfl | rfl | rfl | rfl | rfl | rfl | rfl | rfl | rfl <;> simp [oneOf, j1, j2, j3]
    have hin2 := fun n => shelf_in (T := tabL) (fs := fds) (n := n) (v := y) a2.sh hk.1
    have hsh2 := a2.sh
    simp [hsh2, hin2, hk.2]
    exact q _ a2
end Rs
end
section
set_option maxRecDepth 100000
set_option maxHeartbeats 400000
namespace Rs
open PySem L2
theorem filter_sub {st : List Str} {f : Str → Bool} : ∀ x ∈ st.filter f, x ∈ st := fun x hx => (List.mem_filter.mp hx).1
theorem lcS {T : Tab} {C : Call} {elt : IE} {p : Pat} {conds : List IE} {vs : List Nat} {e : List Slot} {h : List Cell} {o : Rv} {Q : Rv → S → Prop} (l : List Str) (c : Str → Bool) (ho : deref ⟨e, h⟩ o = .lst (l.map .str)) (hs : l.length ≤ sizeLine)
    (hb : ∀ a ∈ l, ∃ e1, patSet p (.str a) (wipeE e vs) = some e1 ∧ wipeE e1 vs = wipeE e vs ∧ (∀ K : Bool → S → Prop, K (c a) ⟨e1, h⟩ → Wp (evalTs T C conds ⟨e1, h⟩) K) ∧ (c a = true → ∀ K : Val → S → Prop, K (.str a) ⟨e1, h⟩ → Wp (evalE T C elt ⟨e1, h⟩).vl K))
    (hq : Q (.f (.lst ((l.filter c).map .str) false)) ⟨e, h⟩) (hr : restE e (wipeE e vs) vs = e := by rfl) (hl : lockAll ⟨e, h⟩ [o] = ⟨e, h⟩ := by rfl) (hu : unlockAll ⟨e, h⟩ ⟨e, h⟩ [o] = ⟨e, h⟩ := by rfl) : LcK T C elt p .it conds vs Q [o] ⟨e, h⟩ :=
  lcK_map l .str c .str (by simp only [List.map_cons, List.map_nil, ho]; rfl) hs hb hq hr hl hu
theorem stepped_wp {n : Nat} {h : List Cell} {f r s : Nat} {p : Int} {ts : AL} {st : List Str} {sp : Int} {b : Bool} {x : Str} {Q : Val → S → Prop} (a : At h f r s p ts st sp) (fi : Fine p ts st) (gt : GoodT ts) (hp : 1 ≤ p) (hx : x ∈ ts.map (·.1))
    (q : ∀ h' st' sp', At h' f r s p ts st' sp' → Fine p ts st' → sp ≤ sp' → sp' ≤ sp + 1000000 → Q (.bl true) ⟨[], h'⟩) : Wp (callI tabL fds (n + 4) 61 [.ref f, .ref r, .dct (alV ts), .ref s, evV (b, x)] h) Q := by
  have hb := size_big
  refine wp_def (d := fd__law_stepped) HasD.e rfl rfl ?_
  show Wp (execSs tabL (callI tabL fds (n + 3)) is__law_stepped ⟨[.val (.ref f), .val (.ref r), .val (.dct (alV ts)), .val (.ref s), .val (evV (b, x)), .no, .no, .no, .no, .no, .no], h⟩) _
  have hst := a.st
  have hsh := a.sh
  have hl20 := fi.len20 gt
  have hln : (sortS st).length = st.length := sortS_len
  have lt := fun {i c} (q : h[i]? = some c) => (List.getElem?_eq_some_iff.mp q).1
  have hcv : ¬ (("call" : Str) = "void") := by decide +kernel
  have hss : ∀ c, (h.set s c)[s]? = some c := fun c => List.getElem?_set_self (lt hst)
  have hsr : ∀ c, (h.set s c)[r]? = some (shelfC p ts (sortS st) sp) := fun c => by rw [List.getElem?_set_ne (Ne.symm a.rs)]; exact hsh
  rw [show is__law_stepped = is__law_stepped.take 5 ++ is__law_stepped.drop 5 from (List.take_append_drop _ _).symm]
  refine wp_app fun K hK1 hK2 _ _ => ?_
  unfold is__law_stepped
  cases b with
  | true =>
    simp [evV, hst]
    refine lcS st (fun y => !decide (y = x)) rfl (by omega) (fun y hy => ?_) ?_
    · refine ⟨_, rfl, rfl, fun K hK => ?_, fun _ K hK => by simpa using hK⟩
      simpa using hK
    · have hv := fun n c => shelf_void (T := tabL) (fs := fds) (n := n) (h := h.set s c) (hsr c) hx (by omega)
      have hf : (sortS st).filter (fun y => !decide (y = x)) = sortS (st.filter fun y => !decide (y = x)) := sortS_filter _ _
      simp only [decide_not] at hv
      have h3 : 3 < sizeLine := by omega
      simp [h3, hst, hsr, hv, hf]
      rw [List.set_comm _ _ (Ne.symm a.rs)]
      refine hK2 _ _ ?_
      refine q _ (st.filter fun y => !decide (y = x)) sp (a.both _ sp) ⟨fun z hz => fi.sub z (filter_sub z hz), fi.nd.filter _, ?_⟩ (by omega) (by omega)
      have := List.length_filter_le (fun y => !decide (y = x)) st
      have := fi.len
      omega
  | false =>
    have hlen := fi.len
    obtain ⟨c, hc⟩ : ∃ c, AL.get ts x = some c := by
      cases q : AL.get ts x with
      | none => exact absurd hx (get_none.mp q)
      | some c => exact ⟨c, rfl⟩
    have hc1 := gt.val _ (get_some hc)
    simp only at hc1
    simp [evV, hst, hcv]
    refine away_wp a.feed hp (by omega) fun gone h' hF' hh' hg1 hg2 => ?_
    have a' := a.fset' hF' hh'
    have ok : OutOk p (sortS st) gone x := by
      constructor
      · intro y hy
        rw [sortS_mem]
        by_cases hxs : x ∈ st
        · rw [hg1 hxs] at hy; simp at hy
        · obtain ⟨left, pm, _⟩ := hg2 hxs
          exact pm.mem_iff.mp (by simp [hy])
      · by_cases hxs : x ∈ st
        · rw [hg1 hxs]; exact List.nodup_nil
        · obtain ⟨left, pm, _⟩ := hg2 hxs
          have := pm.nodup_iff.mpr fi.nd
          exact (List.nodup_append.mp this).2.1
      · by_cases hxs : x ∈ st
        · rw [hg1 hxs]; simp
        · obtain ⟨left, pm, _⟩ := hg2 hxs
          have := pm.length_eq
          rw [List.length_append] at this
          omega
      · intro hxs
        exact hg1 (sortS_mem.mp hxs)
      · intro hxs
        obtain ⟨left, pm, hl⟩ := hg2 fun z => hxs (sortS_mem.mpr z)
        have := pm.length_eq
        rw [List.length_append] at this
        omega
    have hst' := a'.st
    have hsh' := a'.sh
    have hE : ∀ xs : List Str, decide (x ∈ sortS xs) = decide (x ∈ xs) := fun xs => decide_eq_decide.mpr sortS_mem
    have sc : ∀ h2, At h2 f r s p ts st sp → ∀ n, callI tabL fds (n + 3) 57 [.ref r, .str x, .tup (gone.map .str)] h2 = .ok (.int (callPr ts (sortS st) x)) ⟨[], h2.set r (shelfC p ts (callPl (sortS st) gone x) (sp + callPr ts (sortS st) x))⟩ := fun h2 a2 n => shelf_call a2.sh hx ok (by omega)
    have fin : ∀ h2, At h2 f r s p ts st sp → Wp (execSs tabL (callI tabL fds (n + 3)) (is__law_stepped.drop 5) ⟨[.val (.ref f), .val (.ref r), .val (.dct (alV ts)), .val (.ref s), .val (.tup [.str "call", .str x]), .val (.tup (gone.map .str)), .val (.int (callPr ts (sortS st) x)), .val (.str "call"), .val (.str x), .val (.int (callPr ts (sortS st) x)), .no], h2.set r (shelfC p ts (callPl (sortS st) gone x) (sp + callPr ts (sortS st) x))⟩) (RetK Q) := by
      intro h2 a2
      have hs2 : ∀ c, (h2.set r c)[s]? = some (stC p st sp) := fun c => by rw [List.getElem?_set_ne a.rs]; exact a2.st
      have hl2 : s < h2.length := (List.getElem?_eq_some_iff.mp a2.st).1
      have hs3 : ∀ c c', ((h2.set r c).set s c')[s]? = some c' := fun c c' => List.getElem?_set_self (by rw [List.length_set]; exact hl2)
      by_cases hxs : x ∈ st
      · have e1 : callPr ts (sortS st) x = 0 := if_pos (sortS_mem.mpr hxs)
        have e2 : callPl (sortS st) gone x = sortS st := if_pos (sortS_mem.mpr hxs)
        rw [e1, e2]
        have hrp := rp_ok (bdV_int (n := 2000) (i := 0) (by omega) (by omega))
        have h3 : 3 < sizeLine := by omega
        unfold is__law_stepped
        simp [hs2, hrp, h3]
        have := a2.both st sp
        exact q _ st sp this fi (by omega) (by omega)
      · have e1 : callPr ts (sortS st) x = c := by rw [callPr, if_neg fun z => hxs (sortS_mem.mp z), hc]; rfl
        have e2 : callPl (sortS st) gone x = sortS (st.filter (fun y => decide (y ∉ gone)) ++ [x]) := by
          rw [callPl, if_neg fun z => hxs (sortS_mem.mp z), sortS_filter, sortS_app]
        rw [e1, e2]
        have hrp := rp_ok (bdV_int (n := 2000) (i := c) (by omega) (by omega))
        have h3 : 3 < sizeLine := by omega
        have hc0 : 0 < c := by omega
        unfold is__law_stepped
        simp [hs2, hc0]
        refine lcS st (fun y => !decide (y ∈ gone)) rfl (by omega) (fun y hy => ?_) ?_
        · refine ⟨_, rfl, rfl, fun K hK => ?_, fun _ K hK => by simpa using hK⟩
          simpa using hK
        · have hfl := List.length_filter_le (fun y => !decide (y ∈ gone)) st
          have hle : (st.filter fun y => !decide (y ∈ gone)).length + 1 ≤ sizeLine := by omega
          have hm : ((st.filter fun y => !decide (y ∈ gone)).map Val.str) ++ [.str x] = (st.filter (fun y => !decide (y ∈ gone)) ++ [x]).map Val.str := by simp
          simp [hle, hs2, hs3, h3, hrp]
          have := a2.both (st.filter (fun y => !decide (y ∈ gone)) ++ [x]) (sp + c)
          rw [hm]
          refine q _ _ _ this ⟨fun z hz => ?_, ?_, ?_⟩ (by omega) (by omega)
          · rcases List.mem_append.mp hz with hz | hz
            · exact fi.sub z (filter_sub z hz)
            · rw [List.mem_singleton.mp hz]; exact hx
          · rw [List.nodup_append]
            exact ⟨fi.nd.filter _, by simp, fun y hy z hz => by
              rw [List.mem_singleton.mp hz]
              intro e
              exact hxs (e ▸ filter_sub y hy)⟩
          · rw [List.length_append]
            obtain ⟨left, pm, hl⟩ := hg2 hxs
            have h1 := (pm.filter (fun y => !decide (y ∈ gone))).length_eq
            have h2 : gone.filter (fun y => !decide (y ∈ gone)) = [] := by rw [List.filter_eq_nil_iff]; intro y hy; simp [hy]
            rw [List.filter_append, List.length_append, h2] at h1
            have h4 := List.length_filter_le (fun y => !decide (y ∈ gone)) left
            simp only [List.length_nil, List.length_singleton] at h1 ⊢
            omega
    by_cases hxs : x ∈ st
    · have hg := hg1 hxs
      subst hg
      have e1 : callPr ts (sortS st) x = 0 := if_pos (sortS_mem.mpr hxs)
      have hT := co_eqTS0 []
      simp only [List.map_nil] at sc fin hT
      rw [e1] at sc fin
      simp only [Int.add_zero] at sc fin
      simp [hst', hxs, hT]
      refine take_wp hF' (by omega) (by omega) fun y d x1 hy0 hy1 => ?_
      have a2 := a'.fset d x1
      have sc2 := sc _ a2
      have hsh2 := a2.sh
      by_cases hy : y = 0
      · simp [hy, hsh2, sc2]
        exact hK1 _ (fin _ a2)
      · simp [hy, hsh2, sc2]
        exact hK1 _ (fin _ a2)
    · have e1 : callPr ts (sortS st) x = c := by rw [callPr, if_neg fun z => hxs (sortS_mem.mp z), hc]; rfl
      rw [e1] at sc fin
      simp [hst', hxs, dget_al, hc]
      by_cases hge : gone = []
      · subst hge
        simp only [List.map_nil] at sc fin
        simp
        refine take_wp hF' (by omega) (by omega) fun y d x1 hy0 hy1 => ?_
        have a2 := a'.fset d x1
        have sc2 := sc _ a2
        have hsh2 := a2.sh
        by_cases hy : y = 0
        · simp [hy, hsh2, sc2]
          exact hK1 _ (fin _ a2)
        · simp [hy, hsh2, sc2]
          exact hK1 _ (fin _ a2)
      · have sc2 := sc _ a'
        simp [hge, hsh', sc2]
        exact hK1 _ (fin _ a')
end Rs
end
section
set_option maxRecDepth 100000
set_option maxHeartbeats 400000
namespace Rs
open PySem L2
theorem At.other {h : List Cell} {f r s : Nat} {p : Int} {ts : AL} {st : List Str} {sp : Int} (a : At h f r s p ts st sp) (i : Nat) (c : Cell) (h1 : i ≠ f) (h2 : i ≠ r) (h3 : i ≠ s) : At (h.set i c) f r s p ts st sp :=
  ⟨by
    obtain ⟨d, x, e⟩ := a.feed
    exact ⟨d, x, by rw [List.getElem?_set_ne h1]; exact e⟩, by rw [List.getElem?_set_ne h2]; exact a.sh, by rw [List.getElem?_set_ne h3]; exact a.st, a.fr, a.fs, a.rs⟩
theorem plain04 (ns : List Int) (hns : ns.length ≤ 63) : ∃ s2, callI tabL fds 12 254 [.scr ns] [] = .ok (.bl true) s2 := by
  suffices Wp (callI tabL fds 12 254 [.scr ns] []) fun v s => v = .bl true by
    obtain ⟨v, s, e, rfl⟩ := this
    exact ⟨s, e⟩
  have hb := size_big
  refine wp_def (d := fd_law_k04) HasD.e rfl rfl ?_
  show Wp (execSs tabL (callI tabL fds 11) is_law_k04 ⟨[.val (.scr ns), .no, .no, .no, .no, .no, .no, .no, .no, .no], []⟩) _
  unfold is_law_k04
  simp
  refine forK_rng [1, 2, 3, 4, 5, 6, 7, 8, 9] (fun i as g => ∃ a1 a2 a3 a4 a5 a6 a7 a8 a9, as = [a1, a2, a3, a4, a5, a6, a7, a8, a9]) [_, _, _, _, _, _, _, _, _] 0 (cellsN 2 ns).toNat (cells_rng (by omega)) rfl ⟨_, _, _, _, _, _, _, _, _, rfl⟩ (fun i as g hi ⟨a1, a2, a3, a4, a5, a6, a7, a8, a9, has⟩ K hn hr _ _ => ?_) fun as g ⟨a1, a2, a3, a4, a5, a6, a7, a8, a9, has⟩ => ?_
  · subst has
    refine ⟨_, rfl, ?_⟩
    refine wp_app (a := [_, _, _, _, _]) (b := [_, _, _]) fun K1 hK1 hK2 _ _ => ?_
    simp
    refine feed_wp hns fun d x => ?_
    simp
    refine take_wp (isFeed_app _ _ _) (by omega) (by omega) fun y d x hy0 hy1 => ?_
    simp [set_app]
    refine things_wp (isFeed_app _ _ _) (by omega) fun ts d x gt hts => ?_
    simp [set_app]
    refine take_wp (isFeed_app _ _ _) (by omega) (by omega) fun p0 d x hp0 hp1 => ?_
    simp [set_app]
    have sn := fun n => shelf_new (T := tabL) (fs := fds) (n := n) (h := g ++ [fc d x, .dct (alV ts) false]) (p := 1 + p0) (ts := ts) (x := .ref (g.length + 1)) (fun e g' => by simp [deref])
    simp at sn
    simp [sn]
    have a0 : At (g ++ [fc d x, .dct (alV ts) false, shelfC (1 + p0) ts [] 0, Cell.dct (stL (.int (1 + p0)) (.lst []) (.int 0)) false]) g.length (g.length + 2) (g.length + 3) (1 + p0) ts [] 0 := ⟨⟨d, x, by simp⟩, by simp [sortS], by simp, by omega, by omega, by omega⟩
    have hd0 : (g ++ [fc d x, .dct (alV ts) false, shelfC (1 + p0) ts [] 0, Cell.dct (stL (.int (1 + p0)) (.lst []) (.int 0)) false])[g.length + 1]? = some (.dct (alV ts) false) := by simp
    have fin : ∀ h, At h g.length (g.length + 2) (g.length + 3) (1 + p0) ts [] 0 → K1 .nx ⟨[.val (.scr ns), .val (.int i), .val (.ref g.length), .val (.ref (g.length + 1)), a4, a5, .val (.dct (alV ts)), .val (.int (1 + p0)), .val (.ref (g.length + 2)), .val (.ref (g.length + 3))], h⟩ := fun h a => by
      refine hK1 _ ?_
      simp
      refine pickT_wp Val.int [5, 20, 60, 120] a.feed rfl (by simp) (by simp) fun m d x hm => ?_
      have a := a.fset d x
      have hm : 0 ≤ m ∧ m ≤ 120 := by simp at hm; omega
      simp
      refine row_wp a.feed gt (by omega) (by omega) fun es d x hl hk => ?_
      have a := a.fset d x
      simp
      rw [feed_set] at a
      generalize h.set g.length (fc d x) = h2 at *
      refine is_at_wp a ⟨by simp, List.nodup_nil, by simp; omega⟩ gt (by omega) (by omega) fun h' a => ?_
      simp
      refine forK_map [5] (fun i as h' => ∃ b5, as = [b5] ∧ ∃ st sp, At h' g.length (g.length + 2) (g.length + 3) (1 + p0) ts st sp ∧ Fine (1 + p0) ts st ∧ 0 ≤ sp ∧ sp ≤ 1000000 * i) [_] es evV (.inl rfl) rfl ⟨_, rfl, [], 0, a, ⟨by simp, List.nodup_nil, by simp; omega⟩, by omega, by omega⟩ (fun j e as h' he ⟨b5, has, st, sp, a, fi, s0, s1⟩ K hn2 hr2 _ _ => ?_) fun as h' ⟨b5, has, st, sp, a, fi, s0, s1⟩ => ?_
      · subst has
        have hj : j < es.length := (List.getElem?_eq_some_iff.mp he).1
        have hkn := hk e (List.mem_of_getElem? he)
        refine ⟨_, rfl, ?_⟩
        simp
        refine stepped_wp (b := e.1) (x := e.2) a fi gt (by omega) hkn fun h' st' sp' a fi h0 h1 => ?_
        simp
        refine is_at_wp a fi gt (by omega) (by omega) fun h' a => ?_
        simp
        exact hn2 [_] _ ⟨_, rfl, st', sp', a, fi, by omega, by omega⟩
      · subst has
        simp
        exact hn [_, _, _, _, _, _, _, _, _] _ ⟨_, _, _, _, _, _, _, _, _, rfl⟩
    generalize (g ++ [fc d x, .dct (alV ts) false, shelfC (1 + p0) ts [] 0, Cell.dct (stL (.int (1 + p0)) (.lst []) (.int 0)) false]) = h at *
    refine take_wp a0.feed (by omega) (by omega) fun y d x hy0 hy1 => ?_
    have a1 := a0.fset d x
    have hd1 : (h.set g.length (fc d x))[g.length + 1]? = some (.dct (alV ts) false) := by rw [List.getElem?_set_ne (by omega)]; exact hd0
    generalize h.set g.length (fc d x) = h1 at *
    have hl1 := (List.getElem?_eq_some_iff.mp hd1).1
    have hd2 : ∀ c, (h1.set (g.length + 1) c)[g.length + 1]? = some c := fun c => List.getElem?_set_self hl1
    by_cases hy : y = 0
    · simp [hy, hd1, hd2]
      refine ⟨by omega, ?_⟩
      exact fin _ (a1.other _ _ (by omega) (by omega) (by omega))
    · simp [hy]
      exact fin _ a1
  · subst has
    simp
end Rs
open PySem PySem.W PySem.Calls PyProof.Rows
theorem PySem.Challenge.cw_rentshelf_k04_shelves_holds : PySem.Challenge.rw_rentshelf_k04_shelves.Holds :=
  law_of Rs.plain04
end
