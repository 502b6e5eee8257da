import PyProof.Rows.All
import HandS.ForMost
import KE.SortData
import KE.DataMinMax
import KE.DataEq
import KE.DataCmp
import PyProof.StrBlockL
import HandS.Text
import HandS.Lambda
import HandS.ExcInit
import HandS.ExcField
import HandS.TupAny
import HandS.TupMul
import HandS.NoneIn
import HandS.Style
import HandS.TupLe
import HandS.More
import HandS.Conv
import HandS.Small
import KE.KEqNest
import PyProof.NeKinds
import PyProof.CallFns
import PyProof.ReprRoads
import HandS.Codes
import HandS.Defaults
import HandS.Property
import HandS.Walk
import HandS.DictComp
import HandS.Zip
import HandS.Finally
import HandS.Ends
import HandS.Head2
import HandS.HeadEnd
import HandS.HeadHook1
import HandS.HeadHook2
import KE.KStateDown
import HandS.IsInst
import HandS.TupLen
import HandS.ListItems
import HandS.Strs
import HandS.TupSets
import HandS.DictTup
import PyProof.Transfer
import KE.KDictZip
import PyProof.ListNew
import HandS.WordsExc
import HandS.GenList
import KE.SortKeyHeap
import HandS.EndTab
import PyProof.WalkInts
import PyProof.StrOps
import PyProof.DictUpdate
import HandS.ExcValue
import HandS.ExcIs
import PySem.Challenge.RW_rentshelf_k03_errors_by_hand
set_option Elab.async false
set_option linter.all false
section
set_option maxRecDepth 100000
set_option maxHeartbeats 4000000
/-! A small interpreter of plain values for the program's texts. -/
namespace Rs
open PySem L2

/-- a value: data, or a cell of the store -/
inductive Val where
  | non | bl (b : Bool) | int (i : Int) | str (x : Str)
  | lst (xs : List Val) | tup (xs : List Val) | dct (kvs : List (Key × Val))
  | ref (i : Nat) | scr (ns : List Int) | bad
  deriving Inhabited

inductive Cell where
  | lst (xs : List Val) (lk : Bool) | dct (kvs : List (Key × Val)) (lk : Bool) | ins (c : Nat) (fs : List (Nat × Val))
  | err (c f : Nat) (x : Val)
  deriving Inhabited
inductive Slot where
  | no | val (v : Val) | own (c : Cell)
  deriving Inhabited
structure S where
  e : List Slot
  h : List Cell
  deriving Inhabited
def okV : Val → Bool
  | .bad => false
  | _ => true
inductive R (α : Type) where
  | ok (a : α) (s : S) | exc (c : Nat) (p : Val) (s : S) | bad
/-- what an expression gives: a value, a new list or dict, a name's own list or dict -/
inductive Rv where
  | v (x : Val) | f (c : Cell) | sl (i : Nat)
  deriving Inhabited

abbrev R.bind {α β : Type} (r : R α) (k : α → S → R β) : R β := match r with
  | .ok a s => k a s
  | .exc c p s => .exc c p s
  | .bad => .bad
abbrev R.opt {α : Type} (o : Option α) (s : S) : R α := match o with
  | some a => .ok a s
  | none => .bad

/-! ### data -/
mutual
def toD : Val → Option PyData
  | .non => some .none
  | .bl b => some (.bool b)
  | .int i => some (.int i)
  | .str x => some (.str x)
  | .lst xs => match toDs xs with | some ds => some (.list ds) | none => none
  | .tup xs => match toDs xs with | some ds => some (.tuple ds) | none => none
  | .dct kvs => match toDk kvs with | some ds => some (.dict ds) | none => none
  | .ref _ => none
  | .scr _ => none
  | .bad => none
def toDs : List Val → Option (List PyData)
  | [] => some []
  | x :: xs => match toD x with
    | none => none
    | some d => match toDs xs with | some ds => some (d :: ds) | none => none
def toDk : List (Key × Val) → Option (List (PyData × PyData))
  | [] => some []
  | (k, x) :: xs => match toD x with
    | none => none
    | some d => match toDk xs with | some ds => some ((match k with | .inl i => .int i | .inr t => .str t, d) :: ds) | none => none
end
def imm : Cell → Val
  | .lst xs _ => .lst xs
  | .dct kvs _ => .dct kvs
  | _ => .bad
/-- what stands there now -/
def deref (s : S) : Rv → Val
  | .v (.ref i) => match s.h[i]? with
    | some (.lst xs _) => .lst xs
    | some (.dct kvs _) => .dct kvs
    | _ => .ref i
  | .v x => x
  | .f c => imm c
  | .sl i => match s.e[i]? with
    | some (.own c) => imm c
    | _ => .bad

/-- the cells within laid open, n deep -/
def dp : Nat → List Cell → Val → Val
  | 0, _, x => x
  | n + 1, h, .ref i => match h[i]? with
    | some (.lst xs _) => .lst (xs.map (dp n h))
    | _ => .ref i
  | n + 1, h, .lst xs => .lst (xs.map (dp n h))
  | n + 1, h, .tup xs => .tup (xs.map (dp n h))
  | _ + 1, _, x => x
/-! ### operators -/
inductive Bop where | add | sub | mul | fdiv | mod | pow
inductive Cop where | eq | ne | lt | le | gt | ge | isin | notin | is_ | isnot
def okMul (i j : Int) : Bool := (decide (-(2 ^ 64) < i) && decide (i < 2 ^ 64)) || (decide (-(2 ^ 64) < j) && decide (j < 2 ^ 64))
def rep {α : Type} (xs : List α) (k : Int) : List α := (List.replicate k.toNat xs).flatten
def binop : Bop → Val → Val → Option Rv
  | .add, .int i, .int j => some (.v (.int (i + j)))
  | .add, .str a, .str b => if a.length + b.length ≤ sizeLine then some (.v (.str (a ++ b))) else none
  | .add, .lst xs, .lst ys => if xs.length + ys.length ≤ sizeLine then some (.f (.lst (xs ++ ys) false)) else none
  | .add, .tup xs, .tup ys => if xs.length + ys.length ≤ sizeLine then some (.v (.tup (xs ++ ys))) else none
  | .add, .bl b, .int j => some (.v (.int ((if b = true then 1 else 0) + j)))
  | .sub, .int i, .int j => some (.v (.int (i - j)))
  | .sub, .bl b, .int j => some (.v (.int ((if b = true then 1 else 0) - j)))
  | .mul, .int i, .int j => if okMul i j then some (.v (.int (i * j))) else none
  | .mul, .str a, .int k => if a.length ≤ 1000 ∧ 1 ≤ k ∧ k ≤ 1000 then some (.v (.str (Txt.mul a k))) else none
  | .mul, .lst xs, .int k => if -(2 ^ 63) ≤ k ∧ k < 2 ^ 63 ∧ xs.length * k.toNat ≤ sizeLine then some (.f (.lst (rep xs k) false)) else none
  | .mul, .tup xs, .int k => if 0 < xs.length ∧ 2 ≤ k ∧ k ≤ 1000 ∧ xs.length ≤ 1000 then some (.v (.tup (rep xs k))) else none
  | .fdiv, .int i, .int j => if 0 < j ∧ j < 1073741824 then some (.v (.int (i / j))) else none
  | .mod, .int i, .int j => if 0 < j then some (.v (.int (i % j))) else none
  | .pow, .int i, .int j => if 0 ≤ j ∧ j ≤ 1000000 ∧ i.natAbs < 2 ^ 64 then some (.v (.int (i ^ j.toNat))) else none
  | _, _, _ => none

/-- what op= gives, of ints -/
def iop (op : Bop) (x y : Val) : Option Rv := match op, x, y with
  | .pow, _, _ => none
  | _, .int _, .int _ => binop op x y
  | _, _, _ => none

def keyV : Val → Option Key
  | .int i => some (.inl i)
  | .str x => some (.inr x)
  | _ => none
def vKey : Key → Val
  | .inl i => .int i
  | .inr x => .str x
def dget (kvs : List (Key × Val)) (k : Key) : Option Val := (kvs.find? fun kv => decide (kv.1 = k)).map (·.2)
def dput (kvs : List (Key × Val)) (k : Key) (v : Val) : List (Key × Val) :=
  if (kvs.any fun kv => decide (kv.1 = k)) = true then kvs.map fun kv => if kv.1 = k then (kv.1, v) else kv else kvs ++ [(k, v)]
def ddrop (kvs : List (Key × Val)) (k : Key) : List (Key × Val) := kvs.filter fun kv => decide (kv.1 ≠ k)
def dmerge (kvs more : List (Key × Val)) : List (Key × Val) := more.foldl (fun acc kv => dput acc kv.1 kv.2) kvs

def okD (d : PyData) : Bool := d.plain && decide (d.depth ≤ 60)
def notNone : PyData → Bool
  | .none => false
  | _ => true
def veq (a b : Val) : Option Bool := match toD a, toD b with
  | some d, some e => if okD d && okD e then some (PyData.eqv d e) else none
  | _, _ => none
/-- two dicts' values, key by key -/
def deqK (kb : List (Key × Val)) : List (Key × Val) → Option Bool
  | [] => some true
  | (k, v) :: r => match dget kb k with
    | none => some false
    | some y => match veq v y, deqK kb r with
      | some e, some b => some (e && b)
      | _, _ => none
/-- lists and dicts, nested -/
def eqL (f : Val → Val → Option Bool) : List Val → List Val → Option Bool
  | x :: xs, y :: ys => match f x y, eqL f xs ys with
    | some a, some b => some (a && b)
    | _, _ => none
  | _, _ => some true
def deqS (kb : List (Key × Val)) : List (Key × Val) → Option Bool
  | [] => some true
  | (k, v) :: r => match dget kb k, deqS kb r with
    | none, some _ => some false
    | some y, some b => (veq v y).map (· && b)
    | _, none => none
def veqT : Nat → Val → Val → Option Bool
  | n + 1, .lst xs, .lst ys => match veq (.lst xs) (.lst ys) with
    | some b => some b
    | none => if xs.length = ys.length then eqL (veqT n) xs ys else none
  | _ + 1, .dct ka, .dct kb => (deqS kb ka).map fun b => decide (ka.length = kb.length) && b
  | _, a, b => veq a b
def veqX (a b : Val) : Option Bool := match a, b with
  | .dct ka, .dct kb => if ka.length = kb.length then deqK kb ka else some false
  | .lst xs, .lst ys => match veq (.lst xs) (.lst ys) with
    | some b => some b
    | none => if xs.length = ys.length then eqL (veqT 2) xs ys else some false
  | .tup xs, .tup ys => match veq (.tup xs) (.tup ys) with
    | some b => some b
    | none => if ys.length = 0 ∧ xs.length ≠ 0 then some false else none
  | a, b => veq a b
def vlt (a b : Val) : Option Bool := match a, b with
  | .int i, .int j => some (decide (i < j))
  | a, b => match toD a, toD b with
    | some d, some e => if PySem.W.alike d e && (okD d && notNone d) then some (PySem.W.dataLt d e) else none
    | _, _ => none

def gtOf (o : Option Bool) : Option Bool := o.map (!·)
def signs (x : Str) : List Val := x.cps.toList.map fun c => .str ⟨#[c]⟩
def vin (x y : Val) : Option Bool := match y with
  | .lst ys => match toD x, toDs ys with
    | some d, some ds => if okD d && (PyData.plainAll ds && decide (PyData.depthAll ds ≤ 60)) then some (ds.any fun z => PyData.eqv z d) else none
    | _, _ => none
  | .tup ys => match toD x, toDs ys with
    | some d, some ds => if okD d && (PyData.plainAll ds && decide (PyData.depthAll ds ≤ 60)) then some (ds.any fun z => PyData.eqv z d) else none
    | _, _ => none
  | .dct kvs => match keyV x with
    | some k => some (dget kvs k).isSome
    | none => none
  | .str y => match x with
    | .str x => some (!(Builtin.Str.occurrences y x 0 y.length 1).isEmpty)
    | _ => none
  | _ => none
def vis (x y : Val) : Option Bool := match y with
  | .non => match x with
    | .non => some true
    | .bad => none
    | _ => some false
  | .bl b => match x with
    | .bl a => some (a == b)
    | _ => none
  | _ => none
def cmpop : Cop → Val → Val → Option Bool
  | .eq, a, b => veqX a b
  | .ne, a, b => (veqX a b).map (!·)
  | .lt, a, b => vlt a b
  | .gt, a, b => vlt b a
  | .le, a, b => (vlt b a).map (!·)
  | .ge, a, b => (vlt a b).map (!·)
  | .isin, a, b => vin a b
  | .notin, a, b => (vin a b).map (!·)
  | .is_, a, b => vis a b
  | .isnot, a, b => (vis a b).map (!·)

/-! ### items, slices -/
def cut {α : Type} (xs : List α) (lo hi : Option Int) : List α := (xs.drop (HT.sIx xs.length 0 lo)).take (HT.sIx xs.length xs.length hi - HT.sIx xs.length 0 lo)
def vsub (a b : Val) : Option Val := match a, b with
  | .lst xs, .int i => atI xs i
  | .tup xs, .int i => atI xs i
  | .str x, .int i => if x.length ≤ sizeLine then (atI x.cps.toList i).map fun c => .str ⟨#[c]⟩ else none
  | .dct kvs, k => match keyV k with
    | some k => dget kvs k
    | none => none
  | _, _ => none
def partV : List Val → Option (Option Int)
  | [] => some none
  | [.int i] => some (some i)
  | _ => none
def vslice (a : Val) (lo hi : Option Int) : Option Rv := match a with
  | .lst xs => some (.f (.lst (cut xs lo hi) false))
  | .tup xs => some (.v (.tup (cut xs lo hi)))
  | .str x => if x.length ≤ sizeLine then some (.v (.str (cutS x lo hi))) else none
  | .scr ns => some (.f (.lst ((cut ns lo hi).map .int) false))
  | _ => none
def vstep (a : Val) (k : Int) : Option Rv := match a with
  | .lst xs => if k = 1 then some (.f (.lst xs false)) else if k = -1 then some (.f (.lst xs.reverse false)) else none
  | .tup xs => if k = 1 then some (.v (.tup xs)) else if k = -1 then some (.v (.tup xs.reverse)) else none
  | _ => none

/-! ### built-in functions -/
inductive Bi where
  | len | abs | min | max | sum | sorted | list | tuple | dict | int | bool | str | repr | all | any | lenset | lensetL | isInt | isBool | isStr | isTup | isLst | isDct | litems | sitems | sortk | lzip | sset | min2 | lensetS
def intsOf : List Val → Option (List Int)
  | [] => some []
  | .int i :: xs => (intsOf xs).map (i :: ·)
  | _ => none
def blsOf : List Val → Option (List Bool)
  | [] => some []
  | .bl i :: xs => (blsOf xs).map (i :: ·)
  | _ => none
/-- list of what is walked -/
def itemsV : Val → Option (List Val)
  | .lst xs => some xs
  | .tup xs => some xs
  | .str x => some (signs x)
  | .dct kvs => some (kvs.map fun kv => vKey kv.1)
  | _ => none
def allAlike (ds : List PyData) : Bool := ds.all fun d => ds.all fun e => PySem.W.alike d e
def sortable (ds : List PyData) : Bool := (ds.all fun d => match d with | .tuple (_ :: _) => true | _ => false) || ds.all fun d => match d with | .none => false | .tuple _ => false | _ => true
def dD (v : Val) : PyData := (toD v).getD .none
def insB {α : Type} (le : α → α → Bool) (a : α) : List α → List α
  | [] => [a]
  | b :: r => if le a b then a :: b :: r else b :: insB le a r
/-- sorted, stable; it runs in the kernel -/
def isort {α : Type} (le : α → α → Bool) : List α → List α
  | [] => []
  | a :: r => insB le a (isort le r)
def vsort (xs : List Val) : Option (List Val) := match toDs xs with
  | some ds => if allAlike ds && (sortable ds && (ds.all okD && decide (xs.length ≤ sizeLine))) then some (isort (PySem.W.dataLe false dD) xs) else none
  | none => none
def pairsV : List Val → Option (List (Key × Val))
  | [] => some []
  | .tup [k, v] :: r => match keyV k, pairsV r with
    | some k, some r => some ((k, v) :: r)
    | _, _ => none
  | _ => none
def best (xs : List Val) (bt : Val → Val → Bool) : Option Val := match xs with
  | [] => none
  | x :: r => some (r.foldl (fun b y => if bt y b then y else b) x)
def vmin (xs : List Val) : Option Val := match intsOf xs with
  | some (n :: ns) => some (.int (ns.foldl min n))
  | _ => match toDs xs with
    | some ds => if allAlike ds && (ds.all okD && ds.all notNone) then best xs fun y b => PySem.W.dataLt (dD y) (dD b) else none
    | none => none
def vmax (xs : List Val) : Option Val := match intsOf xs with
  | some (n :: ns) => some (.int (ns.foldl max n))
  | _ => none
def showOk (d : PyData) : Bool := d.showable && (decide (d.depth ≤ 60) && decide (d.shown.length ≤ sizeLine))
def kindV : Val → Nat
  | .non => 0 | .bl _ => 1 | .int _ => 2 | .str _ => 3 | .lst _ => 4 | .tup _ => 5 | .dct _ => 6 | .scr _ => 4 | .ref _ => 7 | .bad => 8
def kInt (x : Val) : Option Bool := if 7 ≤ kindV x then none else some (kindV x == 1 || kindV x == 2)
def kBool (x : Val) : Option Bool := if 7 ≤ kindV x then none else some (kindV x == 1)
def kStr (x : Val) : Option Bool := if 7 ≤ kindV x then none else some (kindV x == 3)
def kLst (x : Val) : Option Bool := if 7 ≤ kindV x then none else some (kindV x == 4)
def kTup (x : Val) : Option Bool := if 7 ≤ kindV x then none else some (kindV x == 5)
def kDct (x : Val) : Option Bool := if 7 ≤ kindV x then none else some (kindV x == 6)
/-- texts alone; tuples of ints alone; each thing once -/
def strsV : List Val → Option (List Str)
  | [] => some []
  | .str x :: r => (strsV r).map (x :: ·)
  | _ => none
def intLs : List Val → Option (List (List Int))
  | [] => some []
  | .tup xs :: r => match intsOf xs, intLs r with
    | some a, some b => some (a :: b)
    | _, _ => none
  | _ => none
def strLs : List Val → Option (List (List Str))
  | [] => some []
  | .tup xs :: r => match strsV xs, strLs r with
    | some a, some b => some (a :: b)
    | _, _ => none
  | _ => none
def dd {α : Type} [DecidableEq α] (xs : List α) : List α := xs.foldl (fun acc k => if k ∈ acc then acc else acc ++ [k]) []
/-- the ints at the first places -/
def keysI : List Val → Option (List Int)
  | [] => some []
  | .tup (.int i :: _) :: r => (keysI r).map (i :: ·)
  | _ => none
def zipV : List Val → List Val → List Val
  | x :: xs, y :: ys => .tup [x, y] :: zipV xs ys
  | _, _ => []
def boxed : Val → Bool
  | .lst _ => true
  | .tup _ => true
  | .dct _ => true
  | _ => false
def biop : Bi → List Val → Option Rv
  | .len, [.lst xs] => some (.v (.int xs.length))
  | .len, [.tup xs] => some (.v (.int xs.length))
  | .len, [.dct xs] => some (.v (.int xs.length))
  | .len, [.scr xs] => some (.v (.int xs.length))
  | .len, [.str x] => if x.length ≤ sizeLine then some (.v (.int x.length)) else none
  | .abs, [.int i] => some (.v (.int (if i < 0 then -i else i)))
  | .min, [.int i, .int j] => some (.v (.int (if j < i then j else i)))
  | .max, [.int i, .int j] => some (.v (.int (if j > i then j else i)))
  | .min, [.lst xs] => (vmin xs).map .v
  | .max, [.lst xs] => (vmax xs).map .v
  | .sum, [.lst xs] => (intsOf xs).map fun ns => .v (.int ns.sum)
  | .sorted, [.lst xs] => (vsort xs).map fun ys => .f (.lst ys false)
  | .sorted, [.tup xs] => (vsort xs).map fun ys => .f (.lst ys false)
  | .sorted, [.dct kvs] => if decide (kvs.length < 64) && kvs.all (fun kv => kv.1.isRight) then (vsort (kvs.map fun kv => vKey kv.1)).map fun ys => .f (.lst ys false) else none
  | .list, [x] => match x with
    | .str _ => none
    | x => (itemsV x).map fun ys => .f (.lst ys false)
  | .tuple, [.lst xs] => some (.v (.tup xs))
  | .tuple, [.tup xs] => some (.v (.tup xs))
  | .dict, [.dct kvs] => some (.f (.dct kvs false))
  | .dict, [.lst xs] => (pairsV xs).map fun kvs => .f (.dct (dmerge [] kvs) false)
  | .int, [.int i] => some (.v (.int i))
  | .int, [.bl b] => some (.v (.int (if b then 1 else 0)))
  | .bool, [.int i] => some (.v (.bl (i != 0)))
  | .str, [.int i] => if i.natAbs.log2 < 1920 then some (.v (.str (toString i))) else none
  | .str, [.bl b] => some (.v (.str (if b then "True" else "False")))
  | .repr, [x] => match toD x with
    | some d => if showOk d then some (.v (.str d.shown)) else none
    | none => none
  | .all, [.lst xs] => (blsOf xs).map fun bs => .v (.bl (bs.all id))
  | .any, [.lst xs] => (blsOf xs).map fun bs => .v (.bl (bs.any id))
  | .litems, [.dct kvs] => some (.f (.lst (kvs.map fun kv => .tup [vKey kv.1, kv.2]) false))
  | .lenset, [.tup xs] => match strsV xs with
    | some ys => if ys.length < 64 then some (.v (.int (dd ys).length)) else none
    | none => none
  | .min2, [.str x, .str y] => some (.v (.str (if y.cps.toList < x.cps.toList then y else x)))
  | .sset, [.tup xs] => match strsV xs with
    | some ys => if ys.length < 64 then (vsort ((dd ys).map .str)).map fun zs => .f (.lst zs false) else none
    | none => none
  | .lensetL, [.lst xs] => match intLs xs with
    | some ys => if ys.length < 64 then some (.v (.int (dd ys).length)) else none
    | none => none
  | .lensetS, [.lst xs] => match strLs xs with
    | some ys => if ys.length < 64 then some (.v (.int (dd ys).length)) else none
    | none => none
  | .sitems, [.dct kvs] => (vsort (kvs.map fun kv => .tup [vKey kv.1, kv.2])).map fun ys => .f (.lst ys false)
  | .sortk, [.lst xs] => match keysI xs with
    | some ks => if xs.length ≤ sizeLine then some (.f (.lst ((isort (fun a b => decide (a.1 ≤ b.1)) (ks.zip xs)).map (·.2)) false)) else none
    | none => none
  | .lzip, [.lst xs, .lst ys] => some (.f (.lst (zipV xs ys) false))
  | .isInt, [x] => (kInt x).map fun b => .v (.bl b)
  | .isBool, [x] => (kBool x).map fun b => .v (.bl b)
  | .isStr, [x] => (kStr x).map fun b => .v (.bl b)
  | .isTup, [x] => (kTup x).map fun b => .v (.bl b)
  | .isLst, [x] => (kLst x).map fun b => .v (.bl b)
  | .isDct, [x] => (kDct x).map fun b => .v (.bl b)
  | _, _ => none

/-! ### methods of built-in types -/
inductive Mt where | append | pop | insert | lclear | dget | dpop | dclear | upd | join | split | upper
/-- what the receiver must be -/
def mkind : Mt → Val → Bool
  | .append, .lst _ => true
  | .pop, .lst _ => true
  | .insert, .lst _ => true
  | .lclear, .lst _ => true
  | .dget, .dct _ => true
  | .dpop, .dct _ => true
  | .dclear, .dct _ => true
  | .upd, .dct _ => true
  | .join, .str _ => true
  | .split, .str _ => true
  | .upper, .str _ => true
  | _, _ => false
def mtop : Mt → Val → List Val → Option (Rv × Option Cell)
  | .append, .lst xs, [y] => if xs.length < sizeLine then some (.v .non, some (.lst (xs ++ [y]) false)) else none
  | .pop, .lst xs, [.int i] => if -(2 ^ 63) ≤ i ∧ i < 2 ^ 63 then match ixN xs.length i with
    | some k => match xs[k]? with
      | some y => some (.v y, some (.lst (xs.eraseIdx k) false))
      | none => none
    | none => none
    else none
  | .insert, .lst xs, [.int i, y] => if decide (xs.length < sizeLine) && (decide (0 ≤ i) && decide (i < 2 ^ 63)) then some (.v .non, some (.lst (xs.take i.toNat ++ [y] ++ xs.drop i.toNat) false)) else none
  | .join, .str a, [.lst xs] => match strsV xs with
    | some ys => if (ys.map (·.length)).sum + ys.length * a.length ≤ 16777216 then some (.v (.str (Txt.join a ys)), none) else none
    | none => none
  | .split, .str a, [.str b] => if decide (b.length ≠ 0) && decide (a.length + 2 ≤ sizeLine) then some (.f (.lst ((Txt.split a b).map .str) false), none) else none
  | .upper, .str a, [] => if a.length ≤ 5592405 then some (.v (.str (Txt.upper a)), none) else none
  | .upd, .dct xs, [.dct ys] => if xs.length + ys.length ≤ sizeLine then some (.v .non, some (.dct (dmerge xs ys) false)) else none
  | .lclear, .lst xs, [] => some (.v .non, some (.lst [] false))
  | .dclear, .dct xs, [] => some (.v .non, some (.dct [] false))
  | .dpop, .dct kvs, [k, d] => match keyV k with
    | some k => match dget kvs k with
      | some v => some (.v v, some (.dct (ddrop kvs k) false))
      | none => some (.v d, some (.dct kvs false))
    | none => none
  | .dget, .dct kvs, [k, d] => match keyV k with
    | some k => some (.v ((dget kvs k).getD d), none)
    | none => none
  | _, _, _ => none

/-! ### the texts -/
inductive Pat where | nm (i : Nat) | tp (ps : List Pat)
  deriving Inhabited
inductive Sk where | it | rng | enum | zip | items | keys
inductive IE where
  | var (i : Nat) | frz (i : Nat) | mv (i : Nat) | cst (v : Val) | glb (x : Nat) (v : Val)
  | bin (op : Bop) (a b : IE) | deq (ne : Bool) (a b : IE) | neg (a : IE)
  | cmp (op : Cop) (a b : IE) | chn (o1 o2 : Cop) (a b c : IE)
  | and (a b : IE) | or (a b : IE) | not (a : IE) | ite (c a b : IE)
  | sub (a b : IE) | slc (a : IE) (lo hi : List IE) | sls (a st : IE)
  | lst (es : List IE) | tup (es : List IE) | dsp (es : List IE)
  | lc (elt : IE) (p : Pat) (k : Sk) (src conds : List IE) (vs : List Nat)
  | lck (elt : IE) (p : Pat) (its : Bool) (i : Nat) (conds : List IE) (vs : List Nat)
  | dc (key elt : IE) (p : Pat) (k : Sk) (src conds : List IE) (vs : List Nat)
  | bi (f : Bi) (es : List IE) | mt (m : Mt) (o : IE) (es : List IE)
  | fn (f : Nat) (es : List IE) (pm : List (Nat ⊕ Val)) | me (cs : List Nat) (m : Nat) (o : IE) (es : List IE) (pm : List (Nat ⊕ Val)) | new (c : Nat) (es : List IE) (pm : List (Nat ⊕ Val))
  | att (o : IE) (f : Nat) | prp (o : IE) (f : Nat) | inown (ng : Bool) (m : Nat) (x o : IE) | lenown (m : Nat) (o : IE)
  | heap (a : IE)
  | lcr (elt : IE) (p : Pat) (a : IE) (conds : List IE) (vs : List Nat) | dcr (key elt : IE) (p : Pat) (a : IE) (conds : List IE) (vs : List Nat)
  | drep (a : IE)
  | mkx (c f : Nat) (a : IE) | xat (c f : Nat) (o : IE) | isx (o : IE) (tb : List (Nat × Bool))
  deriving Inhabited
inductive Tgt where | nm (i : Nat) | tp (ts : List Tgt) | sub (o k : IE) | att (o : IE) (f : Nat) | sla (o : IE)
  deriving Inhabited
/-- what an except suite tells: the error's attribute, or a text and its repr -/
inductive Su where | pay | shw (x : Str) | sets (i j : Nat) (x : Str) | chk (i : Nat) (eq : Bool) (w : Nat) (ns : List Int) (b : IE) | cst (v : Int)
  deriving Inhabited
inductive IS where
  | ex (e : IE) | asg (t : Tgt) (e : IE) | own (i : Nat) (e : IE) | par (i j : Nat) (oi oj : Bool) (a b : IE) | par3 (i j l : Nat) (oi oj ol : Bool) (a b c : IE) | aug (i : Nat) (op : Bop) (e : IE) | augS (o k : IE) (op : Bop) (e : IE) | augA (o : IE) (f : Nat) (op : Bop) (e : IE)
  | del (o k : IE) | ite (c : IE) (a b : List IS) | whl (c : IE) (b : List IS) | for_ (p : Pat) (k : Sk) (src : List IE) (b : List IS) | ret (e : IE) | retN | pas | bk | ct | nev | forr (p : Pat) (a : IE) (b : List IS)
  | yld (e : IE) | gst (p : IS) | gen (b : List IS)
  | rais (c : Nat) (e : IE) | tryS (b : List IS) (cl : List (Nat × Su))
  deriving Inhabited
inductive Fl where | nx | rt (v : Val) | bk | ct
/-- what the walk asks of the classes: method, __init__, property of a class; a class's fields -/
structure Tab where
  mth : Nat → Nat → Option Nat
  ini : Nat → Option Nat
  prp : Nat → Nat → Option Nat
  fld : Nat → Nat → Bool
  fuel : Nat
abbrev Call := Nat → List Val → List Cell → R Val

def freeze : Rv → Option Val
  | .v x => some x
  | .f c => some (imm c)
  | .sl _ => none
abbrev R.val (r : R Rv) : R Val := r.bind fun x s => R.opt (freeze x) s
def put1 (own : Bool) (x : Rv) : Option Slot := if own then match x with
    | .f c => some (.own c)
    | _ => none
  else (freeze x).map .val
/-- an operand: never a new list -/
def opnd : Rv → Rv
  | .f c => .v (imm c)
  | r => r
def unlocked : Cell → Bool
  | .lst _ lk => !lk
  | .dct _ lk => !lk
  | _ => false
def slotOf (s : S) (i : Nat) : Slot := s.e.getD i .no
def rdVar (s : S) (i : Nat) : R Rv := match slotOf s i with
  | .val v => .ok (.v v) s
  | .own _ => .ok (.sl i) s
  | .no => .bad
def frzVar (s : S) (i : Nat) : R Rv := match slotOf s i with
  | .val v => .ok (.v v) s
  | .own c => if unlocked c then .ok (.v (imm c)) { s with e := s.e.set i (.val (imm c)) } else .bad
  | .no => .bad
def toHeap (c : Cell) (s : S) : R Rv := .ok (.v (.ref s.h.length)) { s with h := s.h ++ [c] }
def mvVar (s : S) (i : Nat) : R Rv := match slotOf s i with
  | .own c => if unlocked c then .ok (.v (.ref s.h.length)) { e := s.e.set i (.val (.ref s.h.length)), h := s.h ++ [c] } else .bad
  | _ => .bad
def vsubL (a i : Val) : Option Val := if kindV a = 4 then vsub a i else none
/-- the content at a place is changed -/
def setLoc (s : S) (o : Rv) (c : Cell) : Option S := match o with
  | .sl i => match slotOf s i with
    | .own d => if unlocked d then some { s with e := s.e.set i (.own c) } else none
    | _ => none
  | .v (.ref n) => match s.h[n]? with
    | some d => if unlocked d then some { s with h := s.h.set n c } else none
    | none => none
  | _ => none
def putLoc (s : S) (o : Rv) : Option Cell → Option S
  | none => some s
  | some c => setLoc s o c
def lockC (b : Bool) : Cell → Cell
  | .lst xs _ => .lst xs b
  | .dct kvs _ => .dct kvs b
  | c => c
/-- what is walked is locked -/
def lockLoc (s : S) (o : Rv) : S := match o with
  | .sl i => match slotOf s i with
    | .own d => { s with e := s.e.set i (.own (lockC true d)) }
    | _ => s
  | .v (.ref n) => match s.h[n]? with
    | some d => { s with h := s.h.set n (lockC true d) }
    | none => s
  | _ => s
def unlockLoc (s0 s : S) (o : Rv) : S := match o with
  | .sl i => match s0.e[i]?, s.e[i]? with
    | some (.own c), some (.own d) => if unlocked c then { s with e := s.e.set i (.own (lockC false d)) } else s
    | _, _ => s
  | .v (.ref n) => match s0.h[n]?, s.h[n]? with
    | some c, some d => if unlocked c then { s with h := s.h.set n (lockC false d) } else s
    | _, _ => s
  | _ => s
mutual
def patSet : Pat → Val → List Slot → Option (List Slot)
  | .nm i, v, e => some (e.set i (.val v))
  | .tp ps, v, e => match v with
    | .tup vs => patSets ps vs e
    | _ => none
def patSets : List Pat → List Val → List Slot → Option (List Slot)
  | [], [], e => some e
  | p :: ps, v :: vs, e => match patSet p v e with
    | some e => patSets ps vs e
    | none => none
  | _, _, _ => none
end
def wipeE (e : List Slot) : List Nat → List Slot
  | [] => e
  | v :: vs => (wipeE e vs).set v .no
def restE (e0 e1 : List Slot) : List Nat → List Slot
  | [] => e1
  | v :: vs => (restE e0 e1 vs).set v (match e0.getD v .no with | .val x => .val x | _ => .no)
def rangeV (lo : Int) (n : Nat) : List Val := (List.range n).map fun (i : Nat) => .int (lo + (i : Int))
def enumV : Nat → List Val → List Val
  | _, [] => []
  | i, x :: xs => .tup [.int (i : Nat), x] :: enumV (i + 1) xs
def smallI (i : Int) : Bool := decide (-(2 ^ 62) ≤ i) && decide (i < 2 ^ 62)
/-- the numbers i, i + k, .. ahead of j -/
def rangeK (i j k : Int) : List Val := (List.range (if i < j then (j - i - 1) / k + 1 else 0).toNat).map fun (m : Nat) => .int (i + (m : Int) * k)
def srcItems : Sk → List Val → Option (List Val)
  | .it, [.lst xs] => some xs
  | .it, [.tup xs] => some xs
  | .it, [.str x] => some (signs x)
  | .keys, [.dct kvs] => some (kvs.map fun kv => vKey kv.1)
  | .rng, [.int j] => if smallI j then some (rangeV 0 j.toNat) else none
  | .rng, [.int i, .int j] => if smallI i && smallI j then some (rangeV i (j - i).toNat) else none
  | .rng, [.int i, .int j, .int k] => if smallI i && (smallI j && (decide (0 < k) && decide (k < 1000))) then some (rangeK i j k) else none
  | .enum, [.lst xs] => some (enumV 0 xs)
  | .zip, [.lst xs, .lst ys] => some (zipV xs ys)
  | .zip, [.lst xs, .tup ys] => some (zipV xs ys)
  | .items, [.dct kvs] => some (kvs.map fun kv => .tup [vKey kv.1, kv.2])
  | _, _ => none
def keysV (its : Bool) (kvs : List (Key × Val)) : List Val := if its then kvs.map fun kv => .tup [vKey kv.1, kv.2] else kvs.map fun kv => vKey kv.1
/-- the places that a walk locks -/
def lockAll (s : S) (os : List Rv) : S := os.foldl lockLoc s
def unlockAll (s0 s : S) (os : List Rv) : S := os.foldl (unlockLoc s0) s
def noSl (os : List Rv) : Bool := os.all fun
  | .sl _ => false
  | _ => true

def forL (st : Val → List Slot → Option (List Slot)) (body : S → R Fl) : List Val → S → R Fl
  | [], s => .ok .nx s
  | x :: xs, s => match st x s.e with
    | none => .bad
    | some e => match body { s with e := e } with
      | .ok .nx s2 => forL st body xs s2
      | .ok .ct s2 => forL st body xs s2
      | .ok .bk s2 => .ok .nx s2
      | .ok (.rt v) s2 => .ok (.rt v) s2
      | .exc c p s2 => .exc c p s2
      | .bad => .bad
/-- a loop that is left by what its body raises -/
def forX (st : Val → List Slot → Option (List Slot)) (body : S → R Fl) (bodyX : S → Option (Nat × Val × S)) : List Val → S → Option (Nat × Val × S)
  | [], _ => none
  | x :: xs, s => match st x s.e with
    | none => none
    | some e => match body { s with e := e } with
      | .ok .nx s2 => forX st body bodyX xs s2
      | .ok .ct s2 => forX st body bodyX xs s2
      | .ok _ _ => none
      | _ => bodyX { s with e := e }
/-- a text and the repr of what was raised -/
def shwV (x : Str) (p : Val) : Option Val := match biop .repr [p] with
  | some (.v r) => some (.lst [.str x, r])
  | _ => none
def forG (st : Val → List Slot → Option (List Slot)) (body : List Val → S → R (List Val)) : List Val → List Val → S → R (List Val)
  | [], ys, s => .ok ys s
  | x :: xs, ys, s => match st x s.e with
    | none => .bad
    | some e => (body ys { s with e := e }).bind fun ys s => forG st body xs ys s
def compL {α : Type} (st : Val → List Slot → Option (List Slot)) (tst : S → R Bool) (elt : S → R α) (vs : List Nat) (put : List α → α → Option (List α)) : List Val → S → List α → R (List α)
  | [], s, acc => .ok acc s
  | x :: xs, s, acc => match st x s.e with
    | none => .bad
    | some e => (tst { s with e := e }).bind fun b s1 => match b with
      | false => compL st tst elt vs put xs { s1 with e := wipeE s1.e vs } acc
      | true => (elt s1).bind fun y s2 => match put acc y with
        | some acc => compL st tst elt vs put xs { s2 with e := wipeE s2.e vs } acc
        | none => .bad
def whileL (tst : S → R Bool) (body : S → R Fl) : Nat → S → R Fl
  | 0, _ => .bad
  | n + 1, s => (tst s).bind fun b s1 => match b with
    | false => .ok .nx s1
    | true => match body s1 with
      | .ok .nx s2 => whileL tst body n s2
      | .ok .ct s2 => whileL tst body n s2
      | .ok .bk s2 => .ok .nx s2
      | .ok (.rt v) s2 => .ok (.rt v) s2
      | .exc c p s2 => .exc c p s2
      | .bad => .bad
def permV (vs : List Val) : List (Nat ⊕ Val) → List Val
  | [] => vs
  | pm => pm.map fun
    | .inl k => vs.getD k .non
    | .inr d => d
/-- back from a call: this frame's names are as they were -/
abbrev R.back (r : R Val) (e : List Slot) : R Rv := match r with
  | .ok v s => .ok (.v v) { s with e := e }
  | .exc c p s => .exc c p { s with e := e }
  | .bad => .bad
def kvsOf : List Val → Option (List (Key × Val))
  | [] => some []
  | k :: v :: r => match keyV k, kvsOf r with
    | some k, some r => some ((k, v) :: r)
    | _, _ => none
  | _ => none
def asB : Val → Option Bool
  | .bl b => some b
  | _ => none
def putL (acc : List Val) (y : Val) : Option (List Val) := if acc.length < sizeLine then some (acc ++ [y]) else none
def putD (acc : List (Key × Val)) (y : Key × Val) : Option (List (Key × Val)) := if acc.length < sizeLine then some (dput acc y.1 y.2) else none
def insAt (s : S) (v : Val) : Option (Nat × Nat × List (Nat × Val)) := match v with
  | .ref n => match s.h[n]? with
    | some (.ins c fs) => some (n, c, fs)
    | _ => none
  | _ => none
/-- the error at a place: its class, its attribute -/
def errAt (s : S) (v : Val) : Option (Nat × Nat × Val) := match v with
  | .ref n => match s.h[n]? with
    | some (.err c f x) => some (c, f, x)
    | _ => none
  | _ => none
def putFs (f : Nat) (v : Val) : List (Nat × Val) → List (Nat × Val)
  | [] => [(f, v)]
  | (g, x) :: r => if g = f then (f, v) :: r else (g, x) :: putFs f v r

section
variable (T : Tab) (C : Call)
mutual
def evalE : IE → S → R Rv
  | .var i, s => rdVar s i
  | .frz i, s => frzVar s i
  | .mv i, s => mvVar s i
  | .cst v, s => .ok (.v v) s
  | .glb _ v, s => .ok (.v v) s
  | .bin op a b, s => (evalE a s).bind fun x s => (evalE b s).bind fun y s => R.opt (binop op (deref s (opnd x)) (deref s (opnd y))) s
  | .neg a, s => (evalE a s).bind fun x s => match deref s x with
    | .int i => .ok (.v (.int (-i))) s
    | _ => .bad
  | .cmp op a b, s => (evalE a s).bind fun x s => (evalE b s).bind fun y s => R.opt ((cmpop op (deref s (opnd x)) (deref s (opnd y))).map fun b => .v (.bl b)) s
  | .deq ne a b, s => (evalE a s).bind fun x s => (evalE b s).bind fun y s => R.opt ((veq (dp 3 s.h (deref s (opnd x))) (dp 3 s.h (deref s (opnd y)))).map fun k => .v (.bl (k != ne))) s
  | .chn o1 o2 a b c, s => (evalE a s).bind fun x s => (evalE b s).bind fun y s => (R.opt (cmpop o1 (deref s (opnd x)) (deref s (opnd y))) s).bind fun k s => match k with
    | true => (evalE c s).bind fun z s => R.opt ((cmpop o2 (deref s (opnd y)) (deref s (opnd z))).map fun b => .v (.bl b)) s
    | false => .ok (.v (.bl false)) s
  | .and a b, s => (evalE a s).val.bind fun x s => (R.opt (asB x) s).bind fun k s => match k with
    | true => evalE b s
    | false => .ok (.v (.bl false)) s
  | .or a b, s => (evalE a s).val.bind fun x s => (R.opt (asB x) s).bind fun k s => match k with
    | true => .ok (.v (.bl true)) s
    | false => evalE b s
  | .not a, s => (evalE a s).val.bind fun x s => (R.opt (asB x) s).bind fun k s => .ok (.v (.bl (!k))) s
  | .ite c a b, s => (evalE c s).val.bind fun x s => (R.opt (asB x) s).bind fun k s => match k with
    | true => (evalE a s).val.bind fun x s => .ok (.v x) s
    | false => (evalE b s).val.bind fun x s => .ok (.v x) s
  | .sub a b, s => (evalE a s).bind fun x s => (evalE b s).val.bind fun y s => R.opt ((vsub (deref s (opnd x)) y).map .v) s
  | .slc a lo hi, s => (evalE a s).bind fun x s => (evalVs lo s).bind fun l s => (evalVs hi s).bind fun h s => match partV l, partV h with
    | some l, some h => R.opt (vslice (deref s (opnd x)) l h) s
    | _, _ => .bad
  | .sls a st, s => (evalE a s).bind fun x s => (evalE st s).val.bind fun k s => match k with
    | .int k => R.opt (vstep (deref s (opnd x)) k) s
    | _ => .bad
  | .lst es, s => (evalVs es s).bind fun vs s => .ok (.f (.lst vs false)) s
  | .tup es, s => (evalVs es s).bind fun vs s => .ok (.v (.tup vs)) s
  | .dsp es, s => (evalVs es s).bind fun vs s => match kvsOf vs with
    | some kvs => .ok (.f (.dct (dmerge [] kvs) false)) s
    | none => .bad
  | .lc elt p k src conds vs, s => (evalOs src s).bind fun os s => match srcItems k (os.map (deref s)) with
    | none => .bad
    | some items => (compL (patSet p) (evalTs conds) (fun s => (evalE elt s).val) vs putL items { lockAll s os with e := wipeE (lockAll s os).e vs } []).bind fun acc s2 => .ok (.f (.lst acc false)) (unlockAll s { s2 with e := restE s.e s2.e vs } os)
  | .dc key elt p k src conds vs, s => (evalOs src s).bind fun os s => match srcItems k (os.map (deref s)) with
    | none => .bad
    | some items => (compL (patSet p) (evalTs conds) (fun s => (evalE key s).val.bind fun kv s => (evalE elt s).val.bind fun x s => match keyV kv with | some k => .ok (k, x) s | none => .bad) vs putD items { lockAll s os with e := wipeE (lockAll s os).e vs } []).bind fun acc s2 => .ok (.f (.dct acc false)) (unlockAll s { s2 with e := restE s.e s2.e vs } os)
  | .lck elt p its i conds vs, s => match slotOf s i with
    | .val (.dct kvs) => (compL (patSet p) (evalTs conds) (fun s => (evalE elt s).val) vs putL (keysV its kvs) { s with e := wipeE s.e vs } []).bind fun acc s2 => .ok (.f (.lst acc false)) { s2 with e := restE s.e s2.e vs }
    | .own (.dct kvs false) => (compL (patSet p) (evalTs conds) (fun s => (evalE elt s).val) vs putL (keysV its kvs) { s with e := wipeE (s.e.set i (.own (.dct kvs true))) vs } []).bind fun acc s2 => match slotOf { s2 with e := restE s.e s2.e vs } i with
      | .own (.dct kvs2 true) => .ok (.f (.lst acc false)) { s2 with e := (restE s.e s2.e vs).set i (.own (.dct kvs2 false)) }
      | _ => .bad
    | _ => .bad
  | .bi f es, s => (evalOs es s).bind fun os s => if (os.map (deref s)).all okV then R.opt (biop f (os.map (deref s))) s else .bad
  | .mt m o es, s => (evalE o s).bind fun x s => match mkind m (deref s (opnd x)) with
    | false => .bad
    | true => (evalVs es s).bind fun vs s => match mtop m (deref s (opnd x)) vs with
      | none => .bad
      | some (r, oc) => match putLoc s (opnd x) oc with
        | some s => .ok r s
        | none => .bad
  | .fn f es pm, s => (evalVs es s).bind fun vs s => (C f (permV vs pm) s.h).back s.e
  | .me cs m o es pm, s => (evalE o s).val.bind fun x s => match insAt s x with
    | none => .bad
    | some (_, c, fs) => match decide (c ∈ cs), fs.lookup (m % 1000), T.mth c m with
      | true, none, some f => (evalVs es s).bind fun vs s => (C f (x :: permV vs pm) s.h).back s.e
      | _, _, _ => .bad
  | .new c es pm, s => (evalVs es s).bind fun vs s => match T.ini c with
    | none => .bad
    | some f => match C f (.ref s.h.length :: permV vs pm) (s.h ++ [.ins c []]) with
      | .ok .non s2 => .ok (.v (.ref s.h.length)) { s2 with e := s.e }
      | .exc c p s2 => .exc c p { s2 with e := s.e }
      | _ => .bad
  | .att o f, s => (evalE o s).val.bind fun x s => match insAt s x with
    | none => .bad
    | some (_, c, fs) => if T.fld c f then R.opt ((fs.lookup f).map .v) s else .bad
  | .prp o p, s => (evalE o s).val.bind fun x s => match insAt s x with
    | none => .bad
    | some (_, c, fs) => match T.prp c p with
      | some f => (C f [x] s.h).back s.e
      | none => .bad
  | .inown ng m a o, s => (evalE a s).val.bind fun x s => (evalE o s).val.bind fun y s => match insAt s y with
    | none => .bad
    | some (_, c, fs) => match T.mth c m with
      | none => .bad
      | some f => match (C f [y, x] s.h).back s.e with
        | .ok (.v (.bl b)) s2 => .ok (.v (.bl (b != ng))) s2
        | .exc c p s2 => .exc c p s2
        | _ => .bad
  | .lenown m o, s => (evalE o s).val.bind fun y s => match insAt s y with
    | none => .bad
    | some (_, c, fs) => match T.mth c m with
      | none => .bad
      | some f => match (C f [y] s.h).back s.e with
        | .ok (.v (.int i)) s2 => if decide (0 ≤ i) && decide (i < 2 ^ 63) then .ok (.v (.int i)) s2 else .bad
        | .exc c p s2 => .exc c p s2
        | _ => .bad
  | .heap a, s => (evalE a s).bind fun x s => match x with
    | .f c => toHeap c s
    | _ => .bad
  | .lcr elt p a conds vs, s => (evalE a s).bind fun x s => match x with
    | .v (.ref n) => match s.h[n]? with
      | some (.dct kvs _) => (compL (patSet p) (evalTs conds) (fun s => (evalE elt s).val) vs putL (keysV false kvs) { s with h := s.h.set n (.dct kvs true), e := wipeE s.e vs } []).bind fun acc s2 => .ok (.f (.lst acc false)) (unlockAll s { s2 with e := restE s.e s2.e vs } [.v (.ref n)])
      | _ => .bad
    | _ => .bad
  | .dcr key elt p a conds vs, s => (evalE a s).bind fun x s => match x with
    | .v (.ref n) => match s.h[n]? with
      | some (.dct kvs _) => (compL (patSet p) (evalTs conds) (fun s => (evalE key s).val.bind fun kv s => (evalE elt s).val.bind fun x s => match keyV kv with | some k => .ok (k, x) s | none => .bad) vs putD (keysV false kvs) { s with h := s.h.set n (.dct kvs true), e := wipeE s.e vs } []).bind fun acc s2 => .ok (.f (.dct acc false)) (unlockAll s { s2 with e := restE s.e s2.e vs } [.v (.ref n)])
      | _ => .bad
    | _ => .bad
  | .drep a, s => (evalE a s).bind fun x s => R.opt (biop .repr [dp 3 s.h (deref s (opnd x))]) s
  | .mkx c f a, s => (evalE a s).val.bind fun v s => .ok (.v (.ref s.h.length)) { s with h := s.h ++ [.err c f v] }
  | .xat c f o, s => (evalE o s).val.bind fun x s => match errAt s x with
    | some (c2, f2, v) => if c2 = c ∧ f2 = f then .ok (.v v) s else .bad
    | none => .bad
  | .isx o tb, s => (evalE o s).val.bind fun x s => match errAt s x with
    | some (c, _, _) => R.opt ((tb.lookup c).map fun b => .v (.bl b)) s
    | none => .bad
def evalVs : List IE → S → R (List Val)
  | [], s => .ok [] s
  | e :: es, s => (evalE e s).val.bind fun v s => (evalVs es s).bind fun vs s => .ok (v :: vs) s
def evalOs : List IE → S → R (List Rv)
  | [], s => .ok [] s
  | e :: es, s => (evalE e s).bind fun v s => (evalOs es s).bind fun vs s => .ok (opnd v :: vs) s
def evalTs : List IE → S → R Bool
  | [], s => .ok true s
  | e :: es, s => (evalE e s).val.bind fun x s => (R.opt (asB x) s).bind fun k s => match k with
    | true => evalTs es s
    | false => .ok false s
end
def evalB (e : IE) (s : S) : R Bool := (evalE T C e s).val.bind fun x s => R.opt (asB x) s
mutual
/-- a value is stored -/
def tgtSet : Tgt → Val → S → R Unit
  | .nm i, v, s => .ok () { s with e := s.e.set i (.val v) }
  | .tp ts, v, s => match v with
    | .tup vs => tgtSets ts vs s
    | .lst vs => tgtSets ts vs s
    | _ => .bad
  | .sub o k, v, s => (evalE T C o s).bind fun x s => (evalE T C k s).val.bind fun i s => match deref s (opnd x) with
    | .lst xs => match i with
      | .int i => match ixN xs.length i with
        | some j => R.opt (setLoc s (opnd x) (.lst (xs.set j v) false)) s |>.bind fun s _ => .ok () s
        | none => .bad
      | _ => .bad
    | .dct kvs => match keyV i with
      | some k => if kvs.length < sizeLine then R.opt (setLoc s (opnd x) (.dct (dput kvs k v) false)) s |>.bind fun s _ => .ok () s else .bad
      | none => .bad
    | _ => .bad
  | .att o f, v, s => (evalE T C o s).val.bind fun x s => match insAt s x with
    | none => .bad
    | some (n, c, fs) => if T.fld c f && decide (fs.length < 900) then .ok () { s with h := s.h.set n (.ins c (putFs f v fs)) } else .bad
  | .sla o, v, s => (evalE T C o s).bind fun x s => match deref s (opnd x), v with
    | .lst xs, .lst ys => if xs.length + ys.length ≤ sizeLine then R.opt (setLoc s (opnd x) (.lst ys false)) s |>.bind fun s _ => .ok () s else .bad
    | _, _ => .bad
def tgtSets : List Tgt → List Val → S → R Unit
  | [], [], s => .ok () s
  | t :: ts, v :: vs, s => (tgtSet t v s).bind fun _ s => tgtSets ts vs s
  | _, _, _ => .bad
end
/-- the defs that may raise (numbers of ids.json) -/
def mayRaise (f : Nat) : Bool := decide (f ∈ [28, 31, 56, 57, 58, 128, 129, 130, 132, 133, 137])
/-- the methods that may raise (numbers of ids.json) -/
def mayRaiseM (m : Nat) : Bool := decide (m ∈ [18, 21, 23, 41, 43, 44, 49])
/-- what a call raises -/
def excE : IE → S → Option (Nat × Val × S)
  | .fn f es pm, s => if mayRaise f then match evalVs T C es s with
    | .ok vs s1 => match C f (permV vs pm) s1.h with
      | .exc c p s2 => some (c, p, { s2 with e := s1.e })
      | _ => none
    | _ => none else none
  | .me cs m o es pm, s => if mayRaiseM m then match (evalE T C o s).val with
    | .ok x s0 => match insAt s0 x with
      | some (_, c, fs) => match decide (c ∈ cs), fs.lookup (m % 1000), T.mth c m with
        | true, none, some f => match evalVs T C es s0 with
          | .ok vs s1 => match C f (x :: permV vs pm) s1.h with
            | .exc k p s2 => some (k, p, { s2 with e := s1.e })
            | _ => none
          | _ => none
        | _, _, _ => none
      | none => none
    | _ => none else none
  | _, _ => none
/-- a comparison with a tuple, or of a number -/
def cq (eq : Bool) (x t : Val) : Option Bool := match t with
  | .tup ys => if eq then veq x (.tup ys) else vin x (.tup ys)
  | .int j => if eq then veq x (.int j) else none
  | _ => none
/-- an except suite -/
def suX : Su → Val → S → R Fl
  | .pay, p, s => .ok (.rt p) s
  | .cst v, p, s => .ok (.rt (.int v)) s
  | .shw x, p, s => (R.opt (shwV x p) s).bind fun v s => .ok (.rt v) s
  | .sets i j x, p, s => (R.opt (shwV x p) s).bind fun v s => .ok .nx { s with e := (s.e.set j (.val v)).set i .no }
  | .chk i eq w ns b, p, s => match slotOf s w with
    | .val (.int k) => match decide (k ∈ ns) with
      | true => (evalE T C b { s with e := s.e.set i .no }).val.bind fun u s => (R.opt (cq eq p u) s).bind fun r s => .ok (.rt (.bl r)) s
      | false => .ok (.rt (.bl false)) { s with e := s.e.set i .no }
    | _ => .bad
mutual
def execS : IS → S → R Fl
  | .ex e, s => (evalE T C e s).bind fun _ s => .ok .nx s
  | .asg t e, s => (evalE T C e s).val.bind fun v s => (tgtSet T C t v s).bind fun _ s => .ok .nx s
  | .own i e, s => (evalE T C e s).bind fun x s => match x with
    | .f c => .ok .nx { s with e := s.e.set i (.own c) }
    | _ => .bad
  | .par i j oi oj a b, s => (evalE T C a s).bind fun x s => (evalE T C b s).bind fun y s => match put1 oi x, put1 oj y with
    | some u, some v => .ok .nx { s with e := (s.e.set i u).set j v }
    | _, _ => .bad
  | .par3 i j l oi oj ol a b c, s => (evalE T C a s).bind fun x s => (evalE T C b s).bind fun y s => (evalE T C c s).bind fun z s => match put1 oi x, put1 oj y, put1 ol z with
    | some u, some v, some w => .ok .nx { s with e := ((s.e.set i u).set j v).set l w }
    | _, _, _ => .bad
  | .aug i op e, s => match slotOf s i with
    | .val x => (evalE T C e s).bind fun y s => (R.opt (iop op x (deref s (opnd y))) s).val.bind fun z s => .ok .nx { s with e := s.e.set i (.val z) }
    | _ => .bad
  | .augS o k op e, s => (evalE T C o s).bind fun x s => (evalE T C k s).val.bind fun i s => match vsubL (deref s (opnd x)) i with
    | none => .bad
    | some old => (evalE T C e s).val.bind fun y s => (R.opt (iop op old y) s).val.bind fun z s => match deref s (opnd x), i with
      | .lst xs, .int i => match ixN xs.length i with
        | some j => R.opt (setLoc s (opnd x) (.lst (xs.set j z) false)) s |>.bind fun s _ => .ok .nx s
        | none => .bad
      | _, _ => .bad
  | .augA o f op e, s => (evalE T C o s).val.bind fun x s => match insAt s x with
    | none => .bad
    | some (_, c, fs) => match T.fld c f, fs.lookup f with
      | true, some old => (evalE T C e s).val.bind fun y s => (R.opt (iop op old y) s).val.bind fun z s => match insAt s x with
        | some (n, c2, fs) => if decide (c2 = c) && decide (fs.length < 900) then .ok .nx { s with h := s.h.set n (.ins c (putFs f z fs)) } else .bad
        | none => .bad
      | _, _ => .bad
  | .del o k, s => (evalE T C o s).bind fun x s => (evalE T C k s).val.bind fun i s => match deref s (opnd x), keyV i with
    | .dct kvs, some k => if (dget kvs k).isSome then R.opt (setLoc s (opnd x) (.dct (ddrop kvs k) false)) s |>.bind fun s _ => .ok .nx s else .bad
    | _, _ => .bad
  | .ite c a b, s => (evalB T C c s).bind fun k s => match k with
    | true => execSs a s
    | false => execSs b s
  | .whl c b, s => whileL (evalB T C c) (execSs b) T.fuel s
  | .for_ p k src b, s => (evalOs T C src s).bind fun os s => match noSl os, srcItems k (os.map (deref s)) with
    | true, some items => (forL (patSet p) (execSs b) items (lockAll s os)).bind fun fl s2 => .ok fl (unlockAll s s2 os)
    | _, _ => .bad
  | .ret e, s => (evalE T C e s).val.bind fun x s => .ok (.rt x) s
  | .retN, s => .ok (.rt .non) s
  | .pas, s => .ok .nx s
  | .bk, s => .ok .bk s
  | .ct, s => .ok .ct s
  | .nev, s => .bad
  | .forr p a b, s => (evalE T C a s).bind fun x s => match x with
    | .v (.ref n) => match s.h[n]? with
      | some (.dct kvs _) => (forL (patSet p) (execSs b) (keysV false kvs) { s with h := s.h.set n (.dct kvs true) }).bind fun fl s2 => .ok fl (unlockAll s s2 [.v (.ref n)])
      | _ => .bad
    | _ => .bad
  | .yld e, s => .bad
  | .gst p, s => execS p s
  | .gen b, s => (execGs b [] s).bind fun ys s => .ok (.rt (.lst ys)) s
  | .rais c e, s => .bad
  | .tryS b cl, s => match execSs b s with
    | .ok fl s1 => .ok fl s1
    | _ => match excSs b s with
      | some (k, p, s1) => match cl.lookup k with
        | some u => suX T C u p s1
        | none => .bad
      | none => .bad
def execSs : List IS → S → R Fl
  | [], s => .ok .nx s
  | st :: r, s => match execS st s with
    | .ok .nx s => execSs r s
    | x => x
/-- what a statement raises, where it is one that may -/
def excS : IS → S → Option (Nat × Val × S)
  | .rais c e, s => match (evalE T C e s).val with
    | .ok v s1 => some (c, v, s1)
    | _ => none
  | .ex e, s => excE T C e s
  | .asg _ e, s => excE T C e s
  | .ret e, s => excE T C e s
  | .ite c a b, s => match evalB T C c s with
    | .ok true s1 => excSs a s1
    | .ok false s1 => excSs b s1
    | _ => none
  | .for_ p k src b, s => match evalOs T C src s with
    | .ok os s1 => match noSl os, srcItems k (os.map (deref s1)) with
      | true, some items => (forX (patSet p) (execSs b) (excSs b) items (lockAll s1 os)).map fun r => (r.1, r.2.1, unlockAll s1 r.2.2 os)
      | _, _ => none
    | _ => none
  | _, _ => none
def excSs : List IS → S → Option (Nat × Val × S)
  | [], _ => none
  | st :: r, s => match execS st s with
    | .ok .nx s1 => excSs r s1
    | .ok _ _ => none
    | _ => excS st s
/-- a generator def's statement; what is out so far -/
def execG : IS → List Val → S → R (List Val)
  | .gst p, ys, s => match execS p s with
    | .ok .nx s => .ok ys s
    | _ => .bad
  | .yld e, ys, s => if ys.length < sizeLine then (evalE T C e s).val.bind fun v s => .ok (ys ++ [v]) s else .bad
  | .ite c a b, ys, s => (evalB T C c s).bind fun k s => match k with
    | true => execGs a ys s
    | false => execGs b ys s
  | .for_ p k src b, ys, s => (evalOs T C src s).bind fun os s => match noSl os, srcItems k (os.map (deref s)) with
    | true, some items => (forG (patSet p) (execGs b) items ys (lockAll s os)).bind fun ys s2 => .ok ys (unlockAll s s2 os)
    | _, _ => .bad
  | _, _, _ => .bad
def execGs : List IS → List Val → S → R (List Val)
  | [], ys, s => .ok ys s
  | st :: r, ys, s => (execG st ys s).bind fun ys s => execGs r ys s
end
end

/-- a def: its parameters, the number of its names, its text -/
structure Fd where
  np : Nat
  nn : Nat
  body : List IS
  deriving Inhabited
def exOut : Option (Nat × Val × S) → R Val
  | some (c, p, s) => .exc c p ⟨[], s.h⟩
  | none => .bad
theorem exOut_ne {o : Option (Nat × Val × S)} {v : Val} {s : S} : exOut o ≠ .ok v s := by
  cases o with
  | none => intro e; cases e
  | some r => obtain ⟨c, p, s⟩ := r; intro e; cases e
def runFd (T : Tab) (C : Call) (d : Fd) (vs : List Val) (h : List Cell) : R Val :=
  if vs.length = d.np then
    match execSs T C d.body ⟨vs.map .val ++ List.replicate (d.nn - d.np) .no, h⟩ with
    | .ok .nx s => .ok .non ⟨[], s.h⟩
    | .ok (.rt v) s => .ok v ⟨[], s.h⟩
    | .ok _ _ => .bad
    | _ => exOut (excSs T C d.body ⟨vs.map .val ++ List.replicate (d.nn - d.np) .no, h⟩)
  else .bad
def callI (T : Tab) (fs : List Fd) : Nat → Call
  | 0 => fun _ _ _ => .bad
  | n + 1 => fun f vs h => match fs[f]? with
    | some d => runFd T (callI T fs n) d vs h
    | none => .bad
/-- a name's value -/
abbrev valI (i : Nat) : IE := .ite (.cst (.bl true)) (.var i) (.cst .non)
end Rs
end
section
set_option maxRecDepth 100000
set_option maxHeartbeats 4000000
/-! The values of the interpreter beside those of the model. -/
namespace Rs
open PySem PySem.Spec PyProof.Rows L2

/-- what is fixed through a law: the part that the top wrote, names, classes -/
structure Gl where
  K : PySem.W.Frag
  nm : Nat → Str
  okf : Nat → Prop
  inj : ∀ i j, okf i → okf j → nm i = nm j → i = j
  ca : Nat → Addr
  T : List (Addr × Str)
/-- a reading of a heap: the cells' places, what never changes, what stays while this runs (walked; of others) -/
structure Cf where
  ρ : List Addr
  fz : Addr → Prop
  kp : Addr → Prop
  rs : Addr → Prop
  H : Hp

def KTup (K : PySem.W.Frag) (a : Addr) (xs : List V) : Prop := ∃ (o : Obj) (its : Array Value) (n : Nat), K.lookup a = some o ∧ o.cls = .type "tuple" ∧ o.data = .seq its n ∧ its.size ≤ sizeLine ∧ Vals xs its.toList
def KLst (K : PySem.W.Frag) (a : Addr) (xs : List V) : Prop := ∃ (o : Obj) (its : Array Value) (n : Nat), K.lookup a = some o ∧ o.cls = .type "list" ∧ o.dict = none ∧ o.data = .seq its n ∧ its.size ≤ sizeLine ∧ Vals xs its.toList

/-- an error object of a class, its attributes in the dict d -/
structure ErrO (cls : Value) (d : Option Addr) (u : Obj) : Prop where
  z : Zc cls d u
  f : ∃ fv, u.data = .fields fv
/-- it is held as it stands (errors are never changed once they are made) -/
abbrev exv (u : Obj) : HO := .frz u (.own 0)
section
variable (G : Gl)
mutual
def VR (C : Cf) : Val → V → Prop
  | .non, v => v = .non
  | .bl b, v => v = .bl b
  | .int i, v => v = .int i
  | .str x, v => v = .str x
  | .lst xs, v => ∃ p ys, v = .ref p ∧ C.fz p ∧ C.H p = some (.lst ys) ∧ VRs C xs ys
  | .tup xs, v => ∃ p ys, v = .ref p ∧ ((C.fz p ∧ C.H p = some (.tup ys)) ∨ KTup G.K p ys) ∧ VRs C xs ys
  | .dct kvs, v => ∃ p kvs', v = .ref p ∧ C.fz p ∧ Rd C.H p (.dK kvs') ∧ VRk C kvs kvs'
  | .ref i, v => ∃ p, C.ρ[i]? = some p ∧ v = .ref p
  | .scr ns, v => ∃ p, v = .ref p ∧ ((C.fz p ∧ Rd C.H p (.lst (ns.map V.int))) ∨ KLst G.K p (ns.map V.int))
  | .bad, _ => False
def VRs (C : Cf) : List Val → List V → Prop
  | [], ys => ys = []
  | x :: xs, ys => ∃ y r, ys = y :: r ∧ VR C x y ∧ VRs C xs r
def VRk (C : Cf) : List (Key × Val) → List (Key × V) → Prop
  | [], ys => ys = []
  | (k, x) :: xs, ys => ∃ y r, ys = (k, y) :: r ∧ VR C x y ∧ VRk C xs r
end
/-- as things stand now -/
def NR (C : Cf) : Val → V → Prop
  | .lst xs, v => ∃ p ys, v = .ref p ∧ C.H p = some (.lst ys) ∧ VRs G C xs ys
  | .dct kvs, v => ∃ p kvs', v = .ref p ∧ Rd C.H p (.dK kvs') ∧ VRk G C kvs kvs'
  | x, v => VR G C x v
def VRf (C : Cf) : List (Nat × Val) → List (Str × V) → Prop
  | [], ys => ys = []
  | (f, x) :: xs, ys => ∃ y r, ys = (G.nm f, y) :: r ∧ G.okf f ∧ VR G C x y ∧ VRf C xs r
/-- a cell's content -/
def CR (C : Cf) : Cell → Option HO → Prop
  | .lst xs _, o => ∃ ys, o = some (.lst ys) ∧ VRs G C xs ys
  | .dct kvs false, o => ∃ ks, o = some (.dK ks) ∧ VRk G C kvs ks
  | .dct kvs true, o => ∃ ob ks, o = some (.frz ob (.dK ks)) ∧ VRk G C kvs ks
  | .ins c fs, o => ∃ dx gs, o = some (.ins (G.ca c) dx gs) ∧ VRf G C fs gs
  | .err c f x, o => ∃ u dd y, o = some (exv u) ∧ ErrO (.ref (G.ca c)) (some dd) u ∧ C.fz dd ∧ Rd C.H dd (.xd [(G.nm f, y)]) ∧ VR G C x y
end
def isFz : HO → Bool
  | .frz _ _ => true
  | _ => false
/-- there is something, no table of a code object -/
def NT (o : Option HO) : Prop := ∃ u, o = some u ∧ ∀ ps, u ≠ .tbl ps
theorem NT.ne {o : Option HO} (h : NT o) : o ≠ none := by obtain ⟨u, rfl, _⟩ := h; simp
theorem nt_upd {H : Hp} {p : Addr} {o : HO} (h : ∀ ps, o ≠ .tbl ps) : NT (upd H p o p) := ⟨o, upd_same, h⟩
/-- what is seen at a place, seen still -/
structure Keeps (o o' : Option HO) : Prop where
  l : ∀ ys, o = some (.lst ys) → o' = some (.lst ys)
  t : ∀ ys, o = some (.tup ys) → o' = some (.tup ys)
  r : ∀ u, isFz u = false → (o = some u ∨ ∃ b, o = some (.frz b u)) → (o' = some u ∨ ∃ b, o' = some (.frz b u))
  tr : NT o → NT o'
theorem Keeps.of {o o' : Option HO} (h : ∀ u, o = some u → o' = some u) : Keeps o o' := ⟨fun _ e => h _ e, fun _ e => h _ e, fun _ _ e => e.imp (h _) fun ⟨b, e⟩ => ⟨b, h _ e⟩, fun ⟨u, e, n⟩ => ⟨u, h u e, n⟩⟩
theorem Keeps.trans {a b c : Option HO} (k : Keeps a b) (m : Keeps b c) : Keeps a c := ⟨fun y e => m.l y (k.l y e), fun y e => m.t y (k.t y e), fun u n e => m.r u n (k.r u n e), fun n => m.tr (k.tr n)⟩
/-- the tables of code objects stay, whatever is put elsewhere -/
theorem tabs_put {T : List (Addr × Str)} {H : Hp} {p : Addr} {o : HO} (t : LamX.Tabs T H) (n : ∀ u, H p = some u → (∀ ps, u ≠ .tbl ps) ∧ ∀ φ, u ≠ .ext φ) : LamX.Tabs T (upd H p o) := fun q hq => by
  obtain ⟨ps, h1, h2, h3⟩ := t q hq
  refine ⟨ps, by rw [upd_ne fun z => (n _ (by rw [← z]; exact h1)).1 ps rfl]; exact h1, h2, fun pos cv hc => ?_⟩
  obtain ⟨c, e1, e2⟩ := h3 pos cv hc
  exact ⟨c, e1, by rw [upd_ne fun z => (n _ (by rw [← z]; exact e2)).2 _ rfl]; exact e2⟩
structure Lv (C C' : Cf) : Prop where
  ρ : C.ρ <+: C'.ρ
  fz : ∀ p, C.fz p → C'.fz p
  hf : ∀ p, C.fz p → Keeps (C.H p) (C'.H p)
structure Le (C C' : Cf) : Prop extends Lv C C' where
  kp : C'.kp = C.kp
  rs : C'.rs = C.rs
  hk : ∀ p, C.kp p ∨ C.rs p → ∀ o, C.H p = some o → C'.H p = some o
  ff : ∀ p, C.fz p → ∀ b u, C.H p = some (.frz b u) → C'.H p = some (.frz b u)
theorem Le.of {C C' : Cf} (ρ : C'.ρ = C.ρ) (fz : ∀ p, C.fz p → C'.fz p) (kp : C'.kp = C.kp) (rs : C'.rs = C.rs) (hp : ∀ p, C.fz p ∨ C.kp p ∨ C.rs p → ∀ o, C.H p = some o → C'.H p = some o) : Le C C' :=
  ⟨⟨by rw [ρ]; exact List.prefix_rfl, fz, fun p h => .of (hp p (.inl h))⟩, kp, rs, fun p h => hp p (.inr h), fun p h b u e => hp p (.inl h) _ e⟩
theorem Le.refl (C : Cf) : Le C C := .of rfl (fun _ h => h) rfl rfl fun _ _ _ h => h
theorem Le.trans {A B C : Cf} (a : Le A B) (b : Le B C) : Le A C :=
  ⟨⟨a.ρ.trans b.ρ, fun p h => b.fz p (a.fz p h), fun p h => (a.hf p h).trans (b.hf p (a.fz p h))⟩, b.kp.trans a.kp, b.rs.trans a.rs, fun p h o e => b.hk p (by rw [a.kp, a.rs]; exact h) o (a.hk p h o e), fun p h x u e => b.ff p (a.fz p h) x u (a.ff p h x u e)⟩
theorem Rd.le {C C' : Cf} (l : Lv C C') {p : Addr} {u : HO} (f : C.fz p) (h : Rd C.H p u) (n : isFz u = false := by rfl) : Rd C'.H p u := (l.hf p f).r u n h
section
variable {G : Gl} {C C' : Cf}
mutual
theorem VR.mono0 (l : Lv C C') : ∀ {x : Val} {v : V}, VR G C x v → VR G C' x v
  | .non, v, h => by unfold VR at h ⊢; exact h
  | .bl _, v, h => by unfold VR at h ⊢; exact h
  | .int _, v, h => by unfold VR at h ⊢; exact h
  | .str _, v, h => by unfold VR at h ⊢; exact h
  | .lst xs, v, h => by
    unfold VR at h ⊢
    obtain ⟨p, ys, e, f, hp, r⟩ := h
    exact ⟨p, ys, e, l.fz p f, (l.hf p f).l _ hp, VRs.mono0 l r⟩
  | .tup xs, v, h => by
    unfold VR at h ⊢
    obtain ⟨p, ys, e, f, r⟩ := h
    exact ⟨p, ys, e, f.imp (fun f => ⟨l.fz p f.1, (l.hf p f.1).t _ f.2⟩) id, VRs.mono0 l r⟩
  | .dct kvs, v, h => by
    unfold VR at h ⊢
    obtain ⟨p, ys, e, f, hp, r⟩ := h
    exact ⟨p, ys, e, l.fz p f, Rd.le l f hp, VRk.mono0 l r⟩
  | .ref i, v, h => by
    unfold VR at h ⊢
    obtain ⟨p, e, h⟩ := h
    obtain ⟨t, ht⟩ := l.ρ
    refine ⟨p, ?_, h⟩
    rw [← ht, List.getElem?_append_left (List.getElem?_eq_some_iff.mp e).1]
    exact e
  | .scr ns, v, h => by
    unfold VR at h ⊢
    obtain ⟨p, e, f⟩ := h
    exact ⟨p, e, f.imp (fun f => ⟨l.fz p f.1, Rd.le l f.1 f.2⟩) id⟩
  | .bad, v, h => by unfold VR at h; exact h.elim
theorem VRs.mono0 (l : Lv C C') : ∀ {xs : List Val} {ys : List V}, VRs G C xs ys → VRs G C' xs ys
  | [], ys, h => by unfold VRs at h ⊢; exact h
  | x :: xs, ys, h => by
    unfold VRs at h ⊢
    obtain ⟨y, r, e, a, b⟩ := h
    exact ⟨y, r, e, VR.mono0 l a, VRs.mono0 l b⟩
theorem VRk.mono0 (l : Lv C C') : ∀ {xs : List (Key × Val)} {ys : List (Key × V)}, VRk G C xs ys → VRk G C' xs ys
  | [], ys, h => by unfold VRk at h ⊢; exact h
  | (k, x) :: xs, ys, h => by
    unfold VRk at h ⊢
    obtain ⟨y, r, e, a, b⟩ := h
    exact ⟨y, r, e, VR.mono0 l a, VRk.mono0 l b⟩
end
theorem VR.mono (l : Le C C') {x : Val} {v : V} (h : VR G C x v) : VR G C' x v := h.mono0 l.toLv
theorem VRs.mono (l : Le C C') {xs : List Val} {ys : List V} (h : VRs G C xs ys) : VRs G C' xs ys := h.mono0 l.toLv
theorem VRk.mono (l : Le C C') {xs : List (Key × Val)} {ys : List (Key × V)} (h : VRk G C xs ys) : VRk G C' xs ys := h.mono0 l.toLv
theorem VRf.mono0 (l : Lv C C') : ∀ {xs : List (Nat × Val)} {ys : List (Str × V)}, VRf G C xs ys → VRf G C' xs ys
  | [], ys, h => h
  | (k, x) :: xs, ys, h => by
    obtain ⟨y, r, e, o, a, b⟩ := h
    exact ⟨y, r, e, o, a.mono0 l, VRf.mono0 l b⟩
theorem CR.mono0 (l : Lv C C') {c : Cell} {o : Option HO} (h : CR G C c o) : CR G C' c o := by
  cases c with
  | lst xs lk => obtain ⟨ys, e, r⟩ := h; exact ⟨ys, e, r.mono0 l⟩
  | dct kvs lk => cases lk with
    | false => obtain ⟨ks, e, r⟩ := h; exact ⟨ks, e, r.mono0 l⟩
    | true => obtain ⟨ob, ks, e, r⟩ := h; exact ⟨ob, ks, e, r.mono0 l⟩
  | ins c fs => obtain ⟨dx, gs, e, r⟩ := h; exact ⟨dx, gs, e, r.mono0 l⟩
  | err c f x => obtain ⟨u, dd, y, e, z, k, r, v⟩ := h; exact ⟨u, dd, y, e, z, l.fz dd k, Rd.le l k r, v.mono0 l⟩
theorem CR.mono (l : Le C C') {c : Cell} {o : Option HO} (h : CR G C c o) : CR G C' c o := h.mono0 l.toLv
theorem CR.tr {c : Cell} {o : Option HO} (h : CR G C c o) : o ≠ none := by
  intro z; subst z
  cases c with
  | lst xs lk => obtain ⟨ys, e, r⟩ := h; cases e
  | dct kvs lk => cases lk with
    | false => obtain ⟨ks, e, r⟩ := h; cases e
    | true => obtain ⟨ob, ks, e, r⟩ := h; cases e
  | ins c fs => obtain ⟨dx, gs, e, r⟩ := h; cases e
  | err c f x => obtain ⟨u, dd, y, e, z, k, r, v⟩ := h; cases e
/-- of its own: nothing else knows the place -/
structure Fr (C : Cf) (p : Addr) : Prop where
  fz : ¬ C.fz p
  kp : ¬ C.kp p
  ρ : p ∉ C.ρ
  rs : ¬ C.rs p
end
section
variable (G : Gl)
/-- changed by nobody else: never what is walked -/
def free : Cell → Bool
  | .ins _ _ => true
  | c => unlocked c
theorem free_of {c : Cell} (u : unlocked c = true) : free c = true := by
  cases c with
  | ins _ _ => rfl
  | _ => exact u
structure Rel (C : Cf) (s : S) (σ : L2.St) : Prop where
  len : s.e.length = σ.length
  env : ∀ (i : Nat) (x : Val), s.e[i]? = some (.val x) → ∃ v, σ[i]? = some (some v) ∧ VR G C x v
  own : ∀ (i : Nat) (c : Cell), s.e[i]? = some (.own c) → ∃ p, σ[i]? = some (some (.ref p)) ∧ CR G C c (C.H p) ∧ ¬ C.fz p ∧ p ∉ C.ρ ∧ (unlocked c = true → ¬ C.kp p) ∧ ¬ C.rs p
  apart : ∀ (i j : Nat) (c d : Cell) (p : Addr), s.e[i]? = some (.own c) → s.e[j]? = some (.own d) → σ[i]? = some (some (.ref p)) → σ[j]? = some (some (.ref p)) → i = j
  hlen : s.h.length = C.ρ.length
  nd : C.ρ.Nodup
  cell : ∀ (n : Nat) (c : Cell) (p : Addr), s.h[n]? = some c → C.ρ[n]? = some p → CR G C c (C.H p) ∧ ¬ C.fz p ∧ (free c = true → ¬ C.kp p) ∧ ¬ C.rs p
  fztr : ∀ p, C.fz p → NT (C.H p)
  kptr : ∀ p, C.kp p ∨ C.rs p → NT (C.H p)
  fzkp : ∀ p, C.fz p → ¬ (C.kp p ∨ C.rs p)
  tabs : LamX.Tabs G.T C.H
def RvR (C : Cf) (s : S) (σ : L2.St) : Rv → V → Prop
  | .v x, v => VR G C x v
  | .f c, v => ∃ p, v = .ref p ∧ CR G C c (C.H p) ∧ Rs.Fr C p ∧ unlocked c = true ∧ ∀ (i : Nat) (c : Cell), s.e[i]? = some (Slot.own c) → σ[i]? ≠ some (some (.ref p))
  | .sl i, v => σ[i]? = some (some v)
end
end Rs
end
section
set_option maxRecDepth 100000
set_option maxHeartbeats 4000000
/-! Steps of a reading. -/
namespace Rs
open PySem PySem.Spec PyProof.Rows L2
section
variable {G : Gl} {C C' : Cf} {s s' : S} {σ : L2.St}

/-! ### values and lists of values -/
theorem VRs.length {C : Cf} : ∀ {xs : List Val} {ys : List V}, VRs G C xs ys → xs.length = ys.length
  | [], ys, h => by unfold VRs at h; subst h; rfl
  | x :: xs, ys, h => by
    unfold VRs at h
    obtain ⟨y, r, e, a, b⟩ := h
    subst e
    simp [VRs.length b]
theorem VRs.cons {C : Cf} {x : Val} {xs : List Val} {y : V} {ys : List V} (h : VR G C x y) (r : VRs G C xs ys) : VRs G C (x :: xs) (y :: ys) := by
  unfold VRs
  exact ⟨y, ys, rfl, h, r⟩
theorem VRs.nil {C : Cf} : VRs G C [] [] := by unfold VRs; rfl
theorem VRs.append {C : Cf} : ∀ {xs xs' : List Val} {ys ys' : List V}, VRs G C xs ys → VRs G C xs' ys' → VRs G C (xs ++ xs') (ys ++ ys')
  | [], _, ys, _, h, k => by unfold VRs at h; subst h; exact k
  | x :: xs, _, ys, _, h, k => by
    unfold VRs at h
    obtain ⟨y, r, e, a, b⟩ := h
    subst e
    exact VRs.cons a (VRs.append b k)
theorem VRs.get {C : Cf} : ∀ {xs : List Val} {ys : List V} {i : Nat} {x : Val}, VRs G C xs ys → xs[i]? = some x → ∃ y, ys[i]? = some y ∧ VR G C x y
  | [], _, _, _, _, e => by simp at e
  | x :: xs, ys, i, z, h, e => by
    unfold VRs at h
    obtain ⟨y, r, e', a, b⟩ := h
    subst e'
    cases i with
    | zero => simp at e; subst e; exact ⟨y, rfl, a⟩
    | succ i =>
      obtain ⟨w, h1, h2⟩ := VRs.get b (i := i) (x := z) (by simpa using e)
      exact ⟨w, by simpa using h1, h2⟩
theorem VRs.map {C : Cf} {α : Type} {f : α → Val} {g : α → V} (h : ∀ a, VR G C (f a) (g a)) : ∀ xs : List α, VRs G C (xs.map f) (xs.map g)
  | [] => VRs.nil
  | x :: xs => VRs.cons (h x) (VRs.map h xs)
theorem VRs.take {C : Cf} : ∀ {xs : List Val} {ys : List V} (n : Nat), VRs G C xs ys → VRs G C (xs.take n) (ys.take n)
  | _, _, 0, _ => by simp; exact VRs.nil
  | [], ys, n + 1, h => by unfold VRs at h; subst h; simp; exact VRs.nil
  | x :: xs, ys, n + 1, h => by
    unfold VRs at h
    obtain ⟨y, r, e, a, b⟩ := h
    subst e
    simp only [List.take_succ_cons]
    exact VRs.cons a (VRs.take n b)
theorem VRs.drop {C : Cf} : ∀ {xs : List Val} {ys : List V} (n : Nat), VRs G C xs ys → VRs G C (xs.drop n) (ys.drop n)
  | _, _, 0, h => by simpa using h
  | [], ys, n + 1, h => by unfold VRs at h; subst h; simp; exact VRs.nil
  | x :: xs, ys, n + 1, h => by
    unfold VRs at h
    obtain ⟨y, r, e, a, b⟩ := h
    subst e
    simp only [List.drop_succ_cons]
    exact VRs.drop n b
theorem VRs.set {C : Cf} {x : Val} {y : V} (hx : VR G C x y) : ∀ {xs : List Val} {ys : List V} (n : Nat), VRs G C xs ys → VRs G C (xs.set n x) (ys.set n y)
  | [], ys, _, h => by unfold VRs at h; subst h; simp; exact VRs.nil
  | z :: xs, ys, n, h => by
    unfold VRs at h
    obtain ⟨w, r, e, a, b⟩ := h
    subst e
    cases n with
    | zero => exact VRs.cons hx b
    | succ n => exact VRs.cons a (VRs.set hx n b)
theorem VRs.eraseIdx {C : Cf} : ∀ {xs : List Val} {ys : List V} (n : Nat), VRs G C xs ys → VRs G C (xs.eraseIdx n) (ys.eraseIdx n)
  | [], ys, _, h => by unfold VRs at h; subst h; simp; exact VRs.nil
  | z :: xs, ys, n, h => by
    unfold VRs at h
    obtain ⟨w, r, e, a, b⟩ := h
    subst e
    cases n with
    | zero => simpa using b
    | succ n => simp only [List.eraseIdx_cons_succ]; exact VRs.cons a (VRs.eraseIdx n b)
theorem VRs.reverse {C : Cf} : ∀ {xs : List Val} {ys : List V}, VRs G C xs ys → VRs G C xs.reverse ys.reverse
  | [], ys, h => by unfold VRs at h; subst h; exact VRs.nil
  | x :: xs, ys, h => by
    unfold VRs at h
    obtain ⟨y, r, e, a, b⟩ := h
    subst e
    simp only [List.reverse_cons]
    exact (VRs.reverse b).append (VRs.cons a VRs.nil)
theorem VRs.rep {C : Cf} {xs : List Val} {ys : List V} (h : VRs G C xs ys) : ∀ k : Nat, VRs G C (List.replicate k xs).flatten (List.replicate k ys).flatten
  | 0 => VRs.nil
  | k + 1 => by simp only [List.replicate_succ, List.flatten_cons]; exact h.append (VRs.rep h k)

theorem cr_nt {C : Cf} {c : Cell} {o : Option HO} (h : CR G C c o) {u : HO} (e : o = some u) : (∀ ps, u ≠ .tbl ps) ∧ ∀ φ, u ≠ .ext φ := by
  cases c with
  | lst xs _ =>
    obtain ⟨ys, e2, _⟩ := h
    rw [e2] at e; cases e
    exact ⟨fun _ z => (nomatch z), fun _ z => (nomatch z)⟩
  | dct kvs b =>
    cases b with
    | false =>
      obtain ⟨ys, e2, _⟩ := h
      rw [e2] at e; cases e
      exact ⟨fun _ z => (nomatch z), fun _ z => (nomatch z)⟩
    | true =>
      obtain ⟨ob, ys, e2, _⟩ := h
      rw [e2] at e; cases e
      exact ⟨fun _ z => (nomatch z), fun _ z => (nomatch z)⟩
  | ins c fs =>
    obtain ⟨ob, ys, e2, _⟩ := h
    rw [e2] at e; cases e
    exact ⟨fun _ z => (nomatch z), fun _ z => (nomatch z)⟩
  | err c f x =>
    obtain ⟨ob, _, _, e2, _⟩ := h
    rw [e2] at e; cases e
    exact ⟨fun _ z => (nomatch z), fun _ z => (nomatch z)⟩
theorem CR.nt {C : Cf} {c : Cell} {o : Option HO} (h : CR G C c o) : NT o := by
  cases q : o with
  | none => exact absurd q h.tr
  | some u => exact ⟨u, rfl, (cr_nt h q).1⟩
/-! ### the reading changes -/
/-- a new thing that nobody knows yet -/
abbrev Cf.new (C : Cf) (p : Addr) (o : HO) : Cf := { C with H := upd C.H p o }
theorem Le.new {p : Addr} {o : HO} (n : C.H p = none) : Le C (C.new p o) :=
  .of rfl (fun _ h => h) rfl rfl fun q _ u e => by show upd C.H p o q = _; rw [upd_ne (ne_of_none e n)]; exact e
theorem notfz (r : Rel G C s σ) {p : Addr} (n : C.H p = none) : ¬ C.fz p := fun h => (r.fztr p h).ne n
theorem notkp (r : Rel G C s σ) {p : Addr} (n : C.H p = none) : ¬ C.kp p := fun h => (r.kptr p (.inl h)).ne n
theorem notrs (r : Rel G C s σ) {p : Addr} (n : C.H p = none) : ¬ C.rs p := fun h => (r.kptr p (.inr h)).ne n
theorem ρtr (r : Rel G C s σ) {p : Addr} (h : p ∈ C.ρ) : C.H p ≠ none := by
  obtain ⟨n, hn, e⟩ := List.getElem_of_mem h
  have h1 : n < s.h.length := by rw [r.hlen]; exact hn
  exact (r.cell n s.h[n] p (by simp [h1]) (by rw [List.getElem?_eq_getElem hn, e])).1.tr
theorem notρ (r : Rel G C s σ) {p : Addr} (n : C.H p = none) : p ∉ C.ρ := fun h => ρtr r h n
theorem Rel.fresh (r : Rel G C s σ) {p : Addr} (n : C.H p = none) : Fr C p := ⟨notfz r n, notkp r n, notρ r n, notrs r n⟩
/-- the things known are where they were -/
theorem Rel.le (r : Rel G C s σ) (l : Le C C') (hρ : C'.ρ = C.ρ) (ho : ∀ (i : Nat) c p, s.e[i]? = some (.own c) → σ[i]? = some (some (.ref p)) → C'.H p = C.H p) (hfz : ∀ p, C'.fz p → C.fz p ∨ (Fr C p ∧ NT (C'.H p) ∧ ∀ (i : Nat) c, s.e[i]? = some (.own c) → σ[i]? ≠ some (some (.ref p))))
    (hc : ∀ p, p ∈ C.ρ → C'.H p = C.H p) (ht : LamX.Tabs G.T C'.H) : Rel G C' s σ where
  len := r.len
  env := fun i x h => let ⟨v, a, b⟩ := r.env i x h; ⟨v, a, b.mono l⟩
  own := fun i c h => by
    obtain ⟨p, a, b, d, e, f⟩ := r.own i c h
    refine ⟨p, a, by rw [ho i c p h a]; exact b.mono l, fun z => ?_, by rw [hρ]; exact e, fun u => by rw [l.kp]; exact f.1 u, by rw [l.rs]; exact f.2⟩
    rcases hfz p z with z | ⟨z, _, y⟩
    · exact d z
    · exact y i c h a
  apart := r.apart
  hlen := by rw [hρ]; exact r.hlen
  nd := by rw [hρ]; exact r.nd
  cell := fun n c p h e => by
    rw [hρ] at e
    obtain ⟨a, b, d⟩ := r.cell n c p h e
    refine ⟨by rw [hc p (List.mem_of_getElem? e)]; exact a.mono l, fun z => ?_, fun u => by rw [l.kp]; exact d.1 u, by rw [l.rs]; exact d.2⟩
    rcases hfz p z with z | ⟨z, _, _⟩
    · exact b z
    · exact z.ρ (List.mem_of_getElem? e)
  fztr := fun p z => by
    rcases hfz p z with z | ⟨z, y, _⟩
    · exact (l.hf p z).tr (r.fztr p z)
    · exact y
  kptr := fun p z => by
    rw [l.kp, l.rs] at z
    obtain ⟨u, e, n⟩ := r.kptr p z
    exact ⟨u, l.hk p z u e, n⟩
  fzkp := fun p z k => by
    rw [l.kp, l.rs] at k
    rcases hfz p z with z | ⟨z, _, _⟩
    · exact r.fzkp p z k
    · exact k.elim z.kp z.rs
  tabs := ht
theorem own_tr (r : Rel G C s σ) {i : Nat} {c : Cell} {p : Addr} (h : s.e[i]? = some (.own c)) (a : σ[i]? = some (some (.ref p))) : C.H p ≠ none := by
  obtain ⟨q, a', b, _⟩ := r.own i c h
  rw [a] at a'
  cases a'
  exact b.tr
theorem Rel.new (r : Rel G C s σ) {p : Addr} {o : HO} (n : C.H p = none) : Rel G (C.new p o) s σ :=
  r.le (Le.new n) rfl (fun i c q h a => upd_ne fun z => own_tr r h a (z ▸ n)) (fun q z => .inl z) (fun q h => upd_ne fun z => ρtr r h (z ▸ n)) (tabs_put r.tabs fun u e => by rw [n] at e; cases e)
/-- a thing of its own becomes one that never changes -/
abbrev Cf.ice (C : Cf) (p : Addr) : Cf := { C with fz := fun q => C.fz q ∨ q = p }
theorem Le.ice {p : Addr} : Le C (C.ice p) := .of rfl (fun _ h => .inl h) rfl rfl fun _ _ _ h => h
theorem Rel.ice (r : Rel G C s σ) {p : Addr} (f : Fr C p) (t : NT (C.H p)) (ho : ∀ (i : Nat) c, s.e[i]? = some (.own c) → σ[i]? ≠ some (some (.ref p))) : Rel G (C.ice p) s σ :=
  r.le Le.ice rfl (fun _ _ _ _ _ => rfl) (fun q z => z.imp id fun z => by subst z; exact ⟨f, t, ho⟩) (fun _ _ => rfl) r.tabs
theorem RvR.tr {c : Cell} {v : V} (h : RvR G C s σ (.f c) v) : ∃ p, v = .ref p ∧ C.H p ≠ none := by
  obtain ⟨p, e, a, _⟩ := h
  exact ⟨p, e, a.tr⟩
/-- a new list, a new dict as a value -/
theorem imm_ok {c : Cell} {p : Addr} (h : CR G C c (C.H p)) (u : unlocked c = true) : VR G (C.ice p) (imm c) (.ref p) := by
  cases c with
  | lst xs lk =>
    obtain ⟨ys, e, r⟩ := h
    show VR G _ (.lst xs) _
    unfold VR
    exact ⟨p, ys, rfl, .inr rfl, e, r.mono Le.ice⟩
  | dct kvs lk =>
    cases lk with
    | true => cases u
    | false =>
      obtain ⟨ks, e, r⟩ := h
      show VR G _ (.dct kvs) _
      unfold VR
      exact ⟨p, ks, rfl, .inr rfl, .inl e, r.mono Le.ice⟩
  | ins c fs => cases u
  | err c f x => cases u
theorem freeze_ok (r : Rel G C s σ) {x : Rv} {v : V} {y : Val} (h : RvR G C s σ x v) (e : freeze x = some y) : ∃ C', Le C C' ∧ C'.H = C.H ∧ Rel G C' s σ ∧ VR G C' y v := by
  cases x with
  | v x => cases e; exact ⟨C, .refl C, rfl, r, h⟩
  | f c =>
    cases e
    obtain ⟨p, e, a, f, u, d⟩ := h
    subst e
    exact ⟨C.ice p, .ice, rfl, r.ice f a.nt d, imm_ok a u⟩
  | sl i => cases e
/-- an operand -/
def OR (G : Gl) (C : Cf) (s : S) (σ : L2.St) : Rv → V → Prop
  | .v x, v => VR G C x v
  | .f _, _ => False
  | .sl i, v => σ[i]? = some (some v)
theorem opnd_ok (r : Rel G C s σ) {x : Rv} {v : V} (h : RvR G C s σ x v) : ∃ C', Le C C' ∧ C'.H = C.H ∧ Rel G C' s σ ∧ OR G C' s σ (opnd x) v := by
  cases x with
  | v x => exact ⟨C, .refl C, rfl, r, h⟩
  | f c =>
    obtain ⟨p, e, a, f, u, d⟩ := h
    subst e
    exact ⟨C.ice p, .ice, rfl, r.ice f a.nt d, imm_ok a u⟩
  | sl i => exact ⟨C, .refl C, rfl, r, h⟩
theorem OR.mono (l : Le C C') {x : Rv} {v : V} (h : OR G C s σ x v) : OR G C' s' σ x v := by
  cases x with
  | v x => exact VR.mono l h
  | f c => exact h
  | sl i => exact h
theorem VR.nr {x : Val} {v : V} (h : VR G C x v) : NR G C x v := by
  cases x with
  | lst xs => unfold VR at h; obtain ⟨p, ys, e, _, a, b⟩ := h; exact ⟨p, ys, e, a, b⟩
  | dct xs => unfold VR at h; obtain ⟨p, ys, e, _, a, b⟩ := h; exact ⟨p, ys, e, a, b⟩
  | _ => exact h
theorem CR.nr {c : Cell} {p : Addr} (h : CR G C c (C.H p)) (b : imm c ≠ .bad) : NR G C (imm c) (.ref p) := by
  cases c with
  | lst xs lk => obtain ⟨ys, e, r⟩ := h; exact ⟨p, ys, rfl, e, r⟩
  | dct kvs lk =>
    cases lk with
    | true => obtain ⟨ob, ks, e, r⟩ := h; exact ⟨p, ks, rfl, .inr ⟨ob, e⟩, r⟩
    | false => obtain ⟨ks, e, r⟩ := h; exact ⟨p, ks, rfl, .inl e, r⟩
  | ins c fs => exact (b rfl).elim
  | err c f x => exact (b rfl).elim
theorem deref_ok (r : Rel G C s σ) {x : Rv} {v : V} (h : OR G C s σ x v) (b : deref s x ≠ .bad) : NR G C (deref s x) v := by
  cases x with
  | v x =>
    cases x with
    | ref i =>
      have h' := h
      simp only [OR] at h
      unfold VR at h
      obtain ⟨p, e, hv⟩ := h
      subst hv
      unfold deref at b ⊢
      cases q : s.h[i]? with
      | none => simp only [q] at b ⊢; exact h'
      | some c =>
        have hc := (r.cell i c p q e).1
        cases c with
        | lst xs lk => simp only [q]; exact CR.nr (c := .lst xs lk) hc (by simp [imm])
        | dct xs lk => simp only [q]; exact CR.nr (c := .dct xs lk) hc (by simp [imm])
        | ins _ _ => simp only [q]; exact h'
        | err _ _ _ => simp only [q]; exact h'
    | _ => exact VR.nr h
  | f c => exact h.elim
  | sl i =>
    unfold deref at b ⊢
    cases q : s.e[i]? with
    | none => simp [q] at b
    | some t =>
      cases t with
      | own c =>
        simp only [q] at b ⊢
        obtain ⟨p, a, k, _⟩ := r.own i c q
        have h : σ[i]? = some (some v) := h
        rw [a] at h
        cases h
        exact k.nr b
      | _ => simp [q] at b
end

/-! ### expressions -/
def tE (G : Gl) (f : S → R Rv) : TE := fun σ H Q => ∃ C s x s', C.H = H ∧ Rel G C s σ ∧ f s = .ok x s' ∧ ∀ C' v, Le C C' → Rel G C' s' σ → RvR G C' s' σ x v → Q v C'.H
def tV (G : Gl) (f : S → R Val) : TE := fun σ H Q => ∃ C s x s', C.H = H ∧ Rel G C s σ ∧ f s = .ok x s' ∧ ∀ C' v, Le C C' → Rel G C' s' σ → VR G C' x v → Q v C'.H
def tO (G : Gl) (f : S → R Rv) : TE := fun σ H Q => ∃ C s x s', C.H = H ∧ Rel G C s σ ∧ f s = .ok x s' ∧ ∀ C' v, Le C C' → Rel G C' s' σ → OR G C' s' σ (opnd x) v → Q v C'.H
def tBo (G : Gl) (f : S → R Bool) : TT := fun σ H Q => ∃ C s b s', C.H = H ∧ Rel G C s σ ∧ f s = .ok b s' ∧ ∀ C', Le C C' → Rel G C' s' σ → Q b C'.H
section
variable {G : Gl} {X : Cx} {e : Expr}
theorem PE.weak {t t' : TE} (h : PE X e t) (w : ∀ σ H Q, t' σ H Q → t σ H Q) : PE X e t' := ⟨fun pins s σ H Q I q => h.run pins s σ H Q I (w σ H Q q)⟩
theorem PT.weak {t t' : TT} (h : PT X e t) (w : ∀ σ H Q, t' σ H Q → t σ H Q) : PT X e t' := ⟨fun pins s σ H Q I q => h.run pins s σ H Q I (w σ H Q q)⟩
theorem tV_of {f : S → R Rv} {σ : L2.St} {H : Hp} {Q : VK} (h : tV G (fun s => (f s).val) σ H Q) : tE G f σ H Q := by
  obtain ⟨C, s, x, s', hH, r, e, k⟩ := h
  cases q : f s with
  | ok y s1 =>
    simp only [q, R.val, R.bind] at e
    cases z : freeze y with
    | none => simp [z, R.opt] at e
    | some w =>
      simp only [z, R.opt, R.ok.injEq] at e
      obtain ⟨rfl, rfl⟩ := e
      refine ⟨C, s, y, s1, hH, r, q, fun C' v l r' h' => ?_⟩
      obtain ⟨C2, l2, h2, r2, v2⟩ := freeze_ok r' h' z
      rw [← h2]
      exact k C2 v (l.trans l2) r2 v2
  | exc c p s1 => simp [q, R.val, R.bind] at e
  | bad => simp [q, R.val, R.bind] at e
theorem tO_of {f : S → R Rv} {σ : L2.St} {H : Hp} {Q : VK} (h : tO G f σ H Q) : tE G f σ H Q := by
  obtain ⟨C, s, x, s', hH, r, e, k⟩ := h
  refine ⟨C, s, x, s', hH, r, e, fun C' v l r' h' => ?_⟩
  obtain ⟨C2, l2, h2, r2, v2⟩ := opnd_ok r' h'
  rw [← h2]
  exact k C2 v (l.trans l2) r2 v2
end
end Rs
end
section
set_option maxRecDepth 100000
set_option maxHeartbeats 4000000
/-! Tuples: t[::1], t[::-1], sorted(t). -/
namespace HT
open PySem PySem.Spec PyProof.Rows
section
variable {prog : Program} {w : World} {A : Around} {E : Value → Shared → Prop} {s : Shared}
end
end HT
namespace PySem.W
open PySem PySem.Calls PyProof.Rows
section
variable {prog : Program} {w : World} {A : Around} {E : Value → Shared → Prop} {s : Shared} {κ : PyProof.Rows.KeyKind}
end
section
variable {β : Type} {prog : Program} {w : World} {A : Around} {E : Value → Shared → Prop} {s : Shared} {enc : β → PyData} {R : Value → β → Prop} {vs : List Value} {bs : List β}
end
end PySem.W
end
section
set_option maxRecDepth 100000
set_option maxHeartbeats 4000000
/-! Operators, comparisons: the model's answer is the interpreter's. -/
namespace Rs
open PySem PySem.Spec PyProof.Rows L2

/-! ### data that is read -/
section
variable {G : Gl} {X : Cx} {pins : List (Addr × Obj)} {σ : L2.St} {H : Hp} {s : Shared} {C : Cf}
theorem KTup.seq {K : PySem.W.Frag} {p : Addr} {ys : List V} (h : KTup K p ys) : SqT K H p ys := .inr h
theorem KLst.seq {K : PySem.W.Frag} {p : Addr} {ys : List V} (h : KLst K p ys) : SqL K H p ys := .inr h
theorem tup_seq {K : PySem.W.Frag} {p : Addr} {ys : List V} (h : (C.fz p ∧ C.H p = some (.tup ys)) ∨ KTup K p ys) : SqT K C.H p ys := h.elim (fun h => .inl (.inl h.2)) KTup.seq
theorem scr_seq {K : PySem.W.Frag} {p : Addr} {ys : List V} (h : (C.fz p ∧ Rd C.H p (.lst ys)) ∨ KLst K p ys) : SqL K C.H p ys := h.elim (fun h => .inl h.2) KLst.seq
def Gl.Sys (G : Gl) : Prop := ∃ o, G.K.lookup sysModules = some o ∧ o.cls = .type "dict"
mutual
theorem VR.reads (I : Inv X pins σ C.H s) (hK : X.K = G.K) (hS : G.Sys) : ∀ (x : Val) (v : V) (u : Value) (d : PyData), VR G C x v → RelV v u → toD x = some d → ∃ as, Reads s.heap u d as ∧ (sysModules ∉ as)
  | .non, _, _, _, h, r, e => by
    unfold VR at h; subst h; cases r; unfold toD at e; cases e
    exact ⟨_, .none, by simp⟩
  | .bl b, _, _, _, h, r, e => by
    unfold VR at h; subst h; cases r; unfold toD at e; cases e
    exact ⟨_, .bool b, by simp⟩
  | .int i, _, _, _, h, r, e => by
    unfold VR at h; subst h; obtain ⟨t, rfl⟩ := r; unfold toD at e; cases e
    exact ⟨_, .int i t, by simp⟩
  | .str x, _, _, _, h, r, e => by
    unfold VR at h; subst h; obtain ⟨t, rfl⟩ := r; unfold toD at e; cases e
    exact ⟨_, .str x t, by simp⟩
  | .lst xs, _, _, d, h, r, e => by
    unfold VR at h
    obtain ⟨p, ys, e1, f, hp, hr⟩ := h
    subst e1; cases r
    unfold toD at e
    cases q : toDs xs with
    | none => simp [q] at e
    | some ds =>
      simp only [q, Option.some.injEq] at e
      subst e
      obtain ⟨its, rv, ⟨o, n, ho, hc, _, hd⟩, _⟩ := I.list (SqL.of hp)
      obtain ⟨as, hr', hs⟩ := VRs.reads I hK hS xs ys its ds hr rv q
      refine ⟨_, .list ho hc hd hr', fun z => ?_⟩
      rcases List.mem_cons.mp z with z | z
      · subst z
        obtain ⟨o', h1, h2⟩ := hS
        have h3 := I.kIn _ _ (by rw [hK]; exact h1)
        rw [ho] at h3; cases h3
        rw [hc] at h2; simp at h2
      · exact hs z
  | .tup xs, _, _, d, h, r, e => by
    unfold VR at h
    obtain ⟨p, ys, e1, f, hr⟩ := h
    subst e1; cases r
    unfold toD at e
    cases q : toDs xs with
    | none => simp [q] at e
    | some ds =>
      simp only [q, Option.some.injEq] at e
      subst e
      obtain ⟨its, rv, ⟨o, ho, hc, n, hd⟩, _⟩ := I.tuple (by rw [hK]; exact tup_seq f)
      obtain ⟨as, hr', hs⟩ := VRs.reads I hK hS xs ys its ds hr rv q
      exact ⟨_, .tuple ho hc hd hr', hs⟩
  | .dct kvs, _, _, d, h, r, e => by
    unfold VR at h
    obtain ⟨p, ks, e1, f, hp, hr⟩ := h
    subst e1; cases r
    unfold toD at e
    cases q : toDk kvs with
    | none => simp [q] at e
    | some ds =>
      simp only [q, Option.some.injEq] at e
      subst e
      obtain ⟨z, hd, vs, rel, o, es, ep, ho, hc, hdt, _, hpr, _⟩ := dk_rd I.hok hp
      obtain ⟨as, bs, h1, h2, h3, h4⟩ := VRk.reads I hK hS kvs ks vs es.toList ds hr rel hpr q
      refine ⟨_, .dict ho hc.1 hdt h1 h2, fun z => ?_⟩
      rcases List.mem_append.mp z with z | z
      · rcases List.mem_cons.mp z with z | z
        · subst z; simp at hd
        · exact h3 z
      · exact h4 z
  | .ref _, _, _, _, _, _, e => by unfold toD at e; cases e
  | .scr _, _, _, _, _, _, e => by unfold toD at e; cases e
  | .bad, _, _, _, _, _, e => by unfold toD at e; cases e
theorem VRs.reads (I : Inv X pins σ C.H s) (hK : X.K = G.K) (hS : G.Sys) : ∀ (xs : List Val) (vs : List V) (us : List Value) (ds : List PyData), VRs G C xs vs → Vals vs us → toDs xs = some ds → ∃ as, ReadsAll s.heap us ds as ∧ sysModules ∉ as
  | [], _, _, _, h, r, e => by
    unfold VRs at h; subst h; cases r; unfold toDs at e; cases e
    exact ⟨_, .nil, by simp⟩
  | x :: xs, _, _, ds, h, r, e => by
    unfold VRs at h
    obtain ⟨y, r', e1, a, b⟩ := h
    subst e1
    cases r with
    | cons r1 r2 =>
      unfold toDs at e
      cases q : toD x with
      | none => simp [q] at e
      | some d =>
        cases q2 : toDs xs with
        | none => simp [q, q2] at e
        | some ds =>
          simp only [q, q2, Option.some.injEq] at e
          subst e
          obtain ⟨as, k1, n1⟩ := VR.reads I hK hS x _ _ d a r1 q
          obtain ⟨bs, k2, n2⟩ := VRs.reads I hK hS xs _ _ ds b r2 q2
          exact ⟨_, .cons k1 k2, fun z => (List.mem_append.mp z).elim n1 n2⟩
theorem VRk.reads (I : Inv X pins σ C.H s) (hK : X.K = G.K) (hS : G.Sys) : ∀ (xs : List (Key × Val)) (ks : List (Key × V)) (vs : List (Key × Value)) (es : List DictEntry) (ds : List (PyData × PyData)), VRk G C xs ks → KV ks vs → Pairs (mixKind X.prog X.w) es vs → toDk xs = some ds →
    ∃ as bs, ReadsAll s.heap (es.map (·.key)) (ds.map (·.1)) as ∧ ReadsAll s.heap (es.map (·.val)) (ds.map (·.2)) bs ∧ sysModules ∉ as ∧ sysModules ∉ bs
  | [], _, _, _, _, h, r, p, e => by
    unfold VRk at h; subst h; cases r; cases p; unfold toDk at e; cases e
    exact ⟨_, _, .nil, .nil, by simp, by simp⟩
  | (k, x) :: xs, _, _, _, ds, h, r, p, e => by
    unfold VRk at h
    obtain ⟨y, r', e1, a, b⟩ := h
    subst e1
    cases r with
    | cons r1 r2 =>
      cases p with
      | cons p1 p2 p3 =>
        unfold toDk at e
        cases q : toD x with
        | none => simp [q] at e
        | some d =>
          cases q2 : toDk xs with
          | none => simp [q, q2] at e
          | some ds =>
            simp only [q, q2, Option.some.injEq] at e
            subst e
            obtain ⟨rk, rv⟩ := r1
            obtain ⟨bs, k1, n1⟩ := VR.reads I hK hS x _ _ d a rv q
            obtain ⟨as2, bs2, k2, k3, n2, n3⟩ := VRk.reads I hK hS xs _ _ _ ds b r2 p3 q2
            rw [← p2] at k1
            rw [← rk, mixKind_is] at p1
            rcases keyIs_shape p1 with ⟨i, t, rfl, e⟩ | ⟨z, t, rfl, e⟩
            · exact ⟨_, _, .cons (as := []) (by show Reads _ (DictEntry.key _) (.int i) []; rw [e]; exact .int i t) k2, .cons k1 k3, by simpa using n2, fun z => (List.mem_append.mp z).elim n1 n3⟩
            · exact ⟨_, _, .cons (as := []) (by show Reads _ (DictEntry.key _) (.str _) []; rw [e]; exact .str _ t) k2, .cons k1 k3, by simpa using n2, fun z => (List.mem_append.mp z).elim n1 n3⟩
end
theorem NR.reads (I : Inv X pins σ C.H s) (hK : X.K = G.K) (hS : G.Sys) {x : Val} {v : V} {u : Value} {d : PyData} (h : NR G C x v) (r : RelV v u) (e : toD x = some d) : ∃ as, Reads s.heap u d as ∧ (sysModules ∉ as) := by
  cases x with
  | lst xs =>
    obtain ⟨p, ys, e1, hp, hr⟩ := h
    subst e1; cases r
    unfold toD at e
    cases q : toDs xs with
    | none => simp [q] at e
    | some ds =>
      simp only [q, Option.some.injEq] at e
      subst e
      obtain ⟨its, rv, ⟨o, n, ho, hc, _, hd⟩, _⟩ := I.list (SqL.of hp)
      obtain ⟨as, hr', hs⟩ := VRs.reads I hK hS xs ys its ds hr rv q
      refine ⟨_, .list ho hc hd hr', fun z => ?_⟩
      rcases List.mem_cons.mp z with z | z
      · subst z
        obtain ⟨o', h1, h2⟩ := hS
        have h3 := I.kIn _ _ (by rw [hK]; exact h1)
        rw [ho] at h3; cases h3
        rw [hc] at h2; simp at h2
      · exact hs z
  | dct kvs =>
    obtain ⟨p, ks, e1, hp, hr⟩ := h
    subst e1; cases r
    unfold toD at e
    cases q : toDk kvs with
    | none => simp [q] at e
    | some ds =>
      simp only [q, Option.some.injEq] at e
      subst e
      obtain ⟨z, hd, vs, rel, o, es, ep, ho, hc, hdt, _, hpr, _⟩ := dk_rd I.hok hp
      obtain ⟨as, bs, h1, h2, h3, h4⟩ := VRk.reads I hK hS kvs ks vs es.toList ds hr rel hpr q
      refine ⟨_, .dict ho hc.1 hdt h1 h2, fun z => ?_⟩
      rcases List.mem_append.mp z with z | z
      · rcases List.mem_cons.mp z with z | z
        · subst z; simp at hd
        · exact h3 z
      · exact h4 z
  | _ => exact VR.reads I hK hS _ v u d h r e
end

/-! ### operators -/
theorem OpR.any {X : Cx} {f : Value → Value → Sem Value} : OpR X f (fun x y H Q => ∃ r : R2, OpR X f r ∧ r x y H Q) := fun pins s σ H x y v u Q I rx ry ⟨r, h, q⟩ => h pins s σ H x y v u Q I rx ry q
/-- what an operator gives -/
def OpI (G : Gl) (X : Cx) (f : Value → Value → Sem Value) (g : Val → Val → Option Rv) : Prop :=
  ∀ (C : Cf) (s : S) (σ : L2.St) (x y : Val) (v w : V) (r : Rv) (Q : VK), Rel G C s σ → NR G C x v → NR G C y w → g x y = some r → (∀ C' z, Le C C' → Rel G C' s σ → RvR G C' s σ r z → Q z C'.H) → ∃ r2 : R2, OpR X f r2 ∧ r2 v w C.H Q
section
variable {G : Gl} {X : Cx} {C : Cf} {s : S} {σ : L2.St} {Q : VK}
theorem NR.int {i : Int} {v : V} (h : NR G C (.int i) v) : v = .int i := by unfold NR at h; unfold VR at h; exact h
theorem NR.str {i : Str} {v : V} (h : NR G C (.str i) v) : v = .str i := by unfold NR at h; unfold VR at h; exact h
theorem NR.bl {i : Bool} {v : V} (h : NR G C (.bl i) v) : v = .bl i := by unfold NR at h; unfold VR at h; exact h
theorem NR.non {v : V} (h : NR G C .non v) : v = .non := by unfold NR at h; unfold VR at h; exact h
theorem NR.tup {xs : List Val} {v : V} (h : NR G C (.tup xs) v) : ∃ p ys, v = .ref p ∧ SqT G.K C.H p ys ∧ VRs G C xs ys := by
  unfold NR at h; unfold VR at h
  obtain ⟨p, ys, e, f, r⟩ := h
  exact ⟨p, ys, e, tup_seq f, r⟩
theorem NR.scr {ns : List Int} {v : V} (h : NR G C (.scr ns) v) : ∃ p, v = .ref p ∧ SqL G.K C.H p (ns.map V.int) := by
  unfold NR at h; unfold VR at h
  obtain ⟨p, e, f⟩ := h
  exact ⟨p, e, scr_seq f⟩
theorem out_v (r : Rel G C s σ) {x : Val} {v : V} (hx : VR G C x v) (k : ∀ C' z, Le C C' → Rel G C' s σ → RvR G C' s σ (.v x) z → Q z C'.H) : Q v C.H := k C v (.refl C) r hx
theorem VR.int {i : Int} : VR G C (.int i) (.int i) := by unfold VR; rfl
theorem VR.str {i : Str} : VR G C (.str i) (.str i) := by unfold VR; rfl
theorem VR.bl {i : Bool} : VR G C (.bl i) (.bl i) := by unfold VR; rfl
theorem VR.non : VR G C .non .non := by unfold VR; rfl
/-- a new list -/
theorem out_l (r : Rel G C s σ) {xs : List Val} {ys : List V} (h : VRs G C xs ys) {p : Addr} (n : C.H p = none) (k : ∀ C' z, Le C C' → Rel G C' s σ → RvR G C' s σ (.f (.lst xs false)) z → Q z C'.H) : Q (.ref p) (upd C.H p (.lst ys)) :=
  k (C.new p (.lst ys)) (.ref p) (Le.new n) (r.new n) ⟨p, rfl, ⟨ys, upd_same, h.mono (Le.new n)⟩, ⟨(r.fresh n).fz, (r.fresh n).kp, (r.fresh n).ρ, (r.fresh n).rs⟩, rfl, fun i c h z => own_tr r h z n⟩
theorem out_d (r : Rel G C s σ) {xs : List (Key × Val)} {ys : List (Key × V)} (h : VRk G C xs ys) {p : Addr} (n : C.H p = none) (k : ∀ C' z, Le C C' → Rel G C' s σ → RvR G C' s σ (.f (.dct xs false)) z → Q z C'.H) : Q (.ref p) (upd C.H p (.dK ys)) :=
  k (C.new p (.dK ys)) (.ref p) (Le.new n) (r.new n) ⟨p, rfl, ⟨ys, upd_same, h.mono (Le.new n)⟩, ⟨(r.fresh n).fz, (r.fresh n).kp, (r.fresh n).ρ, (r.fresh n).rs⟩, rfl, fun i c h z => own_tr r h z n⟩
/-- a new tuple -/
theorem out_t (r : Rel G C s σ) {xs : List Val} {ys : List V} (h : VRs G C xs ys) {p : Addr} (n : C.H p = none) (k : ∀ C' z, Le C C' → Rel G C' s σ → RvR G C' s σ (.v (.tup xs)) z → Q z C'.H) : Q (.ref p) (upd C.H p (.tup ys)) := by
  have r1 := r.new (o := .tup ys) n
  have f := r.fresh n
  refine k ((C.new p (.tup ys)).ice p) (.ref p) ((Le.new n).trans .ice) (r1.ice ⟨f.fz, f.kp, f.ρ, f.rs⟩ (nt_upd fun ps z => nomatch z) fun i c h z => own_tr r h z n) ?_
  show VR G _ (.tup xs) _
  unfold VR
  exact ⟨p, ys, rfl, .inl ⟨.inr rfl, upd_same⟩, h.mono ((Le.new n).trans .ice)⟩
theorem okMul_c {i j : Int} (h : okMul i j = true) : CMul i j := by
  unfold okMul at h
  simp only [Bool.or_eq_true, Bool.and_eq_true, decide_eq_true_eq] at h
  exact h
theorem op_mul_str : OpR X (binaryOp .Mult) (fun x y H Q => ∃ (i : PySem.Str) (n : Int), x = .str i ∧ y = .int n ∧ i.length ≤ 1000 ∧ 1 ≤ n ∧ n ≤ 1000 ∧ Q (.str (Txt.mul i n)) H) := by
  intro pins s σ H x y v u Q I rx ry h
  obtain ⟨i, n, rfl, rfl, h1, h2, h3, q⟩ := h
  obtain ⟨t, rfl⟩ := rx
  obtain ⟨t', rfl⟩ := ry
  have hz : 1000000 ≤ sizeLine := by decide
  have hm : i.length * n.toNat ≤ 1000 * 1000 := Nat.mul_le_mul h1 (by omega)
  refine SB.mul (prog := X.prog) (w := X.w) ⟨?_, fun _ _ => ?_, fun _ _ => ?_⟩ fun t' k => ⟨.str (Txt.mul i n), H, I.tok _, ⟨_, rfl⟩, q⟩
  · have e1 : ¬ n < -(2 ^ 63 : Int) := by omega
    have e2 : ¬ n ≥ 2 ^ 63 := by omega
    simp [e1, e2]
    omega
  · have hd : (1000 : Int) ≤ (2 ^ 63 - 1) / n := (Int.le_ediv_iff_mul_le (by omega)).mpr (by omega)
    omega
  · show decide (i.length * n.toNat > sizeLine) = false
    rw [decide_eq_false_iff_not]
    omega
theorem op_addB : OpR X (binaryOp .Add) (fun x y H Q => ∃ (b : Bool) (j : Int), x = .bl b ∧ y = .int j ∧ Q (.int ((if b = true then 1 else 0) + j)) H) := by
  intro pins s σ H x y v u Q I rx ry h
  obtain ⟨b, j, rfl, rfl, q⟩ := h
  cases rx
  obtain ⟨t, rfl⟩ := ry
  exact PySem.IntBool.add_bool_int ⟨.int _, H, I.tok _, ⟨_, rfl⟩, q⟩
theorem op_subB : OpR X (binaryOp .Sub) (fun x y H Q => ∃ (b : Bool) (j : Int), x = .bl b ∧ y = .int j ∧ Q (.int ((if b = true then 1 else 0) - j)) H) := by
  intro pins s σ H x y v u Q I rx ry h
  obtain ⟨b, j, rfl, rfl, q⟩ := h
  cases rx
  obtain ⟨t, rfl⟩ := ry
  exact PySem.IntBool.sub_bool_int ⟨.int _, H, I.tok _, ⟨_, rfl⟩, q⟩
theorem bin_ok (hK : X.K = G.K) : ∀ op : Bop, OpI G X (binaryOp (match op with | .add => .Add | .sub => .Sub | .mul => .Mult | .fdiv => .FloorDiv | .mod => .Mod | .pow => .Pow)) (binop op)
  | .add => by
    intro C s σ x y v w r Q rl hx hy e k
    unfold binop at e
    split at e
    all_goals try (simp only [reduceCtorEq] at *; done)
    all_goals try contradiction
    · cases e
      cases hx.int; cases hy.int
      exact ⟨_, op_add, _, _, rfl, rfl, out_v rl .int k⟩
    · split at e
      · cases e
        rename_i hl
        cases hx.str; cases hy.str
        exact ⟨_, op_add_str, _, _, rfl, rfl, hl, out_v rl .str k⟩
      · cases e
    · split at e
      · cases e
        rename_i hl
        obtain ⟨p, ys, rfl, hp, hr⟩ := hx
        obtain ⟨q, zs, rfl, hq, hr2⟩ := hy
        exact ⟨_, op_cat, p, q, ys, zs, rfl, rfl, hp, hq, by rw [← hr.length, ← hr2.length]; exact hl, fun l hn => out_l rl (hr.append hr2) hn k⟩
      · cases e
    · split at e
      · cases e
        rename_i hl
        obtain ⟨p, ys, rfl, hp, hr⟩ := hx.tup
        obtain ⟨q, zs, rfl, hq, hr2⟩ := hy.tup
        refine ⟨_, op_catA, p, q, ys, zs, rfl, rfl, by rw [hK]; exact hp, by rw [hK]; exact hq, by rw [← hr.length, ← hr2.length]; exact hl, ?_⟩
        refine ⟨fun z => ?_, fun _ z => ?_, fun _ _ l hn => out_t rl (hr.append hr2) hn k⟩
        · subst z
          have e1 := List.eq_nil_of_length_eq_zero (by rw [hr.length]; rfl)
          subst e1
          exact out_v rl (show VR G C (.tup ([] ++ _)) _ by rw [List.nil_append]; exact hy) k
        · subst z
          have e1 := List.eq_nil_of_length_eq_zero (by rw [hr2.length]; rfl)
          subst e1
          exact out_v rl (show VR G C (.tup (_ ++ [])) _ by rw [List.append_nil]; exact hx) k
      · cases e
    · cases e
      cases hx.bl; cases hy.int
      exact ⟨_, op_addB, _, _, rfl, rfl, out_v rl .int k⟩
  | .sub => by
    intro C s σ x y v w r Q rl hx hy e k
    unfold binop at e
    split at e
    all_goals try contradiction
    · cases e
      cases hx.int; cases hy.int
      exact ⟨_, op_sub, _, _, rfl, rfl, out_v rl .int k⟩
    · cases e
      cases hx.bl; cases hy.int
      exact ⟨_, op_subB, _, _, rfl, rfl, out_v rl .int k⟩
  | .mul => by
    intro C s σ x y v w r Q rl hx hy e k
    unfold binop at e
    split at e
    all_goals try contradiction
    · split at e
      · cases e
        rename_i hl
        cases hx.int; cases hy.int
        exact ⟨_, op_mul, _, _, rfl, rfl, okMul_c hl, out_v rl .int k⟩
      · cases e
    · split at e
      · cases e
        rename_i hl
        cases hx.str; cases hy.int
        exact ⟨_, op_mul_str, _, _, rfl, rfl, hl.1, hl.2.1, hl.2.2, out_v rl .str k⟩
      · cases e
    · split at e
      · cases e
        rename_i hl
        obtain ⟨p, ys, rfl, hp, hr⟩ := hx
        cases hy.int
        exact ⟨_, op_rep, p, _, ys, rfl, rfl, hp, hl.1, hl.2.1, by rw [← hr.length]; exact hl.2.2, fun l hn => out_l rl (hr.rep _) hn k⟩
      · cases e
    · split at e
      · cases e
        rename_i hl
        obtain ⟨p, ys, rfl, hp, hr⟩ := hx.tup
        cases hy.int
        exact ⟨_, op_repT, p, _, ys, rfl, rfl, by rw [hK]; exact hp, fun z => (by rw [hr.length, z] at hl; exact absurd hl.1 (by simp)), hl.2.1, hl.2.2.1, by rw [← hr.length]; exact hl.2.2.2, fun l hn => out_t rl (hr.rep _) hn k⟩
      · cases e
  | .fdiv => by
    intro C s σ x y v w r Q rl hx hy e k
    unfold binop at e
    split at e
    all_goals try contradiction
    split at e
    · cases e
      rename_i hl
      cases hx.int; cases hy.int
      exact ⟨_, op_fdiv, _, _, rfl, rfl, hl, out_v rl .int k⟩
    · cases e
  | .mod => by
    intro C s σ x y v w r Q rl hx hy e k
    unfold binop at e
    split at e
    all_goals try contradiction
    split at e
    · cases e
      rename_i hl
      cases hx.int; cases hy.int
      exact ⟨_, op_mod, _, _, rfl, rfl, hl, out_v rl .int k⟩
    · cases e
  | .pow => by
    intro C s σ x y v w r Q rl hx hy e k
    unfold binop at e
    split at e
    all_goals try contradiction
    split at e
    · cases e
      rename_i hl
      cases hx.int; cases hy.int
      exact ⟨_, op_pow, _, _, rfl, rfl, hl, out_v rl .int k⟩
    · cases e
end

/-! ### comparisons -/
section
variable {G : Gl} {X : Cx} {k : Nat}
/-- two values that read as data -/
def rD2 (G : Gl) (ok : PyData → PyData → Bool) (g : PyData → PyData → Bool) : R2 := fun x y H Q => ∃ C a b d e, C.H = H ∧ NR G C a x ∧ NR G C b y ∧ toD a = some d ∧ toD b = some e ∧ ok d e = true ∧ Q (.bl (g d e)) H
theorem okD_iff {d : PyData} (h : okD d = true) : d.plain = true ∧ d.depth ≤ 60 := by
  unfold okD at h
  simpa using h
theorem opD2 (hK : X.K = G.K) (hS : G.Sys) {f : Value → Value → Sem Value} {ok g : PyData → PyData → Bool}
    (rule : ∀ (s : Shared) (u v : Value) (d e : PyData) (as bs : List Addr) (Q : Value → Shared → Prop), Reads s.heap u d as → Reads s.heap v e bs → ok d e = true → Q (.bool (g d e)) s → wpAny (model X.prog X.w) X.A (f u v) Q X.xe s) : OpR X f (rD2 G ok g) := by
  intro pins s σ H x y v u Q I rx ry h
  obtain ⟨C, a, b, d, e, rfl, ha, hb, ed, ee, hok, q⟩ := h
  obtain ⟨as, r1, _⟩ := NR.reads I hK hS ha rx ed
  obtain ⟨bs, r2, _⟩ := NR.reads I hK hS hb ry ee
  exact rule s v u d e as bs _ r1 r2 hok ⟨.bl _, C.H, I, rfl, q⟩
def okEq (d e : PyData) : Bool := okD d && okD e
def okLt (d e : PyData) : Bool := PySem.W.alike d e && (okD d && notNone d)
theorem notNone_ne {d : PyData} (h : notNone d = true) : d ≠ .none := by
  intro z; subst z; simp [notNone] at h
theorem min60 {a b : Nat} (h : a ≤ 60) : min a b ≤ 60 := Nat.le_trans (Nat.min_le_left _ _) h
theorem opEqD (hK : X.K = G.K) (hS : G.Sys) (hR : Room k X.A) : OpR X (compareOp .Eq) (rD2 G okEq PyData.eqv) := opD2 hK hS fun s u v d e as bs Q r1 r2 ok q => by
  unfold okEq at ok
  simp only [Bool.and_eq_true] at ok
  have h1 := okD_iff ok.1
  have h2 := hR.units
  have h3 := min60 (b := e.depth) h1.2
  exact PySem.SeqAt.eq_plain r1 r2 h1.1 (okD_iff ok.2).1 (by omega) q
theorem opNeD (hK : X.K = G.K) (hS : G.Sys) (hR : Room k X.A) : OpR X (compareOp .NotEq) (rD2 G okEq fun d e => !PyData.eqv d e) := opD2 hK hS fun s u v d e as bs Q r1 r2 ok q => by
  unfold okEq at ok
  simp only [Bool.and_eq_true] at ok
  have h1 := okD_iff ok.1
  have h2 := hR.units
  have h3 := min60 (b := e.depth) h1.2
  exact PySem.SeqAt.ne_plain r1 r2 h1.1 (okD_iff ok.2).1 (by omega) q
theorem okLt_iff {d e : PyData} (h : okLt d e = true) : PySem.W.alike d e = true ∧ d ≠ .none ∧ d.depth ≤ 60 := by
  unfold okLt at h
  simp only [Bool.and_eq_true] at h
  exact ⟨h.1, notNone_ne h.2.2, (okD_iff h.2.1).2⟩
theorem opLtD (hK : X.K = G.K) (hS : G.Sys) (hR : Room k X.A) : OpR X (compareOp .Lt) (rD2 G okLt PySem.W.dataLt) := opD2 hK hS fun s u v d e as bs Q r1 r2 ok q => by
  obtain ⟨a, b, c⟩ := okLt_iff ok
  have h2 := hR.units
  have h3 := min60 (b := e.depth) c
  exact PySem.W.lt_data r1 r2 a b (by omega) q
theorem okLt_swap {d e : PyData} (h : okLt e d = true) : PySem.W.alike d e = true ∧ d ≠ .none ∧ min d.depth e.depth ≤ 60 := by
  obtain ⟨a, b, c⟩ := okLt_iff h
  exact ⟨by rw [PySem.W.alike_comm]; exact a, PySem.W.ne_none_both a b, Nat.le_trans (Nat.min_le_right _ _) c⟩
theorem opGtD (hK : X.K = G.K) (hS : G.Sys) (hR : Room k X.A) : OpR X (compareOp .Gt) (rD2 G (fun d e => okLt e d) fun d e => PySem.W.dataLt e d) := opD2 hK hS fun s u v d e as bs Q r1 r2 ok q => by
  obtain ⟨a, b, c⟩ := okLt_swap ok
  have h2 := hR.units
  exact PySem.W.gt_data r1 r2 a b (by omega) q
theorem opLeD (hK : X.K = G.K) (hS : G.Sys) (hR : Room k X.A) : OpR X (compareOp .LtE) (rD2 G (fun d e => okLt e d) fun d e => !PySem.W.dataLt e d) := opD2 hK hS fun s u v d e as bs Q r1 r2 ok q => by
  obtain ⟨a, b, c⟩ := okLt_swap ok
  have h2 := hR.units
  exact PySem.W.le_data r1 r2 a b (by omega) q
theorem opGeD (hK : X.K = G.K) (hS : G.Sys) (hR : Room k X.A) : OpR X (compareOp .GtE) (rD2 G okLt fun d e => !PySem.W.dataLt d e) := opD2 hK hS fun s u v d e as bs Q r1 r2 ok q => by
  obtain ⟨a, b, c⟩ := okLt_iff ok
  have h2 := hR.units
  have h3 := min60 (b := e.depth) c
  exact PySem.W.ge_data r1 r2 a b (by omega) q
def CmpI (G : Gl) (X : Cx) (f : Value → Value → Sem Value) (g : Val → Val → Option Bool) : Prop :=
  ∀ (C : Cf) (x y : Val) (v w : V) (b : Bool) (Q : VK), NR G C x v → NR G C y w → g x y = some b → Q (.bl b) C.H → ∃ r2 : R2, OpR X f r2 ∧ r2 v w C.H Q
theorem veq_some {x y : Val} {b : Bool} (h : veq x y = some b) : ∃ d e, toD x = some d ∧ toD y = some e ∧ okEq d e = true ∧ PyData.eqv d e = b := by
  unfold veq at h
  split at h
  · split at h
    · rename_i d e h1 h2 h3
      exact ⟨d, e, h1, h2, h3, Option.some.inj h⟩
    · cases h
  · cases h
theorem eq_ok0 (hK : X.K = G.K) (hS : G.Sys) (hR : Room k X.A) : CmpI G X (compareOp .Eq) veq := fun C x y v w b Q hx hy e q => by
  obtain ⟨d, d', h1, h2, h3, rfl⟩ := veq_some e
  exact ⟨_, opEqD hK hS hR, C, x, y, d, d', rfl, hx, hy, h1, h2, h3, q⟩
theorem ne_ok0 (hK : X.K = G.K) (hS : G.Sys) (hR : Room k X.A) : CmpI G X (compareOp .NotEq) (fun a b => (veq a b).map (!·)) := fun C x y v w b Q hx hy e q => by
  obtain ⟨b', e2, rfl⟩ := Option.map_eq_some_iff.mp e
  clear e
  have e := e2
  clear e2
  obtain ⟨d, d', h1, h2, h3, rfl⟩ := veq_some e
  exact ⟨_, opNeD hK hS hR, C, x, y, d, d', rfl, hx, hy, h1, h2, h3, q⟩
theorem vlt_some {x y : Val} {b : Bool} (h : vlt x y = some b) : (∃ i j, x = .int i ∧ y = .int j ∧ b = decide (i < j)) ∨ ∃ d e, toD x = some d ∧ toD y = some e ∧ okLt d e = true ∧ PySem.W.dataLt d e = b := by
  unfold vlt at h
  split at h
  · exact .inl ⟨_, _, rfl, rfl, (Option.some.inj h).symm⟩
  · split at h
    · split at h
      · rename_i d e h1 h2 h3
        exact .inr ⟨d, e, h1, h2, h3, Option.some.inj h⟩
      · cases h
    · cases h
theorem lt_ok (hK : X.K = G.K) (hS : G.Sys) (hR : Room k X.A) : CmpI G X (compareOp .Lt) vlt := fun C x y v w b Q hx hy e q => by
  rcases vlt_some e with ⟨i, j, rfl, rfl, rfl⟩ | ⟨d, d', h1, h2, h3, rfl⟩
  · cases hx.int; cases hy.int
    exact ⟨_, op_lt, _, _, rfl, rfl, q⟩
  · exact ⟨_, opLtD hK hS hR, C, x, y, d, d', rfl, hx, hy, h1, h2, h3, q⟩
theorem gt_ok (hK : X.K = G.K) (hS : G.Sys) (hR : Room k X.A) : CmpI G X (compareOp .Gt) (fun a b => vlt b a) := fun C x y v w b Q hx hy e q => by
  rcases vlt_some e with ⟨i, j, rfl, rfl, rfl⟩ | ⟨d, d', h1, h2, h3, rfl⟩
  · cases hx.int; cases hy.int
    exact ⟨_, op_gt, _, _, rfl, rfl, q⟩
  · exact ⟨_, opGtD hK hS hR, C, x, y, d', d, rfl, hx, hy, h2, h1, h3, q⟩
theorem le_flip {i j : Int} : (!decide (j < i)) = decide (i ≤ j) := by
  by_cases h : i ≤ j
  · rw [decide_eq_true h, decide_eq_false (by omega)]; rfl
  · rw [decide_eq_false h, decide_eq_true (by omega)]; rfl
theorem le_ok (hK : X.K = G.K) (hS : G.Sys) (hR : Room k X.A) : CmpI G X (compareOp .LtE) (fun a b => (vlt b a).map (!·)) := fun C x y v w b Q hx hy e q => by
  obtain ⟨b', e2, rfl⟩ := Option.map_eq_some_iff.mp e
  clear e
  have e := e2
  clear e2
  rcases vlt_some e with ⟨i, j, rfl, rfl, rfl⟩ | ⟨d, d', h1, h2, h3, rfl⟩
  · cases hx.int; cases hy.int
    rw [le_flip] at q
    exact ⟨_, op_le, _, _, rfl, rfl, q⟩
  · exact ⟨_, opLeD hK hS hR, C, x, y, d', d, rfl, hx, hy, h2, h1, h3, q⟩
theorem ge_ok (hK : X.K = G.K) (hS : G.Sys) (hR : Room k X.A) : CmpI G X (compareOp .GtE) (fun a b => (vlt a b).map (!·)) := fun C x y v w b Q hx hy e q => by
  obtain ⟨b', e2, rfl⟩ := Option.map_eq_some_iff.mp e
  clear e
  have e := e2
  clear e2
  rcases vlt_some e with ⟨i, j, rfl, rfl, rfl⟩ | ⟨d, d', h1, h2, h3, rfl⟩
  · cases hx.int; cases hy.int
    rw [le_flip] at q
    exact ⟨_, op_ge, _, _, rfl, rfl, q⟩
  · exact ⟨_, opGeD hK hS hR, C, x, y, d, d', rfl, hx, hy, h1, h2, h3, q⟩
/-! ### in -/
def rInI (G : Gl) (neg : Bool) : R2 := fun x y H Q => ∃ C a ys d ds b, C.H = H ∧ NR G C a x ∧ (NR G C (.lst ys) y ∨ NR G C (.tup ys) y) ∧ toD a = some d ∧ toDs ys = some ds ∧ okD d = true ∧ PyData.plainAll ds = true ∧ PyData.depthAll ds ≤ 60 ∧ b = (ds.any fun z => PyData.eqv z d) ∧ Q (.bl (if neg then !b else b)) H
theorem opInI (hK : X.K = G.K) (hS : G.Sys) (hR : Room k X.A) : OpR X (compareOp .In) (rInI G false) := by
  intro pins s σ H x y v u Q I rx ry h
  obtain ⟨C, a, ys, d, ds, b, rfl, ha, hy, ed, es, h1, h2, h3, rfl, q⟩ := h
  have h4 := okD_iff h1
  have h5 := hR.units
  have h6 := min60 (b := d.depth) h3
  obtain ⟨as, r1, _⟩ := NR.reads I hK hS ha rx ed
  rcases hy with hy | hy
  · obtain ⟨bs, r2, _⟩ := NR.reads I hK hS (d := .list ds) hy ry (by unfold toD; rw [es])
    exact PySem.SeqAt.in_list_data r2 r1 h2 h4.1 (by omega) ⟨.bl _, C.H, I, rfl, q⟩
  · obtain ⟨bs, r2, _⟩ := NR.reads I hK hS (d := .tuple ds) hy ry (by unfold toD; rw [es])
    exact PySem.SeqAt.in_tuple_data r2 r1 h2 h4.1 (by omega) ⟨.bl _, C.H, I, rfl, q⟩
theorem opNotInI (hK : X.K = G.K) (hS : G.Sys) (hR : Room k X.A) : OpR X (compareOp .NotIn) (rInI G true) := by
  intro pins s σ H x y v u Q I rx ry h
  obtain ⟨C, a, ys, d, ds, b, rfl, ha, hy, ed, es, h1, h2, h3, rfl, q⟩ := h
  have h4 := okD_iff h1
  have h5 := hR.units
  have h6 := min60 (b := d.depth) h3
  obtain ⟨as, r1, _⟩ := NR.reads I hK hS ha rx ed
  rcases hy with hy | hy
  · obtain ⟨bs, r2, _⟩ := NR.reads I hK hS (d := .list ds) hy ry (by unfold toD; rw [es])
    exact PySem.SeqAt.notIn_list_data r2 r1 h2 h4.1 (by omega) ⟨.bl _, C.H, I, rfl, q⟩
  · obtain ⟨bs, r2, _⟩ := NR.reads I hK hS (d := .tuple ds) hy ry (by unfold toD; rw [es])
    exact PySem.SeqAt.notIn_tuple_data r2 r1 h2 h4.1 (by omega) ⟨.bl _, C.H, I, rfl, q⟩
theorem opInDict (hR : Room k X.A) : OpR X (compareOp .In) (fun x y H Q => ∃ a o, y = .ref a ∧ DGet H a x o ∧ Q (.bl o.isSome) H) := by
  intro pins s σ H x y v u Q I rx ry h
  obtain ⟨a, o, rfl, g, q⟩ := h
  cases ry
  have h5 := hR.units
  exact d_in (by omega) I g rx fun s' I' => ⟨.bl _, H, I', rfl, q⟩
theorem opNotInDict (hR : Room k X.A) : OpR X (compareOp .NotIn) (fun x y H Q => ∃ a o, y = .ref a ∧ DGet H a x o ∧ Q (.bl (!o.isSome)) H) := by
  intro pins s σ H x y v u Q I rx ry h
  obtain ⟨a, o, rfl, g, q⟩ := h
  cases ry
  have h5 := hR.units
  exact d_notIn (by omega) I g rx fun s' I' => ⟨.bl _, H, I', rfl, q⟩
theorem keyV_ok {C : Cf} {x : Val} {v : V} {kk : Key} (h : NR G C x v) (e : keyV x = some kk) : v = kV kk := by
  unfold keyV at e
  split at e
  · cases e; exact h.int
  · cases e; exact h.str
  · cases e
theorem VRk.get {C : Cf} {kk : Key} : ∀ {kvs : List (Key × Val)} {ks : List (Key × V)}, VRk G C kvs ks → (match dget kvs kk with | some x => ∃ v, valV ks kk = some v ∧ VR G C x v | none => valV ks kk = none)
  | [], ks, h => by unfold VRk at h; subst h; rfl
  | (j, x) :: r, ks, h => by
    unfold VRk at h
    obtain ⟨y, r', e, a, b⟩ := h
    subst e
    by_cases hj : j = kk
    · subst hj
      have h1 : dget ((j, x) :: r) j = some x := by simp [dget]
      rw [h1]
      exact ⟨y, valV_pos rfl, a⟩
    · have h1 : dget ((j, x) :: r) kk = dget r kk := by simp [dget, hj]
      rw [h1, valV_neg hj]
      exact VRk.get b
theorem VRk.isSome {C : Cf} {kk : Key} {kvs : List (Key × Val)} {ks : List (Key × V)} (h : VRk G C kvs ks) : (valV ks kk).isSome = (dget kvs kk).isSome := by
  have h1 := h.get (kk := kk)
  cases e : dget kvs kk with
  | none => rw [e] at h1; rw [h1]; rfl
  | some x => rw [e] at h1; obtain ⟨v, h2, _⟩ := h1; rw [h2]; rfl
theorem vin_ok (hK : X.K = G.K) (hS : G.Sys) (hR : Room k X.A) : CmpI G X (compareOp .In) vin := fun C x y v w b Q hx hy e q => by
  unfold vin at e
  split at e
  · rename_i ys
    split at e
    · split at e
      · rename_i d ds h1 h2 h3
        simp only [Bool.and_eq_true, decide_eq_true_eq] at h3
        cases e
        exact ⟨_, opInI hK hS hR, C, x, ys, d, ds, _, rfl, hx, .inl hy, h1, h2, h3.1, h3.2.1, h3.2.2, rfl, q⟩
      · cases e
    · cases e
  · rename_i ys
    split at e
    · split at e
      · rename_i d ds h1 h2 h3
        simp only [Bool.and_eq_true, decide_eq_true_eq] at h3
        cases e
        exact ⟨_, opInI hK hS hR, C, x, ys, d, ds, _, rfl, hx, .inr hy, h1, h2, h3.1, h3.2.1, h3.2.2, rfl, q⟩
      · cases e
    · cases e
  · rename_i kvs
    split at e
    · rename_i kk h1
      cases e
      obtain ⟨p, ks, rfl, hp, hr⟩ := hy
      cases keyV_ok hx h1
      exact ⟨_, opInDict hR, p, valV ks kk, rfl, .inl ⟨ks, kk, hp, rfl, rfl⟩, by rw [hr.isSome]; exact q⟩
    · cases e
  · split at e
    · cases e
      cases hx.str; cases hy.str
      exact ⟨_, op_in_str, _, _, rfl, rfl, q⟩
    · cases e
  · cases e
theorem vnin_ok (hK : X.K = G.K) (hS : G.Sys) (hR : Room k X.A) : CmpI G X (compareOp .NotIn) (fun a b => (vin a b).map (!·)) := fun C x y v w b Q hx hy e q => by
  obtain ⟨b', e2, rfl⟩ := Option.map_eq_some_iff.mp e
  clear e
  have e := e2
  clear e2
  unfold vin at e
  split at e
  · rename_i ys
    split at e
    · split at e
      · rename_i d ds h1 h2 h3
        simp only [Bool.and_eq_true, decide_eq_true_eq] at h3
        cases e
        exact ⟨_, opNotInI hK hS hR, C, x, ys, d, ds, _, rfl, hx, .inl hy, h1, h2, h3.1, h3.2.1, h3.2.2, rfl, q⟩
      · cases e
    · cases e
  · rename_i ys
    split at e
    · split at e
      · rename_i d ds h1 h2 h3
        simp only [Bool.and_eq_true, decide_eq_true_eq] at h3
        cases e
        exact ⟨_, opNotInI hK hS hR, C, x, ys, d, ds, _, rfl, hx, .inr hy, h1, h2, h3.1, h3.2.1, h3.2.2, rfl, q⟩
      · cases e
    · cases e
  · rename_i kvs
    split at e
    · rename_i kk h1
      cases e
      obtain ⟨p, ks, rfl, hp, hr⟩ := hy
      cases keyV_ok hx h1
      exact ⟨_, opNotInDict hR, p, valV ks kk, rfl, .inl ⟨ks, kk, hp, rfl, rfl⟩, by rw [hr.isSome]; exact q⟩
    · cases e
  · split at e
    · cases e
      cases hx.str; cases hy.str
      exact ⟨_, op_notin_str, _, _, rfl, rfl, q⟩
    · cases e
  · cases e
theorem is_ok : CmpI G X (compareOp .Is) vis := fun C x y v w b Q hx hy e q => by
  unfold vis at e
  split at e
  · have hw := hy.non
    subst hw
    refine ⟨_, op_isN, rfl, ?_⟩
    have : decide (v = .non) = b := by
      split at e
      · cases e; exact decide_eq_true hx.non
      · cases e
      · rename_i n1 n2
        cases e
        refine decide_eq_false fun z => ?_
        subst z
        cases x with
        | non => exact n1 rfl
        | bad => exact n2 rfl
        | lst xs => obtain ⟨p, ys, e, _⟩ := hx; cases e
        | dct xs => obtain ⟨p, ys, e, _⟩ := hx; cases e
        | tup xs => obtain ⟨p, ys, e, _⟩ := hx.tup; cases e
        | scr xs => obtain ⟨p, e, _⟩ := hx.scr; cases e
        | int i => cases hx.int
        | bl i => cases hx.bl
        | str i => cases hx.str
        | ref i => unfold NR at hx; unfold VR at hx; obtain ⟨p, _, e⟩ := hx; cases e
    rw [this]
    exact q
  · split at e
    · cases e
      cases hx.bl; cases hy.bl
      refine ⟨_, op_isBl, _, _, rfl, rfl, ?_⟩
      rw [← dec_bl] at q
      simpa using q
    · cases e
  · cases e
theorem isnot_ok : CmpI G X (compareOp .IsNot) (fun a b => (vis a b).map (!·)) := fun C x y v w b Q hx hy e q => by
  obtain ⟨b', e2, rfl⟩ := Option.map_eq_some_iff.mp e
  clear e
  have e := e2
  clear e2
  unfold vis at e
  split at e
  · have hw := hy.non
    subst hw
    refine ⟨_, op_notN, rfl, ?_⟩
    have : decide (v = .non) = b' := by
      split at e
      · cases e; exact decide_eq_true hx.non
      · cases e
      · rename_i n1 n2
        cases e
        refine decide_eq_false fun z => ?_
        subst z
        cases x with
        | non => exact n1 rfl
        | bad => exact n2 rfl
        | lst xs => obtain ⟨p, ys, e, _⟩ := hx; cases e
        | dct xs => obtain ⟨p, ys, e, _⟩ := hx; cases e
        | tup xs => obtain ⟨p, ys, e, _⟩ := hx.tup; cases e
        | scr xs => obtain ⟨p, e, _⟩ := hx.scr; cases e
        | int i => cases hx.int
        | bl i => cases hx.bl
        | str i => cases hx.str
        | ref i => unfold NR at hx; unfold VR at hx; obtain ⟨p, _, e⟩ := hx; cases e
    rw [this]
    exact q
  · split at e
    · cases e
      cases hx.bl; cases hy.bl
      refine ⟨_, op_notBl, _, _, rfl, rfl, ?_⟩
      rw [← dec_bl] at q
      simpa using q
    · cases e
  · cases e
def cop : Cop → CmpOp
  | .eq => .Eq | .ne => .NotEq | .lt => .Lt | .le => .LtE | .gt => .Gt | .ge => .GtE | .isin => .In | .notin => .NotIn | .is_ => .Is | .isnot => .IsNot
def bop : Bop → Operator
  | .add => .Add | .sub => .Sub | .mul => .Mult | .fdiv => .FloorDiv | .mod => .Mod | .pow => .Pow
section
variable {G : Gl} {X : Cx} {k : Nat}
theorem VRk.length' {G : Gl} {C : Cf} : ∀ {xs : List (Key × Val)} {ys : List (Key × V)}, VRk G C xs ys → xs.length = ys.length
  | [], ys, h => by unfold VRk at h; subst h; rfl
  | (j, x) :: xs, ys, h => by
    unfold VRk at h
    obtain ⟨y, r, rfl, a, b⟩ := h
    simp [VRk.length' b]
theorem hits_K {pins : List (Addr × Obj)} {σ : L2.St} {s : Shared} {C : Cf} {A : Around} (I : Inv X pins σ C.H s) (hK : X.K = G.K) (hS : G.Sys) (hu : A.units + 60 < cLine) {kb : List (Key × Val)} {ls : List (Key × V)} {vb : List (Key × Value)} (hb : VRk G C kb ls) (rb : KV ls vb) :
    ∀ {ka : List (Key × Val)} {ks : List (Key × V)} {va : List (Key × Value)} {b : Bool}, VRk G C ka ks → KV ks va → deqK kb ka = some b → PySem.W.KeqHits A s vb va b
  | [], ks, va, b, h, r, e => by
    unfold VRk at h
    subst h
    cases r
    cases e
    exact .nil
  | (key, x) :: ka, ks, va, b, h, r, e => by
    unfold VRk at h
    obtain ⟨y, ks', rfl, hx, h⟩ := h
    cases r with
    | @cons p q ps qs hd r =>
      obtain ⟨h1, h2⟩ := hd
      obtain ⟨key', u⟩ := q
      have h1 : key = key' := h1
      subst h1
      have rr := rb.val key
      unfold deqK at e
      cases q : dget kb key with
      | none =>
        simp only [q, Option.some.injEq] at e
        subst e
        have hn : valV ls key = none := by
          have := hb.isSome (kk := key)
          rw [q] at this
          cases z : valV ls key with
          | none => rfl
          | some y => rw [z] at this; cases this
        rw [hn] at rr
        refine .miss ?_
        cases z : valueAt vb key with
        | none => rfl
        | some z' => rw [z] at rr; cases rr
      | some y' =>
        simp only [q] at e
        have hg := hb.get (kk := key)
        rw [q] at hg
        obtain ⟨w, hw, hw2⟩ := hg
        rw [hw] at rr
        obtain ⟨w', hv, rw'⟩ := rr.some_of
        cases q1 : veq x y' with
        | none => simp [q1] at e
        | some e1 =>
          cases q2 : deqK kb ka with
          | none => simp [q1, q2] at e
          | some b1 =>
            simp only [q1, q2, Option.some.injEq] at e
            subst e
            obtain ⟨d, d', h3, h4, h5, rfl⟩ := veq_some q1
            obtain ⟨as, r1, _⟩ := NR.reads I hK hS hx.nr h2 h3
            obtain ⟨bs, r2, _⟩ := NR.reads I hK hS hw2.nr rw' h4
            unfold okEq at h5
            simp only [Bool.and_eq_true] at h5
            have k1 := okD_iff h5.1
            have k2 := okD_iff h5.2
            have h3 := min60 (b := d'.depth) k1.2
            exact .hit hv (PySem.SeqAt.eqAt_plain d d' A s u w' as bs r1 r2 k1.1 k2.1 (by omega)) (hits_K I hK hS hu hb rb h r q2)
def rDK (G : Gl) (ng : Bool) : R2 := fun x y H Q => ∃ C ka kb b, C.H = H ∧ NR G C (.dct ka) x ∧ NR G C (.dct kb) y ∧ (if ka.length = kb.length then deqK kb ka else some false) = some b ∧ Q (.bl (b != ng)) H
theorem dk_pre {pins : List (Addr × Obj)} {σ : L2.St} {s : Shared} {C : Cf} {A : Around} (I : Inv X pins σ C.H s) (hK : X.K = G.K) (hS : G.Sys) (hu : A.units + 60 < cLine) {ka kb : List (Key × Val)} {x y : V} {v u : Value} {b : Bool} (hx : NR G C (.dct ka) x) (hy : NR G C (.dct kb) y) (rx : RelV x v) (ry : RelV y u)
    (e : (if ka.length = kb.length then deqK kb ka else some false) = some b) : ∃ (p q : Addr) (va vb : List (Key × Value)) (r : Bool), v = .ref p ∧ u = .ref q ∧ (p == sysModules) = false ∧ (q == sysModules) = false ∧ s.heap.DictOf (mixKind X.prog X.w) p va ∧ s.heap.DictOf (mixKind X.prog X.w) q vb ∧ (va.length = vb.length → PySem.W.KeqHits A s vb va r) ∧ (va.length == vb.length && r) = b := by
  obtain ⟨p, ks, rfl, hp, hk⟩ := hx
  obtain ⟨q, ls, rfl, hq, hl⟩ := hy
  cases rx
  cases ry
  obtain ⟨_, y1, va, ra, da⟩ := dk_rd I.hok hp
  obtain ⟨_, y2, vb, rb, db⟩ := dk_rd I.hok hq
  have l1 : va.length = ka.length := by rw [hk.length']; exact ra.length.symm
  have l2 : vb.length = kb.length := by rw [hl.length']; exact rb.length.symm
  by_cases hc : ka.length = kb.length
  · rw [if_pos hc] at e
    exact ⟨p, q, va, vb, b, rfl, rfl, y1, y2, da, db, fun _ => hits_K I hK hS hu hl rb hk ra e, by rw [l1, l2, hc]; simp⟩
  · rw [if_neg hc] at e
    cases e
    exact ⟨p, q, va, vb, false, rfl, rfl, y1, y2, da, db, fun z => absurd (by rw [← l1, ← l2, z]) hc, by simp⟩
theorem opDKe (hK : X.K = G.K) (hS : G.Sys) (hR : Room k X.A) : OpR X (compareOp .Eq) (rDK G false) := by
  intro pins s σ H x y v u Q I rx ry ⟨C, ka, kb, b, hC, hx, hy, e, q⟩
  subst hC
  have h2 := hR.units
  obtain ⟨p, p2, va, vb, r, rfl, rfl, y1, y2, da, db, hh, hb⟩ := dk_pre (A := X.A.in1) I hK hS (by show X.A.units + 1 + 60 < cLine; omega) hx hy rx ry e
  refine PySem.W.keq_eq (knd := mixKind X.prog X.w) y1 y2 da db (by omega) hh ?_
  rw [hb]
  exact ⟨.bl b, C.H, I, rfl, by simpa using q⟩
theorem opDKn (hK : X.K = G.K) (hS : G.Sys) (hR : Room k X.A) : OpR X (compareOp .NotEq) (rDK G true) := by
  intro pins s σ H x y v u Q I rx ry ⟨C, ka, kb, b, hC, hx, hy, e, q⟩
  subst hC
  have h2 := hR.units
  obtain ⟨p, p2, va, vb, r, rfl, rfl, y1, y2, da, db, hh, hb⟩ := dk_pre (A := X.A.in1) I hK hS (by show X.A.units + 1 + 60 < cLine; omega) hx hy rx ry e
  refine PySem.W.keq_ne (knd := mixKind X.prog X.w) y1 y2 da db (by omega) hh ?_
  rw [hb]
  exact ⟨.bl (!b), C.H, I, rfl, by cases b <;> simpa using q⟩
end
end
end Rs
end
section
set_option maxRecDepth 100000
set_option maxHeartbeats 4000000
/-! Comparison of lists that hold dicts. -/
namespace PySem.SeqAt
open AutoSeq1 (wpAny_loadPart')
open MeetsSeq MeetsSeq2 MeetsSeq3 SeqRoads2
section
variable {prog : Program} {w : World}
theorem rs_ne_turns (l b : Addr) (xs ys : Array Value) (n n2 : Nat) (dd dd2 : Option Addr) (sl sl2 : Array (Option Value)) (hsz : xs.size = ys.size) (e : Nat → Bool) :
    ∀ k i : Nat, xs.size - i = k → MeetsIn prog w (Builtin.«list.__eq__.loop» ⟨[.ref l, .ref b, rawInt i, rawInt 3], []⟩)
      (fun A R s => s.heap.get? l = some { cls := .type "list", dict := dd, data := .seq xs n, slots := sl } ∧ s.heap.get? b = some { cls := .type "list", dict := dd2, data := .seq ys n2, slots := sl2 } ∧
        (∀ j (h1 : j < xs.size) (h2 : j < ys.size), EqIn prog w A.in1 s xs[j] ys[j] (e j)) ∧ R (.ok (.ret (.bool (!((List.range xs.size).drop i).all e)))) s)
  | 0, i, hk, A, R, ⟨hp, g, d, tk, os⟩, ⟨hl, hb, he, h⟩ => by
    wp_walk using wpAny_loadPart' hl, wpAny_loadPart' hb
    have hi1 : xs[((i : Nat) : Int).toNat]? = none := by simp; omega
    have hi2 : ys[((i : Nat) : Int).toNat]? = none := by simp; omega
    have hd : (List.range xs.size).drop i = [] := by simp; omega
    rw [hd] at h
    rw [hi1, hi2]
    wp_walk using wpAny_loadPart' hl, wpAny_loadPart' hb
    show R (.ok (.ret (.bool (xs.size != ys.size)))) _
    rw [hsz]
    simpa using h
  | k + 1, i, hk, A, R, ⟨hp, g, d, tk, os⟩, ⟨hl, hb, he, h⟩ => by
    wp_walk using wpAny_loadPart' hl, wpAny_loadPart' hb
    have hlt : i < xs.size := by omega
    have hlt2 : i < ys.size := by omega
    have hi1 : xs[((i : Nat) : Int).toNat]? = some xs[i] := by simp [hlt]
    have hi2 : ys[((i : Nat) : Int).toNat]? = some ys[i] := by simp [hlt2]
    have hd : (List.range xs.size).drop i = i :: (List.range xs.size).drop (i + 1) := by simp [List.drop_eq_getElem_cons, hlt]
    have hc : ((i : Int) + 1) = ((i + 1 : Nat) : Int) := by push_cast; rfl
    rw [hd, List.all_cons] at h
    rw [hi1, hi2]
    refine wpAny_bind (he i hlt hlt2 _ _ ?_)
    cases q : e i with
    | true =>
      rw [q] at h
      wp_walk
      rw [hc]
      exact ⟨plainId_quiet plain_eq_loop _, codeAny_builtin entry_eq_loop (by
        rw [Around.under_plainId plain_eq_loop _]
        exact rs_ne_turns l b xs ys n n2 dd dd2 sl sl2 hsz e k (i + 1) (by omega) A R _ ⟨hl, hb, he, by simpa using h⟩)⟩
    | false =>
      rw [q] at h
      wp_walk using wpAny_loadPart' hl, wpAny_loadPart' hb
      rw [hi1, hi2]
      wp_walk
      simpa using h
theorem rs_list_ne (l b : Addr) (xs ys : Array Value) (n n2 : Nat) (dd dd2 : Option Addr) (sl sl2 : Array (Option Value)) (hsz : xs.size = ys.size) (e : Nat → Bool) :
    MeetsIn prog w (Builtin.«list.__ne__» ⟨[.ref l, .ref b], []⟩)
      (fun A R s => s.heap.get? l = some { cls := .type "list", dict := dd, data := .seq xs n, slots := sl } ∧ s.heap.get? b = some { cls := .type "list", dict := dd2, data := .seq ys n2, slots := sl2 } ∧
        (∀ j (h1 : j < xs.size) (h2 : j < ys.size), EqIn prog w A.in1 s xs[j] ys[j] (e j)) ∧ R (.ok (.ret (.bool (!(List.range xs.size).all e)))) s) := by
  intro A R s h
  obtain ⟨hp, g, d, tk, os⟩ := s; obtain ⟨hl, hb, he, h⟩ := h
  have f3 := AutoSeq1.sub_list_list
  have hne : ¬ (xs.size != ys.size) = true := by simp [hsz]
  wp_walk using wpAny_loadPart' hl, wpAny_loadPart' hb
  exact ⟨plainId_quiet plain_eq_loop _, codeAny_builtin entry_eq_loop (by
    rw [Around.under_plainId plain_eq_loop _]
    exact rs_ne_turns l b xs ys n n2 dd dd2 sl sl2 hsz e _ 0 rfl A R _ ⟨hl, hb, he, by simpa using h⟩)⟩
theorem rs_lists_ne {A : Around} {s : Shared} {E : Value → Shared → Prop} {l b : Addr} {xs ys : Array Value} {e : Nat → Bool} {Q : Value → Shared → Prop} (hl : s.heap.IsList l xs) (hb : s.heap.IsList b ys) (hsz : xs.size = ys.size) (hu : A.units < cLine)
    (he : ∀ j (h1 : j < xs.size) (h2 : j < ys.size), EqIn prog w A.in1 s xs[j] ys[j] (e j)) (h : Q (.bool (!(List.range xs.size).all e)) s) : wpAny (model prog w) A (richCompare .NotEq (.ref l) (.ref b)) Q E s := by
  obtain ⟨⟨cls, dd, data, sl⟩, ho, hc, n, hd⟩ := id hl
  obtain ⟨⟨cls2, dd2, data2, sl2⟩, ho2, hc2, n2, hd2⟩ := id hb
  simp only at hc hd hc2 hd2
  subst hc hd hc2 hd2
  exact wpAny_richCompare_same_room (T := "list") (op := .NotEq) ⟨_, ho, rfl⟩ ⟨_, ho2, rfl⟩ F.slot_list_ne (call_meetsIn F.slot_list_ne ⟨_, ho, rfl⟩ F.entry_list_ne (F.args_list_ne_2 _ _) (rs_list_ne l b xs ys n n2 dd dd2 sl sl2 hsz e)
    ⟨ho, ho2, he, show Value.bool (!(List.range xs.size).all e) ≠ Value.notImplemented ∧ Q (.bool (!(List.range xs.size).all e)) s from ⟨(fun x => nomatch x), h⟩⟩) hu
theorem rs_list_neL (l b : Addr) (xs ys : Array Value) (n n2 : Nat) (dd dd2 : Option Addr) (sl sl2 : Array (Option Value)) (hc0 : (xs.size != ys.size) = true) :
    Meets (Builtin.«list.__ne__» ⟨[.ref l, .ref b], []⟩)
      (fun _ R s => s.heap.get? l = some { cls := .type "list", dict := dd, data := .seq xs n, slots := sl } ∧ s.heap.get? b = some { cls := .type "list", dict := dd2, data := .seq ys n2, slots := sl2 } ∧
        R (.ok (.ret (.bool true))) s) :=
  .of_wp fun prog w A R s h => by
    obtain ⟨hp, g, d, tk, os⟩ := s; obtain ⟨hl, hb, h⟩ := h
    have f3 := AutoSeq1.sub_list_list
    wp_walk using wpAny_loadPart' hl, wpAny_loadPart' hb
    exact ⟨_, rfl, h⟩
theorem rs_lists_neL {A : Around} {s : Shared} {E : Value → Shared → Prop} {l b : Addr} {xs ys : Array Value} {Q : Value → Shared → Prop} (hl : s.heap.IsList l xs) (hb : s.heap.IsList b ys) (hsz : (xs.size != ys.size) = true) (hu : A.units < cLine)
    (h : Q (.bool true) s) : wpAny (model prog w) A (richCompare .NotEq (.ref l) (.ref b)) Q E s := by
  obtain ⟨⟨cls, dd, data, sl⟩, ho, hc, n, hd⟩ := id hl
  obtain ⟨⟨cls2, dd2, data2, sl2⟩, ho2, hc2, n2, hd2⟩ := id hb
  simp only at hc hd hc2 hd2
  subst hc hd hc2 hd2
  exact richCompare_meets_room (op := .NotEq) ⟨_, ho, rfl⟩ ⟨_, ho2, rfl⟩ F.slot_list_ne F.entry_list_ne (F.args_list_ne_2 _ _) (rs_list_neL l b xs ys n n2 dd dd2 sl sl2 hsz)
    ⟨ho, ho2, show Value.bool true ≠ Value.notImplemented ∧ Q (.bool true) s from ⟨(fun x => nomatch x), h⟩⟩ hu
end
end PySem.SeqAt
namespace Rs
open PySem PySem.Spec PyProof.Rows L2
theorem eqL_ix {f : Val → Val → Option Bool} : ∀ {xs ys : List Val} {b : Bool}, xs.length = ys.length → eqL f xs ys = some b → ∃ e : Nat → Bool, b = (List.range xs.length).all e ∧ ∀ j (h1 : j < xs.length) (h2 : j < ys.length), f xs[j] ys[j] = some (e j)
  | [], [], b, _, h => ⟨fun _ => true, by cases h; rfl, fun j h1 => absurd h1 (Nat.not_lt_zero _)⟩
  | x :: xs, y :: ys, b, hl, h => by
    unfold eqL at h
    cases q1 : f x y with
    | none => simp [q1] at h
    | some a =>
      cases q2 : eqL f xs ys with
      | none => simp [q1, q2] at h
      | some c =>
        simp only [q1, q2, Option.some.injEq] at h
        obtain ⟨e, h1, h2⟩ := eqL_ix (by simpa using hl) q2
        refine ⟨fun j => match j with | 0 => a | j + 1 => e j, ?_, fun j => ?_⟩
        · rw [List.length_cons, List.range_succ_eq_map, List.all_cons, List.all_map, ← h, h1]
          rfl
        · cases j with
          | zero => intro _ _; exact q1
          | succ j => intro h3 h4; exact h2 j (by simpa using h3) (by simpa using h4)
theorem deqS_all {kb : List (Key × Val)} : ∀ {ka : List (Key × Val)} {b : Bool}, deqS kb ka = some b → (∀ k a, (k, a) ∈ ka → ∀ c, dget kb k = some c → ∃ r, veq a c = some r) ∧ b = ka.all fun p => match dget kb p.1 with | none => false | some c => (veq p.2 c).getD false
  | [], b, h => ⟨fun _ _ z => absurd z List.not_mem_nil, by cases h; rfl⟩
  | (k, v) :: ka, b, h => by
    unfold deqS at h
    cases q2 : deqS kb ka with
    | none => cases q1 : dget kb k <;> simp [q1, q2] at h
    | some c =>
      obtain ⟨h1, h2⟩ := deqS_all q2
      cases q1 : dget kb k with
      | none =>
        simp only [q1, q2, Option.some.injEq] at h
        refine ⟨fun k' a hm c' hc => ?_, by rw [List.all_cons, q1, ← h]; rfl⟩
        rcases List.mem_cons.mp hm with e | hm
        · cases e; rw [q1] at hc; cases hc
        · exact h1 k' a hm c' hc
      | some y =>
        simp only [q1, q2] at h
        obtain ⟨r, hr, rfl⟩ := Option.map_eq_some_iff.mp h
        refine ⟨fun k' a hm c' hc => ?_, by rw [List.all_cons, ← h2]; simp only [q1, hr, Option.getD_some]⟩
        rcases List.mem_cons.mp hm with e | hm
        · cases e; rw [q1] at hc; cases hc; exact ⟨r, hr⟩
        · exact h1 k' a hm c' hc
section
variable {G : Gl} {X : Cx} {pins : List (Addr × Obj)} {σ : L2.St} {s : Shared} {C : Cf}
theorem leaf_tree (I : Inv X pins σ C.H s) (hK : X.K = G.K) (hS : G.Sys) {n : Nat} {x y : Val} {v w : V} {u t : Value} {b : Bool} (hx : NR G C x v) (hy : NR G C y w) (ru : RelV v u) (rt : RelV w t) (e : veq x y = some b) : PySem.W.EqTree X.prog X.w s (60 + n) u t b := by
  obtain ⟨d, d', h3, h4, h5, rfl⟩ := veq_some e
  obtain ⟨as, r1, _⟩ := NR.reads I hK hS hx ru h3
  obtain ⟨bs, r2, _⟩ := NR.reads I hK hS hy rt h4
  unfold okEq at h5
  simp only [Bool.and_eq_true] at h5
  have k1 := okD_iff h5.1
  have k2 := okD_iff h5.2
  exact .leaf fun A hu => PySem.SeqAt.eqAt_plain d d' A s u t as bs r1 r2 k1.1 k2.1 (by have := Nat.min_le_left d.depth d'.depth; omega)
theorem leaf_true (I : Inv X pins σ C.H s) (hK : X.K = G.K) (hS : G.Sys) {x y : Val} {v : V} {u : Value} {b : Bool} (hx : NR G C x v) (hy : NR G C y v) (ru : RelV v u) (e : veq x y = some b) : b = true := by
  obtain ⟨d, d', h3, h4, h5, rfl⟩ := veq_some e
  obtain ⟨as, r1, _⟩ := NR.reads I hK hS hx ru h3
  obtain ⟨bs, r2, _⟩ := NR.reads I hK hS hy ru h4
  unfold okEq at h5
  simp only [Bool.and_eq_true] at h5
  have k1 := okD_iff h5.1
  obtain ⟨z, _⟩ := PyProof.Rows.reads_det (fun _ _ e _ => e) r1 r2
  rw [z]
  exact PySem.SeqAt.eqv_refl_plain d k1.1
theorem vrs_ix : ∀ {xs : List Val} {zs : List V} {its : List Value}, VRs G C xs zs → Vals zs its → xs.length = its.length ∧ ∀ j (h1 : j < xs.length) (h2 : j < its.length), ∃ v, zs[j]? = some v ∧ VR G C xs[j] v ∧ RelV v its[j]
  | [], zs, its, h, r => by
    unfold VRs at h
    subst h
    cases r
    exact ⟨rfl, fun j h1 => absurd h1 (Nat.not_lt_zero _)⟩
  | x :: xs, zs, its, h, r => by
    unfold VRs at h
    obtain ⟨y, zs', rfl, a, b⟩ := h
    cases r with
    | cons r1 r2 =>
      obtain ⟨l, q⟩ := vrs_ix b r2
      refine ⟨by simp [l], fun j => ?_⟩
      cases j with
      | zero => intro _ _; exact ⟨y, rfl, a, r1⟩
      | succ j => intro h1 h2; simpa using q j (by simpa using h1) (by simpa using h2)
theorem dget_nd {kvs : List (Key × Val)} (nd : (kvs.map (·.1)).Nodup) {k : Key} {v : Val} (h : (k, v) ∈ kvs) : dget kvs k = some v := by
  induction kvs with
  | nil => cases h
  | cons p r ih =>
    rw [List.map_cons, List.nodup_cons] at nd
    obtain ⟨j, u⟩ := p
    rcases List.mem_cons.mp h with e | h'
    · cases e; simp [dget]
    · have : j ≠ k := fun z => nd.1 (List.mem_map.mpr ⟨(k, v), h', z.symm⟩)
      have e : dget ((j, u) :: r) k = dget r k := by simp [dget, this]
      rw [e]
      exact ih nd.2 h'
theorem at_nd {kvs : List (Key × Value)} (nd : (kvs.map (·.1)).Nodup) {k : Key} {v : Value} (h : (k, v) ∈ kvs) : valueAt kvs k = some v := by
  induction kvs with
  | nil => cases h
  | cons p r ih =>
    rw [List.map_cons, List.nodup_cons] at nd
    obtain ⟨j, u⟩ := p
    rcases List.mem_cons.mp h with e | h'
    · cases e; simp [valueAt]
    · have : j ≠ k := fun z => nd.1 (List.mem_map.mpr ⟨(k, v), h', z.symm⟩)
      have e : valueAt ((j, u) :: r) k = valueAt r k := by simp [valueAt, this]
      rw [e]
      exact ih nd.2 h'
theorem all_mem {α : Type} {f g : α → Bool} : ∀ {l : List α}, (∀ q ∈ l, f q = g q) → l.all f = l.all g
  | [], _ => rfl
  | x :: l, h => by rw [List.all_cons, List.all_cons, h x (by simp), all_mem fun q hq => h q (by simp [hq])]
theorem vrk_keys {C : Cf} : ∀ {xs : List (Key × Val)} {ys : List (Key × V)}, VRk G C xs ys → xs.map (·.1) = ys.map (·.1)
  | [], ys, h => by unfold VRk at h; subst h; rfl
  | (j, x) :: xs, ys, h => by
    unfold VRk at h
    obtain ⟨y, r, rfl, a, b⟩ := h
    simp [vrk_keys b]
theorem rd_det {H : Hp} {a : Addr} {ks ks' : List (Key × V)} (h : Rd H a (.dK ks)) (h' : Rd H a (.dK ks')) : ks = ks' := by
  rcases h with h | ⟨o, h⟩ <;> rcases h' with h' | ⟨o', h'⟩ <;> rw [h] at h' <;> cases h' <;> rfl
/-- two dicts at one place agree -/
theorem dict_true (I : Inv X pins σ C.H s) (hK : X.K = G.K) (hS : G.Sys) {ka kb : List (Key × Val)} {ks : List (Key × V)} {va : List (Key × Value)} (nd : (ks.map (·.1)).Nodup) (hv : KV ks va) (ha : VRk G C ka ks) (hb : VRk G C kb ks) {b : Bool} (e : deqS kb ka = some b) : b = true := by
  obtain ⟨h1, h2⟩ := deqS_all e
  rw [h2, List.all_eq_true]
  intro p hp
  obtain ⟨k, a⟩ := p
  have ka1 := vrk_keys ha
  have g1 := dget_nd (by rw [ka1]; exact nd) hp
  have q1 := ha.get (kk := k)
  rw [g1] at q1
  obtain ⟨v, hv1, hv2⟩ := q1
  have q2 := hb.get (kk := k)
  cases z : dget kb k with
  | none => rw [z] at q2; simp only at q2; rw [hv1] at q2; cases q2
  | some c =>
    rw [z] at q2
    obtain ⟨w, hw1, hw2⟩ := q2
    rw [hv1] at hw1
    cases hw1
    obtain ⟨r, hr⟩ := h1 k a hp c z
    have rr := hv.val k
    rw [hv1] at rr
    obtain ⟨u, _, ru⟩ := rr.some_of
    have := leaf_true I hK hS hv2.nr hw2.nr ru hr
    subst this
    simp only [hr, Option.getD_some]
theorem same_true (I : Inv X pins σ C.H s) (hK : X.K = G.K) (hS : G.Sys) : ∀ (n : Nat) {x y : Val} {v : V} {u : Value} {b : Bool}, VR G C x v → VR G C y v → RelV v u → veqT n x y = some b → b = true
  | 0, x, y, v, u, b, hx, hy, r, e => leaf_true I hK hS hx.nr hy.nr r (by unfold veqT at e; exact e)
  | n + 1, x, y, v, u, b, hx, hy, r, e => by
    unfold veqT at e
    split at e
    · rename_i xs ys hn
      split at e
      · rename_i b' q
        cases e
        exact leaf_true I hK hS hx.nr hy.nr r q
      · split at e
        · rename_i hl
          obtain ⟨ev, h1, h2⟩ := eqL_ix hl e
          unfold VR at hx hy
          obtain ⟨p, zs, rfl, _, hp, hr⟩ := hx
          obtain ⟨p', zs', e', _, hp', hr'⟩ := hy
          cases e'
          rw [hp] at hp'
          cases hp'
          obtain ⟨its, rv, _⟩ := I.list (SqL.of hp)
          obtain ⟨l1, i1⟩ := vrs_ix hr rv
          obtain ⟨l2, i2⟩ := vrs_ix hr' rv
          rw [h1, List.all_eq_true]
          intro j hj
          have hj : j < xs.length := by simpa using hj
          obtain ⟨v1, z1, z2, z3⟩ := i1 j hj (by omega)
          obtain ⟨v2, w1, w2, w3⟩ := i2 j (by omega) (by omega)
          rw [z1] at w1
          cases w1
          cases hn
          exact same_true I hK hS n z2 w2 z3 (h2 j hj (by omega))
        · cases e
    · rename_i ka kb hn
      obtain ⟨b', e2, rfl⟩ := Option.map_eq_some_iff.mp e
      unfold VR at hx hy
      obtain ⟨p, ks, rfl, _, hp, hr⟩ := hx
      obtain ⟨p', ks', e', _, hp', hr'⟩ := hy
      cases e'
      have := rd_det hp hp'
      subst this
      obtain ⟨_, _, va, ra, da⟩ := dk_rd I.hok hp
      obtain ⟨o, es, ep, _, _, _, _, _, nd⟩ := da
      have hb := dict_true I hK hS (by rw [ra.keys]; exact nd) ra hr hr' e2
      have l1 := VRk.length' hr
      have l2 := VRk.length' hr'
      simp [hb, l1, l2]
    · exact leaf_true I hK hS hx.nr hy.nr r e
/-- the comparison's tree -/
theorem tree_ok (I : Inv X pins σ C.H s) (hK : X.K = G.K) (hS : G.Sys) : ∀ (n : Nat) {x y : Val} {v w : V} {u t : Value} {b : Bool}, VR G C x v → VR G C y w → RelV v u → RelV w t → veqT n x y = some b → PySem.W.EqTree X.prog X.w s (60 + n) u t b
  | 0, x, y, v, w, u, t, b, hx, hy, ru, rt, e => leaf_tree I hK hS hx.nr hy.nr ru rt (by unfold veqT at e; exact e)
  | n + 1, x, y, v, w, u, t, b, hx, hy, ru, rt, e => by
    have e0 := e
    unfold veqT at e
    split at e
    · rename_i xs ys hn
      cases hn
      split at e
      · rename_i b' q
        cases e
        exact leaf_tree I hK hS hx.nr hy.nr ru rt q
      · split at e
        · rename_i hl
          obtain ⟨ev, h1, h2⟩ := eqL_ix hl e
          have hx0 := hx
          have hy0 := hy
          unfold VR at hx hy
          obtain ⟨p, zs, rfl, _, hp, hr⟩ := hx
          obtain ⟨p', zs', rfl, _, hp', hr'⟩ := hy
          by_cases hpp : p = p'
          · subst hpp
            have := same_true I hK hS (n + 1) hx0 hy0 ru e0
            subst this
            cases ru
            cases rt
            exact .same
          · cases ru
            cases rt
            obtain ⟨its, rv, ⟨o, m, ho, hc, _, hd⟩, _⟩ := I.list (SqL.of hp)
            obtain ⟨its', rv', ⟨o', m', ho', hc', _, hd'⟩, _⟩ := I.list (SqL.of hp')
            obtain ⟨l1, i1⟩ := vrs_ix hr rv
            obtain ⟨l2, i2⟩ := vrs_ix hr' rv'
            have hb : b = (List.range its.toArray.size).all ev := by rw [h1, l1]; simp
            rw [hb]
            refine .lists (n := 60 + n) (vs := its.toArray) (vs' := its'.toArray) hpp ⟨o, ho, hc, m, hd⟩ ⟨o', ho', hc', m', hd'⟩ (by simp; omega) fun j g1 g2 => ?_
            have g1 : j < its.length := by simpa using g1
            have g2 : j < its'.length := by simpa using g2
            obtain ⟨v1, z1, z2, z3⟩ := i1 j (by omega) g1
            obtain ⟨v2, w1, w2, w3⟩ := i2 j (by omega) g2
            have := tree_ok I hK hS n z2 w2 z3 w3 (h2 j (by omega) (by omega))
            simpa using this
        · cases e
    · rename_i ka kb hn
      cases hn
      obtain ⟨b', e2, rfl⟩ := Option.map_eq_some_iff.mp e
      have hx0 := hx
      have hy0 := hy
      unfold VR at hx hy
      obtain ⟨p, ks, rfl, _, hp, hr⟩ := hx
      obtain ⟨p', ks', rfl, _, hp', hr'⟩ := hy
      by_cases hpp : p = p'
      · subst hpp
        have := same_true I hK hS (n + 1) hx0 hy0 ru e0
        rw [this]
        cases ru
        cases rt
        exact .same
      · cases ru
        cases rt
        obtain ⟨_, y1, va, ra, da⟩ := dk_rd I.hok hp
        obtain ⟨_, y2, vb, rb, db⟩ := dk_rd I.hok hp'
        have nda : (va.map (·.1)).Nodup := by obtain ⟨o, es, ep, _, _, _, _, _, nd⟩ := da; exact nd
        obtain ⟨h1, h2⟩ := deqS_all e2
        have kA := vrk_keys hr
        have kA2 : ka.map (·.1) = va.map (·.1) := kA.trans ra.keys
        have l1 : ka.length = va.length := by have := congrArg List.length kA2; simpa using this
        have l2 : kb.length = vb.length := by have := congrArg List.length ((vrk_keys hr').trans rb.keys); simpa using this
        have ndk : (ka.map (·.1)).Nodup := by rw [kA2]; exact nda
        let ev : Key → Bool := fun k => match dget ka k, dget kb k with
          | some a, some c => (veq a c).getD false
          | _, _ => false
        have hsm : ∀ k, (dget kb k).isSome = (valueAt vb k).isSome := fun k => by
          rw [← hr'.isSome (kk := k)]
          exact (rb.val k).isSome_eq
        have hb : (decide (ka.length = kb.length) && b') = (va.length == vb.length && va.all fun p => (valueAt vb p.1).isSome && ev p.1) := by
          have e3 : b' = (ka.map (·.1)).all fun k => (valueAt vb k).isSome && ev k := by
            rw [h2, List.all_map]
            refine all_mem fun q hq => ?_
            obtain ⟨k, a⟩ := q
            have g := dget_nd ndk hq
            simp only [Function.comp, ← hsm, ev, g]
            cases dget kb k <;> simp
          rw [e3, kA2, List.all_map, l1, l2, Bool.beq_eq_decide_eq]
          rfl
        rw [hb]
        refine .dicts (n := 60 + n) hpp y1 y2 da db fun k v1 y hm hv => ?_
        have : k ∈ ka.map (·.1) := by rw [kA2]; exact List.mem_map.mpr ⟨_, hm, rfl⟩
        obtain ⟨⟨k', a⟩, hq, hk⟩ := List.mem_map.mp this
        simp only at hk
        subst hk
        have g := dget_nd ndk hq
        have q1 := hr.get (kk := k')
        rw [g] at q1
        obtain ⟨va1, q2, q3⟩ := q1
        have rr := ra.val k'
        rw [q2] at rr
        obtain ⟨u1, hu1, ru1⟩ := rr.some_of
        have hu2 : valueAt va k' = some v1 := at_nd nda hm
        rw [hu2] at hu1
        cases hu1
        have hs1 := hsm k'
        rw [hv] at hs1
        cases z : dget kb k' with
        | none => rw [z] at hs1; cases hs1
        | some c =>
          have q4 := hr'.get (kk := k')
          rw [z] at q4
          obtain ⟨w1, q5, q6⟩ := q4
          have rr2 := rb.val k'
          rw [q5] at rr2
          obtain ⟨u2, hu3, ru2⟩ := rr2.some_of
          rw [hv] at hu3
          cases hu3
          obtain ⟨r, hr2⟩ := h1 k' a hq c z
          have he : ev k' = r := by simp only [ev, g, z, hr2, Option.getD_some]
          rw [he]
          exact leaf_tree I hK hS q3.nr q6.nr ru1 ru2 hr2
    · exact leaf_tree I hK hS hx.nr hy.nr ru rt e
end
section
variable {G : Gl} {X : Cx} {k : Nat}
/-- two lists of other lengths -/
def rLD (G : Gl) (ng : Bool) : R2 := fun x y H Q => ∃ C xs ys, C.H = H ∧ NR G C (.lst xs) x ∧ NR G C (.lst ys) y ∧ xs.length ≠ ys.length ∧ Q (.bl ng) H
theorem ld_pre {pins : List (Addr × Obj)} {σ : L2.St} {s : Shared} {C : Cf} (I : Inv X pins σ C.H s) {xs ys : List Val} {x y : V} {v u : Value} (hx : NR G C (.lst xs) x) (hy : NR G C (.lst ys) y) (rx : RelV x v) (ry : RelV y u) (hl : xs.length ≠ ys.length) :
    ∃ (p q : Addr) (va vb : Array Value), v = .ref p ∧ u = .ref q ∧ s.heap.IsList p va ∧ s.heap.IsList q vb ∧ (va.size != vb.size) = true := by
  obtain ⟨p, zs, rfl, hp, hr⟩ := hx
  obtain ⟨p', zs', rfl, hp', hr'⟩ := hy
  cases rx
  cases ry
  obtain ⟨its, rv, ⟨o, m, ho, hc, _, hd⟩, _⟩ := I.list (SqL.of hp)
  obtain ⟨its', rv', ⟨o', m', ho', hc', _, hd'⟩, _⟩ := I.list (SqL.of hp')
  obtain ⟨l1, _⟩ := vrs_ix hr rv
  obtain ⟨l2, _⟩ := vrs_ix hr' rv'
  exact ⟨p, p', its.toArray, its'.toArray, rfl, rfl, ⟨o, ho, hc, m, hd⟩, ⟨o', ho', hc', m', hd'⟩, by simp; omega⟩
theorem opLDe (hR : Room k X.A) : OpR X (compareOp .Eq) (rLD G false) := by
  intro pins s σ H x y v u Q I rx ry ⟨C, xs, ys, hC, hx, hy, hl, q⟩
  subst hC
  have h2 := hR.units
  obtain ⟨p, p2, va, vb, rfl, rfl, y1, y2, hsz⟩ := ld_pre I hx hy rx ry hl
  exact PySem.SeqAt.eq_list_lengthsAt y1 y2 hsz (by omega) ⟨.bl false, C.H, I, rfl, q⟩
theorem opLDn (hR : Room k X.A) : OpR X (compareOp .NotEq) (rLD G true) := by
  intro pins s σ H x y v u Q I rx ry ⟨C, xs, ys, hC, hx, hy, hl, q⟩
  subst hC
  have h2 := hR.units
  obtain ⟨p, p2, va, vb, rfl, rfl, y1, y2, hsz⟩ := ld_pre I hx hy rx ry hl
  exact PySem.SeqAt.rs_lists_neL y1 y2 hsz (by omega) ⟨.bl true, C.H, I, rfl, q⟩
def rLT (G : Gl) (ng : Bool) : R2 := fun x y H Q => ∃ C xs ys b, C.H = H ∧ NR G C (.lst xs) x ∧ NR G C (.lst ys) y ∧ xs.length = ys.length ∧ eqL (veqT 2) xs ys = some b ∧ Q (.bl (b != ng)) H
theorem lt_pre {pins : List (Addr × Obj)} {σ : L2.St} {s : Shared} {C : Cf} (I : Inv X pins σ C.H s) (hK : X.K = G.K) (hS : G.Sys) {xs ys : List Val} {x y : V} {v u : Value} {b : Bool} (hx : NR G C (.lst xs) x) (hy : NR G C (.lst ys) y) (rx : RelV x v) (ry : RelV y u) (hl : xs.length = ys.length) (e : eqL (veqT 2) xs ys = some b) :
    ∃ (p q : Addr) (va vb : Array Value) (ev : Nat → Bool), v = .ref p ∧ u = .ref q ∧ s.heap.IsList p va ∧ s.heap.IsList q vb ∧ va.size = vb.size ∧ b = (List.range va.size).all ev ∧ ∀ j (h1 : j < va.size) (h2 : j < vb.size), PySem.W.EqTree X.prog X.w s 62 va[j] vb[j] (ev j) := by
  obtain ⟨ev, h1, h2⟩ := eqL_ix hl e
  obtain ⟨p, zs, rfl, hp, hr⟩ := hx
  obtain ⟨p', zs', rfl, hp', hr'⟩ := hy
  cases rx
  cases ry
  obtain ⟨its, rv, ⟨o, m, ho, hc, _, hd⟩, _⟩ := I.list (SqL.of hp)
  obtain ⟨its', rv', ⟨o', m', ho', hc', _, hd'⟩, _⟩ := I.list (SqL.of hp')
  obtain ⟨l1, i1⟩ := vrs_ix hr rv
  obtain ⟨l2, i2⟩ := vrs_ix hr' rv'
  refine ⟨p, p', its.toArray, its'.toArray, ev, rfl, rfl, ⟨o, ho, hc, m, hd⟩, ⟨o', ho', hc', m', hd'⟩, by simp; omega, by rw [h1, l1]; simp, fun j g1 g2 => ?_⟩
  have g1 : j < its.length := by simpa using g1
  have g2 : j < its'.length := by simpa using g2
  obtain ⟨v1, z1, z2, z3⟩ := i1 j (by omega) g1
  obtain ⟨v2, w1, w2, w3⟩ := i2 j (by omega) g2
  have := tree_ok I hK hS 2 z2 w2 z3 w3 (h2 j (by omega) (by omega))
  simpa using this
theorem opLTe (hK : X.K = G.K) (hS : G.Sys) (hR : Room k X.A) : OpR X (compareOp .Eq) (rLT G false) := by
  intro pins s σ H x y v u Q I rx ry ⟨C, xs, ys, b, hC, hx, hy, hl, e, q⟩
  subst hC
  have h2 := hR.units
  obtain ⟨p, p2, va, vb, ev, rfl, rfl, y1, y2, hsz, hb, ht⟩ := lt_pre I hK hS hx hy rx ry hl e
  refine PySem.W.eq_listsT (n := 62) y1 y2 hsz ht (by omega) ?_
  rw [← hb]
  exact ⟨.bl b, C.H, I, rfl, by simpa using q⟩
theorem opLTn (hK : X.K = G.K) (hS : G.Sys) (hR : Room k X.A) : OpR X (compareOp .NotEq) (rLT G true) := by
  intro pins s σ H x y v u Q I rx ry ⟨C, xs, ys, b, hC, hx, hy, hl, e, q⟩
  subst hC
  have h2 := hR.units
  obtain ⟨p, p2, va, vb, ev, rfl, rfl, y1, y2, hsz, hb, ht⟩ := lt_pre I hK hS hx hy rx ry hl e
  refine PySem.SeqAt.rs_lists_ne y1 y2 hsz (by omega) (fun j h1 h2 => (ht j h1 h2).at X.A.in1 (by show X.A.units + 1 + _ < cLine; omega)) ?_
  rw [← hb]
  exact ⟨.bl (!b), C.H, I, rfl, by cases b <;> simpa using q⟩
/-- a tuple with things in it, and the empty one -/
def rTD (G : Gl) (ng : Bool) : R2 := fun x y H Q => ∃ C xs ys, C.H = H ∧ NR G C (.tup xs) x ∧ NR G C (.tup ys) y ∧ (ys.length = 0 ∧ xs.length ≠ 0) ∧ Q (.bl ng) H
theorem td_pre {pins : List (Addr × Obj)} {σ : L2.St} {s : Shared} {C : Cf} (I : Inv X pins σ C.H s) (hK : X.K = G.K) {xs ys : List Val} {x y : V} {v u : Value} (hx : NR G C (.tup xs) x) (hy : NR G C (.tup ys) y) (rx : RelV x v) (ry : RelV y u) (hl : ys.length = 0 ∧ xs.length ≠ 0) :
    ∃ (p q : Addr) (va vb : Array Value), v = .ref p ∧ u = .ref q ∧ s.heap.IsTuple p va ∧ s.heap.IsTuple q vb ∧ vb.size = 0 ∧ va.size ≠ 0 := by
  obtain ⟨p, zs, rfl, hp, hr⟩ := hx.tup
  obtain ⟨p', zs', rfl, hp', hr'⟩ := hy.tup
  cases rx
  cases ry
  obtain ⟨its, rv, ⟨o, ho, hc, m, hd⟩, _⟩ := I.tuple (by rw [hK]; exact hp)
  obtain ⟨its', rv', ⟨o', ho', hc', m', hd'⟩, _⟩ := I.tuple (by rw [hK]; exact hp')
  obtain ⟨l1, _⟩ := vrs_ix hr rv
  obtain ⟨l2, _⟩ := vrs_ix hr' rv'
  exact ⟨p, p', its.toArray, its'.toArray, rfl, rfl, ⟨o, ho, hc, m, hd⟩, ⟨o', ho', hc', m', hd'⟩, by rw [List.size_toArray]; omega, by rw [List.size_toArray]; omega⟩
theorem opTDe (hK : X.K = G.K) (hR : Room k X.A) : OpR X (compareOp .Eq) (rTD G false) := by
  intro pins s σ H x y v u Q I rx ry ⟨C, xs, ys, hC, hx, hy, hl, q⟩
  subst hC
  have h2 := hR.units
  obtain ⟨p, p2, va, vb, rfl, rfl, y1, y2, h3, h4⟩ := td_pre I hK hx hy rx ry hl
  have e : ((List.range (min va.size vb.size)).all (fun _ => true) && va.size == vb.size) = false := by
    rw [h3]
    simp
    exact fun z => h4 (by simp [z])
  refine PySem.SeqAt.rcIn_tuples (e := fun _ => true) y1 y2 (by omega) (fun j _ h => by omega) ?_
  rw [e]
  exact ⟨.bl false, C.H, I, rfl, q⟩
theorem opTDn (hK : X.K = G.K) (hR : Room k X.A) : OpR X (compareOp .NotEq) (rTD G true) := by
  intro pins s σ H x y v u Q I rx ry ⟨C, xs, ys, hC, hx, hy, hl, q⟩
  subst hC
  have h2 := hR.units
  obtain ⟨p, p2, va, vb, rfl, rfl, y1, y2, h3, h4⟩ := td_pre I hK hx hy rx ry hl
  have e : (!((List.range (min va.size vb.size)).all (fun _ => true) && va.size == vb.size)) = true := by
    rw [h3]
    simp
    exact fun z => h4 (by simp [z])
  refine PySem.SeqAt.RcNeAt.tuples (e := fun _ => true) y1 y2 (by omega) (fun j _ h => by omega) X.prog X.w X.xe _ ?_
  rw [e]
  exact ⟨.bl true, C.H, I, rfl, q⟩
theorem veqX_or (x y : Val) : (∃ ka kb, x = .dct ka ∧ y = .dct kb) ∨ (∃ xs ys, x = .lst xs ∧ y = .lst ys ∧ veq x y = none) ∨ (∃ xs ys, x = .tup xs ∧ y = .tup ys ∧ veq x y = none) ∨ veqX x y = veq x y := by
  cases x with
  | dct ka => cases y with
    | dct kb => exact .inl ⟨ka, kb, rfl, rfl⟩
    | _ => exact .inr (.inr (.inr rfl))
  | lst xs => cases y with
    | lst ys =>
      cases q : veq (.lst xs) (.lst ys) with
      | none => exact .inr (.inl ⟨xs, ys, rfl, rfl, rfl⟩)
      | some b => exact .inr (.inr (.inr (by simp only [veqX, q])))
    | _ => exact .inr (.inr (.inr rfl))
  | tup xs => cases y with
    | tup ys =>
      cases q : veq (.tup xs) (.tup ys) with
      | none => exact .inr (.inr (.inl ⟨xs, ys, rfl, rfl, rfl⟩))
      | some b => exact .inr (.inr (.inr (by simp only [veqX, q])))
    | _ => exact .inr (.inr (.inr rfl))
  | _ => exact .inr (.inr (.inr rfl))
theorem veqX_tupN {xs ys : List Val} {b : Bool} (h : veq (.tup xs) (.tup ys) = none) (e : veqX (.tup xs) (.tup ys) = some b) : (ys.length = 0 ∧ xs.length ≠ 0) ∧ b = false := by
  simp only [veqX, h] at e
  split at e
  · rename_i hl; cases e; exact ⟨hl, rfl⟩
  · cases e
theorem veqX_lst {xs ys : List Val} {b : Bool} (h : veq (.lst xs) (.lst ys) = none) (e : veqX (.lst xs) (.lst ys) = some b) : (xs.length = ys.length ∧ eqL (veqT 2) xs ys = some b) ∨ (xs.length ≠ ys.length ∧ b = false) := by
  simp only [veqX, h] at e
  split at e
  · rename_i hl; exact .inl ⟨hl, e⟩
  · rename_i hl; cases e; exact .inr ⟨hl, rfl⟩
theorem eq_ok (hK : X.K = G.K) (hS : G.Sys) (hR : Room k X.A) : CmpI G X (compareOp .Eq) veqX := fun C x y v w b Q hx hy e q => by
  rcases veqX_or x y with ⟨ka, kb, rfl, rfl⟩ | ⟨xs, ys, rfl, rfl, h⟩ | ⟨xs, ys, rfl, rfl, h⟩ | h
  · exact ⟨_, opDKe hK hS hR, C, ka, kb, b, rfl, hx, hy, e, by simpa using q⟩
  · rcases veqX_lst h e with ⟨hl, e⟩ | ⟨hl, rfl⟩
    rotate_left
    · exact ⟨_, opLDe hR, C, xs, ys, rfl, hx, hy, hl, by simpa using q⟩
    exact ⟨_, opLTe hK hS hR, C, xs, ys, b, rfl, hx, hy, hl, e, by simpa using q⟩
  · obtain ⟨hl, rfl⟩ := veqX_tupN h e
    exact ⟨_, opTDe hK hR, C, xs, ys, rfl, hx, hy, hl, by simpa using q⟩
  · rw [h] at e
    exact eq_ok0 hK hS hR C x y v w b Q hx hy e q
theorem ne_ok (hK : X.K = G.K) (hS : G.Sys) (hR : Room k X.A) : CmpI G X (compareOp .NotEq) (fun a b => (veqX a b).map (!·)) := fun C x y v w b Q hx hy e q => by
  rcases veqX_or x y with ⟨ka, kb, rfl, rfl⟩ | ⟨xs, ys, rfl, rfl, h⟩ | ⟨xs, ys, rfl, rfl, h⟩ | h
  · obtain ⟨b0, e0, rfl⟩ := Option.map_eq_some_iff.mp e
    exact ⟨_, opDKn hK hS hR, C, ka, kb, b0, rfl, hx, hy, e0, by cases b0 <;> simpa using q⟩
  · obtain ⟨b0, e0, rfl⟩ := Option.map_eq_some_iff.mp e
    rcases veqX_lst h e0 with ⟨hl, e0⟩ | ⟨hl, rfl⟩
    rotate_left
    · exact ⟨_, opLDn hR, C, xs, ys, rfl, hx, hy, hl, by simpa using q⟩
    exact ⟨_, opLTn hK hS hR, C, xs, ys, b0, rfl, hx, hy, hl, e0, by cases b0 <;> simpa using q⟩
  · obtain ⟨b0, e0, rfl⟩ := Option.map_eq_some_iff.mp e
    obtain ⟨hl, rfl⟩ := veqX_tupN h e0
    exact ⟨_, opTDn hK hR, C, xs, ys, rfl, hx, hy, hl, by simpa using q⟩
  · have e : (veqX x y).map (!·) = some b := e
    rw [h] at e
    exact ne_ok0 hK hS hR C x y v w b Q hx hy e q
theorem cmp_ok (hK : X.K = G.K) (hS : G.Sys) (hR : Room k X.A) : ∀ op : Cop, CmpI G X (compareOp (cop op)) (cmpop op)
  | .eq => eq_ok hK hS hR
  | .ne => ne_ok hK hS hR
  | .lt => lt_ok hK hS hR
  | .gt => gt_ok hK hS hR
  | .le => le_ok hK hS hR
  | .ge => ge_ok hK hS hR
  | .isin => vin_ok hK hS hR
  | .notin => vnin_ok hK hS hR
  | .is_ => is_ok
  | .isnot => isnot_ok
end
end Rs
end
section
set_option maxRecDepth 100000
set_option maxHeartbeats 4000000
/-! Expressions: each construct's rule. -/
namespace Rs
open PySem PySem.Spec PyProof.Rows L2
theorem bind_ok {α β : Type} {r : R α} {k : α → S → R β} {b : β} {s' : S} (h : r.bind k = .ok b s') : ∃ a s1, r = .ok a s1 ∧ k a s1 = .ok b s' := by
  cases r with
  | ok a s1 => exact ⟨a, s1, rfl, h⟩
  | exc c p s => cases h
  | bad => cases h
theorem opt_ok {α : Type} {o : Option α} {s s' : S} {a : α} (h : R.opt o s = .ok a s') : o = some a ∧ s' = s := by
  cases o with
  | none => cases h
  | some b => cases h; exact ⟨rfl, rfl⟩
theorem val_ok {r : R Rv} {v : Val} {s' : S} (h : r.val = .ok v s') : ∃ x, r = .ok x s' ∧ freeze x = some v := by
  obtain ⟨x, s1, e1, e2⟩ := bind_ok h
  obtain ⟨e3, rfl⟩ := opt_ok e2
  exact ⟨x, e1, e3⟩
def tVs (G : Gl) (f : S → R (List Val)) : TA := fun σ H Q => ∃ C s xs s', C.H = H ∧ Rel G C s σ ∧ f s = .ok xs s' ∧ ∀ C' vs, Le C C' → Rel G C' s' σ → VRs G C' xs vs → Q vs C'.H
def ORs (G : Gl) (C : Cf) (s : S) (σ : L2.St) : List Rv → List V → Prop
  | [], vs => vs = []
  | x :: xs, vs => ∃ v r, vs = v :: r ∧ OR G C s σ x v ∧ ORs G C s σ xs r
theorem ORs.mono {G : Gl} {C C' : Cf} {s s' : S} {σ : L2.St} (l : Le C C') : ∀ {xs : List Rv} {vs : List V}, ORs G C s σ xs vs → ORs G C' s' σ xs vs
  | [], _, h => h
  | _ :: _, _, h => by
    obtain ⟨v, r, e, a, b⟩ := h
    exact ⟨v, r, e, a.mono l, ORs.mono l b⟩
def tOs (G : Gl) (f : S → R (List Rv)) : TA := fun σ H Q => ∃ C s xs s', C.H = H ∧ Rel G C s σ ∧ f s = .ok xs s' ∧ ∀ C' vs, Le C C' → Rel G C' s' σ → ORs G C' s' σ xs vs → Q vs C'.H
/-- what is known of a body -/
structure XO0 (G : Gl) (k : Nat) (X : Cx) : Prop where
  K : X.K = G.K
  sys : G.Sys
  calm : X.calm = true
  nd : X.N.Nodup
  room : Room k X.A
  xe : X.xe = fun _ _ => False
/-- the same, where no repr is under way -/
structure XO (G : Gl) (k : Nat) (X : Cx) : Prop extends XO0 G k X where
  gd : X.A.guards = some []
instance {G : Gl} {k : Nat} {X : Cx} : Coe (XO G k X) (XO0 G k X) := ⟨XO.toXO0⟩
section
variable {G : Gl} {T : Tab} {F : Call} {k : Nat} {X : Cx}
abbrev EE (G : Gl) (T : Tab) (F : Call) (a : IE) : TE := tE G (evalE T F a)
abbrev EB (G : Gl) (T : Tab) (F : Call) (a : IE) : TT := tBo G (evalB T F a)
theorem EE_of_val {a : IE} {σ : L2.St} {H : Hp} {Q : VK} {C : Cf} {s s' : S} {x : Val} (hH : C.H = H) (r : Rel G C s σ) (e : (evalE T F a s).val = .ok x s') (k : ∀ C' v, Le C C' → Rel G C' s' σ → VR G C' x v → Q v C'.H) : EE G T F a σ H Q :=
  tV_of ⟨C, s, x, s', hH, r, e, k⟩
theorem EE_of_op {a : IE} {σ : L2.St} {H : Hp} {Q : VK} {C : Cf} {s s' : S} {x : Rv} (hH : C.H = H) (r : Rel G C s σ) (e : evalE T F a s = .ok x s') (k : ∀ C' v, Le C C' → Rel G C' s' σ → OR G C' s' σ (opnd x) v → Q v C'.H) : EE G T F a σ H Q :=
  tO_of ⟨C, s, x, s', hH, r, e, k⟩
theorem slot_get {s : S} {i : Nat} {t : Slot} (h : slotOf s i = t) (n : t ≠ .no) : s.e[i]? = some t := by
  unfold slotOf at h
  rw [List.getD_eq_getElem?_getD] at h
  cases q : s.e[i]? with
  | none => rw [q] at h; exact absurd h.symm n
  | some u => rw [q] at h; exact congrArg some h

/-! ### names, constants -/
theorem se_var {x : Str} {pos : Pos} (i : Nat) (hN : X.N[i]? = some x := by rfl) (hv : Vis X.env.scope x := by first | exact Or.inl rfl | exact Or.inr (Or.inl rfl) | exact Or.inr (Or.inr rfl)) (hd : (x == ("__debug__" : Str)) = false := by decide)
    (hcd : (x == ("__classdict__" : Str)) = false := by decide) : PE X (.Name x pos) (EE G T F (.var i)) := by
  refine PE.weak (pe_var hN hv hd hcd) fun σ H Q ⟨C, s, r, s', hH, rl, e, k⟩ => ?_
  unfold evalE at e
  unfold rdVar at e
  subst hH
  cases q : slotOf s i with
  | no => simp [q] at e
  | val x =>
    simp only [q, R.ok.injEq] at e
    obtain ⟨rfl, rfl⟩ := e
    obtain ⟨v, h1, h2⟩ := rl.env i x (slot_get q (by simp))
    exact ⟨v, h1, k C v (.refl C) rl h2⟩
  | own c =>
    simp only [q, R.ok.injEq] at e
    obtain ⟨rfl, rfl⟩ := e
    obtain ⟨p, h1, _⟩ := rl.own i c (slot_get q (by simp))
    exact ⟨_, h1, k C _ (.refl C) rl h1⟩
theorem se_int {i : Int} {j : Nat} {pos : Pos} : PE X (.Constant (.int i) j pos) (EE G T F (.cst (.int i))) := PE.weak pe_int fun σ H Q ⟨C, s, r, s', hH, rl, e, k⟩ => by
  unfold evalE at e; cases e; subst hH; exact (show Q (.int i) C.H from out_v rl .int k)
theorem se_str {i : Str} {j : Nat} {pos : Pos} : PE X (.Constant (.str i) j pos) (EE G T F (.cst (.str i))) := PE.weak pe_str fun σ H Q ⟨C, s, r, s', hH, rl, e, k⟩ => by
  unfold evalE at e; cases e; subst hH; exact (show Q (.str i) C.H from out_v rl .str k)
theorem se_bl {i : Bool} {j : Nat} {pos : Pos} : PE X (.Constant (.bool i) j pos) (EE G T F (.cst (.bl i))) := PE.weak pe_bl fun σ H Q ⟨C, s, r, s', hH, rl, e, k⟩ => by
  unfold evalE at e; cases e; subst hH; exact (show Q (.bl i) C.H from out_v rl .bl k)
theorem se_non {j : Nat} {pos : Pos} : PE X (.Constant .none j pos) (EE G T F (.cst .non)) := PE.weak pe_non fun σ H Q ⟨C, s, r, s', hH, rl, e, k⟩ => by
  unfold evalE at e; cases e; subst hH; exact (show Q (.non) C.H from out_v rl .non k)
/-! ### operators -/
theorem bin_bad1 (op : Bop) (y : Val) : binop op .bad y = none := by cases op <;> simp [binop]
theorem bin_bad2 (op : Bop) (x : Val) : binop op x .bad = none := by cases op <;> cases x <;> simp [binop]
theorem veqX_bad1 (y : Val) : veqX .bad y = veq .bad y := by cases y <;> rfl
theorem cmp_bad1 (op : Cop) (y : Val) : cmpop op .bad y = none := by
  cases op <;> cases y <;> simp [cmpop, veqX_bad1, veq, vlt, vin, vis, toD, keyV]
theorem toDs_bad : toD .bad = none := by unfold toD; rfl
theorem veq_bad (x : Val) : veq x .bad = none := by
  unfold veq
  rw [toDs_bad]
  generalize toD x = o
  cases o <;> rfl
theorem vlt_bad (x : Val) : vlt x .bad = none := by
  have h : (match toD x, toD .bad with
    | some d, some e => if PySem.W.alike d e && (okD d && notNone d) then some (PySem.W.dataLt d e) else none
    | _, _ => none) = none := by
    rw [toDs_bad]
    generalize toD x = o
    cases o <;> rfl
  cases x <;> exact h
theorem bad_vlt (x : Val) : vlt .bad x = none := by
  have h : (match toD .bad, toD x with
    | some d, some e => if PySem.W.alike d e && (okD d && notNone d) then some (PySem.W.dataLt d e) else none
    | _, _ => none) = none := by
    rw [toDs_bad]
  cases x <;> exact h
theorem veqX_bad2 (x : Val) : veqX x .bad = veq x .bad := by cases x <;> rfl
theorem cmp_bad2 (op : Cop) (x : Val) : cmpop op x .bad = none := by
  cases op
  · show veqX x .bad = none; rw [veqX_bad2]; exact veq_bad x
  · show (veqX x .bad).map (!·) = none; rw [veqX_bad2, veq_bad]; rfl
  · exact vlt_bad x
  · show (vlt .bad x).map (!·) = none; rw [bad_vlt]; rfl
  · exact bad_vlt x
  · show (vlt x .bad).map (!·) = none; rw [vlt_bad]; rfl
  · rfl
  · rfl
  · rfl
  · rfl
theorem ne_bad1 {α : Type} {op : Val → Val → Option α} {x y : Val} {r : α} (h : ∀ y, op .bad y = none) (e : op x y = some r) : x ≠ .bad := fun z => by subst z; rw [h] at e; cases e
theorem ne_bad2 {α : Type} {op : Val → Val → Option α} {x y : Val} {r : α} (h : ∀ x, op x .bad = none) (e : op x y = some r) : y ≠ .bad := fun z => by subst z; rw [h] at e; cases e
theorem se_bin {ea eb : Expr} {pos : Pos} {a b : IE} (o : XO0 G k X) (op : Bop) (ha : PE X ea (EE G T F a)) (hb : PE X eb (EE G T F b)) : PE X (.BinOp ea (bop op) eb pos) (EE G T F (.bin op a b)) := by
  refine PE.weak (pe_op OpR.any ha hb) fun σ H Q ⟨C, s, r, s', hH, rl, e, kk⟩ => ?_
  unfold evalE at e
  obtain ⟨x, s1, e1, e⟩ := bind_ok e
  obtain ⟨y, s2, e2, e⟩ := bind_ok e
  obtain ⟨e, rfl⟩ := opt_ok e
  show EE G T F a σ H (fun x H1 => EE G T F b σ H1 (fun y H2 => ∃ r : R2, OpR X _ r ∧ r x y H2 Q))
  refine EE_of_op hH rl e1 fun C1 v l1 r1 o1 => EE_of_op rfl r1 e2 fun C2 w l2 r2 o2 => ?_
  have ok := bin_ok (G := G) (X := X) o.K op
  have hx := deref_ok r2 (OR.mono l2 o1) (ne_bad1 (bin_bad1 op) e)
  have hy := deref_ok r2 o2 (ne_bad2 (bin_bad2 op) e)
  have := ok C2 _ σ _ _ v w r Q r2 hx hy e fun C3 z l3 r3 h3 => kk C3 z ((l1.trans l2).trans l3) r3 h3
  cases op <;> exact this
theorem st_cmp {ea eb : Expr} {pos : Pos} {a b : IE} (o : XO0 G k X) (op : Cop) (ha : PE X ea (EE G T F a)) (hb : PE X eb (EE G T F b)) (hm : behindInMarks (cop op) eb = false := by first | exact nomark _ | rfl) : PT X (.Compare ea [cop op] [eb] pos) (EB G T F (.cmp op a b)) := by
  refine PT.weak (pt_cmpR OpR.any ha hb hm) fun σ H Q ⟨C, s, r, s', hH, rl, e, kk⟩ => ?_
  unfold evalB at e
  obtain ⟨z, s3, e, e'⟩ := bind_ok e
  obtain ⟨z', e, ez⟩ := val_ok e
  obtain ⟨e', rfl⟩ := opt_ok e'
  unfold evalE at e
  obtain ⟨x, s1, e1, e⟩ := bind_ok e
  obtain ⟨y, s2, e2, e⟩ := bind_ok e
  obtain ⟨e, rfl⟩ := opt_ok e
  obtain ⟨bb, e3, e4⟩ := Option.map_eq_some_iff.mp e
  clear e
  subst e4
  have e := e3
  cases ez
  cases e'
  show EE G T F a σ H (fun x H1 => EE G T F b σ H1 (fun y H2 => ∃ r : R2, OpR X _ r ∧ r x y H2 (fun x H' => ∃ k, x = .bl k ∧ Q k H')))
  refine EE_of_op hH rl e1 fun C1 v l1 r1 o1 => EE_of_op rfl r1 e2 fun C2 w l2 r2 o2 => ?_
  have hx := deref_ok r2 (OR.mono l2 o1) (ne_bad1 (cmp_bad1 op) e3)
  have hy := deref_ok r2 o2 (ne_bad2 (cmp_bad2 op) e3)
  exact cmp_ok o.K o.sys o.room op C2 _ _ v w r _ hx hy e3 ⟨r, rfl, kk C2 (l1.trans l2) r2⟩
end
end Rs
end
section
set_option maxRecDepth 100000
set_option maxHeartbeats 4000000
/-! Expressions: chains, truth, places, items, lists of arguments, displays. -/
namespace Rs
open PySem PySem.Spec PyProof.Rows L2
section
variable {G : Gl} {C : Cf} {s : S} {σ : L2.St}
theorem Rel.drop (r : Rel G C s σ) (i : Nat) : Rel G C { s with e := s.e.set i .no } σ where
  len := by simpa using r.len
  env := fun j x h => r.env j x (by
    by_cases e : i = j
    · subst e
      by_cases hi : i < s.e.length
      · simp [hi] at h
      · simp [hi] at h
    · simpa [List.getElem?_set_ne e] using h)
  own := fun j c h => r.own j c (by
    by_cases e : i = j
    · subst e
      by_cases hi : i < s.e.length
      · simp [hi] at h
      · simp [hi] at h
    · simpa [List.getElem?_set_ne e] using h)
  apart := fun j l c d p h1 h2 h3 h4 => by
    refine r.apart j l c d p ?_ ?_ h3 h4
    · by_cases e : i = j
      · subst e
        by_cases hi : i < s.e.length
        · simp [hi] at h1
        · simp [hi] at h1
      · simpa [List.getElem?_set_ne e] using h1
    · by_cases e : i = l
      · subst e
        by_cases hi : i < s.e.length
        · simp [hi] at h2
        · simp [hi] at h2
      · simpa [List.getElem?_set_ne e] using h2
  hlen := r.hlen
  nd := r.nd
  cell := r.cell
  fztr := r.fztr
  kptr := r.kptr
  fzkp := r.fzkp
  tabs := r.tabs
theorem set_val {s : S} {i j : Nat} {t u : Slot} (h : (s.e.set i t)[j]? = some u) : (i = j ∧ u = t ∧ i < s.e.length) ∨ (i ≠ j ∧ s.e[j]? = some u) := by
  by_cases e : i = j
  · subst e
    by_cases hi : i < s.e.length
    · simp [hi] at h
      exact .inl ⟨rfl, h.symm, hi⟩
    · simp [hi] at h
  · rw [List.getElem?_set_ne e] at h
    exact .inr ⟨e, h⟩
/-- a name holds a value; its slot in the model holds v -/
theorem Rel.setV (r : Rel G C s σ) {i : Nat} {x : Val} {v : V} (h : VR G C x v) : Rel G C { s with e := s.e.set i (.val x) } (σ.set i (some v)) where
  len := by simpa using r.len
  env := fun j y h' => by
    rcases set_val h' with ⟨rfl, e, hi⟩ | ⟨e, h'⟩
    · cases e
      exact ⟨v, by rw [List.getElem?_set_self (by rw [← r.len]; exact hi)], h⟩
    · rw [List.getElem?_set_ne e]
      exact r.env j y h'
  own := fun j c h' => by
    rcases set_val h' with ⟨rfl, e, hi⟩ | ⟨e, h'⟩
    · cases e
    · rw [List.getElem?_set_ne e]
      exact r.own j c h'
  apart := fun j l c d p h1 h2 h3 h4 => by
    rcases set_val h1 with ⟨rfl, e, hi⟩ | ⟨e1, h1⟩
    · cases e
    · rcases set_val h2 with ⟨rfl, e, hi⟩ | ⟨e2, h2⟩
      · cases e
      · rw [List.getElem?_set_ne e1] at h3
        rw [List.getElem?_set_ne e2] at h4
        exact r.apart j l c d p h1 h2 h3 h4
  hlen := r.hlen
  nd := r.nd
  cell := r.cell
  fztr := r.fztr
  kptr := r.kptr
  fzkp := r.fzkp
  tabs := r.tabs
/-- a name has a list or dict of its own -/
theorem Rel.setO (r : Rel G C s σ) {i : Nat} {c : Cell} {p : Addr} (h : CR G C c (C.H p)) (f : Fr C p) (d : ∀ (j : Nat) (c : Cell), s.e[j]? = some (.own c) → j ≠ i → σ[j]? ≠ some (some (.ref p))) : Rel G C { s with e := s.e.set i (.own c) } (σ.set i (some (.ref p))) where
  len := by simpa using r.len
  env := fun j y h' => by
    rcases set_val h' with ⟨rfl, e, hi⟩ | ⟨e, h'⟩
    · cases e
    · rw [List.getElem?_set_ne e]
      exact r.env j y h'
  own := fun j c' h' => by
    rcases set_val h' with ⟨rfl, e, hi⟩ | ⟨e, h'⟩
    · cases e
      exact ⟨p, by rw [List.getElem?_set_self (by rw [← r.len]; exact hi)], h, f.fz, f.ρ, fun _ => f.kp, f.rs⟩
    · rw [List.getElem?_set_ne e]
      exact r.own j c' h'
  apart := fun j l c1 d1 q h1 h2 h3 h4 => by
    rcases set_val h1 with ⟨rfl, e, hi⟩ | ⟨e1, h1⟩
    · rcases set_val h2 with ⟨rfl, e, hi⟩ | ⟨e2, h2⟩
      · rfl
      · rw [List.getElem?_set_self (by rw [← r.len]; exact hi)] at h3
        rw [List.getElem?_set_ne e2] at h4
        cases h3
        exact absurd h4 (d l _ h2 (Ne.symm e2))
    · rcases set_val h2 with ⟨rfl, e, hi⟩ | ⟨e2, h2⟩
      · rw [List.getElem?_set_self (by rw [← r.len]; exact hi)] at h4
        rw [List.getElem?_set_ne e1] at h3
        cases h4
        exact absurd h3 (d j _ h1 (Ne.symm e1))
      · rw [List.getElem?_set_ne e1] at h3
        rw [List.getElem?_set_ne e2] at h4
        exact r.apart j l c1 d1 q h1 h2 h3 h4
  hlen := r.hlen
  nd := r.nd
  cell := r.cell
  fztr := r.fztr
  kptr := r.kptr
  fzkp := r.fzkp
  tabs := r.tabs
/-- a cell more -/
abbrev Cf.cell (C : Cf) (p : Addr) : Cf := { C with ρ := C.ρ ++ [p] }
theorem Le.cell {p : Addr} : Le C (C.cell p) where
  ρ := List.prefix_append _ _
  fz := fun _ h => h
  hf := fun _ _ => .of fun _ h => h
  kp := rfl
  rs := rfl
  hk := fun _ _ _ h => h
  ff := fun _ _ _ _ h => h
theorem Rel.toHeap (r : Rel G C s σ) {c : Cell} {p : Addr} (h : CR G C c (C.H p)) (f : Fr C p) (d : ∀ (j : Nat) (c : Cell), s.e[j]? = some (.own c) → σ[j]? ≠ some (some (.ref p))) : Rel G (C.cell p) { s with h := s.h ++ [c] } σ where
  len := r.len
  env := fun j y h' => let ⟨v, a, b⟩ := r.env j y h'; ⟨v, a, b.mono .cell⟩
  own := fun j c' h' => by
    obtain ⟨q, a, b, e, g, k⟩ := r.own j c' h'
    refine ⟨q, a, b.mono .cell, e, fun z => ?_, k⟩
    rcases List.mem_append.mp z with z | z
    · exact g z
    · have z : q = p := by simpa using z
      subst z
      exact d j c' h' a
  apart := r.apart
  hlen := by simp [r.hlen]
  nd := by
    refine List.nodup_append.mpr ⟨r.nd, by simp, fun a ha b hb => ?_⟩
    have hb : b = p := by simpa using hb
    subst hb
    exact fun z => f.ρ (z ▸ ha)
  cell := fun n c' q h1 h2 => by
    have hl := r.hlen
    by_cases hn : n < s.h.length
    · rw [List.getElem?_append_left hn] at h1
      rw [List.getElem?_append_left (by omega)] at h2
      obtain ⟨a, b, e⟩ := r.cell n c' q h1 h2
      exact ⟨a.mono .cell, b, e⟩
    · have hn' : n = s.h.length := by
        have := (List.getElem?_eq_some_iff.mp h1).1
        simp at this
        omega
      subst hn'
      simp at h1
      subst h1
      rw [hl] at h2
      simp at h2
      subst h2
      exact ⟨h.mono .cell, f.fz, fun _ => f.kp, f.rs⟩
  fztr := r.fztr
  kptr := r.kptr
  fzkp := r.fzkp
  tabs := r.tabs
end

section
variable {G : Gl} {T : Tab} {F : Call} {k : Nat} {X : Cx} {ea eb ec : Expr} {pos : Pos} {a b c : IE}
theorem se_heap (ha : PE X ea (EE G T F a)) : PE X ea (EE G T F (.heap a)) := by
  refine PE.weak ha fun σ H Q ⟨C, s, r, s', hH, rl, e, k⟩ => ?_
  unfold evalE at e
  obtain ⟨x, s1, e1, e⟩ := bind_ok e
  cases x with
  | v x => cases e
  | sl x => cases e
  | f c =>
    unfold toHeap at e
    simp only [R.ok.injEq] at e
    obtain ⟨rfl, rfl⟩ := e
    refine ⟨C, s, _, s1, hH, rl, e1, fun C1 v l r1 h1 => ?_⟩
    obtain ⟨p, rfl, h2, f, u, d⟩ := h1
    refine k (C1.cell p) (.ref p) (l.trans .cell) (r1.toHeap h2 f d) ?_
    show VR G _ (.ref _) _
    unfold VR
    exact ⟨p, by show (C1.ρ ++ [p])[s1.h.length]? = some p; rw [r1.hlen]; simp, rfl⟩
theorem se_neg (o : XO0 G k X) (ha : PE X ea (EE G T F a)) : PE X (.UnaryOp .USub ea pos) (EE G T F (.neg a)) := by
  refine PE.weak (pe_un un_neg ha) fun σ H Q ⟨C, s, r, s', hH, rl, e, kk⟩ => ?_
  unfold evalE at e
  obtain ⟨x, s1, e1, e⟩ := bind_ok e
  show EE G T F a σ H (fun x H1 => rU (fun i => .int (-i)) x H1 Q)
  cases q : deref s1 x with
  | int i =>
    rw [q] at e
    cases e
    refine EE_of_op hH rl e1 fun C1 v l1 r1 o1 => ?_
    have hx : NR G C1 (.int i) v := by
      cases x with
      | f cc =>
        exfalso
        unfold deref at q
        cases cc <;> simp [imm] at q
      | v y =>
        have := deref_ok r1 o1 (by show deref s' (.v y) ≠ .bad; rw [q]; simp)
        rw [show deref s' (opnd (.v y)) = deref s' (.v y) from rfl, q] at this
        exact this
      | sl y =>
        have := deref_ok r1 o1 (by show deref s' (.sl y) ≠ .bad; rw [q]; simp)
        rw [show deref s' (opnd (.sl y)) = deref s' (.sl y) from rfl, q] at this
        exact this
    cases hx.int
    exact ⟨i, rfl, kk C1 _ l1 r1 (show VR G C1 (.int (-i)) (.int (-i)) from VR.int)⟩
  | _ => rw [q] at e; cases e
/-! ### truth -/
theorem B_val {s s' : S} {r : Bool} (e : evalB T F a s = .ok r s') : (evalE T F a s).val = .ok (.bl r) s' := by
  unfold evalB at e
  obtain ⟨z, s3, e, e'⟩ := bind_ok e
  obtain ⟨e', rfl⟩ := opt_ok e'
  cases z with
  | bl b => cases e'; exact e
  | _ => cases e'
end
end Rs
end
section
set_option maxRecDepth 100000
set_option maxHeartbeats 4000000
/-! Expressions: and, or, not, a if c else b; items and slices; arguments and displays. -/
namespace Rs
open PySem PySem.Spec PyProof.Rows L2
section
variable {G : Gl} {T : Tab} {F : Call} {k : Nat} {X : Cx} {ea eb ec : Expr} {pos : Pos} {a b c : IE} {rest : List Expr}
theorem test_ok {β : Type} {c : IE} {s s' : S} {K : Bool → S → R β} {r : β} (e : ((evalE T F c s).val.bind fun x s => (R.opt (asB x) s).bind K) = .ok r s') : ∃ kb s1, evalB T F c s = .ok kb s1 ∧ K kb s1 = .ok r s' := by
  obtain ⟨x, s1, e1, e0⟩ := bind_ok e
  obtain ⟨kb, s2, e2, e5⟩ := bind_ok e0
  obtain ⟨e3, e4⟩ := opt_ok e2
  subst e4
  refine ⟨kb, s2, ?_, e5⟩
  unfold evalB
  rw [e1]
  show R.opt (asB x) s2 = _
  rw [e3]
theorem B_of {c : IE} {s s' : S} {r : Bool} (e : (evalE T F c s).val = .ok (.bl r) s') : evalB T F c s = .ok r s' := by
  unfold evalB
  rw [e]
  rfl
theorem PW.weak {e : Expr} {t t' : TT} (h : PW X e t) (w : ∀ σ H Q, t' σ H Q → t σ H Q) : PW X e t' := ⟨fun wh pins s σ H Q I q => h.run wh pins s σ H Q I (w σ H Q q)⟩
theorem EB_of {c : IE} {σ : L2.St} {H : Hp} {Q : Bool → Hp → Prop} {C : Cf} {s s' : S} {kb : Bool} (hH : C.H = H) (r : Rel G C s σ) (e : evalB T F c s = .ok kb s') (k : ∀ C', Le C C' → Rel G C' s' σ → Q kb C'.H) : EB G T F c σ H Q := ⟨C, s, kb, s', hH, r, e, k⟩
theorem st_or1 (ha : PT X ea (EB G T F a)) : PW X (.BoolOp .Or [ea] pos) (EB G T F a) := pw_or1 ha
theorem orB {s s' : S} {r : Bool} (e : evalB T F (.or a b) s = .ok r s') : ∃ kb s1, evalB T F a s = .ok kb s1 ∧ ((kb = true ∧ r = true ∧ s' = s1) ∨ (kb = false ∧ evalB T F b s1 = .ok r s')) := by
  have e := B_val e
  obtain ⟨x, e, ex⟩ := val_ok e
  unfold evalE at e
  obtain ⟨kb, s1, e1, e⟩ := test_ok e
  refine ⟨kb, s1, e1, ?_⟩
  cases kb with
  | true => cases e; cases ex; exact .inl ⟨rfl, rfl, rfl⟩
  | false =>
    refine .inr ⟨rfl, B_of ?_⟩
    have e6 : evalE T F b s1 = .ok x s' := e
    unfold R.val
    rw [e6]
    show R.opt (freeze x) s' = _
    rw [ex]
theorem st_or (ha : PT X ea (EB G T F a)) (hb : PW X (.BoolOp .Or (eb :: rest) pos) (EB G T F b)) : PW X (.BoolOp .Or (ea :: eb :: rest) pos) (EB G T F (.or a b)) := by
  refine PW.weak (pw_or ha hb) fun σ H Q ⟨C, s, r, s', hH, rl, e, kk⟩ => ?_
  obtain ⟨kb, s1, e1, e⟩ := orB e
  show EB G T F a σ H (fun c H1 => if c = true then Q true H1 else EB G T F b σ H1 Q)
  refine EB_of hH rl e1 fun C1 l1 r1 => ?_
  rcases e with ⟨rfl, rfl, rfl⟩ | ⟨rfl, e⟩
  · rw [if_pos rfl]
    exact kk C1 l1 r1
  · rw [if_neg (by simp)]
    exact EB_of rfl r1 e fun C2 l2 r2 => kk C2 (l1.trans l2) r2
theorem se_ite (hc : PT X ec (EB G T F c)) (ha : PE X ea (EE G T F a)) (hb : PE X eb (EE G T F b)) : PE X (.IfExp ec ea eb pos) (EE G T F (.ite c a b)) := by
  refine PE.weak (pe_ifExp hc ha hb) fun σ H Q ⟨C, s, r, s', hH, rl, e, kk⟩ => ?_
  unfold evalE at e
  obtain ⟨kb, s1, e1, e⟩ := test_ok e
  show EB G T F c σ H (fun c H1 => if c = true then EE G T F a σ H1 Q else EE G T F b σ H1 Q)
  refine EB_of hH rl e1 fun C1 l1 r1 => ?_
  cases kb with
  | true =>
    obtain ⟨x, s2, e2, e⟩ := bind_ok e
    cases e
    rw [if_pos rfl]
    exact EE_of_val rfl r1 e2 fun C2 v l2 r2 h2 => kk C2 v (l1.trans l2) r2 h2
  | false =>
    obtain ⟨x, s2, e2, e⟩ := bind_ok e
    cases e
    rw [if_neg (by simp)]
    exact EE_of_val rfl r1 e2 fun C2 v l2 r2 h2 => kk C2 v (l1.trans l2) r2 h2

/-! ### items -/
theorem IxR.any : IxR X (fun x y H Q => ∃ r : R2, IxR X r ∧ r x y H Q) := fun value slice pins s σ H x y v u Q I rx ry ⟨r, h, q⟩ hs => h value slice pins s σ H x y v u Q I rx ry q hs
theorem ix_dict (o : XO0 G k X) : IxR X (fun x y H Q => ∃ a v, x = .ref a ∧ DGet H a y (some v) ∧ Q v H) := by
  intro value slice pins s σ H x y v u Q I rx ry h hs
  obtain ⟨p, w, rfl, g, q⟩ := h
  cases rx
  have h5 := o.room.units
  exact tail_any (dict_typeIs I g) PySem.F.slot_dict_getitem.lookup (d_getItem (by omega) I g ry fun w' s' I' r' => ⟨w, H, I', r', q⟩) hs
theorem atI_rel {C : Cf} {xs : List Val} {ys : List V} {i : Int} {x : Val} (r : VRs G C xs ys) (h : atI xs i = some x) : ∃ y, atI ys i = some y ∧ VR G C x y := by
  unfold atI at h ⊢
  rw [← r.length]
  obtain ⟨j, h1, h2⟩ := Option.bind_eq_some_iff.mp h
  rw [h1]
  exact r.get h2
theorem sub_ok (o : XO0 G k X) {C : Cf} {x y : Val} {v w : V} {z : Val} {Q : VK} (hx : NR G C x v) (hy : NR G C y w) (e : vsub x y = some z) (q : ∀ u, VR G C z u → Q u C.H) : ∃ r : R2, IxR X r ∧ r v w C.H Q := by
  unfold vsub at e
  split at e
  · obtain ⟨p, ys, rfl, hp, hr⟩ := hx
    cases hy.int
    obtain ⟨u, h1, h2⟩ := atI_rel hr e
    exact ⟨_, ix_list, p, ys, _, u, rfl, rfl, SqL.of hp, h1, q u h2⟩
  · obtain ⟨p, ys, rfl, hp, hr⟩ := hx.tup
    cases hy.int
    obtain ⟨u, h1, h2⟩ := atI_rel hr e
    exact ⟨_, ix_tup, p, ys, _, u, rfl, rfl, by rw [o.K]; exact hp, h1, q u h2⟩
  · split at e
    · rename_i hl
      obtain ⟨c, h1, rfl⟩ := Option.map_eq_some_iff.mp e
      cases hx.str
      cases hy.int
      exact ⟨_, ix_str, _, _, c, rfl, rfl, hl, h1, q _ .str⟩
    · cases e
  · split at e
    · rename_i kk h1
      obtain ⟨p, ks, rfl, hp, hr⟩ := hx
      cases keyV_ok hy h1
      have h2 := hr.get (kk := kk)
      rw [e] at h2
      obtain ⟨u, h3, h4⟩ := h2
      exact ⟨_, ix_dict o, p, u, rfl, .inl ⟨ks, kk, hp, rfl, h3.symm⟩, q u h4⟩
    · cases e
  · cases e
theorem vsub_bad (y : Val) : vsub .bad y = none := rfl
theorem se_sub (o : XO0 G k X) (ha : PE X ea (EE G T F a)) (hb : PE X eb (EE G T F b)) (hs : PlainIx eb := by intro _ _; rfl) : PE X (.Subscript ea eb pos) (EE G T F (.sub a b)) := by
  refine PE.weak (pe_ix IxR.any ha hb hs) fun σ H Q ⟨C, s, r, s', hH, rl, e, kk⟩ => ?_
  unfold evalE at e
  obtain ⟨x, s1, e1, e⟩ := bind_ok e
  obtain ⟨y, s2, e2, e⟩ := bind_ok e
  obtain ⟨e, e3⟩ := opt_ok e
  subst e3
  obtain ⟨z, e4, e5⟩ := Option.map_eq_some_iff.mp e
  subst e5
  show EE G T F a σ H (fun x H1 => EE G T F b σ H1 (fun y H2 => ∃ r : R2, IxR X r ∧ r x y H2 Q))
  refine EE_of_op hH rl e1 fun C1 v l1 r1 o1 => EE_of_val rfl r1 e2 fun C2 w l2 r2 o2 => ?_
  have hx := deref_ok r2 (OR.mono l2 o1) (ne_bad1 (op := vsub) vsub_bad e4)
  exact sub_ok o hx o2.nr e4 fun u hu => kk C2 u (l1.trans l2) r2 hu

/-! ### arguments -/
theorem sa_nil : PA X [] (tVs G (evalVs T F [])) := ⟨fun pos pins s σ H Q I ⟨C, s1, xs, s', hH, rl, e, kk⟩ => by
  unfold evalVs at e
  cases e
  subst hH
  exact pa_nil.run pos pins s σ C.H Q I (kk C [] (.refl C) rl VRs.nil)⟩
theorem PA.weak {es : List Expr} {t t' : TA} (h : PA X es t) (w : ∀ σ H Q, t' σ H Q → t σ H Q) : PA X es t' := ⟨fun pos pins s σ H Q I q => h.run pos pins s σ H Q I (w σ H Q q)⟩
theorem sa_cons {es : List Expr} {as : List IE} (ha : PE X ea (EE G T F a)) (hr : PA X es (tVs G (evalVs T F as))) (hs : starEach (ea :: es) X.env = (false, eval ea X.env) :: starEach es X.env := by rfl) : PA X (ea :: es) (tVs G (evalVs T F (a :: as))) := by
  refine PA.weak (pa_cons ha hr hs) fun σ H Q ⟨C, s, r, s', hH, rl, e, kk⟩ => ?_
  unfold evalVs at e
  obtain ⟨x, s1, e1, e⟩ := bind_ok e
  obtain ⟨xs, s2, e2, e⟩ := bind_ok e
  cases e
  show EE G T F a σ H (fun x H1 => tVs G (evalVs T F as) σ H1 (fun xs H2 => Q (x :: xs) H2))
  exact EE_of_val hH rl e1 fun C1 v l1 r1 h1 => ⟨C1, s1, xs, _, rfl, r1, e2, fun C2 vs l2 r2 h2 => kk C2 (v :: vs) (l1.trans l2) r2 (VRs.cons (h1.mono l2) h2)⟩
theorem so_nil : PA X [] (tOs G (evalOs T F [])) := ⟨fun pos pins s σ H Q I ⟨C, s1, xs, s', hH, rl, e, kk⟩ => by
  unfold evalOs at e
  cases e
  subst hH
  exact pa_nil.run pos pins s σ C.H Q I (kk C [] (.refl C) rl rfl)⟩
theorem so_cons {es : List Expr} {as : List IE} (ha : PE X ea (EE G T F a)) (hr : PA X es (tOs G (evalOs T F as))) (hs : starEach (ea :: es) X.env = (false, eval ea X.env) :: starEach es X.env := by rfl) : PA X (ea :: es) (tOs G (evalOs T F (a :: as))) := by
  refine PA.weak (pa_cons ha hr hs) fun σ H Q ⟨C, s, r, s', hH, rl, e, kk⟩ => ?_
  unfold evalOs at e
  obtain ⟨x, s1, e1, e⟩ := bind_ok e
  obtain ⟨xs, s2, e2, e⟩ := bind_ok e
  cases e
  show EE G T F a σ H (fun x H1 => tOs G (evalOs T F as) σ H1 (fun xs H2 => Q (x :: xs) H2))
  exact EE_of_op hH rl e1 fun C1 v l1 r1 h1 => ⟨C1, s1, xs, _, rfl, r1, e2, fun C2 vs l2 r2 h2 => kk C2 (v :: vs) (l1.trans l2) r2 ⟨v, vs, rfl, OR.mono l2 h1, h2⟩⟩
theorem se_tup {es : List Expr} {as : List IE} {x1 : Nat} (h : PA X es (tVs G (evalVs T F as))) (hl : as.length ≤ 1000 := by decide) : PE X (.Tuple es x1 pos) (EE G T F (.tup as)) := by
  refine PE.weak (pe_tup h) fun σ H Q ⟨C, s, r, s', hH, rl, e, kk⟩ => ?_
  unfold evalE at e
  obtain ⟨xs, s1, e1, e⟩ := bind_ok e
  cases e
  refine ⟨C, s, xs, _, hH, rl, e1, fun C1 vs l1 r1 h1 => ⟨?_, fun p n => out_t r1 h1 n fun C2 z l2 r2 h2 => kk C2 z (l1.trans l2) r2 h2⟩⟩
  rw [← h1.length]
  have : ∀ (as : List IE) (s : S) (xs : List Val) (s' : S), evalVs T F as s = .ok xs s' → xs.length = as.length := by
    intro as
    induction as with
    | nil => intro s xs s' e; unfold evalVs at e; cases e; rfl
    | cons a as ih =>
      intro s xs s' e
      unfold evalVs at e
      obtain ⟨x, s1, e1, e⟩ := bind_ok e
      obtain ⟨ys, s2, e2, e⟩ := bind_ok e
      cases e
      simp [ih _ _ _ e2]
  rw [this _ _ _ _ e1]
  exact Nat.le_trans hl (by decide)
theorem Vs_len : ∀ (as : List IE) (s : S) (xs : List Val) (s' : S), evalVs T F as s = .ok xs s' → xs.length = as.length
  | [], s, xs, s', e => by unfold evalVs at e; cases e; rfl
  | a :: as, s, xs, s', e => by
    unfold evalVs at e
    obtain ⟨x, s1, e1, e⟩ := bind_ok e
    obtain ⟨ys, s2, e2, e⟩ := bind_ok e
    cases e
    simp [Vs_len as _ _ _ e2]
theorem se_lst {es : List Expr} {as : List IE} (h : PA X es (tVs G (evalVs T F as))) (hl : as.length ≤ 1000 := by decide) : PE X (.List es pos) (EE G T F (.lst as)) := by
  refine PE.weak (pe_lst h) fun σ H Q ⟨C, s, r, s', hH, rl, e, kk⟩ => ?_
  unfold evalE at e
  obtain ⟨xs, s1, e1, e⟩ := bind_ok e
  cases e
  refine ⟨C, s, xs, _, hH, rl, e1, fun C1 vs l1 r1 h1 => ⟨?_, fun p n => out_l r1 h1 n fun C2 z l2 r2 h2 => kk C2 z (l1.trans l2) r2 h2⟩⟩
  rw [← h1.length, Vs_len _ _ _ _ e1]
  exact Nat.le_trans hl (by decide)
end
end Rs
end
section
set_option maxRecDepth 100000
set_option maxHeartbeats 4000000
/-! Built-in functions. -/
namespace Rs
open PySem PySem.Spec PyProof.Rows L2
def NRs (G : Gl) (C : Cf) : List Val → List V → Prop
  | [], vs => vs = []
  | x :: xs, vs => ∃ v r, vs = v :: r ∧ NR G C x v ∧ NRs G C xs r
def BiOk (G : Gl) (X : Cx) (f : Bi) (g : Value) : Prop :=
  ∀ (C : Cf) (s : S) (σ : L2.St) (xs : List Val) (vs : List V) (r : Rv) (Q : VK), Rel G C s σ → NRs G C xs vs → biop f xs = some r → (∀ C' z, Le C C' → Rel G C' s σ → RvR G C' s σ r z → Q z C'.H) → ∃ r2 : List V → Hp → VK → Prop, CallR X g r2 ∧ r2 vs C.H Q
section
variable {G : Gl} {T : Tab} {F : Call} {k : Nat} {X : Cx} {C : Cf} {s : S} {σ : L2.St} {Q : VK}
theorem NRs.one {x : Val} {vs : List V} (h : NRs G C [x] vs) : ∃ v, vs = [v] ∧ NR G C x v := by
  obtain ⟨v, r, e, a, b⟩ := h
  cases b
  exact ⟨v, e, a⟩
theorem NRs.two {x y : Val} {vs : List V} (h : NRs G C [x, y] vs) : ∃ v w, vs = [v, w] ∧ NR G C x v ∧ NR G C y w := by
  obtain ⟨v, r, e, a, b⟩ := h
  obtain ⟨w, e2, c⟩ := NRs.one b
  subst e2
  exact ⟨v, w, e, a, c⟩
theorem VRk.length {C : Cf} : ∀ {xs : List (Key × Val)} {ys : List (Key × V)}, VRk G C xs ys → xs.length = ys.length
  | [], ys, h => by unfold VRk at h; subst h; rfl
  | (j, x) :: xs, ys, h => by
    unfold VRk at h
    obtain ⟨y, r, e, a, b⟩ := h
    subst e
    simp [VRk.length b]
theorem CallR.lenD : CallR X (.builtin "len") (fun xs H Q => ∃ a kvs, xs = [.ref a] ∧ Rd H a (.dK kvs) ∧ Q (.int kvs.length) H) := by
  intro pins s σ H xs us Q I r h
  obtain ⟨a, kvs, rfl, e, q⟩ := h
  obtain ⟨u, rfl, rx⟩ := vals1 r
  cases rx
  exact d_len I e fun t s' I' => ⟨.int kvs.length, H, I', ⟨t, rfl⟩, q⟩
theorem bi_len (o : XO0 G k X) : BiOk G X .len (.builtin "len") := by
  intro C s σ xs vs r Q rl h e kk
  unfold biop at e
  split at e
  all_goals try contradiction
  all_goals (obtain ⟨v, rfl, hx⟩ := h.one)
  · cases e
    obtain ⟨p, ys, rfl, hp, hr⟩ := hx
    exact ⟨_, call_len, _, ys.length, rfl, .inl ⟨ys, SqL.of hp, rfl⟩, by rw [← hr.length]; exact out_v rl .int kk⟩
  · cases e
    obtain ⟨p, ys, rfl, hp, hr⟩ := hx.tup
    exact ⟨_, call_len, _, ys.length, rfl, .inr ⟨ys, by rw [o.K]; exact hp, rfl⟩, by rw [← hr.length]; exact out_v rl .int kk⟩
  · cases e
    obtain ⟨p, ks, rfl, hp, hr⟩ := hx
    exact ⟨_, CallR.lenD, p, ks, rfl, hp, by rw [← hr.length]; exact out_v rl .int kk⟩
  · cases e
    obtain ⟨p, rfl, hp⟩ := hx.scr
    exact ⟨_, call_len, _, _, rfl, .inl ⟨_, by rw [o.K]; exact hp, rfl⟩, by rw [List.length_map]; exact out_v rl .int kk⟩
  · split at e
    · rename_i hl
      cases e
      cases hx.str
      exact ⟨_, call_len, _, _, rfl, ⟨hl, rfl⟩, out_v rl .int kk⟩
    · cases e
theorem bi_abs : BiOk G X .abs (.builtin "abs") := by
  intro C s σ xs vs r Q rl h e kk
  unfold biop at e
  split at e
  all_goals try contradiction
  obtain ⟨v, rfl, hx⟩ := h.one
  cases e
  cases hx.int
  exact ⟨_, call_abs, _, rfl, out_v rl .int kk⟩
theorem intsOf_rel : ∀ {xs : List Val} {ys : List V} {ns : List Int}, VRs G C xs ys → intsOf xs = some ns → ys = ns.map V.int
  | [], ys, ns, h, e => by
    unfold VRs at h; unfold intsOf at e; cases e; subst h; rfl
  | x :: xs, ys, ns, h, e => by
    unfold VRs at h
    obtain ⟨y, r, e1, a, b⟩ := h
    subst e1
    cases x with
    | int i =>
      unfold intsOf at e
      obtain ⟨ms, e2, rfl⟩ := Option.map_eq_some_iff.mp e
      rw [intsOf_rel b e2]
      unfold VR at a
      rw [a]
      rfl
    | _ => unfold intsOf at e; cases e
theorem fold_max_mem : ∀ (ns : List Int) (n : Int), ns.foldl max n ∈ n :: ns ∧ ∀ y ∈ n :: ns, y ≤ ns.foldl max n
  | [], n => ⟨by simp, fun y h => by simp at h; subst h; exact Int.le_refl _⟩
  | m :: ns, n => by
    obtain ⟨h1, h2⟩ := fold_max_mem ns (max n m)
    refine ⟨?_, fun y hy => ?_⟩
    · show ns.foldl max (max n m) ∈ _
      rcases List.mem_cons.mp h1 with h | h
      · rw [h]
        by_cases hh : n ≤ m
        · rw [Int.max_eq_right hh]; simp
        · rw [Int.max_eq_left (by omega)]; simp
      · simp [h]
    · show y ≤ ns.foldl max (max n m)
      have h3 := h2 (max n m) (by simp)
      rcases List.mem_cons.mp hy with h | h
      · subst h; exact Int.le_trans (Int.le_max_left _ _) h3
      · rcases List.mem_cons.mp h with h | h
        · subst h; exact Int.le_trans (Int.le_max_right _ _) h3
        · exact h2 y (by simp [h])
theorem max_uniq {ns : List Int} {a b : Int} (ha : a ∈ ns ∧ ∀ y ∈ ns, y ≤ a) (hb : b ∈ ns) (hb2 : ∀ y, y ∈ ns → y ≤ b) : b = a := Int.le_antisymm (ha.2 b hb) (hb2 a ha.1)
theorem bi_max (o : XO0 G k X) : BiOk G X .max (.builtin "max") := by
  intro C s σ xs vs r Q rl h e kk
  unfold biop at e
  split at e
  all_goals try contradiction
  · obtain ⟨v, w, rfl, hx, hy⟩ := h.two
    cases e
    cases hx.int
    cases hy.int
    exact ⟨_, call_max2 o.calm, _, _, rfl, out_v rl .int kk⟩
  · obtain ⟨v, rfl, hx⟩ := h.one
    obtain ⟨x, e2, rfl⟩ := Option.map_eq_some_iff.mp e
    clear e
    have e := e2
    unfold vmax at e
    split at e
    · rename_i n ns hn
      cases e
      obtain ⟨p, ys, rfl, hp, hr⟩ := hx
      have := intsOf_rel hr hn
      subst this
      refine ⟨_, cr_max o.calm, p, n :: ns, rfl, SqL.of hp, by simp, fun m h1 h2 => ?_⟩
      rw [max_uniq (fold_max_mem ns n) h1 h2]
      exact out_v rl .int kk
    · cases e
theorem bi_int : BiOk G X .int (.type "int") := by
  intro C s σ xs vs r Q rl h e kk
  unfold biop at e
  split at e
  all_goals try contradiction
  · obtain ⟨v, rfl, hx⟩ := h.one
    cases e
    cases hx.int
    exact ⟨_, call_int1, .inl ⟨_, rfl, out_v rl .int kk⟩⟩
  · obtain ⟨v, rfl, hx⟩ := h.one
    cases e
    cases hx.bl
    exact ⟨_, call_int1, .inr ⟨_, rfl, out_v rl .int kk⟩⟩
theorem vKey_rel (kk : Key) : VR G C (vKey kk) (kV kk) := by
  cases kk with
  | inl i => exact VR.int
  | inr x => exact VR.str
theorem VRk.keys : ∀ {xs : List (Key × Val)} {ys : List (Key × V)}, VRk G C xs ys → VRs G C (xs.map fun kv => vKey kv.1) (ys.map fun kv => kV kv.1)
  | [], ys, h => by unfold VRk at h; subst h; exact VRs.nil
  | (j, x) :: xs, ys, h => by
    unfold VRk at h
    obtain ⟨y, r, e, a, b⟩ := h
    subst e
    exact VRs.cons (vKey_rel j) (VRk.keys b)
theorem bi_list (o : XO0 G k X) : BiOk G X .list (.type "list") := by
  intro C s σ xs vs r Q rl h e kk
  unfold biop at e
  split at e
  all_goals try contradiction
  rename_i x
  obtain ⟨v, rfl, hx⟩ := h.one
  split at e
  · cases e
  · obtain ⟨ys, e2, rfl⟩ := Option.map_eq_some_iff.mp e
    clear e
    have e := e2
    rename_i hs
    unfold itemsV at e
    split at e
    · cases e
      obtain ⟨p, ys, rfl, hp, hr⟩ := hx
      exact ⟨_, call_list_of, p, ys, rfl, .inl (SqL.of hp), fun l n => out_l rl hr n kk⟩
    · cases e
      obtain ⟨p, ys, rfl, hp, hr⟩ := hx.tup
      exact ⟨_, call_list_of, p, ys, rfl, .inr (by rw [o.K]; exact hp), fun l n => out_l rl hr n kk⟩
    · exact absurd rfl (hs _)
    · cases e
      obtain ⟨p, ks, rfl, hp, hr⟩ := hx
      exact ⟨_, call_listD o.calm, p, ks, rfl, hp, fun l n => out_l rl hr.keys n kk⟩
    · cases e
theorem VRk.any {kk : Key} : ∀ {xs : List (Key × Val)} {ys : List (Key × V)}, VRk G C xs ys → (xs.any fun kv => decide (kv.1 = kk)) = (ys.any fun kv => decide (kv.1 = kk))
  | [], ys, h => by unfold VRk at h; subst h; rfl
  | (j, x) :: xs, ys, h => by
    unfold VRk at h
    obtain ⟨y, r, e, a, b⟩ := h
    subst e
    simp only [List.any_cons]
    rw [VRk.any b]
theorem VRk.repl {kk : Key} {x : Val} {y : V} (hx : VR G C x y) : ∀ {xs : List (Key × Val)} {ys : List (Key × V)}, VRk G C xs ys → VRk G C (xs.map fun kv => if kv.1 = kk then (kv.1, x) else kv) (ys.map fun kv => if kv.1 = kk then (kv.1, y) else kv)
  | [], ys, h => by unfold VRk at h; subst h; show VRk G C [] []; unfold VRk; rfl
  | (j, z) :: xs, ys, h => by
    unfold VRk at h
    obtain ⟨w, r, e, a, b⟩ := h
    subst e
    simp only [List.map_cons]
    by_cases hj : j = kk
    · rw [if_pos hj, if_pos hj]
      unfold VRk
      exact ⟨_, _, rfl, hx, VRk.repl hx b⟩
    · rw [if_neg hj, if_neg hj]
      unfold VRk
      exact ⟨_, _, rfl, a, VRk.repl hx b⟩
theorem VRk.snoc {kk : Key} {x : Val} {y : V} (hx : VR G C x y) : ∀ {xs : List (Key × Val)} {ys : List (Key × V)}, VRk G C xs ys → VRk G C (xs ++ [(kk, x)]) (ys ++ [(kk, y)])
  | [], ys, h => by
    unfold VRk at h; subst h
    show VRk G C [(kk, x)] [(kk, y)]
    unfold VRk
    exact ⟨y, [], rfl, hx, by unfold VRk; rfl⟩
  | (j, z) :: xs, ys, h => by
    unfold VRk at h
    obtain ⟨w, r, e, a, b⟩ := h
    subst e
    show VRk G C ((j, z) :: (xs ++ [(kk, x)])) ((j, w) :: (r ++ [(kk, y)]))
    unfold VRk
    exact ⟨_, _, rfl, a, VRk.snoc hx b⟩
theorem VRk.put {kk : Key} {x : Val} {y : V} (hx : VR G C x y) {xs : List (Key × Val)} {ys : List (Key × V)} (h : VRk G C xs ys) : VRk G C (dput xs kk x) (putK ys kk y) := by
  unfold dput putK
  rw [h.any]
  by_cases c : (ys.any fun kv => decide (kv.1 = kk)) = true
  · rw [if_pos c, if_pos c]
    exact h.repl hx
  · rw [if_neg c, if_neg c]
    exact h.snoc hx
theorem VRk.drop {kk : Key} : ∀ {xs : List (Key × Val)} {ys : List (Key × V)}, VRk G C xs ys → VRk G C (ddrop xs kk) (dropK ys kk)
  | [], ys, h => by unfold VRk at h; subst h; show VRk G C [] []; unfold VRk; rfl
  | (j, z) :: xs, ys, h => by
    unfold VRk at h
    obtain ⟨w, r, e, a, b⟩ := h
    subst e
    have ih := VRk.drop (kk := kk) b
    unfold ddrop dropK at ih ⊢
    by_cases hj : j = kk
    · simp only [List.filter_cons, hj, ne_eq, not_true_eq_false, decide_false, Bool.false_eq_true, if_false]
      exact ih
    · simp only [List.filter_cons, hj, ne_eq, not_false_eq_true, decide_true, if_true]
      unfold VRk
      exact ⟨_, _, rfl, a, ih⟩
theorem VRk.merge : ∀ {ms : List (Key × Val)} {ns : List (Key × V)} {xs : List (Key × Val)} {ys : List (Key × V)}, VRk G C ms ns → VRk G C xs ys → VRk G C (dmerge xs ms) (mergeK ys ns)
  | [], ns, xs, ys, h, g => by unfold VRk at h; subst h; exact g
  | (j, z) :: ms, ns, xs, ys, h, g => by
    unfold VRk at h
    obtain ⟨w, r, e, a, b⟩ := h
    subst e
    exact VRk.merge (xs := dput xs j z) (ys := putK ys j w) b (VRk.put a g)
theorem VRk.nil : VRk G C [] [] := by unfold VRk; rfl
end
end Rs
end
section
set_option maxRecDepth 100000
set_option maxHeartbeats 4000000
/-! Calls of defs of the text. -/
namespace Rs
open PySem PySem.Spec PyProof.Rows L2
/-! ### places that stay while something runs -/
section
variable {G : Gl} {C C' : Cf} {s s' : S} {σ : L2.St}
/-- places of others from here on -/
abbrev Cf.keep (C : Cf) (Z : Addr → Prop) : Cf := { C with rs := fun p => C.rs p ∨ Z p }
theorem lv_keep {Z : Addr → Prop} : Lv C (C.keep Z) := ⟨List.prefix_rfl, fun _ h => h, fun _ _ => .of fun _ h => h⟩
theorem lv_rs {K : Addr → Prop} : Lv C { C with rs := K } := ⟨List.prefix_rfl, fun _ h => h, fun _ _ => .of fun _ h => h⟩
theorem le_back {Z : Addr → Prop} (l : Le (C.keep Z) C') : Le C { C' with rs := C.rs } where
  ρ := l.ρ
  fz := l.fz
  hf := l.hf
  kp := l.kp
  rs := rfl
  hk := fun p z => l.hk p (z.imp id .inl)
  ff := l.ff
/-- the slots' own places -/
def Own (s : S) (σ : L2.St) (p : Addr) : Prop := ∃ (i : Nat) (c : Cell), s.e[i]? = some (.own c) ∧ σ[i]? = some (some (.ref p))
theorem own_at (r : Rel G C s σ) {p : Addr} (h : Own s σ p) : NT (C.H p) ∧ ¬ C.fz p ∧ p ∉ C.ρ := by
  obtain ⟨i, c, h1, h2⟩ := h
  obtain ⟨q, a, b, d, e, f⟩ := r.own i c h1
  rw [h2] at a
  cases a
  exact ⟨b.nt, d, e⟩
/-- into a call: no names, all that these names have stays -/
theorem Rel.enter (r : Rel G C s σ) : Rel G (C.keep (Own s σ)) ⟨[], s.h⟩ [] where
  len := rfl
  env := fun i x h => by simp at h
  own := fun i x h => by simp at h
  apart := fun i j c d p h => by simp at h
  hlen := r.hlen
  nd := r.nd
  cell := fun n c p h1 h2 => by
    obtain ⟨a, b, d⟩ := r.cell n c p h1 h2
    refine ⟨a.mono0 lv_keep, b, d.1, fun z => ?_⟩
    rcases z with z | z
    · exact d.2 z
    · exact (own_at r z).2.2 (List.mem_of_getElem? h2)
  fztr := r.fztr
  kptr := fun p z => by
    rcases z with z | z | z
    · exact r.kptr p (.inl z)
    · exact r.kptr p (.inr z)
    · exact (own_at r z).1
  fzkp := fun p h z => by
    rcases z with z | z | z
    · exact r.fzkp p h (.inl z)
    · exact r.fzkp p h (.inr z)
    · exact (own_at r z).2.1 h
  tabs := r.tabs
theorem Rel.leave (r : Rel G C s σ) {e2 : List Slot} {h2 : List Cell} {σ2 : L2.St} (l : Le (C.keep (Own s σ)) C') (r2 : Rel G C' ⟨e2, h2⟩ σ2) : Rel G { C' with rs := C.rs } ⟨s.e, h2⟩ σ where
  len := r.len
  env := fun i x h => by
    obtain ⟨v, a, b⟩ := r.env i x h
    exact ⟨v, a, b.mono (le_back l)⟩
  own := fun i c h => by
    obtain ⟨p, a, b, d, e, f⟩ := r.own i c h
    have kz : (C.keep (Own s σ)).rs p := .inr ⟨i, c, h, a⟩
    have hk : C'.rs p := by rw [l.rs]; exact kz
    refine ⟨p, a, ?_, fun z => r2.fzkp p z (.inr hk), fun z => ?_, fun u => by rw [l.kp]; exact f.1 u, f.2⟩
    · cases q : C.H p with
      | none => exact absurd q b.tr
      | some o =>
        have e1 : C'.H p = some o := l.hk p (.inr kz) o q
        show CR G _ c (C'.H p)
        rw [e1, ← q]
        exact b.mono (le_back l)
    · obtain ⟨n, hn, e3⟩ := List.getElem_of_mem z
      have h1 : n < h2.length := by rw [show h2.length = C'.ρ.length from r2.hlen]; exact hn
      exact (r2.cell n h2[n] p (by simp [h1]) (by rw [List.getElem?_eq_getElem hn, e3])).2.2.2 hk
  apart := r.apart
  hlen := r2.hlen
  nd := r2.nd
  cell := fun n c p h1 h2 => by
    obtain ⟨a, b, d⟩ := r2.cell n c p h1 h2
    exact ⟨a.mono0 lv_rs, b, d.1, fun u => d.2 (by rw [l.rs]; exact .inl u)⟩
  fztr := r2.fztr
  kptr := fun p z => r2.kptr p (z.imp id fun z => by rw [l.rs]; exact .inl z)
  fzkp := fun p h z => r2.fzkp p h (z.imp id fun z => by rw [l.rs]; exact .inl z)
  tabs := r2.tabs
end
/-! ### what a def does -/
/-- a def's own law: the wanted end is reached wherever the interpreter's answer is handed out -/
def spI (G : Gl) (F : Call) (id np : Nat) : List V → Hp → VK → Prop := fun vs H Q => vs.length = np ∧ ∃ C xs h r s2, C.H = H ∧ Rel G C ⟨[], h⟩ [] ∧ VRs G C xs vs ∧ F id xs h = .ok r s2 ∧
  ∀ C' v, Le C C' → Rel G C' ⟨[], s2.h⟩ [] → VR G C' r v → Q v C'.H
abbrev SpG := List V → Hp → VK → Prop
/-- a def, called where no repr is under way -/
structure FnG (P : Program) (w : World) (K : PySem.W.Frag) (mg : Str → Option Value) (base : Heap) (k : Nat) (f : Addr) (fd : FuncData) (ps : List Str) (sp : SpG) : Prop where
  len : ∀ vs H Q, sp vs H Q → vs.length = ps.length
  run : ∀ (A : Around) (outer : List Env) (s : Shared) (H : Hp) (args : Args) (us : List Value) (vs : List V) (Q : VK), A.guards = some [] → Room k A → Env0 P w K mg base A outer s H → BindsTo s fd args (ps.zip us) → Vals vs us → sp vs H Q →
    codeAny (model P w) A (.call (.ref f) args) (fun r s' => ∃ u, r = .ok (.ret u) ∧ CE outer P w H s Q u s') s
section
variable {X : Cx} {k : Nat} {f : Addr} {fd : FuncData} {ps : List Str} {sp : SpG} {dvs : List V} {ds : List Value} {x m : Str} {p pos apos : Pos} {e o : Expr} {es : List Expr} {ta : TE} {t : TA}
theorem FnG.go {pins : List (Addr × Obj)} {σ : L2.St} {H : Hp} {s : Shared} {Q : VK} {us : List Value} {vs : List V} (F : FnG X.prog X.w X.K X.mg X.base k f fd ps sp) (gd : X.A.guards = some []) (hr : Room k X.A) (hb : Binds X.K fd ps ds) (hd : Vals dvs ds)
    (I : Inv X pins σ H s) (r : Vals vs us) (h : sp (vs ++ dvs) H Q) : wpAny (model X.prog X.w) X.A (call (.ref f) us) (EP X pins σ Q) X.xe s := by
  have both : Vals (vs ++ dvs) (us ++ ds) := r.append hd
  have many : (us ++ ds).length = ps.length := by rw [← F.len _ _ _ h, both.length]
  refine wpAny_call (codeAny_mono (F.run X.A X.stack s H ⟨us, []⟩ _ _ Q gd hr I.env0 (hb s us I.kIn many) both h) fun r s' hq => ?_)
  obtain ⟨u, rfl, hq⟩ := hq
  exact I.after hq
def tGo (sp : SpG) (dvs : List V) (t : TA) : TE := fun σ H Q => t σ H fun vs H1 => sp (vs ++ dvs) H1 Q
theorem pg_call (F : FnG X.prog X.w X.K X.mg X.base k f fd ps sp) (gd : X.A.guards = some []) (hr : Room k X.A) (hb : Binds X.K fd ps ds) (hd : Vals dvs ds) (hg : L2.Gl X x) (hm : X.mg x = some (.ref f)) (hk : PySem.W.keepIn X.K (.ref f) = true)
    (ha : PA X (e :: es) t) (hdb : (x == ("__debug__" : Str)) = false := by decide) (st1 : starEach (e :: es) X.env = (false, eval e X.env) :: starEach es X.env := by rfl) (st2 : (backTo pos (starEach es X.env)).any (·.1) = false := by rfl) :
    PE X (.Call (.Name x p) (e :: es) [] pos) (tGo sp dvs t) :=
  ⟨fun pins s σ H Q I h => wpAny_Call_Name_kw (ld_glob I hg hm (PySem.W.callWith_K (h₀ := X.base) I.ok.mod.kin hk (thn (ha.run pos pins s σ H _ I h) fun us s1 ⟨vs, H1, I1, r, q⟩ => ⟨I1.kIn, F.go gd hr hb hd I1 r q⟩) st1 st2) hdb)⟩
end
/-! ### a def's body -/
theorem fnG_of {P : Program} {w : World} {K : PySem.W.Frag} {mg : Str → Option Value} {base : Heap} {k : Nat} {f : Addr} {x qual : Str} {params : Arguments} {body : List Stmt} {scope : Scope} {dvs : List V} {kws : List (Str × V)} {fd : FuncData}
    {N ps : List Str} {sp : SpG} (F : FunD K x qual params body scope dvs kws f fd) (S : FnScope N ps scope) (len : ∀ vs H Q, sp vs H Q → vs.length = ps.length)
    (hbody : ∀ (cdv : Value) (A : Around) (outer : List Env) (s : Shared) (H : Hp), A.guards = some [] → Room k (A.deeper (envOfC qual scope s.heap.objs.size f cdv)) → (∃ (o : Obj) (fd0 : FuncData), K.lookup f = some o ∧ o.data = .func fd0 ∧ fd0.code = cdv) →
      ∃ t, PSs (cxOf CX0 P w K mg base N qual scope f cdv A outer s H E0).nox body t ∧ ∀ (vs : List V) (Q : VK), sp vs H Q → t { nx := fun _ H' => Q .non H', rt := Q } (start N vs) H) : FnG P w K mg base (k + 1) f fd ps sp := by
  obtain ⟨oc, od, dV, kV, doc, pm, an, cdv, ct, osl, rfl, lk, hcd, _, _⟩ := F.ex
  refine ⟨len, fun A outer s H args us vs Q gd hr e0 hb r hsp => ?_⟩
  have hl := len _ _ _ hsp
  have KX : K.In s.heap := e0.mod.kin.keeps fun b o e => (e0.bs b o e).1
  have lim : s.heap.NoLimit := e0.mod.nolimit.keeps fun b o e => (e0.bs b o e).1
  have kinds : ∀ y ∈ ps.zip us, scope.names.lookup y.1 = some .local ∨ (scope.names.lookup y.1 = some .cell ∧ ((cellsFrom (s.heap.objs.size + 1) scope.names []).lookup y.1).isSome = true) := fun y hy => by
    rcases S.par y.1 (List.of_mem_zip (show (y.1, y.2) ∈ _ from hy)).1 with q | q
    · exact .inl q
    · exact .inr ⟨q, PySem.W.cellsFrom_some _ _ _ (.inl q)⟩
  refine codeAny_call_function hr.depth (KX _ _ lk) rfl S.co S.gen rfl (PySem.W.codeRec_of KX hcd) (hb _ _ _ _ (wpAny_newFunctionEnv_cells S.kind kinds fun env he s1 y => ?_))
  subst he
  refine ⟨lim.keeps y.toInCall.keep, codeAny_func ?_⟩
  obtain ⟨t, ht, hq⟩ := hbody cdv A outer s H gd (hr.deeper _) ⟨_, _, lk, rfl, rfl⟩
  have I := inv_start (CX := CX0) (E := E0) S hr.hd e0 hl r y
  refine wpAny_mono ((PSs.nox ht).run [] s1 (start N vs) H _ I (hq vs Q hsp)) (fun fl s' hs => ?_) fun e s' hs => ?_
  · cases fl with
    | ret u =>
      obtain ⟨v, σ', H', J, rv, q⟩ := hs
      exact ⟨u, rfl, v, H', J.os, J.bare, J.base, J.hok, rv, q⟩
    | next =>
      obtain ⟨σ', H', J, q⟩ := hs
      exact ⟨.none, rfl, .non, H', J.os, J.bare, J.base, J.hok, rfl, q⟩
    | brk =>
      obtain ⟨_, _, _, q⟩ := hs
      exact q.elim
    | cont =>
      obtain ⟨_, _, _, q⟩ := hs
      exact q.elim
  · exact wpAny_mono (show wpAny _ _ _ _ _ _ from hs) (fun _ _ h => h.elim) fun _ _ h => h.elim
end Rs
end
section
set_option maxRecDepth 100000
set_option maxHeartbeats 4000000
/-! What is walked; for; comprehensions. -/
namespace Rs
open PySem PySem.Spec PyProof.Rows L2
section
variable {G : Gl} {C C' : Cf} {s s' : S} {σ σ' : L2.St}
/-! ### names forgotten -/
theorem Rel.slots (r : Rel G C s σ) {e : List Slot} (hl : e.length = σ'.length) (h : ∀ (j : Nat) (t : Slot), e[j]? = some t → t ≠ .no → s.e[j]? = some t ∧ σ'[j]? = σ[j]?) : Rel G C { s with e := e } σ' where
  len := hl
  env := fun j x q => by
    obtain ⟨a, b⟩ := h j _ q (by simp)
    rw [b]
    exact r.env j x a
  own := fun j x q => by
    obtain ⟨a, b⟩ := h j _ q (by simp)
    rw [b]
    exact r.own j x a
  apart := fun i j c d p h1 h2 h3 h4 => by
    obtain ⟨a1, b1⟩ := h i _ h1 (by simp)
    obtain ⟨a2, b2⟩ := h j _ h2 (by simp)
    rw [b1] at h3
    rw [b2] at h4
    exact r.apart i j c d p a1 a2 h3 h4
  hlen := r.hlen
  nd := r.nd
  cell := r.cell
  fztr := r.fztr
  kptr := r.kptr
  fzkp := r.fzkp
  tabs := r.tabs
theorem wipeE_len (e : List Slot) : ∀ vs : List Nat, (wipeE e vs).length = e.length
  | [] => rfl
  | v :: vs => by unfold wipeE; rw [List.length_set, wipeE_len e vs]
theorem wipeE_at {e : List Slot} {j : Nat} {t : Slot} : ∀ {vs : List Nat}, (wipeE e vs)[j]? = some t → t ≠ .no → e[j]? = some t ∧ j ∉ vs
  | [], h, _ => ⟨h, by simp⟩
  | v :: vs, h, n => by
    unfold wipeE at h
    by_cases hv : v = j
    · subst hv
      by_cases hl : v < (wipeE e vs).length
      · rw [List.getElem?_set_self hl] at h
        exact absurd (Option.some.inj h).symm n
      · rw [List.getElem?_eq_none (by simpa using hl)] at h
        cases h
    · rw [List.getElem?_set_ne hv] at h
      obtain ⟨a, b⟩ := wipeE_at h n
      exact ⟨a, by simp only [List.mem_cons, not_or]; exact ⟨fun z => hv z.symm, b⟩⟩
theorem Rel.wipe (r : Rel G C s σ) (vs : List Nat) : Rel G C { s with e := wipeE s.e vs } (wipe σ vs) :=
  r.slots (by rw [wipeE_len, wipe_length]; exact r.len) fun j t h n => let ⟨a, b⟩ := wipeE_at h n; ⟨a, wipe_out b⟩
theorem restE_len (e0 e1 : List Slot) : ∀ vs : List Nat, (restE e0 e1 vs).length = e1.length
  | [] => rfl
  | v :: vs => by unfold restE; rw [List.length_set, restE_len e0 e1 vs]
theorem restE_at {e0 e1 : List Slot} {j : Nat} {t : Slot} : ∀ {vs : List Nat}, (restE e0 e1 vs)[j]? = some t → (j ∉ vs ∧ e1[j]? = some t) ∨ (j ∈ vs ∧ (t = .no ∨ ∃ x, t = .val x ∧ e0[j]? = some (.val x)))
  | [], h => .inl ⟨by simp, h⟩
  | v :: vs, h => by
    unfold restE at h
    by_cases hv : v = j
    · subst hv
      right
      refine ⟨by simp, ?_⟩
      by_cases hl : v < (restE e0 e1 vs).length
      · rw [List.getElem?_set_self hl] at h
        rw [List.getD_eq_getElem?_getD] at h
        cases q : e0[v]? with
        | none => rw [q] at h; exact .inl (Option.some.inj h).symm
        | some u =>
          rw [q] at h
          cases u with
          | val x => exact .inr ⟨x, (Option.some.inj h).symm, rfl⟩
          | _ => exact .inl (Option.some.inj h).symm
      · rw [List.getElem?_eq_none (by simpa using hl)] at h
        cases h
    · rw [List.getElem?_set_ne hv] at h
      rcases restE_at h with ⟨a, b⟩ | ⟨a, b⟩
      · exact .inl ⟨by simp only [List.mem_cons, not_or]; exact ⟨fun z => hv z.symm, a⟩, b⟩
      · exact .inr ⟨List.mem_cons_of_mem _ a, b⟩
/-- behind a comprehension: its names are those of before -/
theorem Rel.rest {C0 : Cf} {s0 : S} {vs : List Nat} (r0 : Rel G C0 s0 σ) (l : Lv C0 C) (r : Rel G C s (L2.wipe σ vs)) : Rel G C { s with e := restE s0.e s.e vs } σ where
  len := by rw [restE_len, r.len, wipe_length]
  env := fun j x q => by
    rcases restE_at q with ⟨a, b⟩ | ⟨a, b⟩
    · obtain ⟨v, h1, h2⟩ := r.env j x b
      exact ⟨v, by rw [wipe_out a] at h1; exact h1, h2⟩
    · rcases b with b | ⟨y, b, h⟩
      · cases b
      · cases b
        obtain ⟨v, h1, h2⟩ := r0.env j x h
        exact ⟨v, h1, h2.mono0 l⟩
  own := fun j x q => by
    rcases restE_at q with ⟨a, b⟩ | ⟨a, b⟩
    · obtain ⟨v, h1, h2⟩ := r.own j x b
      exact ⟨v, by rw [wipe_out a] at h1; exact h1, h2⟩
    · rcases b with b | ⟨y, b, h⟩
      · cases b
      · cases b
  apart := fun i j c d p h1 h2 h3 h4 => by
    rcases restE_at h1 with ⟨a1, b1⟩ | ⟨a1, b1⟩
    · rcases restE_at h2 with ⟨a2, b2⟩ | ⟨a2, b2⟩
      · exact r.apart i j c d p b1 b2 (by rw [wipe_out a1]; exact h3) (by rw [wipe_out a2]; exact h4)
      · rcases b2 with b | ⟨y, b, h⟩ <;> cases b
    · rcases b1 with b | ⟨y, b, h⟩ <;> cases b
  hlen := r.hlen
  nd := r.nd
  cell := r.cell
  fztr := r.fztr
  kptr := r.kptr
  fzkp := r.fzkp
  tabs := r.tabs

/-! ### places walked -/
/-- the place of what is no value -/
def Pl (C : Cf) (σ : L2.St) (o : Rv) (p : Addr) : Prop := match o with
  | .v (.ref n) => C.ρ[n]? = some p
  | .sl i => σ[i]? = some (some (.ref p))
  | _ => False
abbrev Cf.hold (C : Cf) (Z : Addr → Prop) : Cf := { C with kp := fun p => C.kp p ∨ Z p }
theorem lv_hold {Z : Addr → Prop} : Lv C (C.hold Z) := ⟨List.prefix_rfl, fun _ h => h, fun _ _ => .of fun _ h => h⟩
theorem lv_kp {K : Addr → Prop} : Lv C { C with kp := K } := ⟨List.prefix_rfl, fun _ h => h, fun _ _ => .of fun _ h => h⟩
theorem le_unhold {Z : Addr → Prop} (l : Le (C.hold Z) C') : Le C { C' with kp := C.kp } where
  ρ := l.ρ
  fz := l.fz
  hf := l.hf
  kp := rfl
  rs := l.rs
  hk := fun p z => l.hk p (z.imp .inl id)
  ff := l.ff
theorem Rel.unhold {Z : Addr → Prop} (r : Rel G (C.hold Z) s σ) : Rel G C s σ where
  len := r.len
  env := fun i x h => let ⟨v, a, b⟩ := r.env i x h; ⟨v, a, b.mono0 lv_kp⟩
  own := fun i c h => let ⟨p, a, b, d, e, f⟩ := r.own i c h; ⟨p, a, b.mono0 lv_kp, d, e, fun u z => f.1 u (.inl z), f.2⟩
  apart := r.apart
  hlen := r.hlen
  nd := r.nd
  cell := fun n c p h1 h2 => let ⟨a, b, d⟩ := r.cell n c p h1 h2; ⟨a.mono0 lv_kp, b, fun u z => d.1 u (.inl z), d.2⟩
  fztr := r.fztr
  kptr := fun p z => r.kptr p (z.imp .inl id)
  fzkp := fun p h z => r.fzkp p h (z.imp .inl id)
  tabs := r.tabs
theorem Rel.unhold' {Z K : Addr → Prop} (r : Rel G C s σ) (h : C.kp = fun p => K p ∨ Z p) : Rel G { C with kp := K } s σ :=
  Rel.unhold (C := { C with kp := K }) (Z := Z) (by
    have e : ({ C with kp := K } : Cf).hold Z = C := by
      cases C
      simp only at h
      subst h
      rfl
    rw [e]
    exact r)
/-- a list at a place is locked, unlocked -/
theorem lst_flag {xs : List Val} {a b : Bool} {o : Option HO} (h : CR G C (.lst xs a) o) : CR G C (.lst xs b) o := h
theorem Rel.flagH (r : Rel G C s σ) {n : Nat} {xs : List Val} {a b : Bool} {p : Addr} (h : s.h[n]? = some (.lst xs a)) (hp : C.ρ[n]? = some p) (k : b = false → ¬ C.kp p) : Rel G C { s with h := s.h.set n (.lst xs b) } σ where
  len := r.len
  env := r.env
  own := r.own
  apart := r.apart
  hlen := by simpa using r.hlen
  nd := r.nd
  cell := fun m c q h1 h2 => by
    have h1 : (s.h.set n (.lst xs b))[m]? = some c := h1
    by_cases e : n = m
    · subst e
      rw [hp] at h2
      cases h2
      have hn : n < s.h.length := (List.getElem?_eq_some_iff.mp h).1
      rw [List.getElem?_set_self hn] at h1
      cases h1
      obtain ⟨a, d, e, f⟩ := r.cell n _ p h hp
      exact ⟨lst_flag a, d, fun u => k (by simpa [free, unlocked] using u), f⟩
    · rw [List.getElem?_set_ne e] at h1
      exact r.cell m c q h1 h2
  fztr := r.fztr
  kptr := r.kptr
  fzkp := r.fzkp
  tabs := r.tabs
theorem Rel.flagO (r : Rel G C s σ) {n : Nat} {xs : List Val} {a b : Bool} {p : Addr} (h : s.e[n]? = some (.own (.lst xs a))) (hp : σ[n]? = some (some (.ref p))) (k : b = false → ¬ C.kp p) : Rel G C { s with e := s.e.set n (.own (.lst xs b)) } σ where
  len := by simpa using r.len
  env := fun j x q => by
    rcases set_val q with ⟨rfl, e, hi⟩ | ⟨e, h'⟩
    · cases e
    · exact r.env j x h'
  own := fun j c q => by
    rcases set_val q with ⟨rfl, e, hi⟩ | ⟨e, h'⟩
    · cases e
      obtain ⟨q, a, b, d, e, f⟩ := r.own n _ h
      rw [hp] at a
      cases a
      exact ⟨p, hp, lst_flag b, d, e, fun u => k (by simpa [unlocked] using u), f.2⟩
    · exact r.own j c h'
  apart := fun i j c d q h1 h2 h3 h4 => by
    have f1 : ∃ c', s.e[i]? = some (.own c') := by
      rcases set_val h1 with ⟨rfl, e, hi⟩ | ⟨e, h'⟩
      · exact ⟨_, h⟩
      · exact ⟨_, h'⟩
    have f2 : ∃ c', s.e[j]? = some (.own c') := by
      rcases set_val h2 with ⟨rfl, e, hi⟩ | ⟨e, h'⟩
      · exact ⟨_, h⟩
      · exact ⟨_, h'⟩
    obtain ⟨_, g1⟩ := f1
    obtain ⟨_, g2⟩ := f2
    exact r.apart i j _ _ q g1 g2 h3 h4
  hlen := r.hlen
  nd := r.nd
  cell := r.cell
  fztr := r.fztr
  kptr := r.kptr
  fzkp := r.fzkp
  tabs := r.tabs
theorem Rel.holdZ {Z : Addr → Prop} (r : Rel G C s σ) (h1 : ∀ p, Z p → NT (C.H p) ∧ ¬ C.fz p) (h2 : ∀ (i : Nat) c p, s.e[i]? = some (.own c) → σ[i]? = some (some (.ref p)) → Z p → unlocked c = false)
    (h3 : ∀ (n : Nat) c p, s.h[n]? = some c → C.ρ[n]? = some p → Z p → free c = false) : Rel G (C.hold Z) s σ where
  len := r.len
  env := fun i x h => let ⟨v, a, b⟩ := r.env i x h; ⟨v, a, b.mono0 lv_hold⟩
  own := fun i c h => let ⟨p, a, b, d, e, f⟩ := r.own i c h; ⟨p, a, b.mono0 lv_hold, d, e, fun u z => z.elim (f.1 u) fun z => (nomatch (h2 i c p h a z).symm.trans u), f.2⟩
  apart := r.apart
  hlen := r.hlen
  nd := r.nd
  cell := fun n c p g1 g2 => let ⟨a, b, d⟩ := r.cell n c p g1 g2; ⟨a.mono0 lv_hold, b, fun u z => z.elim (d.1 u) fun z => (nomatch (h3 n c p g1 g2 z).symm.trans u), d.2⟩
  fztr := r.fztr
  kptr := fun p z => by
    rcases z with (z | z) | z
    · exact r.kptr p (.inl z)
    · exact (h1 p z).1
    · exact r.kptr p (.inr z)
  fzkp := fun p h z => by
    rcases z with (z | z) | z
    · exact r.fzkp p h (.inl z)
    · exact (h1 p z).2 h
    · exact r.fzkp p h (.inr z)
  tabs := r.tabs
end
end Rs
end
section
set_option maxRecDepth 100000
set_option maxHeartbeats 4000000
/-! Sources of loops. -/
namespace Rs
open PySem PySem.Spec PyProof.Rows L2
section
variable {G : Gl} {C C' D : Cf} {s s' s0 : S} {σ σ' σ0 : L2.St}
def okS (s : S) (o : Rv) : Prop := match o with
  | .v (.ref n) => ∃ xs lk, s.h[n]? = some (.lst xs lk)
  | .v _ => True
  | .sl i => ∃ xs lk, s.e[i]? = some (.own (.lst xs lk))
  | .f _ => False
def Zs (C : Cf) (σ : L2.St) : List Rv → Addr → Prop
  | [], _ => False
  | o :: os, p => Pl C σ o p ∨ Zs C σ os p
theorem Zs.ref {os : List Rv} (hk : os.all (fun o => match o with | .sl _ => false | _ => true) = true) : ∀ p, Zs C σ os p → Zs C σ' os p := by
  induction os with
  | nil => exact fun _ h => h
  | cons o os ih =>
    intro p h
    obtain ⟨h1, h2⟩ := Bool.and_eq_true_iff.mp (show (_ && _) = true from hk)
    rcases h with h | h
    · left
      cases o with
      | sl i => cases h1
      | v x => cases x <;> exact h
      | f c => exact h
    · exact .inr (ih h2 p h)
theorem lock_one (r : Rel G C s σ) {o : Rv} (k : okS s o) : Rel G (C.hold (Pl C σ o)) (lockLoc s o) σ ∧ ∀ o', okS s o' → okS (lockLoc s o) o' := by
  cases o with
  | f c => exact k.elim
  | sl i =>
    obtain ⟨xs, lk, h⟩ := k
    obtain ⟨p, a, b, d, e, f⟩ := r.own i _ h
    have hi : i < s.e.length := (List.getElem?_eq_some_iff.mp h).1
    have e0 : lockLoc s (.sl i) = { s with e := s.e.set i (.own (.lst xs true)) } := by
      unfold lockLoc slotOf
      simp only [List.getD_eq_getElem?_getD, h]
      rfl
    rw [e0]
    refine ⟨(r.flagO h a (b := true) (by simp)).holdZ (fun q z => ?_) (fun j c q h1 h2 z => ?_) (fun m c q h1 h2 z => ?_), fun o' k' => ?_⟩
    · have z : σ[i]? = some (some (.ref q)) := z
      rw [a] at z
      cases z
      exact ⟨b.nt, d⟩
    · have z : σ[i]? = some (some (.ref q)) := z
      rcases set_val h1 with ⟨rfl, e, _⟩ | ⟨e, h'⟩
      · cases e; rfl
      · exact absurd (r.apart i j _ _ q h h' z h2) e
    · have z : σ[i]? = some (some (.ref q)) := z
      rw [a] at z
      cases z
      exact absurd (List.mem_of_getElem? h2) e
    · cases o' with
      | f c => exact k'.elim
      | v x => cases x <;> exact k'
      | sl j =>
        obtain ⟨ys, l2, h'⟩ := k'
        show ∃ xs lk, (s.e.set i _)[j]? = some (.own (.lst xs lk))
        by_cases e : i = j
        · subst e
          exact ⟨xs, true, by rw [List.getElem?_set_self hi]⟩
        · exact ⟨ys, l2, by rw [List.getElem?_set_ne e]; exact h'⟩
  | v x =>
    cases x with
    | ref n =>
      obtain ⟨xs, lk, h⟩ := k
      have hn : n < s.h.length := (List.getElem?_eq_some_iff.mp h).1
      have hp : C.ρ[n]? = some (C.ρ[n]'(by rw [← r.hlen]; exact hn)) := List.getElem?_eq_getElem _
      obtain ⟨b, d, f⟩ := r.cell n _ _ h hp
      have e0 : lockLoc s (.v (.ref n)) = { s with h := s.h.set n (.lst xs true) } := by
        unfold lockLoc
        simp only [h]
        rfl
      rw [e0]
      refine ⟨(r.flagH h hp (b := true) (by simp)).holdZ (fun q z => ?_) (fun j c q h1 h2 z => ?_) (fun m c q h1 h2 z => ?_), fun o' k' => ?_⟩
      · have z : C.ρ[n]? = some q := z
        rw [hp] at z
        cases z
        exact ⟨b.nt, d⟩
      · have z : C.ρ[n]? = some q := z
        obtain ⟨q', a', _, _, e', _⟩ := r.own j c h1
        rw [h2] at a'
        cases a'
        exact absurd (List.mem_of_getElem? z) e'
      · have z : C.ρ[n]? = some q := z
        have h1 : (s.h.set n (.lst xs true))[m]? = some c := h1
        have e : n = m := by
          have g1 := (List.getElem?_eq_some_iff.mp z).1
          exact (List.getElem?_inj g1 r.nd).mp (z.trans h2.symm)
        subst e
        rw [List.getElem?_set_self hn] at h1
        cases h1
        rfl
      · cases o' with
        | f c => exact k'.elim
        | sl j => exact k'
        | v x =>
          cases x with
          | ref m =>
            obtain ⟨ys, l2, h'⟩ := k'
            show ∃ xs lk, (s.h.set n _)[m]? = some (.lst xs lk)
            by_cases e : n = m
            · subst e
              exact ⟨xs, true, by rw [List.getElem?_set_self hn]⟩
            · exact ⟨ys, l2, by rw [List.getElem?_set_ne e]; exact h'⟩
          | _ => exact k'
    | _ =>
      refine ⟨?_, fun _ h => h⟩
      exact r.holdZ (fun _ z => z.elim) (fun _ _ _ _ _ z => z.elim) fun _ _ _ _ _ z => z.elim
theorem hold_hold {Y Z : Addr → Prop} : (C.hold Y).hold Z = C.hold fun p => Y p ∨ Z p := by
  show ({ C with kp := _ } : Cf) = _
  have e : (fun p => (C.kp p ∨ Y p) ∨ Z p) = fun p => C.kp p ∨ Y p ∨ Z p := funext fun p => propext or_assoc
  simp only [Cf.hold, e]
theorem lock_all : ∀ {os : List Rv} {C : Cf} {s : S}, Rel G C s σ → (∀ o ∈ os, okS s o) → Rel G (C.hold (Zs C σ os)) (lockAll s os) σ
  | [], C, s, r, _ => r.holdZ (fun _ z => z.elim) (fun _ _ _ _ _ z => z.elim) fun _ _ _ _ _ z => z.elim
  | o :: os, C, s, r, k => by
    obtain ⟨r1, k1⟩ := lock_one r (k o (by simp))
    have r2 := lock_all (os := os) r1 fun o' h => k1 o' (k o' (by simp [h]))
    rw [hold_hold] at r2
    have e : ∀ (os : List Rv) (p : Addr), Zs (C.hold (Pl C σ o)) σ os p = Zs C σ os p := fun os p => by
      induction os with
      | nil => rfl
      | cons a as ih =>
        show (Pl (C.hold (Pl C σ o)) σ a p ∨ _) = (Pl C σ a p ∨ _)
        rw [ih]
        cases a with
        | v x => cases x <;> rfl
        | _ => rfl
    have e2 : (fun p => Pl C σ o p ∨ Zs (C.hold (Pl C σ o)) σ os p) = Zs C σ (o :: os) := funext fun p => by rw [e]; rfl
    rw [e2] at r2
    exact r2
theorem un_one (r0 : Rel G C s0 σ0) {o : Rv} (k : okS s0 o) (r : Rel G D s σ) (hk : D.kp = C.kp) (same : ∀ p, Pl C σ0 o p → Pl D σ o p ∧ D.H p = C.H p) : Rel G D (unlockLoc s0 s o) σ := by
  cases o with
  | f c => exact k.elim
  | sl i =>
    obtain ⟨xs, lk, h⟩ := k
    obtain ⟨p, a, b, d, e, f⟩ := r0.own i _ h
    obtain ⟨hp, eH⟩ := same p a
    have hp : σ[i]? = some (some (.ref p)) := hp
    unfold unlockLoc
    simp only [h]
    cases q : s.e[i]? with
    | none => simp only [q]; exact r
    | some t =>
      cases t with
      | own c =>
        simp only [q]
        by_cases u : unlocked (.lst xs lk) = true
        · rw [if_pos u]
          obtain ⟨p', a', b', d', e', f'⟩ := r.own i c q
          rw [hp] at a'
          cases a'
          obtain ⟨ys, e1, _⟩ := b
          rw [eH, e1] at b'
          cases c with
          | lst zs l2 => exact r.flagO q hp (b := false) fun _ z => f.1 u (by rw [← hk]; exact z)
          | dct zs l2 => cases l2 <;> (obtain ⟨_, b'⟩ := b' <;> first | (obtain ⟨_, b', _⟩ := b'; cases b') | (obtain ⟨b', _⟩ := b'; cases b'))
          | ins _ _ => obtain ⟨_, _, b', _⟩ := b'; cases b'
          | err _ _ _ => obtain ⟨_, _, _, b', _⟩ := b'; cases b'
        · rw [if_neg u]
          exact r
      | _ => simp only [q]; exact r
  | v x =>
    cases x with
    | ref n =>
      obtain ⟨xs, lk, h⟩ := k
      have hn : n < s0.h.length := (List.getElem?_eq_some_iff.mp h).1
      have hp : C.ρ[n]? = some (C.ρ[n]'(by rw [← r0.hlen]; exact hn)) := List.getElem?_eq_getElem _
      obtain ⟨b, d, f⟩ := r0.cell n _ _ h hp
      obtain ⟨hp2, eH⟩ := same _ hp
      have hp2 : D.ρ[n]? = some (C.ρ[n]'(by rw [← r0.hlen]; exact hn)) := hp2
      unfold unlockLoc
      simp only [h]
      cases q : s.h[n]? with
      | none => simp only [q]; exact r
      | some c =>
        simp only [q]
        by_cases u : unlocked (.lst xs lk) = true
        · rw [if_pos u]
          obtain ⟨b', d', f'⟩ := r.cell n c _ q hp2
          obtain ⟨ys, e1, _⟩ := b
          rw [eH, e1] at b'
          cases c with
          | lst zs l2 => exact r.flagH q hp2 (b := false) fun _ z => f.1 u (by rw [← hk]; exact z)
          | dct zs l2 => cases l2 <;> (obtain ⟨_, b'⟩ := b' <;> first | (obtain ⟨_, b', _⟩ := b'; cases b') | (obtain ⟨b', _⟩ := b'; cases b'))
          | ins _ _ => obtain ⟨_, _, b', _⟩ := b'; cases b'
          | err _ _ _ => obtain ⟨_, _, _, b', _⟩ := b'; cases b'
        · rw [if_neg u]
          exact r
    | _ => exact r
theorem un_all (r0 : Rel G C s0 σ0) (hk : D.kp = C.kp) : ∀ {os : List Rv} {s : S}, (∀ o ∈ os, okS s0 o) → Rel G D s σ → (∀ o ∈ os, ∀ p, Pl C σ0 o p → Pl D σ o p ∧ D.H p = C.H p) → Rel G D (unlockAll s0 s os) σ
  | [], s, _, r, _ => r
  | o :: os, s, k, r, h => un_all r0 hk (os := os) (fun o' h' => k o' (by simp [h'])) (un_one r0 (k o (by simp)) r hk (h o (by simp))) fun o' h' => h o' (by simp [h'])
/-- what a source yields, turn by turn -/
def TW (G : Gl) (C1 : Cf) (Z : Addr → Prop) (items : List Val) (J : It) : Prop := ∃ Gd Y, Walk J items.length Gd Y ∧ (∀ C2, Lv C1 C2 → (∀ p, Z p → C2.H p = C1.H p) → Gd C2.H) ∧
  ∀ i C2 H' x v s2 σ2, items[i]? = some x → Lv C1 C2 → (∀ p, Z p → C2.H p = C1.H p) → Rel G C2 s2 σ2 → Y i C2.H v H' → ∃ C3, C3.H = H' ∧ Le C2 C3 ∧ Rel G C3 s2 σ2 ∧ VR G C3 x v
def tW (G : Gl) (k : Sk) (f : S → R (List Rv)) : TI := fun σ H R => ∃ C s os s' items, C.H = H ∧ Rel G C s σ ∧ f s = .ok os s' ∧ srcItems k (os.map (deref s')) = some items ∧
  ∀ C1 J, Le C C1 → Rel G C1 s' σ → (∀ o ∈ os, okS s' o) → TW G C1 (Zs C1 σ os) items J → R J C1.H
theorem PI.or {X : Cx} {tg e : Expr} {w1 w2 : TI} (h1 : PI X tg e w1) (h2 : PI X tg e w2) : PI X tg e (fun σ H R => w1 σ H R ∨ w2 σ H R) := ⟨fun pins s σ H R I h => h.elim (h1.run pins s σ H R I) (h2.run pins s σ H R I)⟩
theorem PI.weak {X : Cx} {tg e : Expr} {w1 w2 : TI} (h1 : PI X tg e w1) (h2 : ∀ σ H R, w2 σ H R → w1 σ H R) : PI X tg e w2 := ⟨fun pins s σ H R I h => h1.run pins s σ H R I (h2 σ H R h)⟩
theorem lv_trans {A B C : Cf} (a : Lv A B) (b : Lv B C) : Lv A C := ⟨a.ρ.trans b.ρ, fun p h => b.fz p (a.fz p h), fun p h => (a.hf p h).trans (b.hf p (a.fz p h))⟩
theorem TW.seq {Z : Addr → Prop} {J : It} {xs : List Val} {ys : List V} {Gd : Hp → Prop} (w : Walk J ys.length Gd (YAt ys)) (h : VRs G C xs ys) (hG : ∀ C2, Lv C C2 → (∀ p, Z p → C2.H p = C.H p) → Gd C2.H) : TW G C Z xs J := by
  refine ⟨Gd, YAt ys, by rw [h.length]; exact w, hG, fun i C2 H' x v s2 σ2 hx l _ r y => ?_⟩
  obtain ⟨rfl, hy⟩ := y
  obtain ⟨v', h1, h2⟩ := h.get hx
  rw [hy] at h1
  cases h1
  exact ⟨C2, rfl, .refl _, r, h2.mono0 l⟩
theorem TW.pairs {Z : Addr → Prop} {J : It} {fx fz : Nat → Option V} {Gd : Hp → Prop} {n : Nat} {items : List Val} (hn : items.length = n) (w : Walk J n Gd (YPair fx fz))
    (hi : ∀ i x, items[i]? = some x → ∃ a b, x = .tup [a, b] ∧ ∀ u v, fx i = some u → fz i = some v → VR G C a u ∧ VR G C b v) (hG : ∀ C2, Lv C C2 → (∀ p, Z p → C2.H p = C.H p) → Gd C2.H) : TW G C Z items J := by
  refine ⟨Gd, _, by rw [hn]; exact w, hG, fun i C2 H' x v s2 σ2 hx l _ r y => ?_⟩
  obtain ⟨T, u, z, rfl, hT, rfl, h1, h2⟩ := y
  obtain ⟨a, b, rfl, hv⟩ := hi i x hx
  obtain ⟨va, vb⟩ := hv u z h1 h2
  have f := r.fresh hT
  have r1 := r.new (o := .tup [u, z]) hT
  refine ⟨(C2.new T (.tup [u, z])).ice T, rfl, (Le.new hT).trans .ice, r1.ice ⟨f.fz, f.kp, f.ρ, f.rs⟩ (nt_upd fun ps z => nomatch z) fun i c h z => own_tr r h z hT, ?_⟩
  have l2 : Lv C ((C2.new T (.tup [u, z])).ice T) := lv_trans l ((Le.new hT).trans .ice).toLv
  show VR G _ (.tup _) _
  unfold VR
  exact ⟨T, _, rfl, .inl ⟨.inr rfl, upd_same⟩, VRs.cons (va.mono0 l2) (VRs.cons (vb.mono0 l2) VRs.nil)⟩
end
section
variable {G : Gl} {T : Tab} {F : Call} {k : Nat} {X : Cx} {tg e ea eb : Expr} {pos p tpos : Pos} {a b : IE}
theorem so_one {a : IE} {s s' : S} {os : List Rv} (h : evalOs T F [a] s = .ok os s') : ∃ x, evalE T F a s = .ok x s' ∧ os = [opnd x] := by
  unfold evalOs at h
  obtain ⟨x, s1, e1, h⟩ := bind_ok h
  obtain ⟨ys, s2, e2, h⟩ := bind_ok h
  unfold evalOs at e2
  cases e2
  cases h
  exact ⟨x, e1, rfl⟩
end
end Rs
end
section
set_option maxRecDepth 100000
set_option maxHeartbeats 1000000
/-! RsZipM: zip of a list or a tuple with a list or a tuple. -/
namespace Rs
open PySem PyProof.Rows L2

/-- the sequence l with the items xs: a tuple if b, else a list -/
def SqB (b : Bool) (h : Heap) (l : Addr) (xs : Array Value) : Prop := cond b (h.IsTuple l xs) (h.IsList l xs)
/-- an iterator over it -/
def ItB (b : Bool) (h : Heap) (m l : Addr) (k : Nat) : Prop := cond b (h.IsTupleIter m l k) (h.IsListIter m l k)
theorem SqB.ext {b : Bool} {c l : Addr} {xs : Array Value} {h g : Heap} (e : Heap.ExtBut c h g) (q : SqB b h l xs) (n : l ≠ c) : SqB b g l xs := by
  cases b
  · exact Heap.IsList.extBut q e n
  · exact Heap.IsTuple.extBut q e n
theorem ItB.ext {b : Bool} {c m l : Addr} {k : Nat} {h g : Heap} (e : Heap.ExtBut c h g) (q : ItB b h m l k) (n : m ≠ c) : ItB b g m l k := by
  cases b
  · exact Heap.IsListIter.extBut q e n
  · exact Heap.IsTupleIter.extBut q e n
theorem ItB.to {b : Bool} {m l : Addr} {k : Nat} {h g : Heap} (q : ItB b h m l k) (e : ∀ o, h.get? m = some o → g.get? m = some o) : ItB b g m l k := by
  cases b
  · exact Heap.IsListIter.at q e
  · exact Heap.IsTupleIter.at q e
theorem SqB.lt {b : Bool} {l : Addr} {xs : Array Value} {h : Heap} (q : SqB b h l xs) : l < h.objs.size := by
  cases b
  · obtain ⟨o, e, _⟩ := q
    exact Heap.lt_size e
  · obtain ⟨o, e, _⟩ := q
    exact Heap.lt_size e
section
variable {prog : Program} {w : World} {A : Around} {E : Value → Shared → Prop} {s : Shared}
/-- what of the heap a turn of the zip at z leaves -/
def Off (z TO m n : Addr) (h g : Heap) : Prop := ∀ c o, c ≠ z → c ≠ TO → c ≠ m → c ≠ n → h.get? c = some o → g.get? c = some o
theorem Off.one {z TO m n c : Addr} {h g : Heap} (e : Heap.ExtBut c h g) (hc : c = z ∨ c = TO ∨ c = m ∨ c = n) : Off z TO m n h g := by
  intro d o d1 d2 d3 d4 x
  refine e d o ?_ x
  rcases hc with q | q | q | q <;> rw [q] <;> assumption
theorem Off.trans {z TO m n : Addr} {h g f : Heap} (p : Off z TO m n h g) (q : Off z TO m n g f) : Off z TO m n h f :=
  fun c o d1 d2 d3 d4 x => q c o d1 d2 d3 d4 (p c o d1 d2 d3 d4 x)

section
variable {b d : Bool} {z TI TO m n l r : Addr} {i j : Nat} {xs ys : Array Value}
end
end
/-! ### the call -/
/-- a new iterator over l -/
def itO (b : Bool) (l : Addr) : Obj := { cls := .type (cond b "tuple_iterator" "list_iterator"), data := .fields #[.ref l, .int 0 0] }
abbrev gA (b : Bool) (h : Heap) (l : Addr) : Heap := h.push (itO b l)
abbrev gB (b d : Bool) (h : Heap) (l r : Addr) : Heap := (gA b h l).push (itO d r)
abbrev gC (b d : Bool) (h : Heap) (l r : Addr) : Heap := (gB b d h l r).push { cls := .type "tuple", data := .seq #[.ref h.objs.size, .ref (gA b h l).objs.size] }
abbrev gD (b d : Bool) (h : Heap) (l r : Addr) : Heap := (gC b d h l r).push { cls := .type "tuple", data := .seq #[.none, .none] }
abbrev gE (b d : Bool) (h : Heap) (l r : Addr) : Heap :=
  (gD b d h l r).push { cls := .type "zip", data := .fields #[.none, .bool false, .bool false, .ref (gB b d h l r).objs.size, .ref (gC b d h l r).objs.size] }
theorem SqB.push {b : Bool} {l : Addr} {xs : Array Value} {h : Heap} {o : Obj} (q : SqB b h l xs) : SqB b (h.push o) l xs := by
  cases b
  · exact Heap.IsList.push q _
  · exact Heap.IsTuple.push q _
theorem ItB.start {b : Bool} {m l : Addr} {h : Heap} (e : h.get? m = some (itO b l)) : ItB b h m l 0 := by
  cases b
  · exact ⟨_, e, rfl, rfl⟩
  · exact ⟨_, e, rfl, rfl⟩
section
variable {prog : Program} {w : World} {A : Around} {E : Value → Shared → Prop} {s : Shared}
end
/-! ### turns -/
/-- the sequence a of the store: a tuple if b, else a list -/
def SqM (K : PySem.W.Frag) (b : Bool) (H : Hp) (a : Addr) (xs : List V) : Prop := cond b (SqT K H a xs) (SqL K H a xs)
theorem SqM.inj {X : Cx} {pins : List (Addr × Obj)} {σ : L2.St} {H : Hp} {s : Shared} {b : Bool} {a : Addr} {xs ys : List V} (I : Inv X pins σ H s) (p : SqM X.K b H a xs) (q : SqM X.K b H a ys) : xs = ys := by
  cases b
  · exact I.list_inj p q
  · exact I.tuple_inj p q
def ItzM (K : PySem.W.Frag) (b d : Bool) (l r : Addr) : It :=
  ⟨fun i H => ∃ (xs ys : List V) (x y : V), SqM K b H l xs ∧ SqM K d H r ys ∧ xs[i]? = some x ∧ ys[i]? = some y,
    fun i H v H' => ∃ T x y, v = .ref T ∧ H T = none ∧ H' = upd H T (.tup [x, y]) ∧ (∀ xs, SqM K b H l xs → xs[i]? = some x) ∧ ∀ ys, SqM K d H r ys → ys[i]? = some y,
    fun i H => ∃ xs ys : List V, SqM K b H l xs ∧ SqM K d H r ys ∧ (xs.length ≤ i ∨ ys.length ≤ i)⟩
def iZipM (K : PySem.W.Frag) (ta : TA) : TI := fun σ H R => ta σ H fun vs H1 => ∃ a b xs ys f d, vs = [.ref a, .ref b] ∧ SqM K f H1 a xs ∧ SqM K d H1 b ys ∧ R (ItzM K f d a b) H1
end Rs
end
section
set_option maxRecDepth 100000
set_option maxHeartbeats 4000000
/-! Sources of loops, patterns, loops. -/
namespace Rs
open PySem PySem.Spec PyProof.Rows L2
section
variable {G : Gl} {C C' D : Cf} {s s' s0 : S} {σ σ' σ0 : L2.St}
theorem int_of (r : Rel G C s σ) {o : Rv} {v : V} {i : Int} (h : OR G C s σ o v) (e : deref s o = .int i) : v = .int i ∧ okS s o := by
  have h1 := deref_ok r h (by rw [e]; simp)
  rw [e] at h1
  have h1 : VR G C (.int i) v := h1
  unfold VR at h1
  refine ⟨h1, ?_⟩
  cases o with
  | f c => exact h.elim
  | sl j =>
    unfold deref at e
    cases q : s.e[j]? with
    | none => simp [q] at e
    | some t => cases t with
      | own c => cases c <;> simp [q, imm] at e
      | _ => simp [q] at e
  | v x =>
    cases x with
    | ref n =>
      unfold deref at e
      cases q : s.h[n]? with
      | none => simp [q] at e
      | some c => cases c <;> simp [q] at e
    | _ => trivial
theorem range_get {lo : Int} {n i : Nat} {x : Val} (h : (rangeV lo n)[i]? = some x) : x = .int (lo + (i : Int)) := by
  unfold rangeV at h
  by_cases q : i < n
  · rw [List.getElem?_map, List.getElem?_range q] at h
    cases h; rfl
  · rw [List.getElem?_eq_none (by simp; omega)] at h
    cases h
theorem TW.rng {Z : Addr → Prop} {lo : Int} {n : Nat} : TW G C Z (rangeV lo n) (Itr lo n) := by
  refine ⟨fun _ => True, YFn fun i => .int (lo + i), ?_, fun _ _ _ => trivial, fun i C2 H' x v s2 σ2 hx l _ r y => ?_⟩
  · have e : (rangeV lo n).length = n := by unfold rangeV; simp
    rw [e]
    exact walk_range
  · obtain ⟨rfl, rfl⟩ := y
    rw [range_get hx]
    exact ⟨C2, rfl, .refl _, r, VR.int⟩
end
section
variable {G : Gl} {T : Tab} {F : Call} {k : Nat} {X : Cx} {tg e ea eb : Expr} {pos p tpos : Pos} {a b : IE}
theorem smallI_ok {i : Int} (h : smallI i = true) : -(2 ^ 62) ≤ i ∧ i < 2 ^ 62 := by
  obtain ⟨h1, h2⟩ := Bool.and_eq_true_iff.mp h
  exact ⟨of_decide_eq_true h1, of_decide_eq_true h2⟩
theorem pw_rng1 (o : XO0 G k X) (hg : L2.Gl X "range") (hm : X.mg "range" = none) (ha : PA X [ea] (tOs G (evalOs T F [a]))) (hs : starEach [ea] X.env = [(false, eval ea X.env)] := by rfl) : PI X tg (.Call (.Name "range" p) [ea] [] pos) (tW G .rng (evalOs T F [a])) := by
  refine PI.weak (pi_range1 hg hm ha hs) fun σ H R ⟨C, s, os, s', items, hH, rl, ev, hi, kk⟩ => ?_
  refine ⟨C, s, os, s', hH, rl, ev, fun C1 vs l1 r1 h1 => ?_⟩
  obtain ⟨x, e1, rfl⟩ := so_one ev
  obtain ⟨v, r, rfl, h2, h3⟩ := h1
  cases h3
  simp only [List.map_cons, List.map_nil] at hi
  generalize hd : deref s' (opnd x) = y at hi
  cases y with
  | int j =>
    unfold srcItems at hi
    simp only at hi
    split at hi
    · rename_i hs
      cases hi
      obtain ⟨rfl, ok⟩ := int_of r1 h2 hd
      exact ⟨j, rfl, (smallI_ok hs).1, (smallI_ok hs).2, kk C1 _ l1 r1 (fun o ho => by rw [List.mem_singleton.mp ho]; exact ok) TW.rng⟩
    · cases hi
  | _ => unfold srcItems at hi; cases hi
/-! ### patterns -/
mutual
def pnames : Pat → List Nat
  | .nm i => [i]
  | .tp ps => pnamess ps
def pnamess : List Pat → List Nat
  | [] => []
  | p :: ps => pnames p ++ pnamess ps
end
theorem wipe_in {j : Nat} : ∀ {σ : L2.St} {vs : List Nat}, j ∈ vs → (L2.wipe σ vs)[j]? = if j < σ.length then some none else none
  | σ, [], h => by simp at h
  | σ, w :: ws, h => by
    unfold L2.wipe
    by_cases e : w = j
    · subst e
      by_cases hl : w < σ.length
      · rw [List.getElem?_set_self (by rw [wipe_length]; exact hl), if_pos hl]
      · rw [if_neg hl, List.getElem?_eq_none]
        rw [List.length_set, wipe_length]
        omega
    · rw [List.getElem?_set_ne e]
      rcases List.mem_cons.mp h with h | h
      · exact absurd h.symm e
      · exact wipe_in h
theorem wipe_set {σ : L2.St} {vs : List Nat} {i : Nat} {v : Option V} (h : i ∈ vs) : L2.wipe (σ.set i v) vs = L2.wipe σ vs := by
  apply List.ext_getElem?
  intro j
  by_cases hj : j ∈ vs
  · rw [wipe_in hj, wipe_in hj]
    simp
  · rw [wipe_out hj, wipe_out hj, List.getElem?_set_ne fun e => hj (by rw [← e]; exact h)]
/-- a pattern is given a value -/
def gP (G : Gl) (p : Pat) : TG := fun v σ H Q => ∃ C s x e', C.H = H ∧ Rel G C s σ ∧ VR G C x v ∧ patSet p x s.e = some e' ∧ ∀ σ', Rel G C { s with e := e' } σ' → (∀ vs, (∀ i ∈ pnames p, i ∈ vs) → L2.wipe σ' vs = L2.wipe σ vs) → Q σ' H
def gPs (G : Gl) (ps : List Pat) : TGs := fun vs σ H Q => ∃ C s xs e', C.H = H ∧ Rel G C s σ ∧ VRs G C xs vs ∧ patSets ps xs s.e = some e' ∧ ∀ σ', Rel G C { s with e := e' } σ' → (∀ vs, (∀ i ∈ pnamess ps, i ∈ vs) → L2.wipe σ' vs = L2.wipe σ vs) → Q σ' H
theorem PG.weak {t t' : TG} (h : PG X e t) (w : ∀ v σ H Q, t' v σ H Q → t v σ H Q) : PG X e t' := ⟨fun pins s σ H v u Q I r q => h.run pins s σ H v u Q I r (w v σ H Q q)⟩
theorem PGs.weak {es : List Expr} {t t' : TGs} (h : PGs X es t) (w : ∀ v σ H Q, t' v σ H Q → t v σ H Q) : PGs X es t' := ⟨fun pins s σ H v u Q I r q => h.run pins s σ H v u Q I r (w v σ H Q q)⟩
theorem sp_nm {x : Str} (o : XO0 G k X) (i : Nat) (hi : X.N[i]? = some x := by rfl) (hx : Loc X.env.scope x := by first | exact .inl rfl | exact .inr rfl) (hf : X.fn x = true ∨ X.env.scope.names.lookup x = some .local := by first | exact .inl rfl | exact .inr rfl) : PG X (.Name x pos) (gP G (.nm i)) := by
  refine PG.weak (pg_name o.nd hi hx hf) fun v σ H Q ⟨C, s, z, e', hH, rl, h, e, kk⟩ => ?_
  unfold patSet at e
  cases e
  exact kk _ (rl.setV h) fun vs hv => wipe_set (hv i (by unfold pnames; simp))
end
end Rs
end
section
set_option maxRecDepth 100000
set_option maxHeartbeats 4000000
/-! Loops and comprehensions. -/
namespace Rs
open PySem PySem.Spec PyProof.Rows L2
def endF (G : Gl) (D : Ends) (fl : Fl) (C' : Cf) (σ' : L2.St) : Prop := match fl with
  | .nx => D.nx σ' C'.H
  | .bk => D.bk σ' C'.H
  | .ct => D.ct σ' C'.H
  | .rt v => ∀ u, VR G C' v u → D.rt u C'.H
/-- a statement -/
def tS (G : Gl) (f : S → R Fl) : TS := fun D σ H => ∃ C s fl s', C.H = H ∧ Rel G C s σ ∧ f s = .ok fl s' ∧ ∀ C' σ', Le C C' → Rel G C' s' σ' → endF G D fl C' σ'
section
variable {G : Gl} {C C' D E : Cf} {s s' s0 : S} {σ σ' σ0 : L2.St}
theorem hold_same {Z : Addr → Prop} (rh : Rel G (C.hold Z) s σ) (l : Le (C.hold Z) D) : ∀ p, Z p → D.H p = C.H p := fun p z => by
  cases q : C.H p with
  | none => exact absurd q (rh.kptr p (.inl (.inr z))).ne
  | some o => exact l.hk p (.inl (.inr z)) o q
theorem zs_mem {os : List Rv} {o : Rv} {p : Addr} (h : o ∈ os) (hp : Pl C σ o p) : Zs C σ os p := by
  induction os with
  | nil => simp at h
  | cons a as ih =>
    rcases List.mem_cons.mp h with rfl | h
    · exact .inl hp
    · exact .inr (ih h)
theorem pl_le {o : Rv} {p : Addr} (l : Lv C D) (h : Pl C σ o p) (hσ : σ' = σ ∨ ∀ i, o ≠ .sl i) : Pl D σ' o p := by
  cases o with
  | f c => exact h
  | sl i =>
    rcases hσ with rfl | hσ
    · exact h
    · exact absurd rfl (hσ i)
  | v x =>
    cases x with
    | ref n =>
      have h : C.ρ[n]? = some p := h
      obtain ⟨t, ht⟩ := l.ρ
      show D.ρ[n]? = some p
      rw [← ht, List.getElem?_append_left (List.getElem?_eq_some_iff.mp h).1]
      exact h
    | _ => exact h
theorem noSl_ok {os : List Rv} (h : noSl os = true) {o : Rv} (ho : o ∈ os) : ∀ i, o ≠ .sl i := fun i e => by
  have := List.all_eq_true.mp h o ho
  rw [e] at this
  cases this
theorem Rel.unkeep {K : Addr → Prop} (r : Rel G C s σ) (h : ∀ p, K p → C.rs p) : Rel G { C with rs := K } s σ where
  len := r.len
  env := fun i x h => let ⟨v, a, b⟩ := r.env i x h; ⟨v, a, b.mono0 lv_rs⟩
  own := fun i c h1 => let ⟨p, a, b, d, e, f⟩ := r.own i c h1; ⟨p, a, b.mono0 lv_rs, d, e, f.1, fun z => f.2 (h p z)⟩
  apart := r.apart
  hlen := r.hlen
  nd := r.nd
  cell := fun n c p h1 h2 => let ⟨a, b, d⟩ := r.cell n c p h1 h2; ⟨a.mono0 lv_rs, b, d.1, fun z => d.2 (h p z)⟩
  fztr := r.fztr
  kptr := fun p z => r.kptr p (z.imp id (h p))
  fzkp := fun p h1 z => r.fzkp p h1 (z.imp id (h p))
  tabs := r.tabs
theorem Rel.keepOne (r : Rel G C s σ) {q : Addr} (f : Fr C q) (t : NT (C.H q)) (ho : ∀ (i : Nat) c, s.e[i]? = some (.own c) → σ[i]? ≠ some (some (.ref q))) : Rel G (C.keep (· = q)) s σ where
  len := r.len
  env := fun i x h => let ⟨v, a, b⟩ := r.env i x h; ⟨v, a, b.mono0 lv_rs⟩
  own := fun i c h1 => let ⟨p, a, b, d, e, g⟩ := r.own i c h1; ⟨p, a, b.mono0 lv_rs, d, e, g.1, fun z => z.elim g.2 fun z => ho i c h1 (by rw [a, z])⟩
  apart := r.apart
  hlen := r.hlen
  nd := r.nd
  cell := fun n c p h1 h2 => let ⟨a, b, d⟩ := r.cell n c p h1 h2; ⟨a.mono0 lv_rs, b, d.1, fun z => z.elim d.2 fun z => f.ρ (by rw [← z]; exact List.mem_of_getElem? h2)⟩
  fztr := r.fztr
  kptr := fun p z => by
    rcases z with z | z | z
    · exact r.kptr p (.inl z)
    · exact r.kptr p (.inr z)
    · have z : p = q := z
      rw [z]
      exact t
  fzkp := fun p h1 z => by
    rcases z with z | z | z
    · exact r.fzkp p h1 (.inl z)
    · exact r.fzkp p h1 (.inr z)
    · have z : p = q := z
      rw [z] at h1
      exact f.fz h1
  tabs := r.tabs
abbrev Cf.put (C : Cf) (q : Addr) (o : HO) : Cf := { C with H := upd C.H q o }
theorem lv_put {q : Addr} {o : HO} (n : ¬ C.fz q) : Lv C (C.put q o) := ⟨List.prefix_rfl, fun _ h => h, fun p h => .of fun u e => by
  show upd C.H q o p = _
  rw [upd_ne fun z => n (by rw [← z]; exact h)]
  exact e⟩
theorem Rel.putR (r : Rel G C s σ) {q : Addr} {o : HO} (h : C.rs q) (ht : ∀ u, C.H q = some u → (∀ ps, u ≠ .tbl ps) ∧ ∀ φ, u ≠ .ext φ) (no : ∀ ps, o ≠ .tbl ps := by intro ps z; cases z) : Rel G (C.put q o) s σ :=
  have nf : ¬ C.fz q := fun z => r.fzkp q z (.inr h)
  { len := r.len
    env := fun i x h1 => let ⟨v, a, b⟩ := r.env i x h1; ⟨v, a, b.mono0 (lv_put nf)⟩
    own := fun i c h1 => by
      obtain ⟨p, a, b, d, e, g⟩ := r.own i c h1
      refine ⟨p, a, ?_, d, e, g⟩
      show CR G _ c (upd C.H q o p)
      rw [upd_ne fun z => g.2 (by rw [z]; exact h)]
      exact b.mono0 (lv_put nf)
    apart := r.apart
    hlen := r.hlen
    nd := r.nd
    cell := fun n c p h1 h2 => by
      obtain ⟨a, b, d⟩ := r.cell n c p h1 h2
      refine ⟨?_, b, d⟩
      show CR G _ c (upd C.H q o p)
      rw [upd_ne fun z => d.2 (by rw [z]; exact h)]
      exact a.mono0 (lv_put nf)
    fztr := fun p z => by
      show NT (upd C.H q o p)
      rw [upd_ne fun e => nf (by rw [← e]; exact z)]
      exact r.fztr p z
    kptr := fun p z => by
      show NT (upd C.H q o p)
      by_cases e : p = q
      · rw [e]; exact nt_upd no
      · rw [upd_ne e]
        exact r.kptr p z
    fzkp := r.fzkp
    tabs := tabs_put r.tabs ht }
end
section
variable {G : Gl} {T : Tab} {F : Call} {k : Nat} {X : Cx} {tg e : Expr} {pos : Pos}
theorem PS.weak {st : Stmt} {t t' : TS} (h : PS X st t) (w : ∀ D σ H, t' D σ H → t D σ H) : PS X st t' := ⟨fun pins s σ H D I q => h.run pins s σ H D I (w D σ H q)⟩
theorem PSs.weak {st : List Stmt} {t t' : TS} (h : PSs X st t) (w : ∀ D σ H, t' D σ H → t D σ H) : PSs X st t' := ⟨fun pins s σ H D I q => h.run pins s σ H D I (w D σ H q)⟩
theorem drop_get {α : Type} {xs : List α} {i : Nat} (h : i < xs.length) : xs.drop i = xs[i] :: xs.drop (i + 1) := by simp
theorem forL_ct {st : Val → List Slot → Option (List Slot)} {body : S → R Fl} {x : Val} {xs : List Val} {s : S} {fl : Fl} {s2 : S} (h : forL st body (x :: xs) s = .ok fl s2) :
    ∃ e fb sb, st x s.e = some e ∧ body { s with e := e } = .ok fb sb ∧ ((fb = .nx ∨ fb = .ct) ∧ forL st body xs sb = .ok fl s2 ∨ (fb = .bk ∧ fl = .nx ∧ s2 = sb) ∨ ∃ v, fb = .rt v ∧ fl = .rt v ∧ s2 = sb) := by
  unfold forL at h
  cases q : st x s.e with
  | none => simp [q] at h
  | some e =>
    simp only [q] at h
    cases q2 : body { s with e := e } with
    | bad => simp [q2] at h
    | exc c p s => simp [q2] at h
    | ok fb sb =>
      rw [q2] at h
      refine ⟨e, fb, sb, rfl, q2, ?_⟩
      cases fb with
      | nx => exact .inl ⟨.inl rfl, h⟩
      | ct => exact .inl ⟨.inr rfl, h⟩
      | bk => simp only [R.ok.injEq] at h; exact .inr (.inl ⟨rfl, h.1.symm, h.2.symm⟩)
      | rt v => simp only [R.ok.injEq] at h; exact .inr (.inr ⟨v, rfl, h.1.symm, h.2.symm⟩)
theorem ss_for (o : XO0 G k X) {iter : Expr} {body : List Stmt} {p : Pat} {sk : Sk} {src : List IE} {b : List IS} (hi : PI X tg iter (tW G sk (evalOs T F src))) (hg : PG X tg (gP G p)) (hb : PSs X body (tS G (execSs T F b)))
    (hp : PassesOwn (model X.prog X.w) X.A X.env X.xe) (hs : ∀ x, foldedSetIterable iter X.env x = pure x := by intro _; rfl) : PS X (.For tg iter body [] pos) (tS G (execS T F (.for_ p sk src b))) := by
  refine PS.weak (ps_for hp o.calm hi hg hb hs) fun D σ H ⟨C, s, fl, s', hH, rl, ev, kk⟩ => ?_
  unfold execS at ev
  obtain ⟨os, s1, e1, ev⟩ := bind_ok ev
  cases q1 : noSl os with
  | false => simp [q1] at ev
  | true =>
    cases q2 : srcItems sk (os.map (deref s1)) with
    | none => simp [q1, q2] at ev
    | some items =>
      simp only [q1, q2] at ev
      obtain ⟨fl', s2, e2, ev⟩ := bind_ok ev
      simp only [R.ok.injEq] at ev
      obtain ⟨rfl, rfl⟩ := ev
      refine ⟨C, s, os, s1, items, hH, rl, e1, q2, fun C1 J l1 r1 hok tw => ?_⟩
      have rh := lock_all r1 hok
      have fin : ∀ Ce σe, Le (C1.hold (Zs C1 σ os)) Ce → Rel G Ce s2 σe → endF G D fl' Ce σe := fun Ce σe le re => by
        have re2 : Rel G { Ce with kp := C1.kp } (unlockAll s1 s2 os) σe :=
          un_all (D := { Ce with kp := C1.kp }) r1 rfl hok (re.unhold' le.kp) fun o ho p z => ⟨pl_le (le_unhold le).toLv z (.inr (noSl_ok q1 ho)), hold_same rh le p (zs_mem ho z)⟩
        have z := kk _ σe (l1.trans (le_unhold le)) re2
        cases fl' with
        | rt v => exact fun u hu => z u (hu.mono0 lv_kp)
        | _ => exact z
      obtain ⟨Gd, Y, w, hG, hY⟩ := tw
      have keep : ∀ {Ci : Cf}, Le (C1.hold (Zs C1 σ os)) Ci → Lv C1 Ci ∧ ∀ p, Zs C1 σ os p → Ci.H p = C1.H p := fun l => ⟨lv_trans lv_hold l.toLv, hold_same rh l⟩
      refine for_it w (fun i σi Hi => ∃ Ci si, Ci.H = Hi ∧ Le (C1.hold (Zs C1 σ os)) Ci ∧ Rel G Ci si σi ∧ forL (patSet p) (execSs T F b) (items.drop i) si = .ok fl' s2) ⟨_, _, rfl, .refl _, rh, e2⟩ ?_ ?_ ?_
      · rintro i σi Hi hi ⟨Ci, si, rfl, l, _, _⟩
        exact hG Ci (keep l).1 (keep l).2
      · rintro i x σi Hi H' hi ⟨Ci, si, rfl, l, ri, fi⟩ y
        rw [drop_get hi] at fi
        obtain ⟨e, fb, sb, g1, g2, g3⟩ := forL_ct fi
        obtain ⟨C3, rfl, l3, r3, v3⟩ := hY i Ci H' items[i] x si σi (by simp [hi]) (keep l).1 (keep l).2 ri y
        refine ⟨C3, si, _, e, rfl, r3, v3, g1, fun σ4 r4 _ => ⟨C3, _, fb, sb, rfl, r4, g2, fun C5 σ5 l5 r5 => ?_⟩⟩
        have l6 := (l.trans l3).trans l5
        rcases g3 with ⟨h, g⟩ | ⟨h, rfl, rfl⟩ | ⟨v, h, rfl, rfl⟩
        · rcases h with rfl | rfl
          · exact ⟨C5, sb, rfl, l6, r5, g⟩
          · exact ⟨C5, sb, rfl, l6, r5, g⟩
        · subst h
          exact fin C5 σ5 l6 r5
        · subst h
          exact fin C5 σ5 l6 r5
      · rintro σi Hi ⟨Ci, si, rfl, l, ri, fi⟩
        rw [List.drop_length] at fi
        unfold forL at fi
        simp only [R.ok.injEq] at fi
        obtain ⟨rfl, rfl⟩ := fi
        exact fin Ci σi l ri
end
end Rs
end
section
set_option maxRecDepth 100000
set_option maxHeartbeats 4000000
/-! Comprehensions. -/
namespace Rs
open PySem PySem.Spec PyProof.Rows L2
section
variable {G : Gl} {T : Tab} {F : Call} {k : Nat} {X : Cx} {tg e : Expr} {pos : Pos}
theorem XO.blk (o : XO G k X) (s : Shared) (H : Hp) (scope : Scope) (cenv : Env) (fp : List Addr) : XO G k (X.blk s H scope cenv fp) := ⟨⟨o.K, o.sys, o.calm, o.nd, o.room, rfl⟩, o.gd⟩
theorem XO0.blk (o : XO0 G k X) (s : Shared) (H : Hp) (scope : Scope) (cenv : Env) (fp : List Addr) : XO0 G k (X.blk s H scope cenv fp) := ⟨o.K, o.sys, o.calm, o.nd, o.room, rfl⟩
end
end Rs
end
section
set_option maxRecDepth 100000
set_option maxHeartbeats 4000000
/-! Things that change; methods of built-in types. -/
namespace Rs
open PySem PySem.Spec PyProof.Rows L2
section
variable {G : Gl} {C C' D : Cf} {s s' : S} {σ σ' : L2.St}
theorem slot_own {s : S} {i : Nat} {d : Cell} (h : slotOf s i = .own d) : s.e[i]? = some (.own d) := slot_get h (by simp)
theorem Rel.changeO (r : Rel G C s σ) {i : Nat} {d c : Cell} {p : Addr} {u : HO} (h : s.e[i]? = some (.own d)) (hu : unlocked d = true ∨ ¬ C.kp p) (hp : σ[i]? = some (some (.ref p))) (hc : CR G C c (some u)) : Le C (C.put p u) ∧ Rel G (C.put p u) { s with e := s.e.set i (.own c) } σ := by
  obtain ⟨q, a, b, nf, nρ, nk⟩ := r.own i d h
  rw [hp] at a
  cases a
  have nk1 : ¬ C.kp p := hu.elim nk.1 id
  have lv : Lv C (C.put p u) := lv_put nf
  have le : Le C (C.put p u) := ⟨lv, rfl, rfl, fun q h o e => by
    show upd C.H p u q = _
    rw [upd_ne fun z => by rw [z] at h; exact h.elim nk1 nk.2]
    exact e, fun q h b w e => by
    show upd C.H p u q = _
    rw [upd_ne fun z => nf (by rw [← z]; exact h)]
    exact e⟩
  refine ⟨le, { len := by simpa using r.len, env := fun j x h' => ?_, own := fun j c' h' => ?_, apart := fun j l c1 d1 q h1 h2 h3 h4 => ?_, hlen := r.hlen, nd := r.nd, cell := fun n c' q h1 h2 => ?_, fztr := fun q z => ?_, kptr := fun q z => ?_, fzkp := r.fzkp, tabs := tabs_put r.tabs fun u e => cr_nt b e }⟩
  · rcases set_val h' with ⟨rfl, e, hi⟩ | ⟨e, h'⟩
    · cases e
    · obtain ⟨v, h1, h2⟩ := r.env j x h'
      exact ⟨v, h1, h2.mono0 lv⟩
  · rcases set_val h' with ⟨rfl, e, hi⟩ | ⟨e, h'⟩
    · cases e
      refine ⟨p, hp, ?_, nf, nρ, fun _ => nk1, nk.2⟩
      show CR G _ c (upd C.H p u p)
      rw [upd_same]
      exact hc.mono0 lv
    · obtain ⟨q, a, b, d, e', f⟩ := r.own j c' h'
      refine ⟨q, a, ?_, d, e', f⟩
      show CR G _ c' (upd C.H p u q)
      rw [upd_ne fun z => e (r.apart i j _ _ p h h' hp (by rw [← z]; exact a))]
      exact b.mono0 lv
  · have f1 : ∃ c', s.e[j]? = some (.own c') := by
      rcases set_val h1 with ⟨rfl, e, hi⟩ | ⟨e, h'⟩
      · exact ⟨_, h⟩
      · exact ⟨_, h'⟩
    have f2 : ∃ c', s.e[l]? = some (.own c') := by
      rcases set_val h2 with ⟨rfl, e, hi⟩ | ⟨e, h'⟩
      · exact ⟨_, h⟩
      · exact ⟨_, h'⟩
    obtain ⟨_, g1⟩ := f1
    obtain ⟨_, g2⟩ := f2
    exact r.apart j l _ _ q g1 g2 h3 h4
  · obtain ⟨a, b, d⟩ := r.cell n c' q h1 h2
    refine ⟨?_, b, d⟩
    show CR G _ c' (upd C.H p u q)
    rw [upd_ne fun z => nρ (by rw [← z]; exact List.mem_of_getElem? h2)]
    exact a.mono0 lv
  · show NT (upd C.H p u q)
    by_cases e : q = p
    · rw [e]; exact nt_upd (cr_nt hc rfl).1
    · rw [upd_ne e]; exact r.fztr q z
  · show NT (upd C.H p u q)
    by_cases e : q = p
    · rw [e]; exact nt_upd (cr_nt hc rfl).1
    · rw [upd_ne e]; exact r.kptr q z
theorem Rel.changeH (r : Rel G C s σ) {i : Nat} {d c : Cell} {p : Addr} {u : HO} (h : s.h[i]? = some d) (hu : unlocked d = true ∨ ¬ C.kp p) (hp : C.ρ[i]? = some p) (hc : CR G C c (some u)) : Le C (C.put p u) ∧ Rel G (C.put p u) { s with h := s.h.set i c } σ := by
  obtain ⟨b, nf, nk⟩ := r.cell i d p h hp
  have nk1 : ¬ C.kp p := hu.elim (fun u => nk.1 (free_of u)) id
  have lv : Lv C (C.put p u) := lv_put nf
  have le : Le C (C.put p u) := ⟨lv, rfl, rfl, fun q h o e => by
    show upd C.H p u q = _
    rw [upd_ne fun z => by rw [z] at h; exact h.elim nk1 nk.2]
    exact e, fun q h b w e => by
    show upd C.H p u q = _
    rw [upd_ne fun z => nf (by rw [← z]; exact h)]
    exact e⟩
  refine ⟨le, { len := r.len, env := fun j x h' => ?_, own := fun j c' h' => ?_, apart := r.apart, hlen := by simpa using r.hlen, nd := r.nd, cell := fun n c' q h1 h2 => ?_, fztr := fun q z => ?_, kptr := fun q z => ?_, fzkp := r.fzkp, tabs := tabs_put r.tabs fun u e => cr_nt b e }⟩
  · obtain ⟨v, h1, h2⟩ := r.env j x h'
    exact ⟨v, h1, h2.mono0 lv⟩
  · obtain ⟨q, a, b, d, e', f⟩ := r.own j c' h'
    refine ⟨q, a, ?_, d, e', f⟩
    show CR G _ c' (upd C.H p u q)
    rw [upd_ne fun z => e' (by rw [z]; exact List.mem_of_getElem? hp)]
    exact b.mono0 lv
  · have h1 : (s.h.set i c)[n]? = some c' := h1
    by_cases e : i = n
    · subst e
      have h2 : C.ρ[i]? = some q := h2
      rw [hp] at h2
      cases h2
      rw [List.getElem?_set_self (List.getElem?_eq_some_iff.mp h).1] at h1
      cases h1
      refine ⟨?_, nf, fun _ => nk1, nk.2⟩
      show CR G _ c (upd C.H p u p)
      rw [upd_same]
      exact hc.mono0 lv
    · rw [List.getElem?_set_ne e] at h1
      obtain ⟨a, b, d⟩ := r.cell n c' q h1 h2
      refine ⟨?_, b, d⟩
      show CR G _ c' (upd C.H p u q)
      rw [upd_ne fun z => e ((List.getElem?_inj (List.getElem?_eq_some_iff.mp hp).1 r.nd).mp (by rw [hp, ← z]; exact h2.symm))]
      exact a.mono0 lv
  · show NT (upd C.H p u q)
    by_cases e : q = p
    · rw [e]; exact nt_upd (cr_nt hc rfl).1
    · rw [upd_ne e]; exact r.fztr q z
  · show NT (upd C.H p u q)
    by_cases e : q = p
    · rw [e]; exact nt_upd (cr_nt hc rfl).1
    · rw [upd_ne e]; exact r.kptr q z
/-- what stands at a place, changed -/
theorem loc_ok (r : Rel G C s σ) {o : Rv} {v : V} {c : Cell} (h : OR G C s σ o v) (e : setLoc s o c = some s') : ∃ p d, v = .ref p ∧ unlocked d = true ∧ deref s o = imm d ∧ CR G C d (C.H p) ∧ ∀ u, CR G C c (some u) → Le C (C.put p u) ∧ Rel G (C.put p u) s' σ := by
  cases o with
  | f c => exact h.elim
  | sl i =>
    have h : σ[i]? = some (some v) := h
    unfold setLoc at e
    cases q : slotOf s i with
    | own d =>
      simp only [q] at e
      cases u : unlocked d with
      | false => simp [u] at e
      | true =>
        simp only [u, if_true, Option.some.injEq] at e
        subst e
        have q' := slot_own q
        obtain ⟨p, a, b, _⟩ := r.own i d q'
        rw [h] at a
        cases a
        exact ⟨p, d, rfl, u, by unfold deref; simp only [q'], b, fun _ hc => r.changeO q' (.inl u) h hc⟩
    | _ => simp [q] at e
  | v x =>
    cases x with
    | ref n =>
      have h : VR G C (.ref n) v := h
      unfold VR at h
      obtain ⟨p, hp, rfl⟩ := h
      unfold setLoc at e
      cases q : s.h[n]? with
      | none => simp [q] at e
      | some d =>
        simp only [q] at e
        cases u : unlocked d with
        | false => simp [u] at e
        | true =>
          simp only [u, if_true, Option.some.injEq] at e
          subst e
          refine ⟨p, d, rfl, u, ?_, (r.cell n d p q hp).1, fun _ hc => r.changeH q (.inl u) hp hc⟩
          cases d with
          | lst zs lk => unfold deref imm; simp only [q]
          | dct zs lk => unfold deref imm; simp only [q]
          | ins _ _ => cases u
          | err _ _ _ => cases u
    | _ => cases e
theorem loc_lst (r : Rel G C s σ) {o : Rv} {v : V} {c : Cell} {xs : List Val} (h : OR G C s σ o v) (e : setLoc s o c = some s') (d : deref s o = .lst xs) : ∃ p ys, v = .ref p ∧ C.H p = some (.lst ys) ∧ VRs G C xs ys ∧ ∀ u, CR G C c (some u) → Le C (C.put p u) ∧ Rel G (C.put p u) s' σ := by
  obtain ⟨p, c', rfl, u, e2, hc, k⟩ := loc_ok r h e
  rw [d] at e2
  cases c' with
  | lst zs lk => cases e2; obtain ⟨ys, h1, h2⟩ := hc; exact ⟨p, ys, rfl, h1, h2, k⟩
  | _ => cases e2
theorem loc_dct (r : Rel G C s σ) {o : Rv} {v : V} {c : Cell} {xs : List (Key × Val)} (h : OR G C s σ o v) (e : setLoc s o c = some s') (d : deref s o = .dct xs) : ∃ p ys, v = .ref p ∧ C.H p = some (.dK ys) ∧ VRk G C xs ys ∧ ∀ u, CR G C c (some u) → Le C (C.put p u) ∧ Rel G (C.put p u) s' σ := by
  obtain ⟨p, c', rfl, u, e2, hc, k⟩ := loc_ok r h e
  rw [d] at e2
  cases c' with
  | dct zs lk =>
    cases e2
    cases lk with
    | false => obtain ⟨ys, h1, h2⟩ := hc; exact ⟨p, ys, rfl, h1, h2, k⟩
    | true => cases u
  | _ => cases e2
end
section
variable {G : Gl} {T : Tab} {F : Call} {k : Nat} {X : Cx} {e eo : Expr} {es : List Expr} {pos apos cpos : Pos} {a : IE} {as : List IE}
/-- a method's law -/
def MtOk (G : Gl) (m : Mt) (r : V → List V → Hp → VK → Prop) : Prop :=
  ∀ (C : Cf) (s : S) (σ : L2.St) (o : Rv) (v : V) (xs : List Val) (vs : List V) (ret : Rv) (oc : Option Cell) (s' : S) (Q : VK), Rel G C s σ → OR G C s σ o v → VRs G C xs vs → mtop m (deref s o) xs = some (ret, oc) → putLoc s o oc = some s' →
    (∀ C' z, Le C C' → Rel G C' s' σ → RvR G C' s' σ ret z → Q z C'.H) → r v vs C.H Q
end
end Rs
end
section
set_option maxRecDepth 100000
set_option maxHeartbeats 4000000
/-! Statements. -/
namespace Rs
open PySem PySem.Spec PyProof.Rows L2
section
variable {G : Gl} {T : Tab} {F : Call} {k : Nat} {X : Cx} {e ea eb eo ei : Expr} {pos tpos py : Pos} {a b c o : IE} {st : Stmt} {rest : List Stmt} {p q : IS} {ps qs : List IS} {y z : Str}
abbrev SS (G : Gl) (T : Tab) (F : Call) (p : IS) : TS := tS G (execS T F p)
abbrev SSs (G : Gl) (T : Tab) (F : Call) (p : List IS) : TS := tS G (execSs T F p)
theorem ss_nil : PSs X [] (SSs G T F []) := by
  refine PSs.weak pss_nil fun D σ H ⟨C, s, fl, s', hH, rl, e, kk⟩ => ?_
  unfold execSs at e
  cases e
  subst hH
  exact kk C σ (.refl C) rl
theorem ss_cons (h1 : PS X st (SS G T F p)) (h2 : PSs X rest (SSs G T F ps)) : PSs X (st :: rest) (SSs G T F (p :: ps)) := by
  refine PSs.weak (pss_cons h1 h2) fun D σ H ⟨C, s, fl, s', hH, rl, e, kk⟩ => ?_
  unfold execSs at e
  cases q : execS T F p s with
  | bad => simp [q] at e
  | exc c v s1 => simp [q] at e
  | ok f1 s1 =>
    rw [q] at e
    refine ⟨C, s, f1, s1, hH, rl, q, fun C1 σ1 l1 r1 => ?_⟩
    cases f1 with
    | nx => exact ⟨C1, s1, fl, s', rfl, r1, e, fun C2 σ2 l2 r2 => kk C2 σ2 (l1.trans l2) r2⟩
    | bk => simp only [R.ok.injEq] at e; obtain ⟨rfl, rfl⟩ := e; exact kk C1 σ1 l1 r1
    | ct => simp only [R.ok.injEq] at e; obtain ⟨rfl, rfl⟩ := e; exact kk C1 σ1 l1 r1
    | rt v => simp only [R.ok.injEq] at e; obtain ⟨rfl, rfl⟩ := e; exact kk C1 σ1 l1 r1
theorem ss_ret (ha : PE X e (EE G T F a)) : PS X (.Return (some e) pos) (SS G T F (.ret a)) := by
  refine PS.weak (ps_ret ha) fun D σ H ⟨C, s, fl, s', hH, rl, e, kk⟩ => ?_
  unfold execS at e
  obtain ⟨x, s1, e1, e⟩ := bind_ok e
  cases e
  show EE G T F a σ H D.rt
  exact EE_of_val hH rl e1 fun C1 v l1 r1 h1 => kk C1 σ l1 r1 v h1
theorem ss_if {c : IE} (hc : PT X e (EB G T F c)) (h1 : PSs X rest (SSs G T F ps)) {rest2 : List Stmt} (h2 : PSs X rest2 (SSs G T F qs)) : PS X (.If e rest rest2 pos) (SS G T F (.ite c ps qs)) := by
  refine PS.weak (ps_if hc h1 h2) fun D σ H ⟨C, s, fl, s', hH, rl, e, kk⟩ => ?_
  unfold execS at e
  obtain ⟨kb, s1, e1, e⟩ := bind_ok e
  refine ⟨C, s, kb, s1, hH, rl, e1, fun C1 l1 r1 => ?_⟩
  cases kb with
  | true => rw [if_pos rfl]; exact ⟨C1, s1, fl, s', rfl, r1, e, fun C2 σ2 l2 r2 => kk C2 σ2 (l1.trans l2) r2⟩
  | false => rw [if_neg (by simp)]; exact ⟨C1, s1, fl, s', rfl, r1, e, fun C2 σ2 l2 r2 => kk C2 σ2 (l1.trans l2) r2⟩
/-! ### names -/
theorem asg_nm {i : Nat} {D : Ends} {σ : L2.St} {H : Hp} (h : SS G T F (.asg (.nm i) a) D σ H) : EE G T F a σ H fun x H1 => D.nx (σ.set i (some x)) H1 := by
  obtain ⟨C, s, fl, s', hH, rl, e, kk⟩ := h
  unfold execS at e
  obtain ⟨x, s1, e1, e⟩ := bind_ok e
  obtain ⟨_, s2, e2, e⟩ := bind_ok e
  unfold tgtSet at e2
  cases e2
  cases e
  exact EE_of_val hH rl e1 fun C1 v l1 r1 h1 => kk C1 _ l1 (r1.setV h1)
theorem ss_set (ox : XO0 G k X) (i : Nat) (ha : PE X e (EE G T F a)) (hi : X.N[i]? = some y := by rfl) (hx : Loc X.env.scope y := by first | exact .inl rfl | exact .inr rfl) (hs : swapsWith e (some (.Name y py)) pos.line X.env = pure false := by rfl)
    (hf : X.fn y = true ∨ X.env.scope.names.lookup y = some .local := by first | exact .inl rfl | exact .inr rfl) : PS X (.Assign [.Name y py] e pos) (SS G T F (.asg (.nm i) a)) :=
  PS.weak (ps_set ox.nd hi hx ha hs hf) fun D σ H h => asg_nm h
section
variable {tg iter elt : Expr} {ifs : List Expr} {scope : Scope} {own : List (Str × Nat)} {pt : Pat} {sk : Sk} {src conds : List IE} {spos : Pos}
end
/-! ### targets -/
/-- a target is given a value -/
def gT (G : Gl) (T : Tab) (F : Call) (t : Tgt) : TG := fun v σ H Q => ∃ C s x s', C.H = H ∧ Rel G C s σ ∧ VR G C x v ∧ tgtSet T F t x s = .ok () s' ∧ ∀ C' σ', Le C C' → Rel G C' s' σ' → Q σ' C'.H
def gTs (G : Gl) (T : Tab) (F : Call) (t : List Tgt) : TGs := fun vs σ H Q => ∃ C s xs s', C.H = H ∧ Rel G C s σ ∧ VRs G C xs vs ∧ tgtSets T F t xs s = .ok () s' ∧ ∀ C' σ', Le C C' → Rel G C' s' σ' → Q σ' C'.H
theorem ss_asg {t : Tgt} {tg : Expr} (ha : PE X e (EE G T F a)) (hg : PG X tg (gT G T F t)) (hs : swapsWithSole [tg] e pos.line X.env = pure false := by rfl) (hw : swappedStores [tg] e X.env = pure none := by rfl)
    (h1 : (assignEach [tg] X.env).map (·.2) = [assign tg X.env] := by rfl) : PS X (.Assign [tg] e pos) (SS G T F (.asg t a)) := by
  refine PS.weak (ps_asg ha hg hs hw h1) fun D σ H ⟨C, s, fl, s', hH, rl, ev, kk⟩ => ?_
  unfold execS at ev
  obtain ⟨x, s1, e1, ev⟩ := bind_ok ev
  obtain ⟨_, s2, e2, ev⟩ := bind_ok ev
  cases ev
  show EE G T F a σ H fun x H1 => gT G T F t x σ H1 D.nx
  exact EE_of_val hH rl e1 fun C1 v l1 r1 h1 => ⟨C1, s1, x, _, rfl, r1, h1, e2, fun C2 σ2 l2 r2 => kk C2 σ2 (l1.trans l2) r2⟩
end
end Rs
end
section
set_option maxRecDepth 100000
set_option maxHeartbeats 4000000
/-! Built-in functions: min, sorted, repr; their calls. -/
namespace Rs
open PySem PySem.Spec PyProof.Rows L2
theorem CallR.any {X : Cx} {g : Value} : CallR X g (fun xs H Q => ∃ r : List V → Hp → VK → Prop, CallR X g r ∧ r xs H Q) := fun pins s σ H xs us Q I r ⟨_, h, q⟩ => h pins s σ H xs us Q I r q
mutual
theorem toD_inj : ∀ {x y : Val} {d : PyData}, toD x = some d → toD y = some d → x = y
  | .non, y, d, h, k => by unfold toD at h; cases h; exact (toD_none k).symm
  | .bl b, y, d, h, k => by unfold toD at h; cases h; exact (toD_bool k).symm
  | .int b, y, d, h, k => by unfold toD at h; cases h; exact (toD_int k).symm
  | .str b, y, d, h, k => by unfold toD at h; cases h; exact (toD_str k).symm
  | .lst xs, y, d, h, k => by
    unfold toD at h
    cases q : toDs xs with
    | none => simp [q] at h
    | some ds =>
      simp only [q, Option.some.injEq] at h
      subst h
      obtain ⟨ys, rfl, hy⟩ := toD_lst k
      rw [toDs_inj q hy]
  | .tup xs, y, d, h, k => by
    unfold toD at h
    cases q : toDs xs with
    | none => simp [q] at h
    | some ds =>
      simp only [q, Option.some.injEq] at h
      subst h
      obtain ⟨ys, rfl, hy⟩ := toD_tup k
      rw [toDs_inj q hy]
  | .dct xs, y, d, h, k => by
    unfold toD at h
    cases q : toDk xs with
    | none => simp [q] at h
    | some ds =>
      simp only [q, Option.some.injEq] at h
      subst h
      obtain ⟨ys, rfl, hy⟩ := toD_dct k
      rw [toDk_inj q hy]
  | .ref _, y, d, h, k => by unfold toD at h; cases h
  | .scr _, y, d, h, k => by unfold toD at h; cases h
  | .bad, y, d, h, k => by unfold toD at h; cases h
theorem toDs_inj : ∀ {xs ys : List Val} {d : List PyData}, toDs xs = some d → toDs ys = some d → xs = ys
  | [], ys, d, h, k => by
    unfold toDs at h; cases h
    cases ys with
    | nil => rfl
    | cons y ys =>
      unfold toDs at k
      cases q : toD y with
      | none => simp [q] at k
      | some d => cases q2 : toDs ys <;> simp [q, q2] at k
  | x :: xs, ys, d, h, k => by
    unfold toDs at h
    cases q : toD x with
    | none => simp [q] at h
    | some e =>
      cases q2 : toDs xs with
      | none => simp [q, q2] at h
      | some es =>
        simp only [q, q2, Option.some.injEq] at h
        subst h
        cases ys with
        | nil => unfold toDs at k; cases k
        | cons y ys =>
          unfold toDs at k
          cases r : toD y with
          | none => simp [r] at k
          | some f =>
            cases r2 : toDs ys with
            | none => simp [r, r2] at k
            | some fs =>
              simp only [r, r2, Option.some.injEq, List.cons.injEq] at k
              obtain ⟨rfl, rfl⟩ := k
              rw [toD_inj q r, toDs_inj q2 r2]
theorem toDk_inj : ∀ {xs ys : List (Key × Val)} {d : List (PyData × PyData)}, toDk xs = some d → toDk ys = some d → xs = ys
  | [], ys, d, h, k => by
    unfold toDk at h; cases h
    cases ys with
    | nil => rfl
    | cons y ys =>
      obtain ⟨y1, y2⟩ := y
      unfold toDk at k
      cases q : toD y2 with
      | none => simp [q] at k
      | some d => cases q2 : toDk ys <;> simp [q, q2] at k
  | (x1, x) :: xs, ys, d, h, k => by
    unfold toDk at h
    cases q : toD x with
    | none => simp [q] at h
    | some e =>
      cases q2 : toDk xs with
      | none => simp [q, q2] at h
      | some es =>
        simp only [q, q2, Option.some.injEq] at h
        subst h
        cases ys with
        | nil => unfold toDk at k; cases k
        | cons y ys =>
          obtain ⟨y1, y⟩ := y
          unfold toDk at k
          cases r : toD y with
          | none => simp [r] at k
          | some f =>
            cases r2 : toDk ys with
            | none => simp [r, r2] at k
            | some fs =>
              simp only [r, r2, Option.some.injEq, List.cons.injEq, Prod.mk.injEq] at k
              obtain ⟨⟨h1, rfl⟩, rfl⟩ := k
              have e1 : x1 = y1 := by
                cases x1 <;> cases y1 <;> simp at h1 <;> rw [h1]
              rw [toD_inj q r, toDk_inj q2 r2, e1]
theorem toD_none : ∀ {y : Val}, toD y = some .none → y = .non
  | .non, _ => rfl
  | .bl _, h => by unfold toD at h; cases h
  | .int _, h => by unfold toD at h; cases h
  | .str _, h => by unfold toD at h; cases h
  | .lst xs, h => by unfold toD at h; cases q : toDs xs <;> simp [q] at h
  | .tup xs, h => by unfold toD at h; cases q : toDs xs <;> simp [q] at h
  | .dct xs, h => by unfold toD at h; cases q : toDk xs <;> simp [q] at h
  | .ref _, h => by unfold toD at h; cases h
  | .scr _, h => by unfold toD at h; cases h
  | .bad, h => by unfold toD at h; cases h
theorem toD_bool : ∀ {y : Val} {b : Bool}, toD y = some (.bool b) → y = .bl b
  | .non, _, h => by unfold toD at h; cases h
  | .bl _, _, h => by unfold toD at h; cases h; rfl
  | .int _, _, h => by unfold toD at h; cases h
  | .str _, _, h => by unfold toD at h; cases h
  | .lst xs, _, h => by unfold toD at h; cases q : toDs xs <;> simp [q] at h
  | .tup xs, _, h => by unfold toD at h; cases q : toDs xs <;> simp [q] at h
  | .dct xs, _, h => by unfold toD at h; cases q : toDk xs <;> simp [q] at h
  | .ref _, _, h => by unfold toD at h; cases h
  | .scr _, _, h => by unfold toD at h; cases h
  | .bad, _, h => by unfold toD at h; cases h
theorem toD_int : ∀ {y : Val} {b : Int}, toD y = some (.int b) → y = .int b
  | .non, _, h => by unfold toD at h; cases h
  | .bl _, _, h => by unfold toD at h; cases h
  | .int _, _, h => by unfold toD at h; cases h; rfl
  | .str _, _, h => by unfold toD at h; cases h
  | .lst xs, _, h => by unfold toD at h; cases q : toDs xs <;> simp [q] at h
  | .tup xs, _, h => by unfold toD at h; cases q : toDs xs <;> simp [q] at h
  | .dct xs, _, h => by unfold toD at h; cases q : toDk xs <;> simp [q] at h
  | .ref _, _, h => by unfold toD at h; cases h
  | .scr _, _, h => by unfold toD at h; cases h
  | .bad, _, h => by unfold toD at h; cases h
theorem toD_str : ∀ {y : Val} {b : Str}, toD y = some (.str b) → y = .str b
  | .non, _, h => by unfold toD at h; cases h
  | .bl _, _, h => by unfold toD at h; cases h
  | .int _, _, h => by unfold toD at h; cases h
  | .str _, _, h => by unfold toD at h; cases h; rfl
  | .lst xs, _, h => by unfold toD at h; cases q : toDs xs <;> simp [q] at h
  | .tup xs, _, h => by unfold toD at h; cases q : toDs xs <;> simp [q] at h
  | .dct xs, _, h => by unfold toD at h; cases q : toDk xs <;> simp [q] at h
  | .ref _, _, h => by unfold toD at h; cases h
  | .scr _, _, h => by unfold toD at h; cases h
  | .bad, _, h => by unfold toD at h; cases h
theorem toD_lst : ∀ {y : Val} {ds : List PyData}, toD y = some (.list ds) → ∃ ys, y = .lst ys ∧ toDs ys = some ds
  | .non, _, h => by unfold toD at h; cases h
  | .bl _, _, h => by unfold toD at h; cases h
  | .int _, _, h => by unfold toD at h; cases h
  | .str _, _, h => by unfold toD at h; cases h
  | .lst xs, _, h => by
    unfold toD at h
    cases q : toDs xs with
    | none => simp [q] at h
    | some ds => simp only [q, Option.some.injEq, PyData.list.injEq] at h; subst h; exact ⟨xs, rfl, q⟩
  | .tup xs, _, h => by unfold toD at h; cases q : toDs xs <;> simp [q] at h
  | .dct xs, _, h => by unfold toD at h; cases q : toDk xs <;> simp [q] at h
  | .ref _, _, h => by unfold toD at h; cases h
  | .scr _, _, h => by unfold toD at h; cases h
  | .bad, _, h => by unfold toD at h; cases h
theorem toD_tup : ∀ {y : Val} {ds : List PyData}, toD y = some (.tuple ds) → ∃ ys, y = .tup ys ∧ toDs ys = some ds
  | .non, _, h => by unfold toD at h; cases h
  | .bl _, _, h => by unfold toD at h; cases h
  | .int _, _, h => by unfold toD at h; cases h
  | .str _, _, h => by unfold toD at h; cases h
  | .lst xs, _, h => by unfold toD at h; cases q : toDs xs <;> simp [q] at h
  | .tup xs, _, h => by
    unfold toD at h
    cases q : toDs xs with
    | none => simp [q] at h
    | some ds => simp only [q, Option.some.injEq, PyData.tuple.injEq] at h; subst h; exact ⟨xs, rfl, q⟩
  | .dct xs, _, h => by unfold toD at h; cases q : toDk xs <;> simp [q] at h
  | .ref _, _, h => by unfold toD at h; cases h
  | .scr _, _, h => by unfold toD at h; cases h
  | .bad, _, h => by unfold toD at h; cases h
theorem toD_dct : ∀ {y : Val} {ds : List (PyData × PyData)}, toD y = some (.dict ds) → ∃ ys, y = .dct ys ∧ toDk ys = some ds
  | .non, _, h => by unfold toD at h; cases h
  | .bl _, _, h => by unfold toD at h; cases h
  | .int _, _, h => by unfold toD at h; cases h
  | .str _, _, h => by unfold toD at h; cases h
  | .lst xs, _, h => by unfold toD at h; cases q : toDs xs <;> simp [q] at h
  | .tup xs, _, h => by unfold toD at h; cases q : toDs xs <;> simp [q] at h
  | .dct xs, _, h => by
    unfold toD at h
    cases q : toDk xs with
    | none => simp [q] at h
    | some ds => simp only [q, Option.some.injEq, PyData.dict.injEq] at h; subst h; exact ⟨xs, rfl, q⟩
  | .ref _, _, h => by unfold toD at h; cases h
  | .scr _, _, h => by unfold toD at h; cases h
  | .bad, _, h => by unfold toD at h; cases h
end
section
variable {G : Gl} {T : Tab} {F : Call} {k : Nat} {X : Cx} {C : Cf} {s : S} {σ : L2.St} {Q : VK}
end
end Rs
end
section
set_option maxRecDepth 100000
set_option maxHeartbeats 4000000
/-! Built-in functions: sorted, repr; their calls. -/
namespace Rs
open PySem PySem.Spec PyProof.Rows L2
section
variable {G : Gl} {T : Tab} {F : Call} {k : Nat} {X : Cx} {C : Cf} {s : S} {σ : L2.St} {Q : VK}
theorem VRk.fst : ∀ {xs : List (Key × Val)} {ys : List (Key × V)}, VRk G C xs ys → xs.map (·.1) = ys.map (·.1)
  | [], ys, h => by unfold VRk at h; subst h; rfl
  | (j, x) :: xs, ys, h => by
    unfold VRk at h
    obtain ⟨y, r, rfl, a, b⟩ := h
    simp [VRk.fst b]
/-- repr -/
theorem call_reprD (o : XO G k X) : CallR X (.builtin "repr") (fun vs H Q => ∃ C x p d, C.H = H ∧ vs = [.ref p] ∧ NR G C x (.ref p) ∧ toD x = some d ∧ showOk d = true ∧ Q (.str d.shown) H) := by
  intro pins s σ H vs us Q I r h
  obtain ⟨C, x, p, d, hH, rfl, hx, hd, hs, q⟩ := h
  subst hH
  obtain ⟨u, rfl, ru⟩ := vals1 r
  obtain ⟨hs1, hs2⟩ := Bool.and_eq_true_iff.mp hs
  obtain ⟨hs2, hs3⟩ := Bool.and_eq_true_iff.mp hs2
  have hs2 := of_decide_eq_true hs2
  have hs3 := of_decide_eq_true hs3
  obtain ⟨as, rd, nS⟩ := NR.reads I o.K o.sys hx ru hd
  have un := o.room.un
  cases ru
  exact PySem.repr_of_reads' rd hs1 (fun _ => nS) o.gd (by omega) (fun _ _ e => e) (fun h' u tk hk => ⟨.str d.shown, C.H, I.kept hk, ⟨_, rfl⟩, q⟩) hs3
theorem box_ref {x : Val} {v : V} (h : NR G C x v) (b : boxed x = true) : ∃ p, v = .ref p := by
  cases x with
  | lst xs => obtain ⟨p, _, e, _⟩ := h; exact ⟨p, e⟩
  | tup xs => obtain ⟨p, _, e, _⟩ := h.tup; exact ⟨p, e⟩
  | dct xs => obtain ⟨p, _, e, _⟩ := h; exact ⟨p, e⟩
  | _ => cases b
theorem call_reprA : CallR X (.builtin "repr") (fun vs H Q => ∃ x d, vs = [x] ∧ showOk d = true ∧ ((x = .non ∧ d = .none) ∨ (∃ b, x = .bl b ∧ d = .bool b) ∨ (∃ i, x = .int i ∧ d = .int i) ∨ ∃ t, x = .str t ∧ d = .str t) ∧ Q (.str d.shown) H) := by
  intro pins s σ H vs us Q I r h
  obtain ⟨x, d, rfl, hs, hx, q⟩ := h
  obtain ⟨hs1, hs2⟩ := Bool.and_eq_true_iff.mp hs
  obtain ⟨hs2, hs3⟩ := Bool.and_eq_true_iff.mp hs2
  have hs3 := of_decide_eq_true hs3
  obtain ⟨u, rfl, ru⟩ := vals1 r
  rcases hx with ⟨rfl, rfl⟩ | ⟨b, rfl, rfl⟩ | ⟨i, rfl, rfl⟩ | ⟨t, rfl, rfl⟩
  · cases ru
    exact PySem.P.repr_of_none ⟨.str _, H, I.tok _, ⟨_, rfl⟩, by simpa only [PyData.shown] using q⟩
  · cases ru
    refine PySem.P.repr_of_bool ⟨.str _, H, I.tok _, ⟨_, rfl⟩, ?_⟩
    simp only [PyData.shown] at q
    cases b <;> exact q
  · obtain ⟨t, rfl⟩ := ru
    exact PySem.P.repr_of_int (by simpa [PyData.showable] using hs1) ⟨.str _, H, I.tok _, ⟨_, rfl⟩, by simpa only [PyData.shown] using q⟩
  · obtain ⟨tk, rfl⟩ := ru
    exact PySem.P.repr_of_str ⟨.str _, H, I.tok _, ⟨_, rfl⟩, by simpa only [PyData.shown] using q⟩ (by simpa only [PyData.shown] using hs3)
theorem bi_repr (o : XO G k X) : BiOk G X .repr (.builtin "repr") := by
  intro C s σ xs vs r Q rl h e kk
  unfold biop at e
  split at e
  all_goals try contradiction
  rename_i x _
  obtain ⟨v, rfl, hx⟩ := h.one
  split at e
  · rename_i d hd
    split at e
    · rename_i hs
      cases e
      cases hb : boxed x with
      | true =>
        obtain ⟨p, rfl⟩ := box_ref hx hb
        exact ⟨_, call_reprD o, C, x, p, d, rfl, rfl, hx, hd, hs, out_v rl .str kk⟩
      | false =>
        refine ⟨_, call_reprA, v, d, rfl, hs, ?_, out_v rl .str kk⟩
        cases x with
        | non => unfold toD at hd; cases hd; exact .inl ⟨hx.non, rfl⟩
        | bl b => unfold toD at hd; cases hd; exact .inr (.inl ⟨b, hx.bl, rfl⟩)
        | int i => unfold toD at hd; cases hd; exact .inr (.inr (.inl ⟨i, hx.int, rfl⟩))
        | str t => unfold toD at hd; cases hd; exact .inr (.inr (.inr ⟨t, hx.str, rfl⟩))
        | ref _ => unfold toD at hd; cases hd
        | scr _ => unfold toD at hd; cases hd
        | bad => unfold toD at hd; cases hd
        | _ => cases hb
    · cases e
  · cases e
theorem ORs.nr (r : Rel G C s σ) : ∀ {os : List Rv} {vs : List V}, ORs G C s σ os vs → (os.map (deref s)).all okV = true → NRs G C (os.map (deref s)) vs
  | [], vs, h, _ => h
  | o :: os, vs, h, b => by
    obtain ⟨v, t, rfl, h1, h2⟩ := h
    obtain ⟨b1, b2⟩ := Bool.and_eq_true_iff.mp (show (_ && _) = true from b)
    exact ⟨v, t, rfl, deref_ok r h1 (fun z => by rw [z] at b1; cases b1), ORs.nr r h2 b2⟩
theorem bi_all' {f : Bi} {g : Value} (ok : BiOk G X f g) {as : List IE} {σ : L2.St} {H : Hp} {Q : VK} (h : EE G T F (.bi f as) σ H Q) : tCB (fun xs H Q => ∃ r : List V → Hp → VK → Prop, CallR X g r ∧ r xs H Q) (tOs G (evalOs T F as)) σ H Q := by
  obtain ⟨C, s, x, s', hH, rl, ev, kk⟩ := h
  unfold evalE at ev
  obtain ⟨os, s1, e1, ev⟩ := bind_ok ev
  split at ev
  · rename_i hb
    obtain ⟨ev, rfl⟩ := opt_ok ev
    exact ⟨C, s, os, _, hH, rl, e1, fun C1 vs l1 r1 h1 => ok C1 _ σ _ vs x Q r1 (h1.nr r1 hb) ev fun C2 z l2 r2 h2 => kk C2 z (l1.trans l2) r2 h2⟩
  · cases ev
theorem se_bi {x : Str} {id : String} {f : Bi} {e : Expr} {es : List Expr} {as : List IE} {p pos : Pos} (ok : BiOk G X f (.builtin id)) (hg : L2.Gl X x) (hm : X.mg x = none) (hv : bootBuiltins x = some (.builtin id)) (ha : PA X (e :: es) (tOs G (evalOs T F as)))
    (hn : x ≠ "__name__" := by decide) (hdb : (x == ("__debug__" : Str)) = false := by decide) (he : starEach (e :: es) X.env = (false, eval e X.env) :: starEach es X.env := by rfl) (hpl : (backTo pos (starEach es X.env)).any (·.1) = false := by rfl) :
    PE X (.Call (.Name x p) (e :: es) [] pos) (EE G T F (.bi f as)) := PE.weak (pe_callB CallR.any hg hm hv ha hn hdb he hpl) fun σ H Q h => bi_all' ok h
theorem se_bt {x : Str} {id : String} {f : Bi} {e : Expr} {es : List Expr} {as : List IE} {p pos : Pos} (ok : BiOk G X f (.type id)) (hg : L2.Gl X x) (hm : X.mg x = none) (hv : bootBuiltins x = some (.type id)) (ha : PA X (e :: es) (tOs G (evalOs T F as)))
    (hn : x ≠ "__name__" := by decide) (hdb : (x == ("__debug__" : Str)) = false := by decide) (he : starEach (e :: es) X.env = (false, eval e X.env) :: starEach es X.env := by rfl) (hpl : (backTo pos (starEach es X.env)).any (·.1) = false := by rfl) :
    PE X (.Call (.Name x p) (e :: es) [] pos) (EE G T F (.bi f as)) := PE.weak (pe_callTy CallR.any hg hm hv ha hn hdb he hpl) fun σ H Q h => bi_all' ok h
end
end Rs
end
section
set_option maxRecDepth 100000
set_option maxHeartbeats 4000000
/-! Slices; calls of the text's defs. -/
namespace Rs
open PySem PySem.Spec PyProof.Rows L2
section
variable {G : Gl} {T : Tab} {F : Call} {k : Nat} {X : Cx} {e el eh : Expr} {pos p p2 : Pos} {a lo hi st : IE} {es : List Expr} {as : List IE}
/-- a slice's end, written or not -/
def tP (G : Gl) (f : S → R (List Val)) : TO := fun σ H Q => ∃ C s x s' i, C.H = H ∧ Rel G C s σ ∧ f s = .ok x s' ∧ partV x = some i ∧ ∀ C', Le C C' → Rel G C' s' σ → Q i C'.H
theorem po_so (h : PE X e (EE G T F a)) : PO X (some e) (tP G (evalVs T F [a])) := ⟨fun pins s σ H Q I ⟨C, s1, x, s', i, hH, rl, e, hp, kk⟩ => by
  refine (po_some h).run pins s σ H Q I ?_
  show EE G T F a σ H (fun x H1 => ∃ i, x = .int i ∧ Q (some i) H1)
  unfold evalVs at e
  obtain ⟨y, s2, e1, e⟩ := bind_ok e
  obtain ⟨ys, s3, e2, e⟩ := bind_ok e
  unfold evalVs at e2
  cases e2
  cases e
  refine EE_of_val hH rl e1 fun C1 v l1 r1 h1 => ?_
  cases y with
  | int j =>
    cases hp
    unfold VR at h1
    exact ⟨j, h1, kk C1 l1 r1⟩
  | _ => cases hp⟩
/-- what is cut -/
def SlOk (G : Gl) (X : Cx) (r : V → Option Int → Option Int → Hp → VK → Prop) : Prop := SlR X r
theorem sl_any : SlR X (fun x lo hi H Q => ∃ r : V → Option Int → Option Int → Hp → VK → Prop, SlR X r ∧ r x lo hi H Q) := fun pins s σ H x v vl vu lo hi sl Q I rx hs pl pu ⟨_, h, q⟩ => h pins s σ H x v vl vu lo hi sl Q I rx hs pl pu q
theorem cut_rel {C : Cf} {xs : List Val} {ys : List V} (h : VRs G C xs ys) (lo hi : Option Int) : VRs G C (cut xs lo hi) (cutV ys lo hi) := by
  unfold cut cutV
  rw [h.length]
  exact (h.drop _).take _
theorem cut_all {α : Type} {xs : List α} {lo hi : Option Int} (h : HT.sIx xs.length 0 lo = 0 ∧ HT.sIx xs.length xs.length hi = xs.length) : cut xs lo hi = xs := by
  unfold cut
  rw [h.1, h.2]
  simp
theorem cut_map {α β : Type} (f : α → β) (xs : List α) (lo hi : Option Int) : (cut xs lo hi).map f = cut (xs.map f) lo hi := by
  unfold cut
  simp
theorem slice_ok (o : XO0 G k X) {C : Cf} {s : S} {σ : L2.St} {x : Val} {v : V} {l h : Option Int} {r : Rv} {Q : VK} (rl : Rel G C s σ) (hx : NR G C x v) (e : vslice x l h = some r) (kk : ∀ C' z, Le C C' → Rel G C' s σ → RvR G C' s σ r z → Q z C'.H) :
    ∃ r : V → Option Int → Option Int → Hp → VK → Prop, SlR X r ∧ r v l h C.H Q := by
  unfold vslice at e
  split at e
  · cases e
    obtain ⟨q, ys, rfl, hp, hr⟩ := hx
    exact ⟨_, sl_list, q, ys, rfl, SqL.of hp, fun l hn => out_l rl (cut_rel hr _ _) hn kk⟩
  · cases e
    obtain ⟨q, ys, rfl, hp, hr⟩ := hx.tup
    refine ⟨_, sl_tupA, q, ys, rfl, by rw [o.K]; exact hp, fun w => ?_, fun w l hn => out_t rl (cut_rel hr _ _) hn kk⟩
    rw [cut_all (by rw [hr.length]; exact w)] at kk
    exact out_v rl (show VR G C (.tup _) _ from hx) kk
  · rename_i x
    split at e
    · rename_i hl
      cases e
      cases hx.str
      exact ⟨_, sl_str, _, rfl, hl, out_v rl .str kk⟩
    · cases e
  · cases e
    obtain ⟨q, rfl, hp⟩ := hx.scr
    refine ⟨_, sl_list, q, _, rfl, by rw [o.K]; exact hp, fun l hn => ?_⟩
    rw [cut_map] at kk
    exact out_l rl (cut_rel (VRs.map (fun a => VR.int) _) _ _) hn kk
  · cases e
theorem vsl_bad (l h : Option Int) : vslice .bad l h = none := rfl
theorem se_slc (o : XO0 G k X) {l h : Option Expr} {lo hi : List IE} (ha : PE X e (EE G T F a)) (hl : PO X l (tP G (evalVs T F lo))) (hh : PO X h (tP G (evalVs T F hi))) : PE X (.Subscript e (.Slice l h none p2) pos) (EE G T F (.slc a lo hi)) := by
  refine PE.weak (pe_slice sl_any ha hl hh) fun σ H Q ⟨C, s, r, s', hH, rl, ev, kk⟩ => ?_
  unfold evalE at ev
  obtain ⟨x, s1, e1, ev⟩ := bind_ok ev
  obtain ⟨y, s2, e2, ev⟩ := bind_ok ev
  obtain ⟨z, s3, e3, ev⟩ := bind_ok ev
  cases q1 : partV y with
  | none => simp [q1] at ev
  | some i =>
    cases q2 : partV z with
    | none => simp [q1, q2] at ev
    | some j =>
      simp only [q1, q2] at ev
      obtain ⟨ev, rfl⟩ := opt_ok ev
      show EE G T F a σ H (fun x H1 => (tP G (evalVs T F lo)) σ H1 fun l H2 => (tP G (evalVs T F hi)) σ H2 fun u H3 => ∃ r : V → Option Int → Option Int → Hp → VK → Prop, SlR X r ∧ r x l u H3 Q)
      refine EE_of_op hH rl e1 fun C1 v l1 r1 o1 => ⟨C1, s1, y, s2, i, rfl, r1, e2, q1, fun C2 l2 r2 => ⟨C2, s2, z, _, j, rfl, r2, e3, q2, fun C3 l3 r3 => ?_⟩⟩
      have hx := deref_ok r3 (OR.mono (l2.trans l3) o1) (fun w => by rw [w, vsl_bad] at ev; cases ev)
      exact slice_ok o r3 hx ev fun C4 w l4 r4 h4 => kk C4 w (((l1.trans l2).trans l3).trans l4) r4 h4
/-! ### calls -/
theorem se_dsp0 : PE X (.Dict [] [] pos) (EE G T F (.dsp [])) := by
  refine PE.weak pe_dnewK fun σ H Q ⟨C, s, r, s', hH, rl, ev, kk⟩ => ?_
  unfold evalE at ev
  unfold evalVs at ev
  cases ev
  subst hH
  exact fun p n => out_d rl VRk.nil n kk
/-- a def of the text, as it is called by name: its place id in the table -/
structure Have (G : Gl) (F : Call) (P : Program) (w : World) (K : PySem.W.Frag) (mg : Str → Option Value) (base : Heap) (k : Nat) (x : Str) (id np : Nat) : Prop where
  ex : ∃ f fd ps, FnG P w K mg base k f fd ps (spI G F id np) ∧ mg x = some (.ref f) ∧ PySem.W.keepIn K (.ref f) = true ∧ Binds K fd ps []
theorem call_ok {f np : Nat} {as : List IE} {Q : VK} {σ : L2.St} {H : Hp} (hn : as.length = np) (h : EE G T F (.fn f as []) σ H Q) : tGo (spI G F f np) [] (tVs G (evalVs T F as)) σ H Q := by
  obtain ⟨C, s, x, s', hH, rl, ev, kk⟩ := h
  unfold evalE at ev
  obtain ⟨vs, s1, e1, ev⟩ := bind_ok ev
  have hl := Vs_len _ _ _ _ e1
  unfold permV at ev
  cases q : F f vs s1.h with
  | bad => rw [q] at ev; cases ev
  | exc c v s => rw [q] at ev; cases ev
  | ok r s2 =>
    rw [q] at ev
    simp only [R.back, R.ok.injEq] at ev
    obtain ⟨rfl, rfl⟩ := ev
    refine ⟨C, s, vs, s1, hH, rl, e1, fun C1 ws l1 r1 h1 => ?_⟩
    show spI G F f np (ws ++ []) C1.H Q
    rw [List.append_nil]
    refine ⟨by rw [← h1.length, hl, hn], C1.keep (Own s1 σ), vs, s1.h, r, s2, rfl, r1.enter, h1.mono0 lv_keep, q, fun C2 v l2 r2 h2 => ?_⟩
    exact kk { C2 with rs := C1.rs } v (l1.trans (le_back l2)) (r1.leave (e2 := []) (h2 := s2.h) (σ2 := []) l2 r2) (show VR G { C2 with rs := C1.rs } r v from h2.mono0 lv_rs)
theorem se_fn (o : XO G k X) {x : Str} {f np k' : Nat} (hv : Have G F X.prog X.w X.K X.mg X.base k' x f np) (hk : k' ≤ k) (hg : L2.Gl X x) (ha : PA X (e :: es) (tVs G (evalVs T F as))) (hn : as.length = np := by rfl)
    (hdb : (x == ("__debug__" : Str)) = false := by decide) (st1 : starEach (e :: es) X.env = (false, eval e X.env) :: starEach es X.env := by rfl) (st2 : (backTo pos (starEach es X.env)).any (·.1) = false := by rfl) : PE X (.Call (.Name x p) (e :: es) [] pos) (EE G T F (.fn f as [])) := by
  obtain ⟨fa, fd, ps, h1, h2, h3, h4⟩ := hv.ex
  exact PE.weak (pg_call h1 o.gd (o.room.mono hk) h4 .nil hg h2 h3 ha hdb st1 st2) fun σ H Q h => call_ok hn h
end
end Rs
end
section
set_option maxRecDepth 100000
set_option maxHeartbeats 4000000
/-! Statements: two names at once, op=, items stored and deleted, dict methods. -/
namespace Rs
open PySem PySem.Spec PyProof.Rows L2
section
variable {G : Gl} {C C' D : Cf} {s s' : S} {σ σ' : L2.St}
/-- a fresh thing's place, if it is one -/
def notAt (y : Rv) (w v : V) : Prop := match y with
  | .f _ => w ≠ v
  | .sl _ => False
  | .v _ => True
theorem set1 (r : Rel G C s σ) {x : Rv} {v : V} {own : Bool} {u : Slot} (i : Nat) (h : RvR G C s σ x v) (e : put1 own x = some u) : ∃ C', Le C C' ∧ C'.H = C.H ∧ Rel G C' { s with e := s.e.set i u } (σ.set i (some v)) ∧
    ∀ y w, RvR G C s σ y w → (∀ l, y ≠ .sl l) → ((∃ c, x = .f c) → notAt y w v) → RvR G C' { s with e := s.e.set i u } (σ.set i (some v)) y w := by
  have keep : ∀ {C' : Cf} {u : Slot}, Le C C' → C'.H = C.H → (∀ p, C'.fz p → C.fz p ∨ ((∃ c, x = .f c) ∧ v = .ref p)) → C'.ρ = C.ρ → (∀ c, u = .own c → ∃ c, x = .f c) → ∀ y w, RvR G C s σ y w → (∀ l, y ≠ .sl l) → ((∃ c, x = .f c) → notAt y w v) → RvR G C' { s with e := s.e.set i u } (σ.set i (some v)) y w := fun {C' u} l hH hf hρ hu y w hy hl hn => by
    cases y with
    | v y => exact VR.mono l hy
    | sl j => exact absurd rfl (hl j)
    | f c =>
      obtain ⟨p, rfl, a, f, un, d⟩ := hy
      have hn : (∃ c, x = .f c) → V.ref p ≠ v := hn
      refine ⟨p, rfl, by rw [hH]; exact a.mono l, ⟨fun z => (hf p z).elim f.fz fun z => hn z.1 z.2.symm, by rw [l.kp]; exact f.kp, by rw [hρ]; exact f.ρ, by rw [l.rs]; exact f.rs⟩, un, fun j c' h' => ?_⟩
      rcases set_val h' with ⟨rfl, e, hi⟩ | ⟨e, h'⟩
      · rw [List.getElem?_set_self (by rw [← r.len]; exact hi)]
        intro z
        cases z
        exact hn (hu _ e.symm) rfl
      · rw [List.getElem?_set_ne e]
        exact d j c' h'
  cases own with
  | false =>
    obtain ⟨y, e2, rfl⟩ := Option.map_eq_some_iff.mp (show (freeze x).map Slot.val = some u from e)
    cases x with
    | sl j => cases e2
    | v x =>
      cases e2
      exact ⟨C, .refl C, rfl, r.setV h, keep (.refl C) rfl (fun p z => .inl z) rfl fun c z => by cases z⟩
    | f c =>
      cases e2
      obtain ⟨p, rfl, a, f, un, d⟩ := h
      exact ⟨C.ice p, .ice, rfl, (r.ice f a.nt d).setV (imm_ok a un), keep .ice rfl (fun q z => z.imp id fun z => ⟨⟨c, rfl⟩, by rw [z]⟩) rfl fun c z => by cases z⟩
  | true =>
    cases x with
    | sl j => cases e
    | v x => cases e
    | f c =>
      cases e
      obtain ⟨p, rfl, a, f, un, d⟩ := h
      exact ⟨C, .refl C, rfl, r.setO a f fun j c h _ => d j c h, keep (.refl C) rfl (fun p z => .inl z) rfl fun c' _ => ⟨c, rfl⟩⟩
end
section
variable {G : Gl} {T : Tab} {F : Call} {k : Nat} {X : Cx} {e ea eb eo ei ev : Expr} {pos tpos py px pt apos cpos : Pos} {a b c o : IE} {y z : Str}
theorem RvR.new {C : Cf} {s : S} {σ : L2.St} {y : Rv} {w : V} {p : Addr} {u : HO} (h : RvR G C s σ y w) (n : C.H p = none) : RvR G (C.new p u) s σ y w := by
  cases y with
  | v y => exact VR.mono (Le.new n) h
  | sl l => exact h
  | f c =>
    obtain ⟨q, rfl, a, f, un, d⟩ := h
    refine ⟨q, rfl, ?_, ⟨f.fz, f.kp, f.ρ, f.rs⟩, un, d⟩
    show CR G _ c (upd C.H p u q)
    rw [upd_ne fun z => a.tr (by rw [z]; exact n)]
    exact a.mono (Le.new n)
theorem par_core {i j : Nat} {oi oj : Bool} {D : Ends} {σ : L2.St} {H : Hp} (h : SS G T F (.par i j oi oj a b) D σ H) : EE G T F a σ H fun x H1 => EE G T F b σ H1 fun y H2 => D.nx ((σ.set i (some x)).set j (some y)) H2 ∧ ∀ p u, H2 p = none → D.nx ((σ.set i (some x)).set j (some y)) (upd H2 p u) := by
  obtain ⟨C, s, fl, s', hH, rl, e, kk⟩ := h
  unfold execS at e
  obtain ⟨x, s1, e1, e⟩ := bind_ok e
  obtain ⟨y, s2, e2, e⟩ := bind_ok e
  cases q1 : put1 oi x with
  | none => simp [q1] at e
  | some u =>
    cases q2 : put1 oj y with
    | none => simp [q1, q2] at e
    | some t =>
      simp only [q1, q2, R.ok.injEq] at e
      obtain ⟨rfl, rfl⟩ := e
      have ny : ∀ l, y ≠ .sl l := fun l z => by subst z; cases oj <;> cases q2
      refine ⟨C, s, x, s1, hH, rl, e1, fun C1 v l1 r1 h1 => ?_⟩
      -- behind both
      have fin : ∀ {C2 : Cf} {w : V}, Le C C2 → Rel G C2 s2 σ → RvR G C2 s2 σ x v → RvR G C2 s2 σ y w → ((∃ c, x = .f c) → notAt y w v) → D.nx ((σ.set i (some v)).set j (some w)) C2.H := fun {C2 w} l r hx hy hn => by
        obtain ⟨C3, l3, e3, r3, k3⟩ := set1 r i hx q1
        obtain ⟨C4, l4, e4, r4, _⟩ := set1 r3 j (k3 y w hy ny hn) q2
        rw [← e3, ← e4]
        exact kk C4 _ ((l.trans l3).trans l4) r4
      have fin2 : ∀ {C2 : Cf} {w : V}, Le C C2 → Rel G C2 s2 σ → RvR G C2 s2 σ x v → RvR G C2 s2 σ y w → ((∃ c, x = .f c) → notAt y w v) → D.nx ((σ.set i (some v)).set j (some w)) C2.H ∧ ∀ p u, C2.H p = none → D.nx ((σ.set i (some v)).set j (some w)) (upd C2.H p u) := fun {C2 w} l r hx hy hn =>
        ⟨fin l r hx hy hn, fun p u n => fin (C2 := C2.new p u) (l.trans (Le.new n)) (r.new n) (hx.new n) (hy.new n) hn⟩
      cases x with
      | sl l => cases oi <;> cases q1
      | v x =>
        exact ⟨C1, s1, y, s2, rfl, r1, e2, fun C2 w l2 r2 h2 => fin2 (l1.trans l2) r2 (VR.mono l2 h1) h2 fun ⟨c, z⟩ => by cases z⟩
      | f c =>
        obtain ⟨p, rfl, a, f, un, d⟩ := h1
        refine ⟨C1.keep (· = p), s1, y, s2, rfl, r1.keepOne f a.nt d, e2, fun C2 w l2 r2 h2 => ?_⟩
        have kp : C2.rs p := by rw [l2.rs]; exact .inr rfl
        have r3 : Rel G { C2 with rs := C1.rs } s2 σ := r2.unkeep fun q z => by rw [l2.rs]; exact .inl z
        refine fin2 (C2 := { C2 with rs := C1.rs }) (l1.trans (le_back l2)) r3 ⟨p, rfl, ?_, ⟨fun z => r2.fzkp p z (.inr kp), fun z => f.kp (by rw [show C2.kp = C1.kp from l2.kp] at z; exact z), fun z => ?_, f.rs⟩, un, fun m c' h' z => ?_⟩ ?_ ?_
        · cases q : C1.H p with
          | none => exact absurd q a.tr
          | some o =>
            show CR G _ c (C2.H p)
            rw [l2.hk p (.inr (.inr rfl)) o q, ← q]
            exact a.mono (le_back l2)
        · obtain ⟨n, hn, e3⟩ := List.getElem_of_mem (show p ∈ C2.ρ from z)
          have h1 : n < s2.h.length := by rw [r2.hlen]; exact hn
          exact (r2.cell n _ p (List.getElem?_eq_getElem h1) (by rw [List.getElem?_eq_getElem hn, e3])).2.2.2 kp
        · obtain ⟨q, a', _, _, _, g⟩ := r2.own m c' h'
          rw [z] at a'
          cases a'
          exact g.2 kp
        · cases y with
          | sl l => exact absurd rfl (ny l)
          | v y => exact VR.mono0 lv_rs h2
          | f c2 =>
            obtain ⟨q, rfl, a2, f2, un2, d2⟩ := h2
            exact ⟨q, rfl, a2.mono0 lv_rs, ⟨f2.fz, f2.kp, f2.ρ, fun z => f2.rs (by rw [l2.rs]; exact .inl z)⟩, un2, d2⟩
        · intro _
          cases y with
          | sl l => exact absurd rfl (ny l)
          | v y => trivial
          | f c2 =>
            obtain ⟨q, rfl, a2, f2, un2, d2⟩ := h2
            intro z
            cases z
            exact f2.rs kp
theorem pairA {ta tb : TE} (ha : PE X ea ta) (hb : PE X eb tb) (h1 : starEach [ea, eb] X.env = (false, eval ea X.env) :: starEach [eb] X.env := by rfl) (h2 : starEach [eb] X.env = (false, eval eb X.env) :: starEach [] X.env := by rfl) : PA X [ea, eb] (tCons ta (tCons tb tNil)) := pa_cons ha (pa_cons hb pa_nil h2) h1
/-- two local names at once, stored from the right -/
theorem ss_par (ox : XO0 G k X) (i j : Nat) (oi oj : Bool) {kt k2 : Nat} {pt2 : Pos} (ha : PE X ea (EE G T F a)) (hb : PE X eb (EE G T F b)) (hw : swappedStores [.Tuple [.Name y px, .Name z py] kt pt] (.Tuple [ea, eb] k2 pt2) X.env = pure (some [y, z])) (hi : X.N[i]? = some y := by rfl) (hj : X.N[j]? = some z := by rfl) (hij : i ≠ j := by decide)
    (hx : X.env.scope.names.lookup y = some .local := by rfl) (hy : X.env.scope.names.lookup z = some .local := by rfl) (hs : swapsWithSole [.Tuple [.Name y px, .Name z py] kt pt] (.Tuple [ea, eb] k2 pt2) pos.line X.env = pure false := by rfl)
    (h1 : starEach [ea, eb] X.env = (false, eval ea X.env) :: starEach [eb] X.env := by rfl) (h2 : starEach [eb] X.env = (false, eval eb X.env) :: starEach [] X.env := by rfl) :
    PS X (.Assign [.Tuple [.Name y px, .Name z py] kt pt] (.Tuple [ea, eb] k2 pt2) pos) (SS G T F (.par i j oi oj a b)) :=
  PS.weak (ps_par ox.calm ox.nd hi hj hij hx hy (pairA ha hb h1 h2) hw hs) fun D σ H h => by
    obtain ⟨C, s, x, s', hH, rl, e1, kk⟩ := par_core h
    refine ⟨C, s, x, s', hH, rl, e1, fun C1 v l1 r1 q1 => ?_⟩
    obtain ⟨C2, s2, y, s3, hH2, rl2, e2, kk2⟩ := kk C1 v l1 r1 q1
    refine ⟨C2, s2, y, s3, hH2, rl2, e2, fun C3 w l3 r3 q3 => ?_⟩
    exact ⟨v, w, rfl, (kk2 C3 w l3 r3 q3).1⟩
/-! ### op= -/
def iopr : Bop → Operator
  | .add => .Add | .sub => .Sub | .mul => .Mult | .fdiv => .FloorDiv | .mod => .Mod | .pow => .Pow
/-! ### items stored -/
theorem pset_any : PSet X (fun o i v H Q => ∃ t : TSet, PSet X t ∧ t o i v H Q) := fun pins s σ H o i v ov iv u Q I ro ri rv ⟨_, h, q⟩ => h pins s σ H o i v ov iv u Q I ro ri rv q
theorem gt_sub (ox : XO0 G k X) (ho : PE X eo (EE G T F o)) (hi : PE X ei (EE G T F b)) (hr : ∀ v, assign (.Subscript eo ei pos) X.env v = (do
      let ov ← holding [v] (eval eo X.env)
      let iv ← holding [v, ov] (eval ei X.env)
      standAt pos
      holding [v, ov, iv] (setItem ov iv v)
      release [v, ov, iv] []) := by intro _; rfl) : PG X (.Subscript eo ei pos) (gT G T F (.sub o b)) := by
  refine PG.weak (pg_sub ho hi pset_any hr) fun v σ H Q ⟨C, s, x, s', hH, rl, h, ev, kk⟩ => ?_
  unfold tgtSet at ev
  obtain ⟨y, s1, e1, ev⟩ := bind_ok ev
  obtain ⟨j, s2, e2, ev⟩ := bind_ok ev
  show EE G T F o σ H fun o H1 => EE G T F b σ H1 fun i H2 => ∃ t : TSet, PSet X t ∧ t o i v H2 fun H3 => Q σ H3
  refine EE_of_op hH rl e1 fun C1 w l1 r1 o1 => EE_of_val rfl r1 e2 fun C2 iv l2 r2 h2 => ?_
  have o2 := OR.mono l2 o1 (s' := s2)
  have hv := h.mono (l1.trans l2)
  cases q : deref s2 (opnd y) with
  | lst xs =>
    rw [q] at ev
    simp only at ev
    cases j with
    | int j =>
      simp only at ev
      cases q2 : ixN xs.length j with
      | none => simp [q2] at ev
      | some n =>
        simp only [q2] at ev
        obtain ⟨s3, s4, e3, ev2⟩ := bind_ok ev
        clear ev
        obtain ⟨e4, rfl⟩ := opt_ok e3
        clear e3
        have e3 := e4
        cases ev2
        obtain ⟨p, ys, rfl, hp, hr, kl⟩ := loc_lst r2 o2 e3 q
        unfold VR at h2
        subst h2
        obtain ⟨l3, r3⟩ := kl (.lst (ys.set n v)) ⟨_, rfl, VRs.set hv n hr⟩
        exact ⟨_, set_list, p, ys, j, n, rfl, rfl, hp, by rw [← hr.length]; exact q2, kk _ σ ((l1.trans l2).trans l3) r3⟩
    | _ => cases ev
  | dct kvs =>
    rw [q] at ev
    simp only at ev
    cases q2 : keyV j with
    | none => simp [q2] at ev
    | some n =>
      simp only [q2] at ev
      split at ev
      · rename_i hz
        obtain ⟨s3, s4, e3, ev2⟩ := bind_ok ev
        clear ev
        obtain ⟨e4, rfl⟩ := opt_ok e3
        clear e3
        have e3 := e4
        cases ev2
        obtain ⟨p, ys, rfl, hp, hr, kl⟩ := loc_dct r2 o2 e3 q
        cases keyV_ok h2.nr q2
        obtain ⟨l3, r3⟩ := kl (.dK (putK ys n v)) ⟨_, rfl, hr.put hv⟩
        exact ⟨_, set_dict (by have := ox.room.un; omega), p, _, rfl, DPut.k hp (by rw [← hr.length]; exact hz), kk _ σ ((l1.trans l2).trans l3) r3⟩
      · cases ev
  | _ => rw [q] at ev; cases ev
end
end Rs
end
section
set_option maxRecDepth 100000
set_option maxHeartbeats 4000000
/-! Methods of dicts. -/
namespace Rs
open PySem PySem.Spec PyProof.Rows L2
section
variable {G : Gl} {T : Tab} {F : Call} {k : Nat} {X : Cx} {e f eo : Expr} {pos apos cpos : Pos} {a b c : IE}
end
end Rs
end
section
set_option maxRecDepth 100000
set_option maxHeartbeats 4000000
/-! Comprehensions over a dict that a name holds. -/
namespace Rs
open PySem PySem.Spec PyProof.Rows L2
section
variable {G : Gl} {C D : Cf} {s : S} {σ : L2.St}
theorem Rel.lv {C' : Cf} (r : Rel G C s σ) (l : Lv C C') (hρ : C'.ρ = C.ρ) (hfz : C'.fz = C.fz) (hkp : C'.kp = C.kp) (hrs : C'.rs = C.rs) (hH : ∀ p, ¬ C.fz p → C'.H p = C.H p) (ht : LamX.Tabs G.T C'.H) : Rel G C' s σ where
  len := r.len
  env := fun i x h => let ⟨v, a, b⟩ := r.env i x h; ⟨v, a, b.mono0 l⟩
  own := fun i c h => by
    obtain ⟨p, a, b, d, e, f⟩ := r.own i c h
    exact ⟨p, a, by rw [hH p d]; exact b.mono0 l, by rw [hfz]; exact d, by rw [hρ]; exact e, by rw [hkp]; exact f.1, by rw [hrs]; exact f.2⟩
  apart := r.apart
  hlen := by rw [hρ]; exact r.hlen
  nd := by rw [hρ]; exact r.nd
  cell := fun n c p h1 h2 => by
    rw [hρ] at h2
    obtain ⟨a, b, d⟩ := r.cell n c p h1 h2
    exact ⟨by rw [hH p b]; exact a.mono0 l, by rw [hfz]; exact b, by rw [hkp]; exact d.1, by rw [hrs]; exact d.2⟩
  fztr := fun p z => by rw [hfz] at z; exact (l.hf p z).tr (r.fztr p z)
  kptr := fun p z => by
    rw [hkp, hrs] at z
    rw [hH p fun y => r.fzkp p y z]
    exact r.kptr p z
  fzkp := fun p z y => r.fzkp p (by rw [← hfz]; exact z) (by rw [← hkp, ← hrs]; exact y)
  tabs := ht
end
section
variable {G : Gl} {T : Tab} {F : Call} {k : Nat} {X : Cx} {tg e : Expr} {pos : Pos}
theorem PE.or {t u : TE} (h1 : PE X e t) (h2 : PE X e u) : PE X e (fun σ H Q => t σ H Q ∨ u σ H Q) := ⟨fun pins s σ H Q I h => h.elim (h1.run pins s σ H Q I) (h2.run pins s σ H Q I)⟩
end
end Rs
end
section
set_option maxRecDepth 100000
set_option maxHeartbeats 4000000
/-! Comparing lists that hold cells. -/
namespace Rs
open PySem PySem.Spec PyProof.Rows L2
section
variable {G : Gl} {T : Tab} {F : Call} {k : Nat} {X : Cx} {ea eb : Expr} {pos : Pos} {a b : IE}
/-- v reads as d, in any state of this heap -/
def RdV (X : Cx) (H : Hp) (v : V) (d : PyData) : Prop := ∀ (pins : List (Addr × Obj)) (σ : L2.St) (s : Shared) (u : Value), Inv X pins σ H s → RelV v u → ∃ as, Reads s.heap u d as ∧ sysModules ∉ as
end
end Rs
end
section
set_option maxRecDepth 100000
set_option maxHeartbeats 4000000
/-! The head: what the top wrote, read by names; the end of a law. -/
namespace Rs
open PySem PySem.Spec PyProof.Rows L2
/-! ### facts of the written part, with the modules' dict -/
def sysB (K : PySem.W.Frag) : Bool := match K.lookup sysModules with
  | some ⟨.type c, _, _, _⟩ => decide (c = "dict")
  | _ => false
def asR (g : Addr → Option Obj) (n : Nat) : List Addr := sysModules :: He.asD g n
abbrev AlR : Type := Bool × He.AlD
def obsR (n : Nat) (fa : List He.Fa) (fn : List He.DefD) (g : Addr → Option Obj) : AlR := (sysB (He.frG g (asR g n)), He.obsD fa fn (He.frG g (asR g n)))
def hookR (n : Nat) (fa : List He.Fa) (fn : List He.DefD) : PySem.W.Hook where
  α := AlR
  obs := fun s => obsR n fa fn s.heap.get?
  val := fun _ => (true, He.valD fn)
  says := fun _ h => ∃ K : PySem.W.Frag, K.In h ∧ sysB K = true ∧ He.SaysD fa fn K
  of := fun _ _ e => ⟨_, He.frG_in, congrArg Prod.fst e, congrArg Prod.snd e⟩
  keeps := fun _ _ _ ⟨K, hK, b, c⟩ k => ⟨K, PySem.W.Frag.In.keeps hK k, b, c⟩
theorem sys_ok {G : Gl} (h : sysB G.K = true) : G.Sys := by
  unfold sysB at h
  split at h
  · rename_i c _ _ _ hl
    exact ⟨_, hl, congrArg Value.type (of_decide_eq_true h)⟩
  · cases h
/-! ### a law's end -/
theorem fin_call {P : Program} {w : World} {K : PySem.W.Frag} {mg mb : Str → Option Value} {k : Nat} {fa a : Addr} {fd : FuncData} {x : Str} {sp : SpG} {s₁ : Shared} {vs : List Value} {ns : List Int}
    (inK : K.In s₁.heap) (gns : s₁.heap.Ns mainGlobals mg) (bns : s₁.heap.Ns builtinsNs mb) (bok : ∀ x : Str, x ≠ "__name__" → mb x = bootBuiltins x) (nolim : s₁.heap.NoLimit) (ngen : s₁.gens = #[])
    (at_ : s₁.heap.get? a = some { cls := .type "list", data := .seq vs.toArray }) (isI : IntsAre vs ns) (few : ns.length ≤ sizeLine) (room : Room k callerA)
    (Fn : ∀ base : Heap, K.In base → base.Ns mainGlobals mg → FnG P w K mg base k fa fd [x] sp) (bind : ∀ (s : Shared) (u : Value), BindsTo s fd ⟨[u], []⟩ [(x, u)])
    (prom : ∀ H : Hp, Only H → SqL K H a (ns.map V.int) → sp [.ref a] H fun v _ => v = .bl true) :
    codeAny (model P w) callerA (.call (.ref fa) ⟨[.ref a], []⟩) (fun r s' => r = .ok (.ret (.bool true)) ∧ OldK s₁.heap s'.heap ∧ s'.os = s₁.os ∧ AllBare s'.gens) s₁ := by
  have rel := vals_ints isI
  have len := isI.length
  have main : ∀ H : Hp, Only H → SqL K H a (ns.map V.int) → HOk P w H s₁.heap → (∀ b, H b ≠ none → b = a) → (H a ≠ none → K.lookup a = none) →
      codeAny (model P w) callerA (.call (.ref fa) ⟨[.ref a], []⟩) (fun r s' => r = .ok (.ret (.bool true)) ∧ OldK s₁.heap s'.heap ∧ s'.os = s₁.os ∧ AllBare s'.gens) s₁ := by
    intro H only seq hok one apart
    have notIt : ∀ {b : Addr} {o : Obj} {es : Array DictEntry} {ep : Nat}, s₁.heap.get? b = some o → o.data = .dict es ep → H b = none := fun {b o es ep} e d => by
      cases q : H b with
      | none => rfl
      | some u =>
        have z : b = a := one b (by rw [q]; simp)
        rw [z, at_] at e
        cases e
        have d2 : Data.seq vs.toArray _ = Data.dict es ep := d
        cases d2
    have nsT : ∀ {b : Addr} {m : Str → Option Value}, s₁.heap.Ns b m → (hidT s₁.heap H).Ns b m := fun {b m} ⟨o, es, ep, e, d, r⟩ => ⟨o, es, ep, hidT_get e (notIt e d), d, r⟩
    have inT : K.In (hidT s₁.heap H) := fun b o e => hidT_get (inK b o e) (by
      cases q : H b with
      | none => rfl
      | some u =>
        have z : b = a := one b (by rw [q]; simp)
        rw [z, apart (by rw [← z, q]; simp)] at e
        cases e)
    have M : Mod K mg (hidT s₁.heap H) := ⟨inT, nsT gns, ⟨mb, nsT bns, bok⟩, let ⟨mc, h1, h2⟩ := nolim; ⟨mc, nsT h1, h2⟩⟩
    have E : Env0 P w K mg (hidT s₁.heap H) callerA [] s₁ H := ⟨rfl, M, fun b o e => of_hidT e, Nat.le_of_eq (hidT_size _ _), trivial, fun b hb => absurd (show b ∈ ([] : List Addr) from hb) (by simp), hok, .of_eq ngen⟩
    refine codeAny_mono ((Fn _ inT (nsT gns)).run callerA [] s₁ H ⟨[.ref a], []⟩ [.ref a] [.ref a] _ rfl room E (bind s₁ (.ref a)) (.cons rfl .nil) (prom H only seq)) fun r s' h => ?_
    obtain ⟨u, rfl, v, H', os, bare, un, hok', ru, q⟩ := h
    have q : v = .bl true := q
    subst q
    obtain rfl : u = Value.bool true := ru
    refine ⟨rfl, OldK.of_keep fun b o e => ?_, os, bare⟩
    cases z : H b with
    | none => exact un.keep b o e z (fun y => absurd (show b ∈ ([] : List Addr) from y) (by simp)) (by simp)
    | some u =>
      rcases only b with y | ⟨ob, xs, y⟩
      · rw [z] at y; cases y
      · obtain ⟨e1, _⟩ := hok b _ y
        obtain ⟨e2, _⟩ := hok' b _ (un.frzs b ob _ y)
        rw [e] at e1
        cases e1
        exact e2
  cases hk : K.lookup a with
  | some o =>
    have e := inK a o hk
    rw [at_] at e
    cases e
    exact main (fun _ => none) (fun _ => .inl rfl) (.inr ⟨_, vs.toArray, _, hk, rfl, rfl, rfl, by rw [List.size_toArray, len]; exact few, by simpa using rel⟩) (fun b u z => nomatch (show (none : Option HO) = some u from z)) (fun b z => absurd rfl z) fun z => absurd rfl z
  | none =>
    have there : ∀ b u, (if b = a then some (HO.frz { cls := .type "list", data := .seq vs.toArray } (.lst (ns.map V.int))) else none) = some u → b = a ∧ u = .frz { cls := .type "list", data := .seq vs.toArray } (.lst (ns.map V.int)) := fun b u z => by
      by_cases hb : b = a
      · rw [if_pos hb] at z; cases z; exact ⟨hb, rfl⟩
      · rw [if_neg hb] at z; cases z
    refine main (fun b => if b = a then some (.frz { cls := .type "list", data := .seq vs.toArray } (.lst (ns.map V.int))) else none) (fun b => ?_) (.inl (.inr ⟨_, if_pos rfl⟩)) (fun b u z => ?_) (fun b z => ?_) fun _ => hk
    · by_cases hb : b = a
      · exact .inr ⟨_, _, if_pos hb⟩
      · exact .inl (if_neg hb)
    · obtain ⟨rfl, rfl⟩ := there b u z
      exact ⟨at_, by rw [List.length_map]; exact few, vs, _, rel, at_⟩
    · by_cases hb : b = a
      · exact hb
      · exact absurd (if_neg hb) z
theorem walk_R {l : PySem.W.OpenLaw} {n k : Nat} {q : Program} {loose : List Str} {XP : (Str → Option Value) → Heap → Prop} {YP : World → Heap → Prop} {d : DefRec} {x : Str} (hn : l.most = some n) (hn2 : n ≤ sizeLine) (hdf : d.params.defaults = []) (hr : Room k callerA)
    (F : ∀ (w : World) (mg : Str → Option Value) (fa : Addr) (h : Heap), YP w h → h.Ns mainGlobals mg → mg d.name = some (.ref fa) →
      ∃ (K : PySem.W.Frag) (fd : FuncData) (sp : SpG), K.In h ∧ (∀ (s : Shared) (u : Value), BindsTo s fd ⟨[u], []⟩ [(x, u)]) ∧ (∀ (H : Hp) (a : Addr) (ns : List Int), ns.length ≤ n → Only H → SqL K H a (ns.map V.int) → sp [.ref a] H fun v _ => v = .bl true) ∧
        ∀ base : Heap, K.In base → base.Ns mainGlobals mg → FnG l.prog w K mg base k fa fd [x] sp) :
    PySem.W.WalkO q loose XP YP l.row.toRowW d [] (fun f vs => PySem.call f vs) := by
  refine Att.attach_call hn hdf fun w s₀ s₁ mg mb fa o pm cd doc a vs ns G Y ho hd hcd hmg hobj hints hlen hg => ?_
  obtain ⟨K, fd, sp, h1, h2, h3, h4⟩ := F w mg fa _ Y G.T.g hmg
  exact fin_call h1 G.T.g G.T.b G.T.builtins G.T.nolimit hg hobj hints (Nat.le_trans hlen hn2) hr h4 h2 fun H hO hS => h3 H a ns hlen hO hS
/-- the law's promise from the interpreter's answer -/
theorem law_end {G : Gl} {F : Call} {id : Nat} {ns : List Int} {s2 : S} (h : F id [.scr ns] [] = .ok (.bl true) s2) {H : Hp} {a : Addr} (seq : SqL G.K H a (ns.map V.int)) (tb : LamX.Tabs G.T H := by exact fun p hp => nomatch (show p ∈ ([] : List (Addr × Str)) from hp)) : spI G F id 1 [.ref a] H fun v _ => v = .bl true := by
  refine ⟨rfl, ⟨[], fun p => NT (H p), fun _ => False, fun _ => False, H⟩, [.scr ns], [], .bl true, s2, rfl, ⟨rfl, fun i x h => by simp at h, fun i x h => by simp at h, fun i j c d p h => by simp at h, rfl, .nil, fun n c p h => by simp at h, fun p h => h, fun p h => h.elim False.elim False.elim, fun p _ h => h.elim (fun h => h) fun h => h, tb⟩, VRs.cons ?_ VRs.nil, h, fun C' v l r hv => ?_⟩
  · show VR G _ (.scr ns) (.ref a)
    unfold VR
    refine ⟨a, rfl, ?_⟩
    rcases seq with h | ⟨o, its, n, h1, h2, h3, h4, h5, h6⟩
    · refine .inl ⟨?_, h⟩
      rcases h with h | ⟨o, h⟩
      · exact ⟨_, h, fun ps z => nomatch z⟩
      · exact ⟨_, h, fun ps z => nomatch z⟩
    · exact .inr ⟨o, its, n, h1, h2, h3, h4, h5, h6⟩
  · unfold VR at hv
    exact hv
/-! ### a def's own promise -/
theorem Rel.bare {G : Gl} {C : Cf} {s : S} {σ : L2.St} (r : Rel G C s σ) : Rel G C ⟨[], s.h⟩ [] where
  len := rfl
  env := fun i x h => by simp at h
  own := fun i x h => by simp at h
  apart := fun i j c d p h => by simp at h
  hlen := r.hlen
  nd := r.nd
  cell := r.cell
  fztr := r.fztr
  kptr := r.kptr
  fzkp := r.fzkp
  tabs := r.tabs
theorem spI_body {G : Gl} {T : Tab} {fs : List Fd} {n id : Nat} {d : Fd} {N : List Str} {vs : List V} {H : Hp} {Q : VK} (hd : fs[id]? = some d) (hn : N.length = d.nn) (hp : d.np ≤ d.nn) (h : spI G (callI T fs (n + 1)) id d.np vs H Q) :
    tS G (execSs T (callI T fs n) d.body) { nx := fun _ H' => Q .non H', rt := Q } (L2.start N vs) H := by
  obtain ⟨hl, C, xs, hc, r, s2, hH, rl, hx, e, kk⟩ := h
  unfold callI at e
  simp only [hd] at e
  unfold runFd at e
  have lx : xs.length = d.np := by rw [hx.length]; exact hl
  rw [if_pos lx] at e
  have env : Rel G C ⟨xs.map .val ++ List.replicate (d.nn - d.np) .no, hc⟩ (L2.start N vs) := by
    refine ⟨?_, fun i x h => ?_, fun i c h => ?_, fun i j c c2 p h => ?_, rl.hlen, rl.nd, rl.cell, rl.fztr, rl.kptr, rl.fzkp, rl.tabs⟩
    · unfold L2.start
      simp [lx, hl, hn]
    · have h : (xs.map Slot.val ++ List.replicate (d.nn - d.np) .no)[i]? = some (.val x) := h
      by_cases hi : i < xs.length
      · rw [List.getElem?_append_left (by simpa using hi), List.getElem?_map] at h
        cases q : xs[i]? with
        | none => rw [q] at h; cases h
        | some y =>
          rw [q] at h
          cases h
          obtain ⟨v, h1, h2⟩ := hx.get q
          refine ⟨v, ?_, h2⟩
          unfold L2.start
          rw [List.getElem?_append_left (by simp; rw [← hx.length]; exact hi), List.getElem?_map, h1]
          rfl
      · rw [List.getElem?_append_right (by simpa using hi), List.getElem?_replicate] at h
        split at h <;> cases h
    all_goals
      exfalso
      have h : (xs.map Slot.val ++ List.replicate (d.nn - d.np) .no)[i]? = some (.own c) := h
      by_cases hi : i < xs.length
      · rw [List.getElem?_append_left (by simpa using hi), List.getElem?_map] at h
        cases q : xs[i]? with
        | none => rw [q] at h; cases h
        | some y => rw [q] at h; cases h
      · rw [List.getElem?_append_right (by simpa using hi), List.getElem?_replicate] at h
        split at h <;> cases h
  cases q : execSs T (callI T fs n) d.body ⟨xs.map .val ++ List.replicate (d.nn - d.np) .no, hc⟩ with
  | bad => rw [q] at e; exact absurd e exOut_ne
  | exc c p s => rw [q] at e; exact absurd e exOut_ne
  | ok fl s' =>
    rw [q] at e
    refine ⟨C, _, fl, s', hH, env, q, fun C' σ' l r' => ?_⟩
    cases fl with
    | nx => cases e; exact kk C' .non l r'.bare VR.non
    | rt v => cases e; exact fun u hu => kk C' u l r'.bare hu
    | bk => cases e
    | ct => cases e
theorem xo_of {G : Gl} {P : Program} {w : World} {mg : Str → Option Value} {base : Heap} {N : List Str} {qual : Str} {scope : Scope} {f : Addr} {cd : Value} {A : Around} {outer : List Env} {s : Shared} {H : Hp} {k : Nat} (hs : G.Sys) (nd : N.Nodup) (gd : A.guards = some []) (hr : Room k (A.deeper (envOfC qual scope s.heap.objs.size f cd))) :
    XO G k (cxOf CX0 P w G.K mg base N qual scope f cd A outer s H E0).nox := ⟨⟨rfl, hs, rfl, nd, hr, rfl⟩, gd⟩
/-- a def keeps its promise -/
theorem fn_R {G : Gl} {T : Tab} {fs : List Fd} {n id k : Nat} {d : Fd} {P : Program} {w : World} {mg : Str → Option Value} {base : Heap} {f : Addr} {x qual : Str} {params : Arguments} {body : List Stmt} {scope : Scope} {dvs : List V} {kws : List (Str × V)} {fd : FuncData} {N ps : List Str}
    (hs : G.Sys) (F : FunD G.K x qual params body scope dvs kws f fd) (Sc : FnScope N ps scope) (hd : fs[id]? = some d) (hn : N.length = d.nn) (hp : d.np ≤ d.nn) (hps : ps.length = d.np)
    (hb : ∀ (cdv : Value) (A : Around) (outer : List Env) (s : Shared) (H : Hp), XO G k (cxOf CX0 P w G.K mg base N qual scope f cdv A outer s H E0).nox → PSs (cxOf CX0 P w G.K mg base N qual scope f cdv A outer s H E0).nox body (SSs G T (callI T fs n) d.body)) :
    FnG P w G.K mg base (k + 1) f fd ps (spI G (callI T fs (n + 1)) id d.np) :=
  fnG_of F Sc (fun vs H Q h => by rw [h.1, hps]) fun cdv A outer s H gd hr _ => ⟨_, hb cdv A outer s H (xo_of hs Sc.nd gd hr), fun vs Q h => spI_body hd hn hp h⟩
theorem fn_0 {G : Gl} {T : Tab} {fs : List Fd} {id np k : Nat} {P : Program} {w : World} {K : PySem.W.Frag} {mg : Str → Option Value} {base : Heap} {f : Addr} {fd : FuncData} {ps : List Str} : FnG P w K mg base k f fd ps (spI G (callI T fs 0) id np) where
  len := fun vs H Q h => by obtain ⟨_, C, xs, hc, r, s2, _, _, _, e, _⟩ := h; cases e
  run := fun A outer s H args us vs Q _ _ _ _ _ h => by obtain ⟨_, C, xs, hc, r, s2, _, _, _, e, _⟩ := h; cases e
end Rs
end
section
set_option maxRecDepth 100000
set_option maxHeartbeats 4000000
/-! Instances: attributes, methods, new ones. -/
namespace Rs
open PySem PySem.Spec PyProof.Rows L2
/-! ### attributes in both readings -/
section
variable {G : Gl} {C C' : Cf}
theorem VRf.get : ∀ {fs : List (Nat × Val)} {gs : List (Str × V)} {f : Nat} {x : Val}, VRf G C fs gs → G.okf f → fs.lookup f = some x → ∃ v, gs.lookup (G.nm f) = some v ∧ VR G C x v
  | [], _, _, _, _, _, e => by cases e
  | (g, y) :: fs, gs, f, x, h, ok, e => by
    obtain ⟨w, r, rfl, og, hv, hr⟩ := h
    rw [List.lookup_cons] at e
    by_cases q : f = g
    · subst q
      simp only [beq_self_eq_true] at e
      cases e
      exact ⟨w, by simp [List.lookup_cons], hv⟩
    · have q1 : (f == g) = false := by simpa using q
      have q2 : (G.nm f == G.nm g) = false := by
        simp only [beq_eq_false_iff_ne, ne_eq]
        exact fun z => q (G.inj f g ok og z)
      rw [q1] at e
      obtain ⟨v, h1, h2⟩ := VRf.get hr ok e
      exact ⟨v, by rw [List.lookup_cons, q2]; exact h1, h2⟩
theorem VRf.len : ∀ {fs : List (Nat × Val)} {gs : List (Str × V)}, VRf G C fs gs → gs.length = fs.length
  | [], _, h => by cases h; rfl
  | (g, y) :: fs, gs, h => by
    obtain ⟨w, r, rfl, og, hv, hr⟩ := h
    simp [VRf.len hr]
theorem VRf.put {f : Nat} {x : Val} {v : V} (ok : G.okf f) (hx : VR G C x v) : ∀ {fs : List (Nat × Val)} {gs : List (Str × V)}, VRf G C fs gs → VRf G C (putFs f x fs) (putF (G.nm f) v gs)
  | [], _, h => by cases h; exact ⟨v, [], rfl, ok, hx, rfl⟩
  | (g, y) :: fs, gs, h => by
    obtain ⟨w, r, rfl, og, hv, hr⟩ := h
    unfold putFs putF
    by_cases q : g = f
    · subst q
      simp only [if_true]
      exact ⟨v, r, rfl, og, hx, hr⟩
    · have q2 : ¬ G.nm g = G.nm f := fun z => q (G.inj g f og ok z)
      simp only [q, q2, if_false]
      exact ⟨w, _, rfl, og, hv, VRf.put ok hx hr⟩
end
/-! ### what the classes have -/
structure ObjOk (G : Gl) (T : Tab) : Prop where
  cls : ∀ c f, T.fld c f = true → G.okf f ∧ Cls G.K (G.ca c) ∧ NoAttr G.K (G.ca c) (G.nm f)
section
variable {G : Gl} {T : Tab} {F : Call} {k : Nat} {X : Cx} {e eo : Expr} {es : List Expr} {pos apos cpos : Pos} {a o : IE} {as : List IE}
/-! ### calls with keywords, defaults -/
/-- how a def is bound: n values by place, keywords ks; pm: what each parameter is given -/
structure Bd (G : Gl) (fd : FuncData) (ps : List Str) (n : Nat) (ks : List Str) (pm : List (Nat ⊕ Val)) : Prop where
  ex : ∃ (gu : List Value → List Value) (gv : List V → List V),
    (∀ (s : Shared) (us ws : List Value), G.K.In s.heap → us.length = n → ws.length = ks.length → BindsTo s fd ⟨us, ks.zip ws⟩ (ps.zip (gu (us ++ ws)))) ∧
    (∀ (vs : List V) (us : List Value), Vals vs us → Vals (gv vs) (gu us)) ∧
    ∀ (C : Cf) (xs : List Val) (vs : List V), xs.length = n + ks.length → VRs G C xs vs → VRs G C (permV xs pm) (gv vs)
theorem Bd.plain {fd : FuncData} {ps : List Str} (h : Binds G.K fd ps []) : Bd G fd ps ps.length [] [] where
  ex := ⟨id, id, fun s us ws hK l1 l2 => by
    have : ws = [] := List.length_eq_zero_iff.mp l2
    subst this
    have := h s us hK (by rw [List.append_nil]; exact l1)
    simpa using this, fun vs us r => r, fun C xs vs _ r => r⟩
/-- o.m(..), o of a class of the text -/
def tM (X : Cx) (G : Gl) (m : Str) (n : Nat) (ks : List Str) (ta : TE) (t tk : TA) : TE := fun σ H Q => ta σ H fun x H1 => ∃ (a C dx : Addr) (fs : List (Str × V)) (g : Addr) (fd : FuncData) (ps : List Str) (sp : SpG) (k : Nat) (gu : List Value → List Value) (gv : List V → List V),
  x = .ref a ∧ H1 a = some (.ins C dx fs) ∧ Cls X.K C ∧ Meth X.K C m g ∧ fs.lookup m = none ∧ FnG X.prog X.w X.K X.mg X.base k g fd ps sp ∧ Room k X.A ∧
  (∀ (s : Shared) (us ws : List Value), X.K.In s.heap → us.length = n + 1 → ws.length = ks.length → BindsTo s fd ⟨us, ks.zip ws⟩ (ps.zip (gu (us ++ ws)))) ∧ (∀ (vs : List V) (us : List Value), Vals vs us → Vals (gv vs) (gu us)) ∧
  t σ H1 fun vs H2 => tk σ H2 fun zs H3 => vs.length = n ∧ zs.length = ks.length ∧ sp (gv (.ref a :: vs ++ zs)) H3 Q
theorem FnG.goK {f : Addr} {fd : FuncData} {ps ks : List Str} {sp : SpG} {k : Nat} {pins : List (Addr × Obj)} {σ : L2.St} {H : Hp} {s : Shared} {Q : VK} {us ws gus : List Value} {vs : List V} (Fn : FnG X.prog X.w X.K X.mg X.base k f fd ps sp) (gd : X.A.guards = some []) (hr : Room k X.A)
    (hb : BindsTo s fd ⟨us, ks.zip ws⟩ (ps.zip gus)) (I : Inv X pins σ H s) (r : Vals vs gus) (h : sp vs H Q) : wpAny (model X.prog X.w) X.A (call (.ref f) us (ks.zip ws)) (EP X pins σ Q) X.xe s := by
  refine wpAny_call (codeAny_mono (Fn.run X.A X.stack s H ⟨us, ks.zip ws⟩ _ _ Q gd hr I.env0 hb r h) fun r s' hq => ?_)
  obtain ⟨u, rfl, hq⟩ := hq
  exact I.after hq
end
end Rs
end
section
set_option maxRecDepth 100000
set_option maxHeartbeats 4000000
/-! isinstance of built-in types. -/
namespace Rs
open PySem PySem.Spec PyProof.Rows L2
def kName : Nat → String
  | 0 => "NoneType" | 1 => "bool" | 2 => "int" | 3 => "str" | 4 => "list" | 5 => "tuple" | _ => "dict"
/-- the built-in that asks for a type -/
def isiT : Bi → Option String
  | .isInt => some "int" | .isBool => some "bool" | .isStr => some "str" | .isTup => some "tuple" | .isLst => some "list" | .isDct => some "dict"
  | _ => none
section
variable {G : Gl} {C : Cf}
end
section
variable {G : Gl} {T : Tab} {F : Call} {k : Nat} {X : Cx} {e : Expr} {p p2 pos : Pos} {a : IE} {tn : Str} {tT : String}
end
end Rs
end
section
set_option maxRecDepth 100000
set_option maxHeartbeats 4000000
/-! Methods of the text's classes; new instances. -/
namespace Rs
open PySem PySem.Spec PyProof.Rows L2
/-- how a method is bound: itself, n values by place, keywords ks -/
structure BdM (G : Gl) (fd : FuncData) (ps : List Str) (np n : Nat) (ks : List Str) (pm : List (Nat ⊕ Val)) : Prop where
  ex : ∃ (gu : List Value → List Value) (gv : List V → List V),
    (∀ (s : Shared) (us ws : List Value), G.K.In s.heap → us.length = n + 1 → ws.length = ks.length → BindsTo s fd ⟨us, ks.zip ws⟩ (ps.zip (gu (us ++ ws)))) ∧
    (∀ (vs : List V) (us : List Value), Vals vs us → Vals (gv vs) (gu us)) ∧
    ∀ (C : Cf) (x : Val) (v : V) (xs : List Val) (vs : List V), xs.length = n + ks.length → VR G C x v → VRs G C xs vs → VRs G C (x :: permV xs pm) (gv (v :: vs)) ∧ (x :: permV xs pm).length = np
theorem BdM.plain {G : Gl} {fd : FuncData} {ps : List Str} {n : Nat} (h : Binds G.K fd ps []) (hn : ps.length = n + 1) : BdM G fd ps (n + 1) n [] [] where
  ex := ⟨id, id, fun s us ws hK l1 l2 => by
    have : ws = [] := List.length_eq_zero_iff.mp l2
    subst this
    have := h s us hK (by rw [List.append_nil, l1, hn])
    simpa using this, fun vs us r => r, fun C x v xs vs l hx r => ⟨VRs.cons hx r, by show xs.length + 1 = n + 1; rw [l]; rfl⟩⟩
/-- what the classes have of a method's name, as it is called -/
structure HaveM (G : Gl) (T : Tab) (F : Call) (P : Program) (w : World) (mg : Str → Option Value) (base : Heap) (k : Nat) (cs : List Nat) (m n : Nat) (ks : List Str) (pm : List (Nat ⊕ Val)) : Prop where
  ok : G.okf (m % 1000) ∧ G.nm (m % 1000) = G.nm m
  at_ : ∀ c id, c ∈ cs → T.mth c m = some id → Cls G.K (G.ca c) ∧ ∃ g fd ps np, Meth G.K (G.ca c) (G.nm m) g ∧ FnG P w G.K mg base k g fd ps (spI G F id np) ∧ BdM G fd ps np n ks pm
section
variable {G : Gl} {T : Tab} {F : Call} {k : Nat} {X : Cx} {e eo : Expr} {es : List Expr} {pos apos cpos : Pos} {a o : IE} {as bs : List IE}
end
end Rs
end
section
set_option maxRecDepth 100000
set_option maxHeartbeats 4000000
/-! New instances; properties. -/
namespace Rs
open PySem PySem.Spec PyProof.Rows L2
/-- what a class has to be made -/
structure HaveN (G : Gl) (T : Tab) (F : Call) (P : Program) (w : World) (mg : Str → Option Value) (base : Heap) (k : Nat) (x : Str) (c n : Nat) (ks : List Str) (pm : List (Nat ⊕ Val)) : Prop where
  ex : ∃ f g fd ps np, T.ini c = some f ∧ mg x = some (.ref (G.ca c)) ∧ Mk G.K (G.ca c) g ∧ FnG P w G.K mg base k g fd ps (spI G F f np) ∧ BdM G fd ps np n ks pm
section
variable {G : Gl} {T : Tab} {F : Call} {k : Nat} {X : Cx} {e eo : Expr} {es : List Expr} {p pos apos cpos : Pos} {a o : IE} {as bs : List IE}
def tN (C : Addr) (sp : SpG) (gv : List V → List V) (n m : Nat) (t tk : TA) : TE := fun σ H Q => t σ H fun vs H1 => tk σ H1 fun zs H2 => vs.length = n ∧ zs.length = m ∧
  ∀ x dx, H2 x = none → H2 dx = none → dx ≠ x → sp (gv (.ref x :: vs ++ zs)) (upd (upd H2 dx (.own x)) x (.ins C dx [])) fun v H3 => v = .non ∧ Q (.ref x) H3
end
end Rs
end
section
set_option maxRecDepth 100000
set_option maxHeartbeats 4000000
/-! Properties. -/
namespace Rs
open PySem PySem.Spec PyProof.Rows L2
structure HaveP (G : Gl) (T : Tab) (F : Call) (P : Program) (w : World) (mg : Str → Option Value) (base : Heap) (k : Nat) (pn : Nat) : Prop where
  at_ : ∀ c id, T.prp c pn = some id → Cls G.K (G.ca c) ∧ ∃ pa g fd ps, PropOf G.K (G.ca c) (G.nm pn) pa g ∧ FnG P w G.K mg base k g fd ps (spI G F id 1) ∧ Binds G.K fd ps []
section
variable {G : Gl} {T : Tab} {F : Call} {k : Nat} {X : Cx} {e : Expr} {pos : Pos} {o : IE}
def tP1 (X : Cx) (f : Str) (ta : TE) : TE := fun σ H Q => ta σ H fun x H1 => ∃ (a C dx p g : Addr) (fs : List (Str × V)) (fd : FuncData) (ps : List Str) (sp : SpG) (k : Nat), x = .ref a ∧ H1 a = some (.ins C dx fs) ∧ Cls X.K C ∧ PropOf X.K C f p g ∧ FnG X.prog X.w X.K X.mg X.base k g fd ps sp ∧ Room (k + 1) X.A ∧ Binds X.K fd ps [] ∧ sp [.ref a] H1 Q
end
end Rs
end
section
set_option maxRecDepth 100000
set_option maxHeartbeats 4000000
/-! x in o, len(o) of own classes. -/
namespace Rs
open PySem PySem.Spec PyProof.Rows L2
section
variable {prog : Program} {w : World} {A : Around} {K : PySem.W.Frag} {a C f : Addr} {ox : Obj} {od : Option Obj} {s : Shared} {E : Value → Shared → Prop}
end
section
variable {G : Gl} {T : Tab} {F : Call} {k : Nat} {X : Cx} {e eo : Expr} {p pos : Pos} {a o : IE}
def inOp (ng : Bool) : CmpOp := if ng then .NotIn else .In
def rInO (X : Cx) (ng : Bool) : R2 := fun x y H Q => ∃ (a C dx g : Addr) (fs : List (Str × V)) (fd : FuncData) (ps : List Str) (sp : SpG) (k : Nat), y = .ref a ∧ H a = some (.ins C dx fs) ∧ Cls X.K C ∧ Meth X.K C "__contains__" g ∧ FnG X.prog X.w X.K X.mg X.base k g fd ps sp ∧ Room k X.A ∧ Binds X.K fd ps [] ∧
  ps.length = 2 ∧ sp [.ref a, x] H fun v H' => ∃ b, v = .bl b ∧ Q (.bl (b != ng)) H'
/-- what a class has of a special method -/
structure HaveS (G : Gl) (T : Tab) (F : Call) (P : Program) (w : World) (mg : Str → Option Value) (base : Heap) (k : Nat) (m np : Nat) : Prop where
  at_ : ∀ c id, T.mth c m = some id → Cls G.K (G.ca c) ∧ ∃ g fd ps, ps.length = np ∧ Meth G.K (G.ca c) (G.nm m) g ∧ FnG P w G.K mg base k g fd ps (spI G F id np) ∧ Binds G.K fd ps []
def rLenO (X : Cx) : List V → Hp → VK → Prop := fun xs H Q => ∃ (a C dx g : Addr) (fs : List (Str × V)) (fd : FuncData) (ps : List Str) (sp : SpG) (k : Nat), xs = [.ref a] ∧ H a = some (.ins C dx fs) ∧ Cls X.K C ∧ Meth X.K C "__len__" g ∧ FnG X.prog X.w X.K X.mg X.base k g fd ps sp ∧ Room (k + 1) X.A ∧ Binds X.K fd ps [] ∧
  ps.length = 1 ∧ sp [.ref a] H fun v H' => ∃ i : Int, v = .int i ∧ 0 ≤ i ∧ i < 2 ^ 63 ∧ Q (.int i) H'
end
end Rs
end
section
set_option maxRecDepth 100000
set_option maxHeartbeats 4000000
/-! Three names at once; list.insert; list(d.items()). -/
namespace Rs
open PySem PySem.Spec PyProof.Rows L2
section
variable {G : Gl} {T : Tab} {F : Call} {k : Nat} {X : Cx} {ea eb ec : Expr} {pos pt px py pz : Pos} {a b c : IE} {x y z : Str}
/-- a value that waits while something else runs -/
theorem hold {C1 : Cf} {s1 : S} {σ : L2.St} {x : Rv} {v : V} (r1 : Rel G C1 s1 σ) (h1 : RvR G C1 s1 σ x v) (nx : ∀ l, x ≠ .sl l) : ∃ C1', C1'.H = C1.H ∧ Rel G C1' s1 σ ∧ ∀ (C2 : Cf) (s2 : S), Le C1' C2 → Rel G C2 s2 σ →
    ∃ C2', C2'.H = C2.H ∧ Le C1 C2' ∧ Rel G C2' s2 σ ∧ RvR G C2' s2 σ x v ∧ ∀ (y : Rv) (w : V), (∀ l, y ≠ .sl l) → RvR G C2 s2 σ y w → RvR G C2' s2 σ y w ∧ ((∃ c, x = .f c) → notAt y w v) := by
  cases x with
  | sl l => exact absurd rfl (nx l)
  | v x =>
    refine ⟨C1, rfl, r1, fun C2 s2 l2 r2 => ⟨C2, rfl, l2, r2, VR.mono l2 h1, fun y w _ h => ⟨h, fun ⟨c, z⟩ => by cases z⟩⟩⟩
  | f c =>
    obtain ⟨p, rfl, a, f, un, d⟩ := h1
    refine ⟨C1.keep (· = p), rfl, r1.keepOne f a.nt d, fun C2 s2 l2 r2 => ?_⟩
    have kp : C2.rs p := by rw [l2.rs]; exact .inr rfl
    have r3 : Rel G { C2 with rs := C1.rs } s2 σ := r2.unkeep fun q z => by rw [l2.rs]; exact .inl z
    refine ⟨{ C2 with rs := C1.rs }, rfl, le_back l2, r3, ⟨p, rfl, ?_, ⟨fun z => r2.fzkp p z (.inr kp), fun z => f.kp (by rw [show C2.kp = C1.kp from l2.kp] at z; exact z), fun z => ?_, f.rs⟩, un, fun m c' h' z => ?_⟩, fun y w ny h2 => ⟨?_, ?_⟩⟩
    · cases q : C1.H p with
      | none => exact absurd q a.tr
      | some o =>
        show CR G _ c (C2.H p)
        rw [l2.hk p (.inr (.inr rfl)) o q, ← q]
        exact a.mono (le_back l2)
    · obtain ⟨n, hn, e3⟩ := List.getElem_of_mem (show p ∈ C2.ρ from z)
      have h1 : n < s2.h.length := by rw [r2.hlen]; exact hn
      exact (r2.cell n _ p (List.getElem?_eq_getElem h1) (by rw [List.getElem?_eq_getElem hn, e3])).2.2.2 kp
    · obtain ⟨q, a', _, _, _, g⟩ := r2.own m c' h'
      rw [z] at a'
      cases a'
      exact g.2 kp
    · cases y with
      | sl l => exact absurd rfl (ny l)
      | v y => exact VR.mono0 lv_rs h2
      | f c2 =>
        obtain ⟨q, rfl, a2, f2, un2, d2⟩ := h2
        exact ⟨q, rfl, a2.mono0 lv_rs, ⟨f2.fz, f2.kp, f2.ρ, fun z => f2.rs (by rw [l2.rs]; exact .inl z)⟩, un2, d2⟩
    · intro _
      cases y with
      | sl l => exact absurd rfl (ny l)
      | v y => trivial
      | f c2 =>
        obtain ⟨q, rfl, a2, f2, un2, d2⟩ := h2
        intro z
        cases z
        exact f2.rs kp
end
end Rs
end
section
set_option maxRecDepth 100000
set_option maxHeartbeats 4000000
/-! list.insert; list(d.items()). -/
namespace Rs
open PySem PySem.Spec PyProof.Rows L2
section
variable {G : Gl} {T : Tab} {F : Call} {k : Nat} {X : Cx} {e eo : Expr} {es : List Expr} {p pos apos cpos : Pos} {a : IE} {as : List IE}
def rIns : V → List V → Hp → VK → Prop := fun x vs H Q => ∃ (l : Addr) (xs : List V) (i : Int) (y : V), x = .ref l ∧ vs = [.int i, y] ∧ H l = some (.lst xs) ∧ xs.length < sizeLine ∧ 0 ≤ i ∧ i < 2 ^ 63 ∧
    Q .non (upd H l (.lst (xs.take i.toNat ++ [y] ++ xs.drop i.toNat)))
/-- list(e.items()), the dict walked or not -/
def rItm : V → Hp → VK → Prop := fun x H Q => ∃ (d : Addr) (kvs : List (Key × V)), x = .ref d ∧ Rd H d (.dK kvs) ∧
  ∀ (H' : Hp) (p : Addr) (ts : List Addr), (∀ b o, H b = some o → H' b = some o) → H p = none → (∀ t ∈ ts, H t = none) → p ∉ ts → H' p = some (.lst (ts.map V.ref)) → Paired (fun (t : Addr) (q : Key × V) => H' t = some (.tup [kV q.1, q.2])) ts kvs → Q (.ref p) H'
end
end Rs
end
section
set_option maxRecDepth 100000
set_option maxHeartbeats 4000000
/-! join and split. -/
namespace Rs
open PySem PySem.Spec PyProof.Rows L2
section
variable {G : Gl} {T : Tab} {F : Call} {k : Nat} {X : Cx} {e eo : Expr} {es : List Expr} {p pos apos cpos : Pos} {a : IE} {as : List IE}
end
end Rs
end
section
set_option maxRecDepth 100000
/-! The shared defs of the texts, as the interpreter has them (printed by gen2.py). -/
namespace Rs
open PySem L2
def attL : List Str := [("items" : Str), ("join" : Str), ("append" : Str), ("insert" : Str), ("__init__" : Str), ("name" : Str), ("out" : Str), ("given" : Str), ("number" : Str), ("line" : Str), ("__contains__" : Str), ("__len__" : Str), ("places" : Str), ("things" : Str), ("placed" : Str), ("spent" : Str), ("prices" : Str), ("clear" : Str), ("check_out" : Str), ("names" : Str), ("paid" : Str), ("call" : Str), ("pop" : Str), ("void" : Str), ("upper" : Str), ("calls" : Str), ("ways" : Str), ("free" : Str), ("idle" : Str), ("send" : Str), ("distances" : Str), ("steps" : Str), ("credit_of" : Str), ("last_call" : Str), ("sums" : Str), ("entries" : Str), ("marks" : Str), ("update" : Str), ("accounts" : Str), ("returned" : Str), ("lost" : Str), ("choices" : Str), ("rent" : Str), ("what_given" : Str), ("what_out" : Str), ("met" : Str), ("get" : Str), ("journal" : Str), ("is_full_for" : Str), ("back" : Str), ("mark" : Str), ("takes_fetched" : Str), ("takes_found" : Str), ("takes" : Str), ("shelf_places" : Str), ("called" : Str), ("held" : Str), ("fresh" : Str), ("again" : Str), ("plan" : Str), ("row" : Str), ("next_call" : Str), ("end_round" : Str), ("split" : Str)]
/-- the law has this def at this number -/
class HasD (fs : List Fd) (i : Nat) (d : outParam Fd) : Prop where
  e : fs[i]? = some d
/-- the class has this method -/
class HasM (T : Tab) (c m : Nat) (i : outParam Nat) : Prop where
  e : T.mth c m = some i
class HasF (T : Tab) (c f : Nat) : Prop where
  e : T.fld c f = true
def nmG (i : Nat) : Str := attL.getD (i % 1000) ""
def okG (i : Nat) : Prop := i < attL.length
instance (i : Nat) : Decidable (okG i) := by unfold okG; infer_instance
def clsL : List Str := [("Shelf" : Str), ("Keeper" : Str), ("Steps" : Str), ("Line" : Str), ("Cruel" : Str), ("UnknownThing" : Str), ("BadOut" : Str), ("BadGiven" : Str), ("UnknownMark" : Str), ("InvalidText" : Str)]
theorem attL_nd : attL.Nodup := by decide +kernel
theorem attL_few : attL.length < 1000 := by decide +kernel
theorem injG (i j : Nat) (hi : okG i) (hj : okG j) (h : nmG i = nmG j) : i = j := by
  unfold okG at hi hj
  have hl := attL_few
  unfold nmG at h
  rw [Nat.mod_eq_of_lt (by omega), Nat.mod_eq_of_lt (by omega)] at h
  rw [List.getD_eq_getElem?_getD, List.getD_eq_getElem?_getD, List.getElem?_eq_getElem hi, List.getElem?_eq_getElem hj] at h
  exact (List.getElem_inj attL_nd).mp h
class HasI (T : Tab) (c : Nat) (i : outParam Nat) : Prop where
  e : T.ini c = some i
class HasP (T : Tab) (c p : Nat) (i : outParam Nat) : Prop where
  e : T.prp c p = some i
def is__law_feed : List IS := [(.asg (.nm 2) (.sub (.bin .add (.bi .list [(.slc (.var 0) [(.var 1)] [(.bin .add (.var 1) (.cst (.int 1)))])]) (.lst [(.bin .add (.bin .mul (.cst (.int 71)) (.var 1)) (.cst (.int 23)))])) (.cst (.int 0)))), (.asg (.nm 3) (.bi .max [(.cst (.int 0)), (.bin .sub (.bi .abs [(.var 2)]) (.bin .pow (.cst (.int 10)) (.cst (.int 18))))])), (.ret (.heap (.lst [(.var 3), (.bin .mod (.bi .int [(.bin .add (.bin .add (.bin .mul (.bin .mod (.bi .int [(.bi .abs [(.var 2)])]) (.cst (.int 1000003))) (.cst (.int 7919))) (.bin .mul (.cst (.int 31)) (.var 1))) (.cst (.int 17)))]) (.cst (.int 1000033)))])))]
abbrev fd__law_feed : Fd := ⟨2, 4, is__law_feed⟩ -- 0
def is__law_take : List IS := [(.ite (.cmp .gt (.sub (.var 0) (.cst (.int 0))) (.cst (.int 0))) [(.asg (.nm 2) (.bin .mod (.bi .int [(.sub (.var 0) (.cst (.int 0)))]) (.var 1))), (.asg (.sub (.var 0) (.cst (.int 0))) (.bin .fdiv (.sub (.var 0) (.cst (.int 0))) (.var 1))), (.ret (.var 2))] []), (.asg (.sub (.var 0) (.cst (.int 1))) (.bin .mod (.bi .int [(.bin .add (.bin .mul (.sub (.var 0) (.cst (.int 1))) (.cst (.int 69069))) (.cst (.int 12345)))]) (.cst (.int 4294967311)))), (.ret (.bin .mod (.bi .int [(.bin .fdiv (.sub (.var 0) (.cst (.int 1))) (.cst (.int 65536)))]) (.var 1)))]
abbrev fd__law_take : Fd := ⟨2, 3, is__law_take⟩ -- 1
def is__law_pick : List IS := [(.ret (.sub (.var 1) (.fn 1 [(.var 0), (.bi .len [(.var 1)])] [])))]
abbrev fd__law_pick : Fd := ⟨2, 2, is__law_pick⟩ -- 2
def is__law_names : List IS := [(.asg (.nm 2) (.lst [(.cst (.str "a")), (.cst (.str "b")), (.cst (.str "c")), (.cst (.str "d")), (.cst (.str "e")), (.cst (.str "f")), (.cst (.str "g")), (.cst (.str "h")), (.cst (.str "jug")), (.cst (.str "lamp")), (.cst (.str "map"))])), (.asg (.nm 2) (.bin .add (.var 2) (.lst [(.cst (.str "call")), (.cst (.str "void")), (.cst (.str "zz")), (.cst (.str "quilts")), (.cst (.str "abcdefgh")), (.cst (.str "n")), (.cst (.str "m")), (.cst (.str "rook")), (.cst (.str "waxy"))]))), (.asg (.nm 3) (.fn 1 [(.var 0), (.cst (.int 4))] [])), (.ret (.slc (.sls (.bin .add (.slc (.var 2) [(.var 3)] []) (.slc (.var 2) [] [(.var 3)])) (.fn 2 [(.var 0), (.lst [(.cst (.int 1)), (.neg (.cst (.int 1)))])] [])) [] [(.var 1)]))]
abbrev fd__law_names : Fd := ⟨2, 4, is__law_names⟩ -- 3
def is__law_things : List IS := [(.asg (.nm 2) (.fn 2 [(.var 0), (.lst [(.lst [(.cst (.int 1))]), (.lst [(.cst (.int 7))]), (.lst [(.cst (.int 1)), (.cst (.int 2)), (.cst (.int 3))]), (.lst [(.cst (.int 1)), (.cst (.int 2)), (.cst (.int 4)), (.cst (.int 8)), (.cst (.int 16))]), (.lst [(.cst (.int 5)), (.cst (.int 6)), (.cst (.int 7))]), (.lst [(.cst (.int 1)), (.bin .pow (.cst (.int 10)) (.cst (.int 6)))]), (.lst [(.cst (.int 999999)), (.bin .pow (.cst (.int 10)) (.cst (.int 6))), (.cst (.int 3)), (.cst (.int 1))])])] [])), (.ret (.bi .dict [(.lc (.tup [(.var 3), (.fn 2 [(.var 0), (.var 2)] [])]) (.nm 3) .it [(.fn 3 [(.var 0), (.var 1)] [])] [] [3])]))]
abbrev fd__law_things : Fd := ⟨2, 4, is__law_things⟩ -- 4
def is__law_event : List IS := [(.asg (.nm 3) (.fn 2 [(.var 0), (.bin .add (.var 2) (.lst [(.fn 2 [(.var 0), (.var 1)] [])]))] [])), (.ret (.tup [(.ite (.cmp .eq (.fn 1 [(.var 0), (.cst (.int 9))] []) (.cst (.int 0))) (.cst (.str "void")) (.cst (.str "call"))), (.var 3)]))]
abbrev fd__law_event : Fd := ⟨3, 4, is__law_event⟩ -- 5
def is__law_row : List IS := [(.par 5 6 true false (.lst []) (.bi .sorted [(.var 1)])), (.asg (.nm 3) (.lc (.fn 2 [(.var 0), (.var 6)] []) (.nm 4) .rng [(.cst (.int 3))] [] [4])), (.for_ (.nm 4) .rng [(.var 2)] [(.ite (.cmp .eq (.fn 1 [(.var 0), (.cst (.int 7))] []) (.cst (.int 0))) [(.asg (.nm 3) (.lc (.fn 2 [(.var 0), (.var 6)] []) (.nm 7) .rng [(.bin .add (.cst (.int 1)) (.fn 1 [(.var 0), (.cst (.int 4))] []))] [] [7]))] []), (.ex (.mt .append (.var 5) [(.fn 5 [(.var 0), (.var 6), (.var 3)] [])]))]), (.ret (.frz 5))]
abbrev fd__law_row : Fd := ⟨3, 8, is__law_row⟩ -- 6
def is_stretches : List IS := [(.own 1 (.lst [])), (.own 2 (.dsp [])), (.for_ (.tp [(.nm 3), (.tp [(.nm 4), (.nm 5)])]) .enum [(.var 0)] [(.ite (.cmp .eq (.var 4) (.cst (.str "void"))) [(.ex (.mt .dpop (.var 2) [(.var 5), (.cst .non)]))] [(.ite (.cmp .isin (.var 5) (.var 2)) [(.ex (.mt .append (.var 1) [(.tup [(.sub (.var 2) (.var 5)), (.var 3)])]))] []), (.asg (.sub (.var 2) (.var 5)) (.var 3))])]), (.ret (.bi .sorted [(.var 1)]))]
abbrev fd_stretches : Fd := ⟨1, 6, is_stretches⟩ -- 7
def is_calls_of : List IS := [(.ret (.lc (.var 1) (.tp [(.nm 1), (.tp [(.nm 2), (.nm 3)])]) .enum [(.var 0)] [(.cmp .eq (.var 2) (.cst (.str "call")))] [1, 2, 3]))]
abbrev fd_calls_of : Fd := ⟨1, 4, is_calls_of⟩ -- 8
def is_price_of_calls : List IS := [(.ret (.bi .sum [(.lc (.sub (.var 0) (.sub (.sub (.var 1) (.var 2)) (.cst (.int 1)))) (.nm 2) .it [(.fn 8 [(.var 1)] [])] [] [2])]))]
abbrev fd_price_of_calls : Fd := ⟨2, 3, is_price_of_calls⟩ -- 9
def is_plan_cost : List IS := [(.ret (.bin .sub (.fn 9 [(.var 0), (.var 1)] []) (.bi .sum [(.lc (.sub (.var 0) (.sub (.sub (.var 1) (.var 3)) (.cst (.int 1)))) (.tp [(.nm 3), (.nm 4)]) .it [(.var 2)] [] [3, 4])])))]
abbrev fd_plan_cost : Fd := ⟨3, 5, is_plan_cost⟩ -- 10
def is_crosses : List IS := [(.ret (.chn .lt .lt (.sub (.var 0) (.cst (.int 0))) (.var 1) (.sub (.var 0) (.cst (.int 1)))))]
abbrev fd_crosses : Fd := ⟨2, 2, is_crosses⟩ -- 11
def is_is_plan : List IS := [(.asg (.nm 3) (.fn 7 [(.var 0)] [])), (.ite (.or (.not (.bi .isLst [(.var 2)])) (.not (.bi .all [(.lc (.fn 13 [(.var 3), (.var 6)] []) (.nm 6) .it [(.var 2)] [] [6])]))) [(.ret (.cst (.bl false)))] []), (.ite (.not (.bi .all [(.lc (.cmp .lt (.sub (.var 2) (.var 5)) (.sub (.var 2) (.bin .add (.var 5) (.cst (.int 1))))) (.nm 5) .rng [(.bin .sub (.bi .len [(.var 2)]) (.cst (.int 1)))] [] [5])])) [(.ret (.cst (.bl false)))] []), (.ret (.bi .all [(.lc (.cmp .lt (.bi .len [(.lc (.var 6) (.nm 6) .it [(.var 2)] [(.fn 11 [(.var 6), (.var 4)] [])] [6])]) (.var 1)) (.nm 4) .it [(.fn 8 [(.var 0)] [])] [] [4])]))]
abbrev fd_is_plan : Fd := ⟨3, 7, is_is_plan⟩ -- 12
def is_is_stretch : List IS := [(.ite (.or (.not (.bi .isTup [(.var 1)])) (.cmp .ne (.bi .len [(.var 1)]) (.cst (.int 2)))) [(.ret (.cst (.bl false)))] []), (.ret (.and (.bi .all [(.lc (.and (.bi .isInt [(.var 2)]) (.not (.bi .isBool [(.var 2)]))) (.nm 2) .it [(.var 1)] [] [2])]) (.cmp .isin (.var 1) (.var 0))))]
abbrev fd_is_stretch : Fd := ⟨2, 3, is_is_stretch⟩ -- 13
def is_is_one_of : List IS := [(.ret (.and (.bi .isStr [(.var 0)]) (.cmp .isin (.var 0) (.var 1))))]
abbrev fd_is_one_of : Fd := ⟨2, 2, is_is_one_of⟩ -- 14
def is_is_event : List IS := [(.ite (.or (.not (.bi .isTup [(.var 1)])) (.or (.cmp .ne (.bi .len [(.var 1)]) (.cst (.int 2))) (.not (.bi .isStr [(.sub (.var 1) (.cst (.int 0)))])))) [(.ret (.cst (.bl false)))] []), (.ret (.and (.cmp .isin (.sub (.var 1) (.cst (.int 0))) (.tup [(.cst (.str "call")), (.cst (.str "void"))])) (.fn 14 [(.sub (.var 1) (.cst (.int 1))), (.var 0)] [])))]
abbrev fd_is_event : Fd := ⟨2, 2, is_is_event⟩ -- 15
def is_is_row : List IS := [(.ret (.and (.bi .isLst [(.var 1)]) (.bi .all [(.lc (.fn 15 [(.var 0), (.var 2)] []) (.nm 2) .it [(.var 1)] [] [2])])))]
abbrev fd_is_row : Fd := ⟨2, 3, is_is_row⟩ -- 16
def is_put_away : List IS := [(.own 3 (.lst [])), (.own 4 (.dsp [])), (.for_ (.tp [(.nm 5), (.tp [(.nm 7), (.nm 8)])]) .enum [(.var 0)] [(.asg (.nm 6) (.cst .non)), (.ite (.cmp .eq (.var 7) (.cst (.str "void"))) [(.ex (.mt .dpop (.var 4) [(.var 8), (.cst .non)]))] [(.ite (.cmp .isin (.var 8) (.var 4)) [(.ite (.var 2) [(.asg (.sub (.var 4) (.var 8)) (.var 5))] [])] [(.ite (.cmp .ge (.bi .len [(.var 4)]) (.var 1)) [(.asg (.nm 6) (.sub (.bi .min [(.lck (.tup [(.sub (.var 4) (.var 9)), (.var 9)]) (.nm 9) false 4 [] [9])]) (.cst (.int 1)))), (.del (.var 4) (.var 6))] []), (.asg (.sub (.var 4) (.var 8)) (.var 5))])]), (.ex (.mt .append (.var 3) [(.var 6)]))]), (.ret (.mv 3))]
abbrev fd_put_away : Fd := ⟨3, 10, is_put_away⟩ -- 17
def is_longest_ago : List IS := [(.ret (.fn 17 [(.var 0), (.var 1), (.cst (.bl true))] []))]
abbrev fd_longest_ago : Fd := ⟨2, 2, is_longest_ago⟩ -- 18
def is_first_come : List IS := [(.ret (.fn 17 [(.var 0), (.var 1), (.cst (.bl false))] []))]
abbrev fd_first_come : Fd := ⟨2, 2, is_first_come⟩ -- 19
def is__law_stretches : List IS := [(.own 1 (.lst [])), (.for_ (.tp [(.nm 2), (.tp [(.nm 3), (.nm 4)])]) .enum [(.var 0)] [(.ite (.cmp .eq (.var 3) (.cst (.str "call"))) [(.asg (.nm 5) (.lc (.var 6) (.nm 6) .rng [(.bin .add (.var 2) (.cst (.int 1))), (.bi .len [(.var 0)])] [(.cmp .eq (.sub (.sub (.var 0) (.var 6)) (.cst (.int 1))) (.var 4))] [6])), (.ite (.and (.cmp .ne (.var 5) (.lst [])) (.cmp .eq (.sub (.sub (.var 0) (.sub (.var 5) (.cst (.int 0)))) (.cst (.int 0))) (.cst (.str "call")))) [(.ex (.mt .append (.var 1) [(.tup [(.var 2), (.sub (.var 5) (.cst (.int 0)))])]))] [])] [])]), (.ret (.frz 1))]
abbrev fd__law_stretches : Fd := ⟨1, 7, is__law_stretches⟩ -- 20
def is__law_cost : List IS := [(.asg (.nm 3) (.bi .sum [(.lc (.sub (.var 0) (.var 5)) (.tp [(.nm 4), (.nm 5)]) .it [(.var 1)] [(.cmp .eq (.var 4) (.cst (.str "call")))] [4, 5])])), (.ret (.bin .sub (.var 3) (.bi .sum [(.lc (.sub (.var 0) (.sub (.sub (.var 1) (.var 6)) (.cst (.int 1)))) (.tp [(.nm 6), (.nm 7)]) .it [(.var 2)] [] [6, 7])])))]
abbrev fd__law_cost : Fd := ⟨3, 8, is__law_cost⟩ -- 21
def is__law_crossing : List IS := [(.own 2 (.lst [])), (.for_ (.tp [(.nm 3), (.tp [(.nm 4), (.nm 5)])]) .enum [(.var 0)] [(.ite (.cmp .eq (.var 4) (.cst (.str "call"))) [(.ex (.mt .append (.var 2) [(.bi .len [(.lc (.var 6) (.nm 6) .it [(.var 1)] [(.chn .lt .lt (.sub (.var 6) (.cst (.int 0))) (.var 3) (.sub (.var 6) (.cst (.int 1))))] [6])])]))] [])]), (.ret (.frz 2))]
abbrev fd__law_crossing : Fd := ⟨2, 7, is__law_crossing⟩ -- 22
def is__law_fits : List IS := [(.ret (.cmp .lt (.bi .max [(.bin .add (.lst [(.cst (.int 0))]) (.fn 22 [(.var 0), (.var 2)] []))]) (.var 1)))]
abbrev fd__law_fits : Fd := ⟨3, 3, is__law_fits⟩ -- 23
def is_is_integer : List IS := [(.ret (.and (.bi .isInt [(.var 0)]) (.and (.not (.bi .isBool [(.var 0)])) (.chn .le .le (.var 1) (.var 0) (.var 2)))))]
abbrev fd_is_integer : Fd := ⟨3, 3, is_is_integer⟩ -- 25
def is_is_name : List IS := [(.ite (.or (.not (.bi .isStr [(.var 0)])) (.not (.chn .le .le (.cst (.int 1)) (.bi .len [(.var 0)]) (.glb 0 (.int 8))))) [(.ret (.cst (.bl false)))] []), (.ret (.bi .all [(.lc (.cmp .isin (.var 1) (.glb 0 (.str "abcdefghijklmnopqrstuvwxyz"))) (.nm 1) .it [(.var 0)] [] [1])]))]
abbrev fd_is_name : Fd := ⟨1, 2, is_is_name⟩ -- 26
def is_check_thing : List IS := [(.ite (.not (.fn 14 [(.var 1), (.var 0)] [])) [(.rais 0 (.var 1))] [])]
abbrev fd_check_thing : Fd := ⟨2, 2, is_check_thing⟩ -- 28
def is_are_unlike : List IS := [(.ite (.or (.not (.bi .isTup [(.var 0)])) (.not (.bi .all [(.lc (.and (.bi .isStr [(.var 2)]) (.cmp .isin (.var 2) (.var 1))) (.nm 2) .it [(.var 0)] [] [2])]))) [(.ret (.cst (.bl false)))] []), (.ret (.cmp .eq (.bi .lenset [(.var 0)]) (.bi .len [(.var 0)])))]
abbrev fd_are_unlike : Fd := ⟨2, 3, is_are_unlike⟩ -- 29
def is_write : List IS := [(.ret (.mt .join (.cst (.str "\n")) [(.lc (.bin .add (.bin .add (.var 1) (.cst (.str " "))) (.var 2)) (.tp [(.nm 1), (.nm 2)]) .it [(.var 0)] [] [1, 2])]))]
abbrev fd_write : Fd := ⟨1, 3, is_write⟩ -- 30
def is_read : List IS := [(.own 2 (.lst [])), (.ite (.cmp .ne (.var 1) (.cst (.str ""))) [(.for_ (.tp [(.nm 3), (.nm 4)]) .enum [(.mt .split (.var 1) [(.cst (.str "\n"))])] [(.asg (.nm 5) (.bi .tuple [(.mt .split (.var 4) [(.cst (.str " "))])])), (.ite (.not (.fn 15 [(.var 0), (.var 5)] [])) [(.rais 4 (.var 3))] []), (.ex (.mt .append (.var 2) [(.var 5)]))])] []), (.ret (.mv 2))]
abbrev fd_read : Fd := ⟨2, 6, is_read⟩ -- 31
def is_Shelf___init__ : List IS := [(.asg (.att (.var 0) 12) (.var 1)), (.asg (.att (.var 0) 13) (.bi .dict [(.var 2)])), (.asg (.att (.var 0) 14) (.lst [])), (.asg (.att (.var 0) 15) (.cst (.int 0)))]
abbrev fd_Shelf___init__ : Fd := ⟨3, 3, is_Shelf___init__⟩ -- 50
def is_Shelf___contains__ : List IS := [(.ret (.and (.bi .isStr [(.var 1)]) (.cmp .isin (.var 1) (.att (.var 0) 14))))]
abbrev fd_Shelf___contains__ : Fd := ⟨2, 2, is_Shelf___contains__⟩ -- 51
def is_Shelf___len__ : List IS := [(.ret (.bi .len [(.att (.var 0) 14)]))]
abbrev fd_Shelf___len__ : Fd := ⟨1, 1, is_Shelf___len__⟩ -- 52
def is_Shelf_prices : List IS := [(.ret (.bi .dict [(.att (.var 0) 13)]))]
abbrev fd_Shelf_prices : Fd := ⟨1, 1, is_Shelf_prices⟩ -- 53
def is_Shelf_names : List IS := [(.ret (.bi .list [(.att (.var 0) 14)]))]
abbrev fd_Shelf_names : Fd := ⟨1, 1, is_Shelf_names⟩ -- 54
def is_Shelf_paid : List IS := [(.ret (.att (.var 0) 15))]
abbrev fd_Shelf_paid : Fd := ⟨1, 1, is_Shelf_paid⟩ -- 55
def is_Shelf_check_out : List IS := [(.ite (.not (.fn 29 [(.var 2), (.att (.var 0) 14)] [])) [(.rais 1 (.var 2))] []), (.ite (.and (.cmp .isin (.var 1) (.att (.var 0) 14)) (.cmp .ne (.var 2) (.tup []))) [(.rais 1 (.var 2))] []), (.ite (.and (.cmp .notin (.var 1) (.att (.var 0) 14)) (.cmp .ge (.bin .sub (.bi .len [(.att (.var 0) 14)]) (.bi .len [(.var 2)])) (.att (.var 0) 12))) [(.rais 1 (.var 2))] [])]
abbrev fd_Shelf_check_out : Fd := ⟨3, 3, is_Shelf_check_out⟩ -- 56
def is_Shelf_call : List IS := [(.ex (.fn 28 [(.att (.var 0) 13), (.var 1)] [])), (.ex (.me [0] 18 (.var 0) [(.var 1), (.var 2)] [])), (.ite (.cmp .isin (.var 1) (.att (.var 0) 14)) [(.ret (.cst (.int 0)))] []), (.asg (.att (.var 0) 14) (.bi .sorted [(.bin .add (.lc (.var 3) (.nm 3) .it [(.att (.var 0) 14)] [(.cmp .notin (.var 3) (.var 2))] [3]) (.lst [(.var 1)]))])), (.augA (.var 0) 15 .add (.sub (.att (.var 0) 13) (.var 1))), (.ret (.sub (.att (.var 0) 13) (.var 1)))]
abbrev fd_Shelf_call : Fd := ⟨3, 4, is_Shelf_call⟩ -- 57
def is_Shelf_void : List IS := [(.ex (.fn 28 [(.att (.var 0) 13), (.var 1)] [])), (.asg (.att (.var 0) 14) (.lc (.var 2) (.nm 2) .it [(.att (.var 0) 14)] [(.cmp .ne (.var 2) (.var 1))] [2]))]
abbrev fd_Shelf_void : Fd := ⟨2, 3, is_Shelf_void⟩ -- 58
def is_moves : List IS := [(.gst (.asg (.nm 3) (.lst []))), (.for_ (.tp [(.nm 4), (.tp [(.nm 5), (.nm 6)])]) .enum [(.var 0)] [(.ite (.cmp .eq (.var 5) (.cst (.str "void"))) [(.gst (.asg (.nm 3) (.lc (.var 8) (.nm 8) .it [(.var 3)] [(.cmp .ne (.var 8) (.var 6))] [8]))), (.yld (.tup []))] [(.ite (.cmp .isin (.var 6) (.var 3)) [(.yld (.tup []))] [(.gst (.asg (.nm 7) (.lc (.sub (.sub (.var 0) (.var 9)) (.cst (.int 1))) (.tp [(.nm 9), (.nm 10)]) .it [(.var 2)] [(.fn 11 [(.tup [(.var 9), (.var 10)]), (.var 4)] [])] [9, 10]))), (.yld (.bi .tuple [(.bi .sorted [(.lc (.var 8) (.nm 8) .it [(.var 3)] [(.cmp .notin (.var 8) (.var 7))] [8])])])), (.gst (.asg (.nm 3) (.bin .add (.lc (.var 8) (.nm 8) .it [(.var 3)] [(.cmp .isin (.var 8) (.var 7))] [8]) (.lst [(.var 6)]))))])])])]
abbrev fd_moves : Fd := ⟨3, 11, [.gen is_moves]⟩ -- 76
def is_Line_distances : List IS := [(.own 1 (.bin .add (.lst [(.cst (.int 0))]) (.lc (.cst .non) (.nm 10) .it [(.att (.var 0) 25)] [] [10]))), (.own 2 (.lc (.cst .non) (.nm 5) .it [(.var 1)] [] [5])), (.asg (.nm 3) (.bi .sortk [(.me [3] 31 (.var 0) [] [])])), (.asg (.nm 4) (.cst (.bl true))), (.whl (.var 4) [(.asg (.nm 4) (.cst (.bl false))), (.for_ (.tp [(.nm 6), (.nm 7), (.nm 8), (.nm 9)]) .it [(.var 3)] [(.ite (.and (.cmp .isnot (.sub (.var 1) (.var 6)) (.cst .non)) (.or (.cmp .is_ (.sub (.var 1) (.var 7)) (.cst .non)) (.cmp .lt (.bin .add (.sub (.var 1) (.var 6)) (.var 8)) (.sub (.var 1) (.var 7))))) [(.asg (.sub (.var 1) (.var 7)) (.bin .add (.sub (.var 1) (.var 6)) (.var 8))), (.asg (.sub (.var 2) (.var 7)) (.tup [(.var 6), (.var 9)])), (.asg (.nm 4) (.cst (.bl true)))] [])])]), (.ret (.tup [(.frz 1), (.frz 2)]))]
abbrev fd_Line_distances : Fd := ⟨1, 11, is_Line_distances⟩ -- 88
def is_Line_steps : List IS := [(.own 1 (.lst [])), (.for_ (.tp [(.nm 3), (.nm 4)]) .enum [(.att (.var 0) 28)] [(.ex (.mt .append (.var 1) [(.tup [(.var 3), (.bin .add (.var 3) (.cst (.int 1))), (.cst (.int 0)), (.tup [(.var 3), (.cst (.int 1))])])])), (.ite (.cmp .gt (.var 4) (.cst (.int 0))) [(.ex (.mt .append (.var 1) [(.tup [(.bin .add (.var 3) (.cst (.int 1))), (.var 3), (.cst (.int 0)), (.tup [(.var 3), (.bin .sub (.cst (.int 0)) (.cst (.int 1)))])])]))] [])]), (.for_ (.nm 2) .it [(.att (.var 0) 26)] [(.ite (.sub (.var 2) (.cst (.int 4))) [(.ex (.mt .append (.var 1) [(.tup [(.sub (.var 2) (.cst (.int 1))), (.sub (.var 2) (.cst (.int 0))), (.sub (.var 2) (.cst (.int 2))), (.var 2)])]))] [(.ex (.mt .append (.var 1) [(.tup [(.sub (.var 2) (.cst (.int 0))), (.sub (.var 2) (.cst (.int 1))), (.bin .sub (.cst (.int 0)) (.sub (.var 2) (.cst (.int 2)))), (.var 2)])]))])]), (.ret (.frz 1))]
abbrev fd_Line_steps : Fd := ⟨1, 5, is_Line_steps⟩ -- 89
def is_Line_send : List IS := [(.asg (.nm 1) (.sub (.me [3] 30 (.var 0) [] []) (.cst (.int 1)))), (.asg (.nm 2) (.bi .len [(.att (.var 0) 25)])), (.whl (.cmp .ne (.var 2) (.cst (.int 0))) [(.asg (.tp [(.nm 3), (.nm 4)]) (.sub (.var 1) (.var 2))), (.ite (.bi .isTup [(.var 4)]) [(.augS (.att (.var 0) 28) (.sub (.var 4) (.cst (.int 0))) .add (.sub (.var 4) (.cst (.int 1))))] [(.asg (.sub (.var 4) (.cst (.int 4))) (.not (.sub (.var 4) (.cst (.int 4)))))]), (.asg (.nm 2) (.var 3))])]
abbrev fd_Line_send : Fd := ⟨1, 5, is_Line_send⟩ -- 90
def is_line_of : List IS := [(.asg (.nm 3) (.new 3 [(.var 0), (.var 1)] [])), (.for_ (.nm 4) .rng [(.bin .sub (.var 2) (.cst (.int 1)))] [(.ex (.me [3] 29 (.var 3) [] []))]), (.ret (.var 3))]
abbrev fd_line_of : Fd := ⟨3, 5, is_line_of⟩ -- 91
def is_tolls_of : List IS := [(.own 2 (.lc (.cst (.int 0)) (.nm 6) .it [(.var 1)] [] [6])), (.asg (.nm 3) (.sub (.me [3] 30 (.var 0) [] []) (.cst (.int 0)))), (.for_ (.tp [(.nm 4), (.nm 5)]) .enum [(.att (.var 0) 25)] [(.asg (.sub (.var 2) (.var 5)) (.bin .sub (.sub (.var 3) (.var 4)) (.sub (.var 3) (.bin .add (.var 4) (.cst (.int 1))))))]), (.ret (.frz 2))]
abbrev fd_tolls_of : Fd := ⟨2, 7, is_tolls_of⟩ -- 92
def is_toll_of : List IS := [(.ret (.bi .sum [(.slc (.var 0) [(.bin .add (.sub (.var 1) (.cst (.int 0))) (.cst (.int 1)))] [(.sub (.var 1) (.cst (.int 1)))])]))]
abbrev fd_toll_of : Fd := ⟨2, 2, is_toll_of⟩ -- 93
def is_limit : List IS := [(.asg (.nm 4) (.cst (.int 0))), (.for_ (.nm 5) .it [(.fn 7 [(.var 1)] [])] [(.aug 4 .add (.bi .max [(.cst (.int 0)), (.bin .sub (.sub (.var 0) (.sub (.sub (.var 1) (.sub (.var 5) (.cst (.int 0)))) (.cst (.int 1)))) (.fn 93 [(.var 3), (.var 5)] []))]))]), (.ret (.bin .sub (.bin .sub (.fn 9 [(.var 0), (.var 1)] []) (.bin .mul (.bin .sub (.var 2) (.cst (.int 1))) (.bi .sum [(.var 3)]))) (.var 4)))]
abbrev fd_limit : Fd := ⟨4, 6, is_limit⟩ -- 94
def is_least : List IS := [(.asg (.nm 3) (.fn 91 [(.var 0), (.var 1), (.var 2)] [])), (.asg (.nm 4) (.bi .sorted [(.bin .add (.att (.var 3) 27) (.lc (.sub (.var 5) (.cst (.int 3))) (.nm 5) .it [(.att (.var 3) 26)] [(.sub (.var 5) (.cst (.int 4)))] [5]))])), (.ret (.tup [(.fn 10 [(.var 0), (.var 1), (.var 4)] []), (.var 4), (.fn 92 [(.var 3), (.var 1)] [])]))]
abbrev fd_least : Fd := ⟨3, 6, is_least⟩ -- 95
def is_are_tolls : List IS := [(.ite (.or (.not (.bi .isLst [(.var 1)])) (.cmp .ne (.bi .len [(.var 1)]) (.bi .len [(.var 0)]))) [(.ret (.cst (.bl false)))] []), (.ite (.not (.bi .all [(.lc (.and (.bi .isInt [(.var 3)]) (.and (.not (.bi .isBool [(.var 3)])) (.cmp .ge (.var 3) (.cst (.int 0))))) (.nm 3) .it [(.var 1)] [] [3])])) [(.ret (.cst (.bl false)))] []), (.asg (.nm 2) (.fn 8 [(.var 0)] [])), (.ret (.bi .all [(.lc (.or (.cmp .isin (.var 4) (.var 2)) (.cmp .eq (.var 5) (.cst (.int 0)))) (.tp [(.nm 4), (.nm 5)]) .enum [(.var 1)] [] [4, 5])]))]
abbrev fd_are_tolls : Fd := ⟨2, 6, is_are_tolls⟩ -- 96
def is_is_least : List IS := [(.ite (.or (.not (.bi .isTup [(.var 3)])) (.cmp .ne (.bi .len [(.var 3)]) (.cst (.int 3)))) [(.ret (.cst (.bl false)))] []), (.asg (.tp [(.nm 4), (.nm 5), (.nm 6)]) (.var 3)), (.ite (.or (.not (.bi .isInt [(.var 4)])) (.bi .isBool [(.var 4)])) [(.ret (.cst (.bl false)))] []), (.ite (.or (.not (.fn 12 [(.var 1), (.var 2), (.var 5)] [])) (.not (.fn 96 [(.var 1), (.var 6)] []))) [(.ret (.cst (.bl false)))] []), (.ret (.and (.cmp .eq (.fn 10 [(.var 0), (.var 1), (.var 5)] []) (.var 4)) (.cmp .eq (.fn 94 [(.var 0), (.var 1), (.var 2), (.var 6)] []) (.var 4))))]
abbrev fd_is_least : Fd := ⟨4, 7, is_is_least⟩ -- 97
def is__law_limit : List IS := [(.asg (.nm 4) (.bin .sub (.fn 21 [(.var 0), (.var 1), (.lst [])] []) (.bin .mul (.bin .sub (.var 2) (.cst (.int 1))) (.bi .sum [(.var 3)])))), (.for_ (.tp [(.nm 5), (.nm 6)]) .it [(.fn 20 [(.var 1)] [])] [(.asg (.nm 7) (.lc (.var 8) (.tp [(.nm 8), (.nm 9)]) .it [(.slc (.bi .lzip [(.var 3), (.var 1)]) [(.bin .add (.var 5) (.cst (.int 1)))] [(.var 6)])] [(.cmp .eq (.sub (.var 9) (.cst (.int 0))) (.cst (.str "call")))] [8, 9])), (.asg (.nm 4) (.bin .sub (.var 4) (.bi .max [(.cst (.int 0)), (.bin .sub (.sub (.var 0) (.sub (.sub (.var 1) (.var 5)) (.cst (.int 1)))) (.bi .sum [(.var 7)]))])))]), (.ret (.var 4))]
abbrev fd__law_limit : Fd := ⟨4, 10, is__law_limit⟩ -- 98
def is__law_plans : List IS := [(.asg (.nm 2) (.lst [(.lst [])])), (.for_ (.nm 3) .it [(.fn 20 [(.var 0)] [])] [(.asg (.nm 2) (.bin .add (.var 2) (.lc (.bin .add (.var 4) (.lst [(.var 3)])) (.nm 4) .it [(.var 2)] [(.fn 23 [(.var 0), (.var 1), (.bin .add (.var 4) (.lst [(.var 3)]))] [])] [4])))]), (.ret (.var 2))]
abbrev fd__law_plans : Fd := ⟨2, 5, is__law_plans⟩ -- 99
def is__law_are_tolls : List IS := [(.ite (.or (.not (.bi .isLst [(.var 1)])) (.cmp .ne (.bi .len [(.var 1)]) (.bi .len [(.var 0)]))) [(.ret (.cst (.bl false)))] []), (.ite (.cmp .ne (.lc (.var 2) (.nm 2) .it [(.var 1)] [(.or (.not (.bi .isInt [(.var 2)])) (.bi .isBool [(.var 2)]))] [2]) (.lst [])) [(.ret (.cst (.bl false)))] []), (.ite (.cmp .ne (.lc (.var 2) (.nm 2) .it [(.var 1)] [(.cmp .lt (.var 2) (.cst (.int 0)))] [2]) (.lst [])) [(.ret (.cst (.bl false)))] []), (.ret (.cmp .eq (.lc (.cst (.int 1)) (.tp [(.nm 3), (.nm 4)]) .zip [(.var 1), (.var 0)] [(.and (.cmp .gt (.var 3) (.cst (.int 0))) (.cmp .eq (.sub (.var 4) (.cst (.int 0))) (.cst (.str "void"))))] [3, 4]) (.lst [])))]
abbrev fd__law_are_tolls : Fd := ⟨2, 5, is__law_are_tolls⟩ -- 100
def is__law_is_least : List IS := [(.ite (.or (.not (.bi .isTup [(.var 3)])) (.or (.cmp .ne (.bi .len [(.var 3)]) (.cst (.int 3))) (.or (.not (.bi .isInt [(.sub (.var 3) (.cst (.int 0)))])) (.bi .isBool [(.sub (.var 3) (.cst (.int 0)))])))) [(.ret (.cst (.bl false)))] []), (.ite (.or (.not (.fn 267 [(.var 1), (.var 2), (.sub (.var 3) (.cst (.int 1)))] [])) (.not (.fn 100 [(.var 1), (.sub (.var 3) (.cst (.int 2)))] []))) [(.ret (.cst (.bl false)))] []), (.ret (.chn .eq .eq (.fn 21 [(.var 0), (.var 1), (.sub (.var 3) (.cst (.int 1)))] []) (.sub (.var 3) (.cst (.int 0))) (.fn 98 [(.var 0), (.var 1), (.var 2), (.sub (.var 3) (.cst (.int 2)))] [])))]
abbrev fd__law_is_least : Fd := ⟨4, 4, is__law_is_least⟩ -- 101
def is_least_costs : List IS := [(.ret (.lc (.sub (.fn 95 [(.var 0), (.var 1), (.var 2)] []) (.cst (.int 0))) (.nm 2) .rng [(.cst (.int 1)), (.bin .add (.glb 0 (.int 8)) (.cst (.int 1)))] [] [2]))]
abbrev fd_least_costs : Fd := ⟨2, 3, is_least_costs⟩ -- 109
def is_Keeper___init__ : List IS := [(.asg (.att (.var 0) 12) (.var 1)), (.asg (.att (.var 0) 13) (.bi .dict [(.var 2)])), (.asg (.att (.var 0) 14) (.lst [])), (.asg (.att (.var 0) 32) (.heap (.dsp []))), (.asg (.att (.var 0) 33) (.heap (.dsp []))), (.asg (.att (.var 0) 34) (.lst [(.cst (.int 0)), (.cst (.int 0)), (.cst (.int 0))])), (.asg (.att (.var 0) 35) (.heap (.lst []))), (.asg (.att (.var 0) 36) (.heap (.lst [])))]
abbrev fd_Keeper___init__ : Fd := ⟨3, 3, is_Keeper___init__⟩ -- 118
def is_Keeper___contains__ : List IS := [(.ret (.and (.bi .isStr [(.var 1)]) (.cmp .isin (.var 1) (.att (.var 0) 14))))]
abbrev fd_Keeper___contains__ : Fd := ⟨2, 2, is_Keeper___contains__⟩ -- 119
def is_Keeper___len__ : List IS := [(.ret (.bi .len [(.att (.var 0) 14)]))]
abbrev fd_Keeper___len__ : Fd := ⟨1, 1, is_Keeper___len__⟩ -- 120
def is_Keeper_prices : List IS := [(.ret (.bi .dict [(.att (.var 0) 13)]))]
abbrev fd_Keeper_prices : Fd := ⟨1, 1, is_Keeper_prices⟩ -- 121
def is_Keeper_names : List IS := [(.ret (.bi .list [(.att (.var 0) 14)]))]
abbrev fd_Keeper_names : Fd := ⟨1, 1, is_Keeper_names⟩ -- 122
def is_Keeper_paid : List IS := [(.ret (.sub (.att (.var 0) 34) (.cst (.int 0))))]
abbrev fd_Keeper_paid : Fd := ⟨1, 1, is_Keeper_paid⟩ -- 123
def is_Keeper_returned : List IS := [(.ret (.sub (.att (.var 0) 34) (.cst (.int 1))))]
abbrev fd_Keeper_returned : Fd := ⟨1, 1, is_Keeper_returned⟩ -- 124
def is_Keeper_lost : List IS := [(.ret (.sub (.att (.var 0) 34) (.cst (.int 2))))]
abbrev fd_Keeper_lost : Fd := ⟨1, 1, is_Keeper_lost⟩ -- 125
def is_Keeper_is_full_for : List IS := [(.ret (.and (.cmp .notin (.var 1) (.att (.var 0) 32)) (.cmp .ge (.bi .len [(.att (.var 0) 32)]) (.att (.var 0) 12))))]
abbrev fd_Keeper_is_full_for : Fd := ⟨2, 2, is_Keeper_is_full_for⟩ -- 126
def is_Keeper_rent : List IS := [(.ret (.bi .min [(.lcr (.sub (.att (.var 0) 32) (.var 1)) (.nm 1) (.att (valI 0) 32) [] [1])]))]
abbrev fd_Keeper_rent : Fd := ⟨1, 2, is_Keeper_rent⟩ -- 127
def is_Keeper_choices : List IS := [(.ex (.fn 28 [(.att (.var 0) 13), (.var 1)] [])), (.ite (.not (.me [1] 48 (.var 0) [(.var 1)] [])) [(.ret (.lst []))] []), (.asg (.nm 2) (.me [1] 42 (.var 0) [] [])), (.ret (.bi .sorted [(.lcr (.var 3) (.nm 3) (.att (valI 0) 32) [(.cmp .eq (.sub (.att (.var 0) 32) (.var 3)) (.var 2))] [3])]))]
abbrev fd_Keeper_choices : Fd := ⟨2, 4, is_Keeper_choices⟩ -- 128
def is_Keeper_what_given : List IS := [(.asg (.nm 3) (.ite (.cmp .isin (.var 1) (.att (.var 0) 32)) (.bin .sub (.sub (.att (.var 0) 13) (.var 1)) (.sub (.att (.var 0) 32) (.var 1))) (.cst .non))), (.ite (.cmp .is_ (.var 2) (.cst .non)) [(.ret (.ite (.cmp .is_ (.var 3) (.cst .non)) (.cst (.int 0)) (.var 3)))] []), (.ite (.or (.cmp .is_ (.var 3) (.cst .non)) (.not (.fn 25 [(.var 2), (.cst (.int 0)), (.var 3)] []))) [(.rais 2 (.var 2))] []), (.ret (.var 2))]
abbrev fd_Keeper_what_given : Fd := ⟨3, 4, is_Keeper_what_given⟩ -- 129
def is_Keeper_what_out : List IS := [(.asg (.nm 3) (.me [1] 41 (.var 0) [(.var 1)] [])), (.ite (.cmp .is_ (.var 2) (.cst .non)) [(.asg (.nm 4) (.bi .sorted [(.lc (.tup [(.sub (.att (.var 0) 33) (.var 5)), (.var 5)]) (.nm 5) .it [(.var 3)] [] [5])])), (.ret (.bi .tuple [(.lc (.var 5) (.tp [(.nm 6), (.nm 5)]) .it [(.slc (.var 4) [] [(.cst (.int 1))])] [] [6, 5])]))] []), (.ite (.or (.not (.fn 29 [(.var 2), (.var 3)] [])) (.and (.cmp .eq (.var 2) (.tup [])) (.cmp .ne (.var 3) (.lst [])))) [(.rais 1 (.var 2))] []), (.ret (.var 2))]
abbrev fd_Keeper_what_out : Fd := ⟨3, 7, is_Keeper_what_out⟩ -- 130
def is_Keeper_met : List IS := [(.asg (.att (.var 0) 14) (.bi .sorted [(.att (.var 0) 32)])), (.asg (.att (.var 0) 34) (.lst [(.bin .add (.sub (.att (.var 0) 34) (.cst (.int 0))) (.var 3)), (.bin .add (.sub (.att (.var 0) 34) (.cst (.int 1))) (.var 4)), (.bin .add (.sub (.att (.var 0) 34) (.cst (.int 2))) (.var 5))])), (.ex (.mt .append (.att (.var 0) 35) [(.tup [(.var 1), (.var 2)])])), (.ret (.var 2))]
abbrev fd_Keeper_met : Fd := ⟨6, 6, is_Keeper_met⟩ -- 131
def is_Keeper_call : List IS := [(.ex (.fn 28 [(.att (.var 0) 13), (.var 1)] [])), (.asg (.nm 4) (.me [1] 43 (.var 0) [(.var 1), (.var 2)] [])), (.asg (.nm 5) (.me [1] 44 (.var 0) [(.var 1), (.var 3)] [])), (.asg (.sub (.att (.var 0) 33) (.var 1)) (.bi .len [(.att (.var 0) 35)])), (.ite (.cmp .isin (.var 1) (.att (.var 0) 32)) [(.asg (.sub (.att (.var 0) 32) (.var 1)) (.bin .add (.sub (.att (.var 0) 32) (.var 1)) (.var 4))), (.ret (.me [1] 45 (.var 0) [(.tup [(.cst (.str "call")), (.var 1)]), (.tup [(.cst (.int 0)), (.var 4), (.cst (.int 0)), (.tup [])]), (.cst (.int 0)), (.var 4), (.cst (.int 0))] []))] []), (.asg (.nm 6) (.ite (.cmp .ne (.var 5) (.tup [])) (.me [1] 42 (.var 0) [] []) (.cst (.int 0)))), (.asg (.nm 7) (.sub (.att (.var 0) 13) (.var 1))), (.asg (.att (.var 0) 32) (.heap (.dcr (.var 8) (.bin .sub (.sub (.att (.var 0) 32) (.var 8)) (.var 6)) (.nm 8) (.att (valI 0) 32) [(.cmp .notin (.var 8) (.var 5))] [8]))), (.asg (.sub (.att (.var 0) 32) (.var 1)) (.var 7)), (.ret (.me [1] 45 (.var 0) [(.tup [(.cst (.str "call")), (.var 1)]), (.tup [(.var 7), (.cst (.int 0)), (.var 6), (.bi .tuple [(.bi .sorted [(.var 5)])])]), (.var 7), (.cst (.int 0)), (.cst (.int 0))] []))]
abbrev fd_Keeper_call : Fd := ⟨4, 9, is_Keeper_call⟩ -- 132
def is_Keeper_void : List IS := [(.ex (.fn 28 [(.att (.var 0) 13), (.var 1)] [])), (.asg (.nm 2) (.mt .dpop (.att (.var 0) 32) [(.var 1), (.cst (.int 0))])), (.ret (.me [1] 45 (.var 0) [(.tup [(.cst (.str "void")), (.var 1)]), (.var 2), (.cst (.int 0)), (.cst (.int 0)), (.var 2)] []))]
abbrev fd_Keeper_void : Fd := ⟨2, 3, is_Keeper_void⟩ -- 133
def is_Keeper_accounts : List IS := [(.ret (.bi .dict [(.att (.var 0) 32)]))]
abbrev fd_Keeper_accounts : Fd := ⟨1, 1, is_Keeper_accounts⟩ -- 134
def is_Keeper_journal : List IS := [(.ret (.bi .list [(.att (.var 0) 35)]))]
abbrev fd_Keeper_journal : Fd := ⟨1, 1, is_Keeper_journal⟩ -- 135
def is_Keeper_mark : List IS := [(.ex (.mt .append (.att (.var 0) 36) [(.tup [(.bi .dict [(.att (.var 0) 32)]), (.bi .dict [(.att (.var 0) 33)]), (.att (.var 0) 34), (.bi .len [(.att (.var 0) 35)])])])), (.ret (.bin .sub (.bi .len [(.att (.var 0) 36)]) (.cst (.int 1))))]
abbrev fd_Keeper_mark : Fd := ⟨1, 1, is_Keeper_mark⟩ -- 136
def is_Keeper_back : List IS := [(.ite (.not (.fn 25 [(.var 1), (.cst (.int 0)), (.bin .sub (.bi .len [(.att (.var 0) 36)]) (.cst (.int 1)))] [])) [(.rais 3 (.var 1))] []), (.asg (.tp [(.nm 2), (.nm 3), (.att (.var 0) 34), (.nm 4)]) (.sub (.att (.var 0) 36) (.var 1))), (.asg (.tp [(.att (.var 0) 32), (.att (.var 0) 33)]) (.tup [(.heap (.bi .dict [(.var 2)])), (.heap (.bi .dict [(.var 3)]))])), (.asg (.att (.var 0) 14) (.bi .sorted [(.att (.var 0) 32)])), (.asg (.att (.var 0) 35) (.heap (.slc (.att (.var 0) 35) [] [(.var 4)]))), (.asg (.att (.var 0) 36) (.heap (.slc (.att (.var 0) 36) [] [(.bin .add (.var 1) (.cst (.int 1)))])))]
abbrev fd_Keeper_back : Fd := ⟨2, 5, is_Keeper_back⟩ -- 137
def is_missing : List IS := [(.for_ (.nm 2) .it [(.bi .sorted [(.var 0)])] [(.ite (.inown true 10 (.var 2) (.var 1)) [(.ret (.var 2))] [])]), (.ret (.cst .non))]
abbrev fd_missing : Fd := ⟨2, 3, is_missing⟩ -- 138
def is__law_chosen : List IS := [(.par 3 4 false false (.sub (.var 1) (.cst (.str "credits_so"))) (.fn 263 [(.var 1), (.var 2)] [])), (.asg (.tp [(.nm 5), (.nm 6)]) (.tup [(.cst .non), (.cst .non)])), (.ite (.and (.cmp .isin (.var 2) (.var 3)) (.cmp .gt (.fn 1 [(.var 0), (.cst (.int 3))] []) (.cst (.int 0)))) [(.asg (.nm 7) (.bin .sub (.sub (.sub (.var 1) (.cst (.str "things"))) (.var 2)) (.sub (.var 3) (.var 2)))), (.asg (.nm 5) (.fn 2 [(.var 0), (.lst [(.cst (.int 0)), (.var 7), (.fn 1 [(.var 0), (.bin .add (.var 7) (.cst (.int 1)))] []), (.bin .fdiv (.var 7) (.cst (.int 2)))])] []))] []), (.ite (.and (.cmp .ne (.var 4) (.lst [])) (.cmp .gt (.fn 1 [(.var 0), (.cst (.int 4))] []) (.cst (.int 0)))) [(.asg (.nm 8) (.lc (.var 9) (.nm 9) .it [(.var 4)] [(.cmp .eq (.fn 1 [(.var 0), (.cst (.int 3))] []) (.cst (.int 0)))] [9])), (.asg (.nm 6) (.sls (.bi .tuple [(.ite (.cmp .ne (.var 8) (.lst [])) (.var 8) (.lst [(.fn 2 [(.var 0), (.var 4)] [])]))]) (.fn 2 [(.var 0), (.lst [(.cst (.int 1)), (.neg (.cst (.int 1)))])] [])))] []), (.ret (.lst [(.var 5), (.var 6)]))]
abbrev fd__law_chosen : Fd := ⟨3, 10, is__law_chosen⟩ -- 144
def is__law_noted : List IS := [(.asg (.tp [(.sub (.var 0) (.cst (.str "paid"))), (.sub (.var 0) (.cst (.str "given_so")))]) (.tup [(.bin .add (.sub (.var 0) (.cst (.str "paid"))) (.var 3)), (.bin .add (.sub (.var 0) (.cst (.str "given_so"))) (.var 4))])), (.asg (.sub (.var 0) (.cst (.str "lost_so"))) (.bin .add (.sub (.var 0) (.cst (.str "lost_so"))) (.var 5))), (.asg (.sub (.var 0) (.cst (.str "told"))) (.bin .add (.sub (.var 0) (.cst (.str "told"))) (.lst [(.tup [(.var 1), (.var 2)])]))), (.ret (.var 2))]
abbrev fd__law_noted : Fd := ⟨6, 6, is__law_noted⟩ -- 145
def is_row_of : List IS := [(.ret (.lc (.var 1) (.tp [(.nm 1), (.nm 2)]) .it [(.var 0)] [] [1, 2]))]
abbrev fd_row_of : Fd := ⟨1, 3, is_row_of⟩ -- 158
def is_rents_of : List IS := [(.ret (.lc (.ite (.cmp .eq (.sub (.var 1) (.cst (.int 0))) (.cst (.str "call"))) (.sub (.var 2) (.cst (.int 2))) (.cst (.int 0))) (.tp [(.nm 1), (.nm 2)]) .it [(.var 0)] [] [1, 2]))]
abbrev fd_rents_of : Fd := ⟨1, 3, is_rents_of⟩ -- 159
def is_rent_limit : List IS := [(.asg (.nm 2) (.me [1] 47 (.var 0) [] [])), (.ret (.fn 94 [(.me [1] 16 (.var 0) [] []), (.fn 158 [(.var 2)] []), (.var 1), (.fn 159 [(.var 2)] [])] []))]
abbrev fd_rent_limit : Fd := ⟨2, 3, is_rent_limit⟩ -- 160
def is_Steps___init__ : List IS := [(.asg (.att (.var 0) 13) (.var 1)), (.asg (.att (.var 0) 12) (.var 2)), (.asg (.att (.var 0) 32) (.heap (.dsp [])))]
abbrev fd_Steps___init__ : Fd := ⟨3, 3, is_Steps___init__⟩ -- 173
def is_Steps_takes : List IS := [(.asg (.tp [(.nm 3), (.nm 4)]) (.var 1)), (.ite (.cmp .eq (.var 3) (.cst (.str "void"))) [(.asg (.nm 5) (.mt .dget (.att (.var 0) 32) [(.var 4), (.cst (.int 0))])), (.ite (.not (.fn 25 [(.var 2), (.var 5), (.var 5)] [])) [(.ret (.cst (.bl false)))] []), (.ex (.mt .dpop (.att (.var 0) 32) [(.var 4), (.cst .non)])), (.ret (.cst (.bl true)))] []), (.ite (.or (.not (.bi .isTup [(.var 2)])) (.or (.cmp .ne (.bi .len [(.var 2)]) (.cst (.int 4))) (.not (.bi .isTup [(.sub (.var 2) (.cst (.int 3)))])))) [(.ret (.cst (.bl false)))] []), (.ite (.cmp .isin (.var 4) (.att (.var 0) 32)) [(.ret (.me [2] 52 (.var 0) [(.var 4), (.var 2)] []))] []), (.ret (.me [2] 51 (.var 0) [(.var 4), (.var 2)] []))]
abbrev fd_Steps_takes : Fd := ⟨3, 6, is_Steps_takes⟩ -- 174
def is_Steps_takes_found : List IS := [(.asg (.nm 3) (.bin .sub (.sub (.att (.var 0) 13) (.var 1)) (.sub (.att (.var 0) 32) (.var 1)))), (.ite (.or (.not (.fn 25 [(.sub (.var 2) (.cst (.int 0))), (.cst (.int 0)), (.cst (.int 0))] [])) (.or (.not (.fn 25 [(.sub (.var 2) (.cst (.int 1))), (.cst (.int 0)), (.var 3)] [])) (.not (.fn 25 [(.sub (.var 2) (.cst (.int 2))), (.cst (.int 0)), (.cst (.int 0))] [])))) [(.ret (.cst (.bl false)))] []), (.asg (.sub (.att (.var 0) 32) (.var 1)) (.bin .add (.sub (.att (.var 0) 32) (.var 1)) (.sub (.var 2) (.cst (.int 1))))), (.ret (.cmp .eq (.sub (.var 2) (.cst (.int 3))) (.tup [])))]
abbrev fd_Steps_takes_found : Fd := ⟨3, 4, is_Steps_takes_found⟩ -- 175
def is_Steps_takes_fetched : List IS := [(.asg (.nm 3) (.sub (.att (.var 0) 13) (.var 1))), (.ite (.or (.not (.fn 25 [(.sub (.var 2) (.cst (.int 0))), (.var 3), (.var 3)] [])) (.not (.fn 25 [(.sub (.var 2) (.cst (.int 1))), (.cst (.int 0)), (.cst (.int 0))] []))) [(.ret (.cst (.bl false)))] []), (.par 5 6 false false (.cst (.int 0)) (.lst [])), (.ite (.cmp .ge (.bi .len [(.att (.var 0) 32)]) (.att (.var 0) 12)) [(.asg (.nm 5) (.bi .min [(.lcr (.sub (.att (.var 0) 32) (.var 7)) (.nm 7) (.att (valI 0) 32) [] [7])])), (.asg (.nm 6) (.lcr (.var 7) (.nm 7) (.att (valI 0) 32) [(.cmp .eq (.sub (.att (.var 0) 32) (.var 7)) (.var 5))] [7]))] []), (.asg (.nm 4) (.sub (.var 2) (.cst (.int 3)))), (.ite (.or (.not (.fn 25 [(.sub (.var 2) (.cst (.int 2))), (.var 5), (.var 5)] [])) (.or (.not (.fn 29 [(.var 4), (.var 6)] [])) (.cmp .ne (.bi .list [(.var 4)]) (.bi .sorted [(.var 4)])))) [(.ret (.cst (.bl false)))] []), (.ite (.and (.cmp .eq (.var 4) (.tup [])) (.cmp .ne (.var 6) (.lst []))) [(.ret (.cst (.bl false)))] []), (.asg (.att (.var 0) 32) (.heap (.dcr (.var 7) (.bin .sub (.sub (.att (.var 0) 32) (.var 7)) (.var 5)) (.nm 7) (.att (valI 0) 32) [(.cmp .notin (.var 7) (.var 4))] [7]))), (.asg (.sub (.att (.var 0) 32) (.var 1)) (.var 3)), (.ret (.cst (.bl true)))]
abbrev fd_Steps_takes_fetched : Fd := ⟨3, 8, is_Steps_takes_fetched⟩ -- 176
def is_fault : List IS := [(.asg (.nm 3) (.new 2 [(.var 0), (.var 1)] [])), (.for_ (.tp [(.nm 4), (.tp [(.nm 5), (.nm 6)])]) .enum [(.var 2)] [(.ite (.not (.me [2] 53 (.var 3) [(.var 5), (.var 6)] [])) [(.ret (.var 4))] [])]), (.ret (.cst .non))]
abbrev fd_fault : Fd := ⟨3, 7, is_fault⟩ -- 177
def is__law_moved : List IS := [(.own 4 (.bi .list [(.var 1)])), (.ite (.cmp .isin (.var 3) (.var 4)) [(.ret (.tup []))] []), (.own 5 (.lst [])), (.whl (.or (.cmp .ge (.bi .len [(.var 4)]) (.var 2)) (.and (.cmp .ne (.var 4) (.lst [])) (.cmp .eq (.fn 1 [(.var 0), (.cst (.int 6))] []) (.cst (.int 0))))) [(.ex (.mt .append (.var 5) [(.mt .pop (.var 4) [(.fn 1 [(.var 0), (.bi .len [(.var 4)])] [])])]))]), (.ret (.bi .tuple [(.var 5)]))]
abbrev fd__law_moved : Fd := ⟨4, 6, is__law_moved⟩ -- 188
def is__law_call : List IS := [(.asg (.tp [(.nm 5), (.nm 6)]) (.tup [(.cst .non), (.cst .non)])), (.ite (.and (.inown false 10 (.var 3) (.var 1)) (.cmp .gt (.fn 1 [(.var 0), (.cst (.int 3))] []) (.cst (.int 0)))) [(.asg (.nm 7) (.bin .sub (.sub (.var 2) (.var 3)) (.sub (.me [1] 38 (.var 1) [] []) (.var 3)))), (.asg (.nm 5) (.fn 2 [(.var 0), (.lst [(.cst (.int 0)), (.cst (.int 0)), (.var 7), (.fn 1 [(.var 0), (.bin .add (.var 7) (.cst (.int 1)))] [])])] []))] []), (.asg (.nm 4) (.me [1] 41 (.var 1) [(.var 3)] [])), (.ite (.and (.cmp .ne (.var 4) (.lst [])) (.cmp .gt (.fn 1 [(.var 0), (.cst (.int 3))] []) (.cst (.int 0)))) [(.asg (.nm 6) (.fn 2 [(.var 0), (.lst [(.bi .tuple [(.var 4)]), (.bi .tuple [(.slc (.var 4) [] [(.cst (.int 1))])]), (.bi .tuple [(.slc (.var 4) [(.neg (.cst (.int 1)))] [])]), (.tup [(.fn 2 [(.var 0), (.var 4)] [])])])] []))] []), (.ex (.me [1] 21 (.var 1) [(.var 3), (.var 5), (.var 6)] [.inl 0, .inl 1, .inl 2]))]
abbrev fd__law_call : Fd := ⟨4, 8, is__law_call⟩ -- 195
def is_block_plan : List IS := [(.asg (.nm 3) (.fn 7 [(.var 0)] [])), (.ite (.cmp .gt (.var 2) (.var 1)) [(.ret (.var 3))] []), (.asg (.nm 4) (.lc (.var 7) (.tp [(.nm 6), (.nm 7)]) .it [(.var 3)] [(.and (.cmp .ge (.var 7) (.var 1)) (.chn .lt .lt (.cst (.int 0)) (.bin .mod (.var 7) (.var 1)) (.var 2)))] [6, 7])), (.ret (.lc (.var 5) (.nm 5) .it [(.var 3)] [(.cmp .isin (.sub (.var 5) (.cst (.int 1))) (.var 4))] [5]))]
abbrev fd_block_plan : Fd := ⟨3, 8, is_block_plan⟩ -- 204
def is_Cruel___init__ : List IS := [(.asg (.att (.var 0) 13) (.bi .dict [(.var 1)])), (.asg (.att (.var 0) 54) (.var 2)), (.asg (.att (.var 0) 12) (.var 3)), (.asg (.att (.var 0) 55) (.heap (.lst []))), (.asg (.att (.var 0) 56) (.heap (.lst []))), (.asg (.att (.var 0) 57) (.heap (.lst []))), (.asg (.att (.var 0) 58) (.heap (.lst [])))]
abbrev fd_Cruel___init__ : Fd := ⟨4, 4, is_Cruel___init__⟩ -- 214
def is_Cruel_next_call : List IS := [(.ite (.cmp .lt (.bi .len [(.att (.var 0) 55)]) (.att (.var 0) 12)) [(.asg (.nm 2) (.sub (.lc (.var 4) (.nm 4) .it [(.bi .sorted [(.att (.var 0) 13)])] [(.cmp .notin (.var 4) (.att (.var 0) 55))] [4]) (.cst (.int 0)))), (.ex (.mt .append (.att (.var 0) 56) [(.var 2)]))] [(.ite (.cmp .lt (.bi .len [(.att (.var 0) 57)]) (.bin .add (.bin .sub (.att (.var 0) 54) (.att (.var 0) 12)) (.cst (.int 1)))) [(.asg (.nm 3) (.bin .add (.bin .add (.bi .list [(.var 1)]) (.att (.var 0) 56)) (.att (.var 0) 57))), (.asg (.nm 2) (.sub (.lc (.var 4) (.nm 4) .it [(.bi .sorted [(.att (.var 0) 13)])] [(.cmp .notin (.var 4) (.var 3))] [4]) (.cst (.int 0)))), (.ex (.mt .append (.att (.var 0) 57) [(.var 2)]))] [(.asg (.nm 2) (.sub (.lc (.var 4) (.nm 4) .it [(.bin .add (.att (.var 0) 56) (.att (.var 0) 57))] [(.cmp .notin (.var 4) (.var 1))] [4]) (.cst (.int 0)))), (.ex (.mt .append (.att (.var 0) 58) [(.var 2)]))])]), (.ite (.cmp .eq (.bin .add (.bi .len [(.att (.var 0) 57)]) (.bi .len [(.att (.var 0) 58)])) (.att (.var 0) 54)) [(.ex (.me [4] 62 (.var 0) [] []))] []), (.ex (.mt .append (.att (.var 0) 55) [(.var 2)])), (.ret (.var 2))]
abbrev fd_Cruel_next_call : Fd := ⟨2, 5, is_Cruel_next_call⟩ -- 215
def is_Cruel_end_round : List IS := [(.own 1 (.lst [(.sub (.att (.var 0) 57) (.neg (.cst (.int 1))))])), (.for_ (.nm 2) .it [(.bin .add (.att (.var 0) 58) (.att (.var 0) 56))] [(.ite (.and (.cmp .notin (.var 2) (.var 1)) (.cmp .lt (.bi .len [(.var 1)]) (.att (.var 0) 12))) [(.ex (.mt .append (.var 1) [(.var 2)]))] [])]), (.asg (.att (.var 0) 56) (.mv 1)), (.asg (.att (.var 0) 57) (.heap (.lst []))), (.asg (.att (.var 0) 58) (.heap (.lst [])))]
abbrev fd_Cruel_end_round : Fd := ⟨1, 3, is_Cruel_end_round⟩ -- 216
def is_Cruel_row : List IS := [(.ret (.lc (.tup [(.cst (.str "call")), (.var 1)]) (.nm 1) .it [(.att (.var 0) 55)] [] [1]))]
abbrev fd_Cruel_row : Fd := ⟨1, 2, is_Cruel_row⟩ -- 217
def is_gap : List IS := [(.par 5 6 false false (.me [1] 38 (.var 0) [] []) (.me [0] 16 (.var 1) [] [])), (.asg (.nm 2) (.bi .sum [(.lc (.bin .sub (.sub (.var 6) (.var 7)) (.mt .dget (.var 5) [(.var 7), (.cst (.int 0))])) (.nm 7) .it [(.me [0] 19 (.var 1) [] [])] [] [7])])), (.asg (.nm 3) (.bin .mul (.bin .add (.bin .sub (.att (.var 0) 12) (.att (.var 1) 12)) (.cst (.int 1))) (.prp (.var 0) 20))), (.asg (.nm 4) (.bin .mul (.bin .sub (.att (.var 1) 12) (.cst (.int 1))) (.bi .sum [(.lck (.sub (.var 5) (.var 7)) (.nm 7) false 5 [] [7])]))), (.ret (.bin .sub (.bin .sub (.bin .sub (.bin .mul (.att (.var 0) 12) (.prp (.var 1) 20)) (.var 3)) (.var 4)) (.bin .mul (.att (.var 0) 12) (.var 2))))]
abbrev fd_gap : Fd := ⟨2, 8, is_gap⟩ -- 260
def is_Line___init__ : List IS := [(.asg (.att (.var 0) 25) (.fn 8 [(.var 2)] [])), (.asg (.nm 3) (.dc (.var 9) (.var 8) (.tp [(.nm 8), (.nm 9)]) .enum [(.att (.var 0) 25)] [] [8, 9])), (.asg (.att (.var 0) 26) (.heap (.lst []))), (.asg (.att (.var 0) 27) (.heap (.lst []))), (.for_ (.tp [(.nm 4), (.nm 5)]) .it [(.fn 7 [(.var 2)] [])] [(.ite (.cmp .eq (.bin .add (.sub (.var 3) (.var 4)) (.cst (.int 1))) (.sub (.var 3) (.var 5))) [(.ex (.mt .append (.att (.var 0) 27) [(.tup [(.var 4), (.var 5)])]))] [(.asg (.nm 6) (.sub (.var 1) (.sub (.sub (.var 2) (.var 4)) (.cst (.int 1))))), (.ex (.mt .append (.att (.var 0) 26) [(.heap (.lst [(.bin .add (.sub (.var 3) (.var 4)) (.cst (.int 1))), (.sub (.var 3) (.var 5)), (.var 6), (.tup [(.var 4), (.var 5)]), (.cst (.bl false))]))]))])]), (.asg (.att (.var 0) 28) (.heap (.lc (.cst (.int 0)) (.nm 7) .it [(.att (.var 0) 25)] [] [7])))]
abbrev fd_Line___init__ : Fd := ⟨3, 10, is_Line___init__⟩ -- 261
def is__law_new : List IS := [(.own 2 (.dsp [(.cst (.str "places")), (.var 0), (.cst (.str "things")), (.var 1), (.cst (.str "credits_so")), (.heap (.dsp [])), (.cst (.str "last")), (.heap (.dsp [])), (.cst (.str "calls")), (.cst (.int 0))])), (.ex (.mt .upd (.var 2) [(.dsp [(.cst (.str "paid")), (.cst (.int 0)), (.cst (.str "given_so")), (.cst (.int 0)), (.cst (.str "lost_so")), (.cst (.int 0)), (.cst (.str "told")), (.lst [])])])), (.ret (.mv 2))]
abbrev fd__law_new : Fd := ⟨2, 3, is__law_new⟩ -- 262
def is__law_choices : List IS := [(.asg (.nm 2) (.sub (.var 0) (.cst (.str "credits_so")))), (.ite (.or (.cmp .isin (.var 1) (.var 2)) (.cmp .lt (.bi .len [(.var 2)]) (.sub (.var 0) (.cst (.str "places"))))) [(.ret (.lst []))] []), (.asg (.nm 3) (.bi .min [(.lcr (.sub (.var 2) (.var 4)) (.nm 4) (valI 2) [] [4])])), (.ret (.bi .sorted [(.lcr (.var 4) (.nm 4) (valI 2) [(.cmp .eq (.sub (.var 2) (.var 4)) (.var 3))] [4])]))]
abbrev fd__law_choices : Fd := ⟨2, 5, is__law_choices⟩ -- 263
def is__law_called : List IS := [(.par 9 10 false false (.sub (.var 0) (.cst (.str "credits_so"))) (.sub (.sub (.var 0) (.cst (.str "things"))) (.var 1))), (.asg (.nm 4) (.fn 263 [(.var 0), (.var 1)] [])), (.asg (.sub (.var 0) (.cst (.str "calls"))) (.bin .add (.sub (.var 0) (.cst (.str "calls"))) (.cst (.int 1)))), (.asg (.sub (.sub (.var 0) (.cst (.str "last"))) (.var 1)) (.sub (.var 0) (.cst (.str "calls")))), (.ite (.cmp .isin (.var 1) (.var 9)) [(.asg (.nm 11) (.ite (.cmp .is_ (.var 2) (.cst .non)) (.bin .sub (.var 10) (.sub (.var 9) (.var 1))) (.var 2))), (.asg (.sub (.var 9) (.var 1)) (.bin .add (.sub (.var 9) (.var 1)) (.var 11))), (.ret (.fn 145 [(.var 0), (.tup [(.cst (.str "call")), (.var 1)]), (.tup [(.cst (.int 0)), (.var 11), (.cst (.int 0)), (.tup [])]), (.cst (.int 0)), (.var 11), (.cst (.int 0))] []))] []), (.asg (.nm 5) (.var 3)), (.ite (.cmp .is_ (.var 3) (.cst .non)) [(.asg (.nm 5) (.bi .tuple [(.lc (.var 8) (.tp [(.nm 12), (.nm 8)]) .it [(.slc (.bi .sorted [(.lc (.tup [(.sub (.sub (.var 0) (.cst (.str "last"))) (.var 8)), (.var 8)]) (.nm 8) .it [(.var 4)] [] [8])]) [] [(.cst (.int 1))])] [] [12, 8])]))] []), (.asg (.nm 6) (.ite (.cmp .ne (.var 4) (.lst [])) (.bi .min [(.lcr (.sub (.var 9) (.var 8)) (.nm 8) (valI 9) [] [8])]) (.cst (.int 0)))), (.own 7 (.dsp [])), (.forr (.nm 8) (valI 9) [(.ite (.cmp .notin (.var 8) (.var 5)) [(.asg (.sub (.var 7) (.var 8)) (.bin .sub (.sub (.var 9) (.var 8)) (.var 6)))] [])]), (.asg (.sub (.var 7) (.var 1)) (.var 10)), (.asg (.sub (.var 0) (.cst (.str "credits_so"))) (.mv 7)), (.ret (.fn 145 [(.var 0), (.tup [(.cst (.str "call")), (.var 1)]), (.tup [(.var 10), (.cst (.int 0)), (.var 6), (.bi .tuple [(.bi .sorted [(.var 5)])])]), (.var 10), (.cst (.int 0)), (.cst (.int 0))] []))]
abbrev fd__law_called : Fd := ⟨4, 13, is__law_called⟩ -- 264
def is__law_voided : List IS := [(.asg (.nm 2) (.sub (.var 0) (.cst (.str "credits_so")))), (.asg (.sub (.var 0) (.cst (.str "credits_so"))) (.heap (.bi .dict [(.lcr (.tup [(.var 3), (.sub (.var 2) (.var 3))]) (.nm 3) (valI 2) [(.cmp .ne (.var 3) (.var 1))] [3])]))), (.ret (.fn 145 [(.var 0), (.tup [(.cst (.str "void")), (.var 1)]), (.mt .dget (.var 2) [(.var 1), (.cst (.int 0))]), (.cst (.int 0)), (.cst (.int 0)), (.mt .dget (.var 2) [(.var 1), (.cst (.int 0))])] []))]
abbrev fd__law_voided : Fd := ⟨2, 4, is__law_voided⟩ -- 265
def is__law_is_plan : List IS := [(.ite (.or (.not (.bi .isLst [(.var 2)])) (.cmp .ne (.lc (.var 4) (.nm 4) .it [(.var 2)] [(.not (.bi .isTup [(.var 4)]))] [4]) (.lst []))) [(.ret (.cst (.bl false)))] []), (.asg (.nm 3) (.lc (.bi .repr [(.var 4)]) (.nm 4) .it [(.fn 20 [(.var 0)] [])] [] [4])), (.ite (.cmp .ne (.lc (.var 4) (.nm 4) .it [(.var 2)] [(.cmp .notin (.bi .repr [(.var 4)]) (.var 3))] [4]) (.lst [])) [(.ret (.cst (.bl false)))] []), (.ret (.and (.cmp .eq (.var 2) (.bi .sorted [(.var 2)])) (.and (.cmp .eq (.bi .lensetL [(.var 2)]) (.bi .len [(.var 2)])) (.fn 23 [(.var 0), (.var 1), (.var 2)] []))))]
abbrev fd__law_is_plan : Fd := ⟨3, 5, is__law_is_plan⟩ -- 267
def is_tolls_of_v1 : List IS := [(.own 2 (.lc (.cst (.int 0)) (.nm 6) .it [(.var 1)] [] [6])), (.asg (.nm 3) (.sub (.me [3] 30 (.var 0) [] []) (.cst (.int 0)))), (.for_ (.tp [(.nm 4), (.nm 5)]) .enum [(.att (.var 0) 25)] [(.asg (.sub (.var 2) (.var 5)) (.bin .sub (.sub (.var 3) (.var 4)) (.sub (.var 3) (.bin .add (.var 4) (.cst (.int 1))))))]), (.ret (.mv 2))]
abbrev fd_tolls_of_v1 : Fd := ⟨2, 7, is_tolls_of_v1⟩ -- 269
def is_least_v1 : List IS := [(.asg (.nm 3) (.fn 91 [(.var 0), (.var 1), (.var 2)] [])), (.asg (.nm 4) (.heap (.bi .sorted [(.bin .add (.att (.var 3) 27) (.lc (.sub (.var 5) (.cst (.int 3))) (.nm 5) .it [(.att (.var 3) 26)] [(.sub (.var 5) (.cst (.int 4)))] [5]))]))), (.ret (.tup [(.fn 10 [(.var 0), (.var 1), (.var 4)] []), (.var 4), (.fn 269 [(.var 3), (.var 1)] [])]))]
abbrev fd_least_v1 : Fd := ⟨3, 6, is_least_v1⟩ -- 270
def is_is_things : List IS := [(.ite (.or (.not (.bi .isDct [(.var 0)])) (.not (.chn .le .le (.cst (.int 1)) (.bi .len [(.var 0)]) (.glb 0 (.int 20))))) [(.ret (.cst (.bl false)))] []), (.ret (.bi .all [(.lck (.and (.fn 26 [(.var 1)] []) (.fn 25 [(.sub (.var 0) (.var 1)), (.cst (.int 1)), (.glb 0 (.int 1000000))] [])) (.nm 1) false 0 [] [1])]))]
abbrev fd_is_things : Fd := ⟨1, 2, is_is_things⟩ -- 280
end Rs
end
section
set_option maxRecDepth 100000
set_option maxHeartbeats 4000000
/-! Dict comprehensions; comprehensions over dicts that are fields. -/
namespace Rs
open PySem PySem.Spec PyProof.Rows L2
section
variable {J : It} {n : Nat} {Gw : Hp → Prop} {Y : Nat → Hp → V → Hp → Prop}
end
section
variable {G : Gl} {T : Tab} {F : Call} {k : Nat} {X : Cx} {tg e : Expr} {pos : Pos}
/-- what a walk gives, as the comprehensions use it -/
abbrev YieldsL (G : Gl) (B : Cf) (items : List Val) (Y : Nat → Hp → V → Hp → Prop) : Prop :=
  ∀ i (C2 : Cf) H' x v s2 σ2, items[i]? = some x → Le B { C2 with rs := B.rs } → Rel G C2 s2 σ2 → Y i C2.H v H' → ∃ C3, C3.H = H' ∧ Le C2 C3 ∧ Rel G C3 s2 σ2 ∧ VR G C3 x v
/-- the new thing, at the end of the turns -/
abbrev FinL (G : Gl) (B : Cf) (σ : L2.St) (vs : List Nat) (s2 : S) (c : Cell) (Q : VK) : Prop :=
  ∀ D Ci, B.H D = none → Le B { Ci with rs := B.rs } → (Ci.rs = fun p => B.rs p ∨ p = D) → Rel G Ci s2 (L2.wipe σ vs) → CR G Ci c (Ci.H D) → Q (.ref D) Ci.H
/-- a comprehension's turns are sound: run goes over the items, Body is what is asked of it -/
def CoreL (G : Gl) (σ : L2.St) (vs : List Nat) (run : List Val → S → R Cell) (Body : It → Hp → VK → Prop) : Prop :=
  ∀ {Q : VK} {B : Cf} {sl s2 : S} {J : It} {items : List Val} {Gd : Hp → Prop} {Y : Nat → Hp → V → Hp → Prop} {c : Cell}, Rel G B sl σ → Walk J items.length Gd Y → (∀ C2 : Cf, Le B { C2 with rs := B.rs } → Gd C2.H) → YieldsL G B items Y →
    run items { sl with e := wipeE sl.e vs } = .ok c s2 → FinL G B σ vs s2 c Q → Body J B.H Q
def crunL (T : Tab) (F : Call) (p : Pat) (conds : List IE) (elt : IE) (vs : List Nat) (items : List Val) (s : S) : R Cell := (compL (patSet p) (evalTs T F conds) (fun s => (evalE T F elt s).val) vs putL items s []).bind fun acc s2 => .ok (.lst acc false) s2
def kvE (T : Tab) (F : Call) (key elt : IE) (s : S) : R (Key × Val) := (evalE T F key s).val.bind fun kv s => (evalE T F elt s).val.bind fun x s => match keyV kv with | some k => .ok (k, x) s | none => .bad
def crunD (T : Tab) (F : Call) (p : Pat) (conds : List IE) (key elt : IE) (vs : List Nat) (items : List Val) (s : S) : R Cell := (compL (patSet p) (evalTs T F conds) (kvE T F key elt) vs putD items s []).bind fun acc s2 => .ok (.dct acc false) s2
def bodyL (g : TG) (tt : TT) (te : TE) (vs : List Nat) (σ : L2.St) (J : It) (H : Hp) (Q : VK) : Prop := tLc (fun _ H R => R J H) g tt te vs σ H Q
def bodyD (g : TG) (tt : TT) (tk tv : TE) (vs : List Nat) (σ : L2.St) (J : It) (H : Hp) (Q : VK) : Prop := tDc (fun _ H R => R J H) g tt tk tv vs σ H Q
/-- an expression that changes nothing and does not look at locks; what it gives is a value -/
def Pu (T : Tab) (F : Call) (a : IE) : Prop := ∀ s x s1, evalE T F a s = .ok x s1 → s1 = s ∧ (∃ y, x = .v y) ∧ ∀ n kvs, s.h[n]? = some (.dct kvs false) → evalE T F a { s with h := s.h.set n (.dct kvs true) } = .ok x { s with h := s.h.set n (.dct kvs true) }
theorem PS.or {st : Stmt} {t u : TS} (h1 : PS X st t) (h2 : PS X st u) : PS X st (fun D σ H => t D σ H ∨ u D σ H) := ⟨fun pins s σ H D I h => h.elim (h1.run pins s σ H D I) (h2.run pins s σ H D I)⟩
end
end Rs
end
section
set_option maxRecDepth 100000
set_option maxHeartbeats 4000000
/-! A name is given a dict comprehension. -/
namespace Rs
open PySem PySem.Spec PyProof.Rows L2
section
variable {X : Cx} {G : Gl} {T : Tab} {F : Call} {k : Nat} {pos : Pos} {tg : Expr}
end
end Rs
end
section
set_option maxRecDepth 100000
set_option maxHeartbeats 1000000
/-! More methods of dicts; items of instances as targets; op= at places. -/
namespace Rs
open PySem PySem.Spec PyProof.Rows L2
section
variable {G : Gl} {T : Tab} {F : Call} {k : Nat} {X : Cx} {e f eo : Expr} {es : List Expr} {pos apos cpos : Pos} {a b c : IE} {as : List IE}
theorem lv_two' {C C' : Cf} {R : Addr → Prop} (l : Lv C C') : Lv C { C' with rs := R } := ⟨l.ρ, l.fz, l.hf⟩
theorem Vs_nil {s s' : S} {vs : List Val} (h : evalVs T F [] s = .ok vs s') : vs = [] ∧ s' = s := by
  unfold evalVs at h
  cases h
  exact ⟨rfl, rfl⟩
/-! ### dict displays -/
def pairUp : List V → List (V × V)
  | x :: y :: r => (x, y) :: pairUp r
  | _ => []
structure DP (G : Gl) (T : Tab) (F : Call) (X : Cx) (pos : Pos) (keys : List (Option Expr)) (values : List Expr) (as : List IE) : Prop where
  ex : ∃ trs, PPs X pos keys values trs ∧ ∀ σ H Q, tVs G (evalVs T F as) σ H (fun vs H2 => Q (pairUp vs) H2) → tPairs trs σ H Q
theorem sd_nil : DP G T F X pos [] [] [] := ⟨[], pps_nil, fun σ H Q ⟨C, s, vs, s', hH, rl, e, kk⟩ => by
  obtain ⟨rfl, rfl⟩ := Vs_nil e
  have := kk C [] (.refl C) rl VRs.nil
  rw [hH] at this
  exact this⟩
theorem sd_cons {ek ev : Expr} {ks : List (Option Expr)} {vs : List Expr} (hk : PE X ek (EE G T F a)) (hv : PE X ev (EE G T F b)) (d : DP G T F X pos ks vs as) : DP G T F X pos (some ek :: ks) (ev :: vs) (a :: b :: as) := by
  obtain ⟨trs, hp, ht⟩ := d.ex
  refine ⟨_, pps_cons hk hv hp, fun σ H Q ⟨C, s, ws, s', hH, rl, e, kk⟩ => ?_⟩
  unfold evalVs at e
  obtain ⟨x, s1, e1, e2⟩ := bind_ok e
  obtain ⟨xs, s2, e3, e4⟩ := bind_ok e2
  clear e e2
  unfold evalVs at e3
  obtain ⟨y, s3, e5, e6⟩ := bind_ok e3
  obtain ⟨zs, s4, e7, e8⟩ := bind_ok e6
  clear e3 e6
  cases e8
  cases e4
  show EE G T F a σ H fun x H1 => EE G T F b σ H1 fun y H2 => tPairs trs σ H2 fun ps H3 => Q ((x, y) :: ps) H3
  refine EE_of_val hH rl e1 fun C1 v l1 r1 h1 => EE_of_val rfl r1 e5 fun C2 w l2 r2 h2 => ht _ _ _ ⟨C2, s3, zs, _, rfl, r2, e7, fun C3 us l3 r3 h3 => ?_⟩
  exact kk C3 (v :: w :: us) ((l1.trans l2).trans l3) r3 (VRs.cons (h1.mono (l2.trans l3)) (VRs.cons (h2.mono l3) h3))
theorem kvs_rel {C : Cf} : ∀ {vs : List Val} {kvs : List (Key × Val)} {ws : List V}, kvsOf vs = some kvs → VRs G C vs ws → ∃ ks : List (Key × V), pairUp ws = ks.map (fun kv => (kV kv.1, kv.2)) ∧ VRk G C kvs ks ∧ vs.length = 2 * kvs.length
  | [], kvs, ws, h, r => by
    unfold VRs at r
    subst r
    cases h
    exact ⟨[], rfl, VRk.nil, rfl⟩
  | [x], kvs, ws, h, r => by cases h
  | x :: y :: vs, kvs, ws, h, r => by
    unfold VRs at r
    obtain ⟨u, t, rfl, hu, r⟩ := r
    unfold VRs at r
    obtain ⟨w, t, rfl, hw, r⟩ := r
    unfold kvsOf at h
    cases q1 : keyV x with
    | none => simp [q1] at h
    | some n =>
      cases q2 : kvsOf vs with
      | none => simp [q1, q2] at h
      | some rest =>
        simp only [q1, q2, Option.some.injEq] at h
        subst h
        obtain ⟨ks, h1, h2, h3⟩ := kvs_rel q2 r
        have hk := keyV_ok hu.nr q1
        refine ⟨(n, w) :: ks, by simp [pairUp, h1, hk], ?_, by simp [h3]; omega⟩
        unfold VRk
        exact ⟨w, ks, rfl, hw, h2⟩
theorem se_dsp {keys : List (Option Expr)} {values : List Expr} (ox : XO0 G k X) (d : DP G T F X pos keys values as) (hall : keys.all (·.isSome) = true := by rfl) (hl : keys.length = values.length := by rfl) (h0 : keys ≠ [] := by simp) (h15 : keys.length ≤ 15 := by decide) (ha : as.length ≤ 30 := by decide) :
    PE X (.Dict keys values pos) (EE G T F (.dsp as)) := by
  obtain ⟨trs, hp, ht⟩ := d.ex
  refine PE.weak (pe_disp hp hall hl h0 h15) fun σ H Q ⟨C, s, x, s', hH, rl, ev, kk⟩ p hn => ?_
  unfold evalE at ev
  obtain ⟨vs, s1, e1, ev2⟩ := bind_ok ev
  clear ev
  cases q : kvsOf vs with
  | none => simp [q] at ev2
  | some kvs =>
    simp only [q, R.ok.injEq] at ev2
    obtain ⟨rfl, rfl⟩ := ev2
    subst hH
    have fr := rl.fresh hn
    have no : ∀ (i : Nat) c, s.e[i]? = some (.own c) → σ[i]? ≠ some (some (.ref p)) := fun i c h z => own_tr rl h z hn
    have r1 : Rel G ((C.new p (.dK [])).keep (· = p)) s σ := (rl.new (o := .dK []) hn).keepOne ⟨fr.fz, fr.kp, fr.ρ, fr.rs⟩ (nt_upd fun ps z => nomatch z) no
    refine ht _ _ _ ⟨_, s, vs, s1, rfl, r1, e1, fun C2 ws l2 r2 h2 => ?_⟩
    have kp : C2.rs p := by rw [l2.rs]; exact .inr rfl
    have hp2 : C2.H p = some (.dK []) := l2.hk p (.inr (.inr rfl)) _ (show upd C.H p (.dK []) p = _ from upd_same)
    obtain ⟨ks, h3, h4, h5⟩ := kvs_rel q h2
    have hvl := Vs_len _ _ _ _ e1
    refine ⟨hp2, ks, h3, by rw [← h4.length]; omega, ?_⟩
    have hm : VRk G C2 (dmerge [] kvs) (mergeK [] ks) := h4.merge VRk.nil
    have r3 := r2.putR (o := .dK (mergeK [] ks)) kp (fun u e => by rw [hp2] at e; cases e; exact ⟨fun _ z => (nomatch z), fun _ z => (nomatch z)⟩)
    have nf : ¬ C2.fz p := fun z => r2.fzkp p z (.inr kp)
    have r4 : Rel G { C2.put p (.dK (mergeK [] ks)) with rs := C.rs } s1 σ := r3.unkeep fun q h => by show C2.rs q; rw [l2.rs]; exact .inl h
    have lv2 : Lv C2 (C2.put p (.dK (mergeK [] ks))) := lv_put nf
    have lE : Le C { C2.put p (.dK (mergeK [] ks)) with rs := C.rs } := by
      have l0 : Le C (C.new p (.dK [])) := Le.new hn
      have lb : Le (C.new p (.dK [])) { C2 with rs := C.rs } := le_back l2
      have l3 := l0.trans lb
      refine ⟨⟨l3.ρ, l3.fz, fun q h => (l3.hf q h).trans (.of fun u e => ?_)⟩, l3.kp, rfl, fun q h o e => ?_, fun q h b u e => ?_⟩
      · show upd C2.H p _ q = _
        rw [upd_ne fun z => nf (by rw [← z]; exact l3.fz q h)]
        exact e
      · show upd C2.H p _ q = _
        rw [upd_ne fun z => by rw [z, hn] at e; cases e]
        exact l3.hk q h o e
      · show upd C2.H p _ q = _
        rw [upd_ne fun z => by rw [z, hn] at e; cases e]
        exact l3.ff q h b u e
    refine kk _ (.ref p) lE r4 ⟨p, rfl, ⟨mergeK [] ks, upd_same, hm.mono0 (lv_two' lv2)⟩, ⟨nf, fun z => ?_, fun z => ?_, fr.rs⟩, rfl, fun i c h z => ?_⟩
    · exact fr.kp (by rw [← show C2.kp = C.kp from l2.kp]; exact z)
    · obtain ⟨n, hn3, e3⟩ := List.getElem_of_mem (show p ∈ C2.ρ from z)
      have h1 : n < s1.h.length := by rw [r2.hlen]; exact hn3
      exact (r2.cell n _ p (List.getElem?_eq_getElem h1) (by rw [List.getElem?_eq_getElem hn3, e3])).2.2.2 kp
    · obtain ⟨q2, a2, _, _, _, f2⟩ := r2.own i c h
      rw [z] at a2
      cases a2
      exact f2.2 kp
/-! ### an instance's field as a target -/
end
end Rs
end
section
set_option maxRecDepth 100000
set_option maxHeartbeats 3200000
/-! len(set(..)): of a tuple of texts, however many; of a list of tuples of ints. -/
namespace Rs
open PySem
section
open PyProof.Rows PySem.Spec
variable {prog : Program} {w : World} {A : Around}
end
open PySem.Spec PyProof.Rows L2
section
variable {G : Gl} {T : Tab} {F : Call} {k : Nat} {X : Cx} {e : Expr} {p p2 pos pos2 : Pos} {a : IE}
/-- a tuple of texts, and how many unlike ones -/
def rLenSetS (K : PySem.W.Frag) (te : TE) : TE := fun σ H Q => te σ H fun x H1 => ∃ (l : Addr) (ys : List Str), x = .ref l ∧ SqT K H1 l (ys.map V.str) ∧ ys.length < 64 ∧ Q (.int (dd ys).length) H1
end
end Rs
end
section
set_option maxRecDepth 100000
set_option maxHeartbeats 3200000
/-! len(set(..)) of a list of tuples of ints. -/
namespace Rs
open PySem
open PySem.Spec PyProof.Rows L2
section
variable {G : Gl} {T : Tab} {F : Call} {k : Nat} {X : Cx} {e : Expr} {p p2 pos pos2 : Pos} {a : IE}
/-- a list of tuples of ints, and how many unlike ones -/
def rLenSetT (K : PySem.W.Frag) (te : TE) : TE := fun σ H Q => te σ H fun x H1 => ∃ (l : Addr) (ks : List (Addr × List Int)), x = .ref l ∧ SqL K H1 l (ks.map fun p => V.ref p.1) ∧ (∀ p ∈ ks, SqT K H1 p.1 (p.2.map V.int)) ∧ ks.length < 64 ∧ Q (.int (dd (ks.map (·.2))).length) H1
end
end Rs
end
section
set_option maxRecDepth 100000
set_option maxHeartbeats 4000000
/-! sorted(d.items()). -/
namespace Rs
open PySem PySem.Spec PyProof.Rows L2 PySem.Calls
section
variable {G : Gl} {T : Tab} {F : Call} {k : Nat} {X : Cx} {e : Expr} {p pos apos cpos : Pos} {a : IE}
def rItemsK : V → Hp → VK → Prop := fun x H Q => ∃ (d : Addr) (kvs : List (Key × V)), x = .ref d ∧ Rd H d (.dK kvs) ∧ ∀ p, H p = none → Q (.ref p) (upd H p (DX.itemsO p d))
def cfT (C : Cf) (H' : Hp) (ts : List Addr) : Cf := ⟨C.ρ, fun q => C.fz q ∨ q ∈ ts, C.kp, C.rs, H'⟩
def rSortV (G : Gl) : List V → Hp → VK → Prop := fun vs H Q => ∃ C p d kvs xs r, C.H = H ∧ vs = [.ref p] ∧ H p = some (DX.itemsO p d) ∧ Rd H d (.dK kvs) ∧ VRk G C xs kvs ∧ vsort (xs.map fun kv => .tup [vKey kv.1, kv.2]) = some r ∧
  ∀ (H' : Hp) (l : Addr) (ts : List Addr) (zs : List V), (∀ b o, H b = some o → H' b = some o) → (∀ t ∈ ts, H t = none) → Paired (fun (t : Addr) (q : Key × V) => H' t = some (.tup [kV q.1, q.2])) ts kvs → H' l = none → VRs G (cfT C H' ts) r zs → Q (.ref l) (upd H' l (.lst zs))
end
end Rs
end
section
set_option maxRecDepth 100000
set_option maxHeartbeats 4000000
/-! list(zip(xs, ys)). -/
namespace Rs
open PySem
structure ZipG (xs ys : Array Value) (S : Nat) (h : Heap) (as : List Nat) : Prop where
  above : ∀ a : Nat, a ∈ as → S < a
  rise : as.Pairwise (fun (a b : Nat) => a < b)
  pairs : ∀ (j a : Nat), as[j]? = some a → ∃ x y, xs[j]? = some x ∧ ys[j]? = some y ∧ h.get? a = some { cls := .type "tuple", data := .seq #[x, y] }
structure ZSt (z TI TO i1 i2 l1 l2 S : Addr) (xs ys : Array Value) (i : Nat) (h : Heap) : Prop where
  ti : IsPair h TI (.ref i1) (.ref i2)
  u1 : h.IsListIter i1 l1 i
  u2 : h.IsListIter i2 l2 i
  v1 : h.IsList l1 xs
  v2 : h.IsList l2 ys
  st : (IsZip h z TI TO .none ∧ ∃ a b, IsPair h TO a b) ∨ ∃ T f oT, IsZipHeld h z TI TO T f ∧ h.get? T = some oT ∧ T ≠ z ∧ T ≠ i1 ∧ T ≠ i2 ∧ T ≠ S
section
variable {prog : Program} {w : World} {A : Around} {z TI TO i1 i2 l1 l2 S : Nat} {xs ys : Array Value}
variable {E : Value → Shared → Prop} {s : Shared}
end
open PySem.Spec PyProof.Rows L2
/-- the tuples tracked at their addresses -/
def putP : Hp → List Nat → List (V × V) → Hp
  | H, a :: as, p :: kvs => putP (upd H a (.tup [p.1, p.2])) as kvs
  | H, _, _ => H
def rZipL (K : PySem.W.Frag) : List V → Hp → VK → Prop := fun vs H Q => ∃ (l1 l2 : Addr) (xs ys : List V), vs = [.ref l1, .ref l2] ∧ SqL K H l1 xs ∧ SqL K H l2 ys ∧
  ∀ (H' : Hp) (p : Addr) (ts : List Addr), (∀ b o, H b = some o → H' b = some o) → H p = none → (∀ t ∈ ts, H t = none) → p ∉ ts → H' p = some (.lst (ts.map V.ref)) → Paired (fun (t : Addr) (q : V × V) => H' t = some (.tup [q.1, q.2])) ts (xs.zip ys) → Q (.ref p) H'
section
variable {X : Cx} {e e2 : Expr} {p cpos czp pos : Pos} {ta : TA}
variable {G : Gl} {T : Tab} {F : Call} {k : Nat} {a b : IE}
end
end Rs
end
section
set_option maxRecDepth 100000
set_option maxHeartbeats 4000000
/-! Three names at once, by a tuple that is unpacked. -/
namespace Rs
open PySem PySem.Spec PyProof.Rows L2
section
variable {G : Gl} {T : Tab} {F : Call} {k : Nat} {X : Cx} {ea eb ec : Expr} {pos pt px py pz : Pos} {a b c : IE} {x y z : Str}
end
end Rs
end
section
set_option maxRecDepth 100000
set_option maxHeartbeats 4000000
/-! The head where there are classes: functions by paths. -/
namespace Rs
open PySem PySem.Spec PyProof.Rows L2
/-- a def that stands at a path -/
structure PathD where
  path : PySem.W.Frag → Addr
  d : He.DefD
def fnA (K : PySem.W.Frag) (a : Addr) : He.FnW := match K.lookup a with
  | some ⟨_, _, .func fd, _⟩ => some (fd.name, fd.qualname, fd.params, fd.body, fd.scope, fd.globals, fd.closure, fd.builtins)
  | _ => none
def PathD.ok (K : PySem.W.Frag) (p : PathD) : Bool := PySem.W.keepIn K (.ref (p.path K)) && (match K.lookup (p.path K) with
  | some ⟨_, _, .func fd, _⟩ => PySem.W.codeIn K fd.code p.d.qual && (He.dflB K fd.defaults (p.d.dvs K) && He.kwdB K fd.kwdefaults (p.d.kws K))
  | _ => false)
theorem PathD.funD {K : PySem.W.Frag} {p : PathD} (e : fnA K (p.path K) = p.d.val) (c : p.ok K = true) : ∃ fd, FunD K p.d.name p.d.qual p.d.params p.d.body p.d.scope (p.d.dvs K) (p.d.kws K) (p.path K) fd := by
  obtain ⟨kp, c2⟩ := He.ba c
  unfold fnA at e
  cases q : K.lookup (p.path K) with
  | none =>
    rw [q] at c2
    cases c2
  | some o =>
    obtain ⟨oc, od, dt, osl⟩ := o
    rw [q] at c2 e
    cases dt with
    | func fd =>
      obtain ⟨n1, n2, n3, n4, n5, n6, n7, n8, n9, n10, n11, n12, n13, n14, n15⟩ := fd
      have e2 : (some (n1, n2, n3, n4, n5, n6, n7, n15) : He.FnW) = some (p.d.name, p.d.qual, p.d.params, .stmts p.d.body, p.d.scope, mainGlobals, [], builtinsNs) := e
      simp only [Option.some.injEq, Prod.mk.injEq] at e2
      obtain ⟨h1, h2, h3, h4, h5, h6, h7, h8⟩ := e2
      subst h1 h2 h3 h4 h5 h6 h7 h8
      have c3 : (PySem.W.codeIn K n13 p.d.qual && (He.dflB K n8 (p.d.dvs K) && He.kwdB K n9 (p.d.kws K))) = true := c2
      obtain ⟨k1, k2⟩ := He.ba c3
      obtain ⟨k3, k4⟩ := He.ba k2
      exact ⟨_, ⟨oc, od, n8, n9, n10, n11, n12, n13, n14, osl, rfl, q, k1, He.dflB_ok k3, He.kwdB_ok k4⟩, kp⟩
    | _ => cases c2
abbrev AlQ : Type := Bool × List He.FnW
def obsQ (n : Nat) (ow : PySem.W.Frag → Bool) (fa : List He.Fa) (fn : List PathD) (g : Addr → Option Obj) : AlQ :=
  ((sysB (He.frG g (asR g n)) && ow (He.frG g (asR g n))) && ((fa.all fun f => f.ok (He.frG g (asR g n))) && fn.all fun p => p.ok (He.frG g (asR g n))), fn.map fun p => fnA (He.frG g (asR g n)) (p.path (He.frG g (asR g n))))
structure SaysQ (ow : PySem.W.Frag → Bool) (fa : List He.Fa) (fn : List PathD) (K : PySem.W.Frag) : Prop where
  b : ((sysB K && ow K) && ((fa.all fun f => f.ok K) && fn.all fun p => p.ok K)) = true
  v : (fn.map fun p => fnA K (p.path K)) = fn.map fun p => p.d.val
def valQ (fn : List PathD) : AlQ := (true, fn.map fun p => p.d.val)
def hookQ (n : Nat) (ow : PySem.W.Frag → Bool) (fa : List He.Fa) (fn : List PathD) : PySem.W.Hook where
  α := AlQ
  obs := fun s => obsQ n ow fa fn s.heap.get?
  val := fun _ => valQ fn
  says := fun _ h => ∃ K : PySem.W.Frag, K.In h ∧ SaysQ ow fa fn K
  of := fun _ _ e => ⟨_, He.frG_in, congrArg (fun z : AlQ => z.1) e, congrArg (fun z : AlQ => z.2) e⟩
  keeps := fun _ _ _ ⟨K, hK, c⟩ k => ⟨K, PySem.W.Frag.In.keeps hK k, c⟩
theorem obsQ_eq {n : Nat} {ow : PySem.W.Frag → Bool} {fa : List He.Fa} {fn : List PathD} {g : Addr → Option Obj} {s : Shared} (h : ∀ a, g a = s.heap.get? a) : obsQ n ow fa fn g = (hookQ n ow fa fn).obs s := by
  have e : g = s.heap.get? := funext h
  subst e
  rfl
section
variable {ow : PySem.W.Frag → Bool} {fa : List He.Fa} {fn : List PathD} {K : PySem.W.Frag}
theorem SaysQ.sys (c : SaysQ ow fa fn K) : sysB K = true := (He.ba (He.ba c.b).1).1
theorem SaysQ.own (c : SaysQ ow fa fn K) : ow K = true := (He.ba (He.ba c.b).1).2
theorem SaysQ.fact (c : SaysQ ow fa fn K) (i : Nat) {f : He.Fa} (h : fa[i]? = some f := by rfl) : f.ok K = true :=
  List.all_eq_true.mp (He.ba (He.ba c.b).2).1 f (List.mem_of_getElem? h)
theorem SaysQ.def_ (c : SaysQ ow fa fn K) (i : Nat) {p : PathD} (h : fn[i]? = some p := by rfl) : ∃ fd, FunD K p.d.name p.d.qual p.d.params p.d.body p.d.scope (p.d.dvs K) (p.d.kws K) (p.path K) fd := by
  have e2 : (fn.map fun p => fnA K (p.path K))[i]? = (fn.map fun p => p.d.val)[i]? := by rw [c.v]
  rw [List.getElem?_map, List.getElem?_map, h] at e2
  exact PathD.funD (Option.some.inj e2) (List.all_eq_true.mp (He.ba (He.ba c.b).2).2 p (List.mem_of_getElem? h))
end
/-! ### facts of one's own -/
def prA (K : PySem.W.Frag) (C f : Str) : Addr := He.ma K (He.ga K C) f
def prG (K : PySem.W.Frag) (C f : Str) : Addr := match PySem.W.recIn K (prA K C f) "property" with
  | some (.ref g :: _) => g
  | _ => 0
def prB (K : PySem.W.Frag) (C f : Str) : Bool := He.eqO (PySem.W.findIn K (.ref (He.ga K C)) f) (some (some (.ref (prA K C f)))) && (He.eqO (PySem.W.specialIn K (.ref (prA K C f)) "__get__") (some (some (.builtin "property.__get__"))) &&
  (decide (PySem.W.takesIn K (.ref (prA K C f)) = some true) && (match PySem.W.recIn K (prA K C f) "property" with
  | some (.ref _ :: _) => true
  | _ => false)))
/-- a keyword's default that is an object -/
def kwA (K : PySem.W.Frag) (f : Str × Option Str) (x : Str) : Addr := match K.lookup (He.fAd K f) with
  | some ⟨_, _, .func fd, _⟩ => (match fd.kwdefaults with
    | .ref D => (match PySem.W.nsIn K D x with
      | some (some (.ref a)) => a
      | _ => 0)
    | _ => 0)
  | _ => 0
def tup0 (K : PySem.W.Frag) (a : Addr) : Bool := match K.lookup a with
  | some ⟨.type c, _, .seq its _, _⟩ => decide (c = "tuple") && decide (its.size = 0)
  | _ => false
end Rs
end
section
set_option maxRecDepth 100000
set_option maxHeartbeats 4000000
/-! What is raised: statements beside the interpreter's excS. -/
namespace L2
open PySem PySem.Spec PyProof.Rows
section
variable {X : Cx}
theorem PA.nox {es : List Expr} {t : TA} (h : PA X.nox es t) : PA X es t := ⟨fun pos pins s σ H Q I hw =>
  wpAny_mono (h.run pos pins s σ H Q (I.wish _) hw) (fun _ _ ⟨v, H', I', r, q⟩ => ⟨v, H', I'.unwish, r, q⟩) fun _ _ z => False.elim z⟩
theorem PS.nox {st : Stmt} {t : TS} (h : PS X.nox st t) : PS X st t := ⟨fun pins s σ H D I hw =>
  wpAny_mono (h.run pins s σ H D (I.wish _) hw) (fun _ _ q => q.unwish) fun _ _ z => False.elim z⟩
end
end L2
namespace Rs
open PySem PySem.Spec PyProof.Rows L2
/-- an exception class of the program: its object, its attribute -/
structure XC where
  cls : Addr
  fld : Str
section
variable {G : Gl} {T : Tab} {F : Call} {xc : Nat → XC} {W : WX} {X : Cx}
/-- what is wished where v of class c is raised -/
def XW (G : Gl) (xc : Nat → XC) (W : WX) (c : Nat) (v : Val) (s' : S) (C : Cf) : Prop := ∀ C' σ' u d, Le C C' → Rel G C' s' σ' → VR G C' v u → C'.H d = some (.xd [((xc c).fld, u)]) → W (.ref (xc c).cls) (some d) σ' C'.H
theorem XW.mono {c : Nat} {v : Val} {s' : S} {C C1 : Cf} (h : XW G xc W c v s' C) (l : Le C C1) : XW G xc W c v s' C1 := fun C' σ' u d l2 r h1 h2 => h C' σ' u d (l.trans l2) r h1 h2
/-- a statement that may raise -/
def tX (G : Gl) (xc : Nat → XC) (f : S → R Fl) (g : S → Option (Nat × Val × S)) (W : WX) : TS := fun D σ H => ∃ C s, C.H = H ∧ Rel G C s σ ∧ ((∃ fl s', f s = .ok fl s' ∧ ∀ C' σ', Le C C' → Rel G C' s' σ' → endF G D fl C' σ') ∨ ∃ c v s', g s = some (c, v, s') ∧ XW G xc W c v s' C)
abbrev SX (G : Gl) (xc : Nat → XC) (T : Tab) (F : Call) (p : IS) (W : WX) : TS := tX G xc (execS T F p) (excS T F p) W
abbrev SXs (G : Gl) (xc : Nat → XC) (T : Tab) (F : Call) (ps : List IS) (W : WX) : TS := tX G xc (execSs T F ps) (excSs T F ps) W
variable {k : Nat} {e : Expr} {es : List Expr} {as : List IE} {a c : IE} {st : Stmt} {rest rest2 : List Stmt} {p : IS} {ps qs : List IS} {pos cpos np : Pos}
theorem sx_nil : PSs X [] (SXs G xc T F [] W) := by
  refine PSs.weak pss_nil fun D σ H ⟨C, s, hH, rl, h⟩ => ?_
  rcases h with ⟨fl, s', e, kk⟩ | ⟨c, v, s', e, _⟩
  · unfold execSs at e
    cases e
    subst hH
    exact kk C σ (.refl C) rl
  · unfold excSs at e
    cases e
theorem sx_cons (h1 : PS X st (SX G xc T F p W)) (h2 : PSs X rest (SXs G xc T F ps W)) : PSs X (st :: rest) (SXs G xc T F (p :: ps) W) := by
  refine PSs.weak (pss_cons h1 h2) fun D σ H ⟨C, s, hH, rl, h⟩ => ?_
  rcases h with ⟨fl, s', e, kk⟩ | ⟨c, v, s', e, kk⟩
  · unfold execSs at e
    cases q : execS T F p s with
    | bad => simp [q] at e
    | exc c v s1 => simp [q] at e
    | ok f1 s1 =>
      rw [q] at e
      refine ⟨C, s, hH, rl, .inl ⟨f1, s1, q, fun C1 σ1 l1 r1 => ?_⟩⟩
      cases f1 with
      | nx => exact ⟨C1, s1, rfl, r1, .inl ⟨fl, s', e, fun C2 σ2 l2 r2 => kk C2 σ2 (l1.trans l2) r2⟩⟩
      | bk => simp only [R.ok.injEq] at e; obtain ⟨rfl, rfl⟩ := e; exact kk C1 σ1 l1 r1
      | ct => simp only [R.ok.injEq] at e; obtain ⟨rfl, rfl⟩ := e; exact kk C1 σ1 l1 r1
      | rt v => simp only [R.ok.injEq] at e; obtain ⟨rfl, rfl⟩ := e; exact kk C1 σ1 l1 r1
  · unfold excSs at e
    cases q : execS T F p s with
    | bad => rw [q] at e; exact ⟨C, s, hH, rl, .inr ⟨c, v, s', e, kk⟩⟩
    | exc c1 v1 s1 => rw [q] at e; exact ⟨C, s, hH, rl, .inr ⟨c, v, s', e, kk⟩⟩
    | ok f1 s1 =>
      rw [q] at e
      cases f1 with
      | nx => exact ⟨C, s, hH, rl, .inl ⟨.nx, s1, q, fun C1 σ1 l1 r1 => ⟨C1, s1, rfl, r1, .inr ⟨c, v, s', e, kk.mono l1⟩⟩⟩⟩
      | bk => cases e
      | ct => cases e
      | rt v => cases e
theorem sx_if (hc : PT X.nox e (EB G T F c)) (h1 : PSs X rest (SXs G xc T F ps W)) (h2 : PSs X rest2 (SXs G xc T F qs W)) : PS X (.If e rest rest2 pos) (SX G xc T F (.ite c ps qs) W) := by
  refine PS.weak (ps_if (PT.nox hc) h1 h2) fun D σ H ⟨C, s, hH, rl, h⟩ => ?_
  rcases h with ⟨fl, s', e, kk⟩ | ⟨c, v, s', e, kk⟩
  · unfold execS at e
    obtain ⟨kb, s1, e1, e⟩ := bind_ok e
    refine ⟨C, s, kb, s1, hH, rl, e1, fun C1 l1 r1 => ?_⟩
    cases kb with
    | true => rw [if_pos rfl]; exact ⟨C1, s1, rfl, r1, .inl ⟨fl, s', e, fun C2 σ2 l2 r2 => kk C2 σ2 (l1.trans l2) r2⟩⟩
    | false => rw [if_neg (by simp)]; exact ⟨C1, s1, rfl, r1, .inl ⟨fl, s', e, fun C2 σ2 l2 r2 => kk C2 σ2 (l1.trans l2) r2⟩⟩
  · unfold excS at e
    split at e
    · rename_i s1 q
      exact ⟨C, s, true, s1, hH, rl, q, fun C1 l1 r1 => by show if (true : Bool) = true then _ else _; rw [if_pos rfl]; exact ⟨C1, s1, rfl, r1, .inr ⟨_, v, s', e, kk.mono l1⟩⟩⟩
    · rename_i s1 q
      exact ⟨C, s, false, s1, hH, rl, q, fun C1 l1 r1 => by show if (false : Bool) = true then _ else _; rw [if_neg (by simp)]; exact ⟨C1, s1, rfl, r1, .inr ⟨_, v, s', e, kk.mono l1⟩⟩⟩
    · cases e
/-! ### calls that may raise -/
def spE (G : Gl) (xc : Nat → XC) (F : Call) (id np : Nat) : Sp := fun vs H Q E => vs.length = np ∧ ∃ C xs h, C.H = H ∧ Rel G C ⟨[], h⟩ [] ∧ VRs G C xs vs ∧
  ((∃ r s2, F id xs h = .ok r s2 ∧ ∀ C' v, Le C C' → Rel G C' ⟨[], s2.h⟩ [] → VR G C' r v → Q v C'.H) ∨
    ∃ c v s2, F id xs h = .exc c v s2 ∧ ∀ C' u d, Le C C' → Rel G C' ⟨[], s2.h⟩ [] → VR G C' v u → C'.H d = some (.xd [((xc c).fld, u)]) → E (.ref (xc c).cls) (some d) C'.H)
/-- a def that may raise, called where no repr is under way -/
structure FnE (P : Program) (w : World) (K : PySem.W.Frag) (mg : Str → Option Value) (base : Heap) (k : Nat) (f : Addr) (fd : FuncData) (ps : List Str) (sp : Sp) : Prop where
  len : ∀ vs H Q E, sp vs H Q E → vs.length = ps.length
  run : ∀ (A : Around) (outer : List Env) (s : Shared) (H : Hp) (args : Args) (us : List Value) (vs : List V) (Q : VK) (E : XK), A.guards = some [] → Room k A → Env0 P w K mg base A outer s H → BindsTo s fd args (ps.zip us) → Vals vs us → sp vs H Q E →
    codeAny (model P w) A (.call (.ref f) args) (L2.CR (L2.CX P w) outer P w H s Q E) s
section
variable {f : Addr} {fd : FuncData} {pz : List Str} {sp : Sp} {E : L2.St → XK} {x : Str} {t : TA}
end
structure HaveE (G : Gl) (xc : Nat → XC) (F : Call) (P : Program) (w : World) (K : PySem.W.Frag) (mg : Str → Option Value) (base : Heap) (k : Nat) (x : Str) (id np : Nat) : Prop where
  ex : ∃ f fd ps, FnE P w K mg base k f fd ps (spE G xc F id np) ∧ mg x = some (.ref f) ∧ PySem.W.keepIn K (.ref f) = true ∧ Binds K fd ps []
/-! ### raise -/
/-- the __init__ of an exception class: self.f = f -/
def spIni (C : Addr) (f : Str) : Sp := fun vs H Q _ => ∃ a y, vs = [.ref a, y] ∧ H a = some (exo a C none) ∧ ∀ dx, H dx = none → dx ≠ a → Q .non (upd (upd H dx (exd dx [(f, y)])) a (exo a C (some dx)))
structure HaveC (xc : Nat → XC) (P : Program) (w : World) (K : PySem.W.Frag) (mg : Str → Option Value) (base : Heap) (k : Nat) (x : Str) (c : Nat) : Prop where
  t : OexC K (xc c).cls
  m : mg x = some (.ref (xc c).cls)
  ex : ∃ fI fd ps, PySem.W.findIn K (.ref (xc c).cls) "__init__" = some (some (.ref fI)) ∧ PySem.W.typeIn K (.ref fI) = some (.type "function") ∧ FnOk P w K mg base CX0 k fI fd ps (spIni (xc c).cls (xc c).fld) ∧ Binds K fd ps []
theorem ini_end {C a dx : Addr} {f : Str} {y : V} {H : Hp} (ha : H a = none) (hd : dx ≠ a) : upd (del (upd (upd (upd H a (exo a C none)) dx (exd dx [(f, y)])) a (exo a C (some dx))) a) dx (.xd [(f, y)]) = upd H dx (.xd [(f, y)]) := by
  funext b
  unfold upd del
  by_cases h1 : b = dx
  · simp [h1]
  · by_cases h2 : b = a
    · simp [h1, h2, ha]
    · simp [h1, h2]
theorem sx_raise (tk : Takes X W) (o : XO G k X.nox) {x : Str} {cn k' : Nat} (hv : HaveC xc X.prog X.w X.K X.mg X.base k' x cn) (hk : k' + 1 ≤ k) (hg : L2.Gl X x) (ha : PE X.nox e (EE G T F a))
    (hdb : (x == ("__debug__" : Str)) = false := by decide) (st1 : starEach [e] X.env = (false, eval e X.env) :: starEach [] X.env := by rfl) (st2 : (backTo cpos (starEach [] X.env)).any (·.1) = false := by rfl) : PS X (.Raise (some (.Call (.Name x np) [e] [] cpos)) none pos) (SX G xc T F (.rais cn a) W) := by
  obtain ⟨fI, fd, ps, h1, h2, h3, h4⟩ := hv.ex
  refine PS.weak (ps_raise o.calm tk (pmk_oex hv.t h1 h2 h3 (Room.mono o.room hk) h4 .nil pass0 hg hv.m (pa_cons (PE.nox ha) pa_nil st1) hdb st1 st2)) fun D σ H ⟨C, s, hH, rl, h⟩ => ?_
  rcases h with ⟨fl, s', ev, kk⟩ | ⟨c, v, s', ev, kk⟩
  · unfold execS at ev
    cases ev
  · unfold excS at ev
    split at ev
    · rename_i v1 s1 q
      simp only [Option.some.injEq, Prod.mk.injEq] at ev
      obtain ⟨rfl, rfl, rfl⟩ := ev
      show EE G T F a σ H fun u H1 => _
      refine EE_of_val hH rl q fun C1 u l1 r1 hu => ?_
      refine ⟨by simp, fun b hb => ⟨b, u, rfl, by simp [upd], fun dx hdx hne => ⟨rfl, dx, [((xc cn).fld, u)], by simp [upd], by simp [upd, hne], ?_, ?_⟩⟩⟩
      · simpa [upd, hne] using hdx
      · rw [ini_end hb hne]
        have hd0 : C1.H dx = none := by simpa [upd, hne] using hdx
        exact kk (C1.new dx (.xd [((xc cn).fld, u)])) σ u dx (l1.trans (Le.new hd0)) (r1.new hd0) (hu.mono (Le.new hd0)) (by simp [Cf.new, upd])
    · cases ev
end
end Rs
end
section
set_option maxRecDepth 100000
set_option maxHeartbeats 4000000
/-! Generator defs: if and for. -/
namespace Rs
open PySem PySem.Spec PyProof.Rows L2 GenW
section
variable {X : Cx}
def tGIf (c : TT) (ta tb : TGn) : TGn := fun D ys σ H => c σ H fun b H1 => if b = true then ta D ys σ H1 else tb D ys σ H1
def tGFor (wi : TI) (g : TG) (tb : TGn) : TGn := fun D ys σ H => wi σ H fun J H1 => ∃ W : Nat → Nat → List V → L2.St → Hp → Prop, (∃ m, W 0 m ys σ H1) ∧ ∀ i m ys σ H, W i m ys σ H →
  (J.stop i H ∧ D.nx ys σ H) ∨ (J.go i H ∧ ∃ N : List V → L2.St → Hp → Prop, (∀ ys' σ' H', N ys' σ' H' → ∃ m', m' < m ∧ W (i + 1) m' ys' σ' H') ∧ ∀ x H', J.yld i H x H' → g x σ H' fun σ2 H2 => tb { D with nx := N, ct := N, bk := D.nx } ys σ2 H2)
end
end Rs
end
section
set_option maxRecDepth 100000
set_option maxHeartbeats 4000000
/-! Generator defs: their statements beside the interpreter's; list(f(..)). -/
namespace Rs
open PySem PySem.Spec PyProof.Rows L2 GenW
section
variable {G : Gl} {T : Tab} {F : Call} {k : Nat} {X : Cx} {e : Expr} {es : List Expr} {a c : IE} {as : List IE} {st : Stmt} {rest rest2 : List Stmt} {p : IS} {ps qs : List IS} {pos yp pos2 p2 p3 : Pos}
/-- a generator's statement -/
def tGy (G : Gl) (f : List Val → S → R (List Val)) : TGn := fun D ys σ H => ∃ C s xs zs s', C.H = H ∧ Rel G C s σ ∧ VRs G C xs ys ∧ f xs s = .ok zs s' ∧ ∀ C' ys' σ', Le C C' → Rel G C' s' σ' → VRs G C' zs ys' → D.nx ys' σ' C'.H
abbrev GG (G : Gl) (T : Tab) (F : Call) (p : IS) : TGn := tGy G (execG T F p)
abbrev GGs (G : Gl) (T : Tab) (F : Call) (p : List IS) : TGn := tGy G (execGs T F p)
theorem GS.weak {t t' : TGn} (h : GS X st t) (w : ∀ D ys σ H, t' D ys σ H → t D ys σ H) : GS X st t' :=
  ⟨fun A S ip R n ys s₀ c fs K J gd lv s σ H D g hn k hI ht => h.run A S ip R n ys s₀ c fs K J gd lv s σ H D g hn k hI (w D ys σ H ht)⟩
theorem GSs.weak {t t' : TGn} (h : GSs X rest t) (w : ∀ D ys σ H, t' D ys σ H → t D ys σ H) : GSs X rest t' :=
  ⟨fun A S ip R n ys s₀ c fs K J gd lv s σ H D g hn k hI ht => h.run A S ip R n ys s₀ c fs K J gd lv s σ H D g hn k hI (w D ys σ H ht)⟩
/-! ### no exception leaves -/
theorem gi_nox {E : Value → Shared → Prop} {S : Addr} {ip : List (Addr × Obj)} {ys : List V} {σ : L2.St} {H : Hp} {s : Shared} : GI (X.wish E) S ip ys σ H s ↔ GI X S ip ys σ H s :=
  ⟨fun ⟨acc, c, r, I⟩ => ⟨acc, c, r, I.unwish⟩, fun ⟨acc, c, r, I⟩ => ⟨acc, c, r, I.wish _⟩⟩
theorem gy_nox {E : Value → Shared → Prop} {S : Addr} : GY (X.wish E) S = GY X S := by
  funext n s₀ v s kap
  apply propext
  exact ⟨fun ⟨ys, x, ip, σ, H, h1, h2, h3, h4⟩ => ⟨ys, x, ip, σ, H, h1, h2, gi_nox.mp h3, h4⟩, fun ⟨ys, x, ip, σ, H, h1, h2, h3, h4⟩ => ⟨ys, x, ip, σ, H, h1, h2, gi_nox.mpr h3, h4⟩⟩
theorem GSs.nox {t : TGn} (h : GSs X.nox rest t) : GSs X rest t := ⟨fun A S ip R n ys s₀ c fs K J gd lv s σ H D g hn k hI ht => by
  have q := h.run A S ip R n ys s₀ c fs K J gd lv s σ H D ⟨g.pn, g.ip, g.apart, g.over, g.split, g.guard, g.gd⟩ hn ⟨fun n' ys' s₀' s' f hn' hs => ?_, fun n' s₀' e s' hx => hx.elim⟩ (gi_nox.mpr hI) ht
  · rw [gy_nox] at q
    exact q
  · rw [gy_nox]
    refine k.ok n' ys' s₀' s' f hn' ?_
    cases f with
    | next => obtain ⟨σ', H', I, q⟩ := hs; exact ⟨σ', H', gi_nox.mp I, q⟩
    | brk => obtain ⟨σ', H', I, q⟩ := hs; exact ⟨σ', H', gi_nox.mp I, q⟩
    | cont => obtain ⟨σ', H', I, q⟩ := hs; exact ⟨σ', H', gi_nox.mp I, q⟩
    | ret u => obtain ⟨v, σ', H', I, r, q⟩ := hs; exact ⟨v, σ', H', gi_nox.mp I, r, q⟩⟩
/-! ### the def -/
def spG (G : Gl) (F : Call) (id np : Nat) : L2.SpG := fun vs H Q E => vs.length = np ∧ ∃ C xs h ys s2, C.H = H ∧ Rel G C ⟨[], h⟩ [] ∧ VRs G C xs vs ∧ F id xs h = .ok (.lst ys) s2 ∧
  ∀ C' zs, Le C C' → Rel G C' ⟨[], s2.h⟩ [] → VRs G C' ys zs → Q zs C'.H
/-- a generator def, as it is called by name -/
structure HaveG (G : Gl) (F : Call) (P : Program) (w : World) (K : PySem.W.Frag) (mg : Str → Option Value) (base : Heap) (k : Nat) (x : Str) (id np : Nat) : Prop where
  ex : ∃ f fd ps, GFn P w K mg base k f fd ps (spG G F id np) ∧ mg x = some (.ref f) ∧ PySem.W.keepIn K (.ref f) = true ∧ Binds K fd ps []
  gl : ∀ vs h r s, F id vs h = .ok r s → ∃ ys, r = .lst ys
/-- a def that wants nothing of its callers -/
structure HaveF (G : Gl) (F : Call) (P : Program) (w : World) (K : PySem.W.Frag) (mg : Str → Option Value) (base : Heap) (k : Nat) (x : Str) (id np : Nat) : Prop where
  ex : ∃ f fd ps, FnOk P w K mg base CX0 k f fd ps (fun vs H Q _ => spI G F id np vs H Q) ∧ mg x = some (.ref f) ∧ PySem.W.keepIn K (.ref f) = true ∧ Binds K fd ps []
end
/-! ### promises -/
section
variable {G : Gl} {T : Tab} {fs : List Fd} {n id k : Nat} {d : Fd} {P : Program} {w : World} {mg : Str → Option Value} {base : Heap} {f : Addr} {x qual : Str} {params : Arguments} {body : List Stmt} {scope : Scope} {dvs : List V} {kws : List (Str × V)} {fd : FuncData} {N ps : List Str}
end
end Rs
end
section
set_option maxRecDepth 100000
set_option maxHeartbeats 4000000
/-! Defs that may raise; try. -/
namespace Rs
open PySem PySem.Spec PyProof.Rows L2
section
variable {G : Gl} {xc : Nat → XC} {T : Tab} {fs : List Fd} {n id k : Nat} {d : Fd} {P : Program} {w : World} {mg : Str → Option Value} {base : Heap} {f : Addr} {x qual : Str} {params : Arguments} {body : List Stmt} {scope : Scope} {dvs : List V} {kws : List (Str × V)} {fd : FuncData} {N ps : List Str}
/-- the __init__ of an exception class -/
theorem fn_ini {C : Addr} {y fld : Str} {p1 p2 p3 p4 : Pos} {K : PySem.W.Frag} (F : FunD K "__init__" qual params [.Assign [.Attribute (.Name "self" p1) fld p2] (.Name y p3) p4] scope [] [] f fd) (Sc : FnScope ["self", y] ["self", y] scope) (Tc : OexC K C) (hno : PySem.W.findIn K (.ref C) fld = some none)
    (v0 : Vis scope "self") (v1 : Vis scope y) (d1 : (y == ("__debug__" : Str)) = false) (d2 : (y == ("__classdict__" : Str)) = false)
    (sw : ∀ env : Env, swapsWith (.Name y p3) (some (.Attribute (.Name "self" p1) fld p2)) p4.line env = pure false) : FnOk P w K mg base CX0 1 f fd ["self", y] (spIni C fld) :=
  F.ok Sc (fun vs H Q E ⟨a, y, h, _⟩ => by rw [h]; rfl) fun cdv A outer s H vs Q E hr ⟨a, u, hv, ha, q⟩ => ⟨_, pss_cons (ps_ost (pe_var (i := 0) rfl v0) (pe_var (i := 1) rfl v1 d1 d2) (sw _)) pss_nil, by
    subst hv
    exact ⟨u, rfl, .ref a, rfl, a, C, rfl, Tc, hno, .inl ⟨ha, fun dx hdx hne => q dx hdx hne⟩⟩⟩
end
end Rs
end
section
set_option maxRecDepth 100000
set_option maxHeartbeats 4000000
/-! A loop that is left by what its body raises; try with one clause that has a name. -/
namespace L2
open PySem PySem.Spec PyProof.Rows
section
variable {X : Cx}
theorem PG.nox {tg : Expr} {t : TG} (h : PG X.nox tg t) : PG X tg t := ⟨fun pins s σ H v u Q I r hw =>
  wpAny_mono (h.run pins s σ H v u Q (I.wish _) r hw) (fun _ _ ⟨σ', H', I', q⟩ => ⟨σ', H', I'.unwish, q⟩) fun _ _ z => False.elim z⟩
theorem PI.nox {tg iter : Expr} {wi : TI} (h : PI X.nox tg iter wi) : PI X tg iter wi := ⟨fun pins s σ H R I hw =>
  wpAny_mono (h.run pins s σ H R (I.wish _) hw) (fun v s1 q => wpAny_mono q (fun itv s2 ⟨it, fp, tn, J, H', e, I', T, t0, f0, r⟩ => ⟨it, fp, tn, J, H', e, I'.unwish, T, t0, f0, r⟩) fun _ _ z => False.elim z) fun _ _ z => False.elim z⟩
end
end L2
namespace Rs
open PySem PySem.Spec PyProof.Rows L2
section
variable {G : Gl} {T : Tab} {F : Call} {k : Nat} {xc : Nat → XC} {W : WX} {X : Cx} {tg : Expr} {pos : Pos}
end
end Rs
end
section
set_option maxRecDepth 100000
set_option maxHeartbeats 1000000
/-! Calls of methods with keywords: how they bind. -/
namespace Rs
open PySem PySem.Spec PyProof.Rows L2
section
variable {G : Gl} {T : Tab} {F : Call} {k : Nat} {X : Cx} {e : Expr} {kpos : Pos} {a : IE} {bs : List IE} {kws : List Keyword} {nm : Option Str}
theorem PK.weak {t t' : TA} (h : PK X kws t) (w : ∀ σ H Q, t' σ H Q → t σ H Q) : PK X kws t' := ⟨fun pos pins s σ H Q I q => h.run pos pins s σ H Q I (w σ H Q q)⟩
theorem sk_nil : PK X [] (tVs G (evalVs T F [])) := PK.weak pk_nil fun σ H Q ⟨C, s, vs, s', hH, rl, e, kk⟩ => by
  obtain ⟨rfl, rfl⟩ := Vs_nil e
  have := kk C [] (.refl C) rl VRs.nil
  rw [hH] at this
  exact this
theorem sk_cons (ha : PE X e (EE G T F a)) (hr : PK X kws (tVs G (evalVs T F bs))) : PK X (⟨nm, e, kpos⟩ :: kws) (tVs G (evalVs T F (a :: bs))) := PK.weak (pk_cons ha hr) fun σ H Q ⟨C, s, vs, s', hH, rl, e, kk⟩ => by
  unfold evalVs at e
  obtain ⟨x, s1, e1, e2⟩ := bind_ok e
  obtain ⟨xs, s2, e3, e4⟩ := bind_ok e2
  clear e e2
  cases e4
  show EE G T F a σ H (fun x H1 => tVs G (evalVs T F bs) σ H1 (fun xs H2 => Q (x :: xs) H2))
  exact EE_of_val hH rl e1 fun C1 v l1 r1 h1 => ⟨C1, s1, xs, _, rfl, r1, e3, fun C2 ws l2 r2 h2 => kk C2 (v :: ws) (l1.trans l2) r2 (VRs.cons (h1.mono l2) h2)⟩
end
theorem VR.tup0 {G : Gl} {C : Cf} {p : Addr} (h : KTup G.K p []) : VR G C (.tup []) (.ref p) := by
  unfold VR
  exact ⟨p, [], rfl, .inr h, VRs.nil⟩
/-! ### what each parameter is given -/
def pmSel {α : Type} (z : α) (l mv : List α) : Nat ⊕ Nat → α
  | .inl i => l.getD i z
  | .inr j => mv.getD j z
def pmAll {α : Type} (z : α) (pm : List (Nat ⊕ Nat)) (mv : List α) : List α → List α
  | [] => []
  | x :: l => x :: pm.map (pmSel z l mv)
def pmDv (dv : List Val) : Nat ⊕ Nat → Nat ⊕ Val
  | .inl i => .inl i
  | .inr j => .inr (dv.getD j .non)
end Rs
end
section
set_option maxRecDepth 100000
set_option maxHeartbeats 1000000
/-! Calls by keywords alone. -/
namespace Rs
open PySem PySem.Spec PyProof.Rows L2
def selI {α : Type} (z : α) (pm : List Nat) (l : List α) : List α := pm.map fun i => l.getD i z
section
variable {G : Gl} {x qual : Str} {params : Arguments} {body : List Stmt} {scope : Scope} {kws : List (Str × V)} {f : Addr} {fd : FuncData} {ps : List Str}
end
/-- a def of the text, called by keywords alone -/
structure HaveK (G : Gl) (F : Call) (P : Program) (w : World) (K : PySem.W.Frag) (mg : Str → Option Value) (base : Heap) (k : Nat) (x : Str) (id np : Nat) (ks : List Str) (pm : List (Nat ⊕ Val)) : Prop where
  ex : ∃ f fd ps, FnG P w K mg base k f fd ps (spI G F id np) ∧ mg x = some (.ref f) ∧ PySem.W.keepIn K (.ref f) = true ∧ Bd G fd ps 0 ks pm
  ln : pm.length = np ∧ pm ≠ []
structure HaveGK (G : Gl) (F : Call) (P : Program) (w : World) (K : PySem.W.Frag) (mg : Str → Option Value) (base : Heap) (k : Nat) (x : Str) (id np : Nat) (ks : List Str) (pm : List (Nat ⊕ Val)) : Prop where
  ex : ∃ f fd ps, GFn P w K mg base k f fd ps (spG G F id np) ∧ mg x = some (.ref f) ∧ PySem.W.keepIn K (.ref f) = true ∧ Bd G fd ps 0 ks pm
  ln : pm.length = np ∧ pm ≠ []
  gl : ∀ vs h r s, F id vs h = .ok r s → ∃ ys, r = .lst ys
section
variable {G : Gl} {T : Tab} {F : Call} {k : Nat} {X : Cx} {e eo : Expr} {p p2 p3 pos pos2 apos cpos : Pos} {a o : IE} {as bs : List IE} {kws : List Keyword} {ks : List Str} {pm : List (Nat ⊕ Val)} {tk : TA} {ta : TE}
def tKw (sp : SpG) (m : Nat) (gv : List V → List V) (tk : TA) : TE := fun σ H Q => tk σ H fun zs H2 => zs.length = m ∧ sp (gv zs) H2 Q
end
end Rs
end
section
set_option maxRecDepth 100000
set_option maxHeartbeats 4000000
/-! Methods that may raise. -/
namespace L2
open PySem PySem.Spec PyProof.Rows
theorem PK.nox {X : Cx} {kws : List Keyword} {t : TA} (h : PK X.nox kws t) : PK X kws t := ⟨fun pos pins s σ H Q I hw =>
  wpAny_mono (h.run pos pins s σ H Q (I.wish _) hw) (fun _ _ ⟨v, H', I', r, q⟩ => ⟨v, H', I'.unwish, r, q⟩) fun _ _ z => False.elim z⟩
end L2
namespace Rs
open PySem PySem.Spec PyProof.Rows L2
structure HaveX (G : Gl) (xc : Nat → XC) (T : Tab) (F : Call) (P : Program) (w : World) (mg : Str → Option Value) (base : Heap) (k : Nat) (cs : List Nat) (m n : Nat) (ks : List Str) (pm : List (Nat ⊕ Val)) : Prop where
  ok : G.okf (m % 1000) ∧ G.nm (m % 1000) = G.nm m
  at_ : ∀ c id, c ∈ cs → T.mth c m = some id → Cls G.K (G.ca c) ∧ ∃ g fd ps np, Meth G.K (G.ca c) (G.nm m) g ∧ FnE P w G.K mg base k g fd ps (spE G xc F id np) ∧ BdM G fd ps np n ks pm
section
variable {G : Gl} {T : Tab} {F : Call} {k : Nat} {xc : Nat → XC} {W : WX} {X : Cx} {e eo : Expr} {es : List Expr} {pos apos cpos : Pos} {a o : IE} {as bs : List IE}
/-- o.m(..), o of a class of the text; it may raise -/
def tMX (X : Cx) (G : Gl) (m : Str) (n : Nat) (ks : List Str) (E : L2.St → XK) (ta : TE) (t tk : TA) : TE := fun σ H Q => ta σ H fun x H1 => ∃ (a C dx : Addr) (fs : List (Str × V)) (g : Addr) (fd : FuncData) (ps : List Str) (sp : Sp) (k : Nat) (gu : List Value → List Value) (gv : List V → List V),
  x = .ref a ∧ H1 a = some (.ins C dx fs) ∧ Cls X.K C ∧ Meth X.K C m g ∧ fs.lookup m = none ∧ FnE X.prog X.w X.K X.mg X.base k g fd ps sp ∧ Room k X.A ∧
  (∀ (s : Shared) (us ws : List Value), X.K.In s.heap → us.length = n + 1 → ws.length = ks.length → BindsTo s fd ⟨us, ks.zip ws⟩ (ps.zip (gu (us ++ ws)))) ∧ (∀ (vs : List V) (us : List Value), Vals vs us → Vals (gv vs) (gu us)) ∧
  t σ H1 fun vs H2 => tk σ H2 fun zs H3 => vs.length = n ∧ zs.length = ks.length ∧ sp (gv (.ref a :: vs ++ zs)) H3 Q (E σ)
theorem FnE.goK {f : Addr} {fd : FuncData} {ps ks : List Str} {sp : Sp} {k : Nat} {pins : List (Addr × Obj)} {σ : L2.St} {H : Hp} {s : Shared} {Q : VK} {E : L2.St → XK} {us ws gus : List Value} {vs : List V} (Fn : FnE X.prog X.w X.K X.mg X.base k f fd ps sp) (gd : X.A.guards = some []) (hr : Room k X.A) (hx : PassesAt (L2.CX X.prog X.w) X σ (E σ))
    (hb : BindsTo s fd ⟨us, ks.zip ws⟩ (ps.zip gus)) (I : Inv X pins σ H s) (r : Vals vs gus) (h : sp vs H Q (E σ)) : wpAny (model X.prog X.w) X.A (call (.ref f) us (ks.zip ws)) (EP X pins σ Q) X.xe s := by
  refine wpAny_call (codeAny_mono (Fn.run X.A X.stack s H ⟨us, ks.zip ws⟩ _ _ Q (E σ) gd hr I.env0 hb r h) fun r s' hq => ?_)
  cases r with
  | error e => exact hx pins H s e s' I hq
  | ok fl =>
    cases fl with
    | ret u => exact I.after hq
    | next => exact False.elim hq
    | brk => exact False.elim hq
    | cont => exact False.elim hq
/-- an expression that may raise, as it stands alone in a statement -/
structure SRx (G : Gl) (xc : Nat → XC) (T : Tab) (F : Call) (W : WX) (X : Cx) (e : Expr) (a : IE) : Prop where
  v : ∀ s x s', evalE T F a s = .ok x s' → ∃ r, x = .v r
  ex : ∃ t, PE X e t ∧ ∀ σ C s Q, Rel G C s σ → ((∃ x s', evalE T F a s = .ok (.v x) s' ∧ ∀ C' v, Le C C' → Rel G C' s' σ → VR G C' x v → Q v C'.H) ∨ ∃ c v s', excE T F a s = some (c, v, s') ∧ XW G xc W c v s' C) → t σ C.H Q
/-! ### statements -/
end
end Rs
end
section
set_option maxRecDepth 100000
set_option maxHeartbeats 4000000
/-! try: clauses that have names. -/
namespace L2
open PySem PySem.Spec PyProof.Rows
/-- what the clauses 'except x as n' wish of an exception of the body, one after the other -/
def wManyAs (K : PySem.W.Frag) (i : Nat) (Wout : WX) (D : Ends) : List (Value × (Addr → Value → Option Addr → TS)) → WX
  | [] => Wout
  | (c, ts) :: r => fun cls d σ H => ∃ b, PySem.W.exmOne K cls c = some b ∧ (b = true → ∀ a, H a = none → ts a cls d { nx := fun σ' H' => D.nx (σ'.set i none) H', rt := D.rt, bk := fun σ' H' => D.bk (σ'.set i none) H', ct := fun σ' H' => D.ct (σ'.set i none) H' } (σ.set i (some (.ref a))) H) ∧ (b = false → wManyAs K i Wout D r cls d σ H)
inductive HdsAs (X : Cx) (n : Str) : List ExceptHandler → List (Value × (Addr → Value → Option Addr → TS)) → Prop
  | nil : HdsAs X n [] []
  | cons {x : Str} {c : Value} {ts : Addr → Value → Option Addr → TS} {b₀ : Stmt} {suite : List Stmt} {np pos' : Pos} {hds : List ExceptHandler} {l : List (Value × (Addr → Value → Option Addr → TS))} (hc : Names X x c)
      (hsu : ∀ (a : Addr) (oe : Obj) (cls : Value) (d : Option Addr) (pn : List (Addr × Obj)), Zc cls d oe → (∃ vs, oe.data = .fields vs) → PSs (X.suite a ((a, oe) :: pn)) (b₀ :: suite) (ts a cls d)) (r : HdsAs X n hds l) :
      HdsAs X n (.ExceptHandler (some (.Name x np)) (some n) (b₀ :: suite) pos' :: hds) ((c, ts) :: l)
section
variable {X : Cx} {n : Str} {i : Nat} {body : List Stmt} {h₀ : ExceptHandler} {hds : List ExceptHandler} {l : List (Value × (Addr → Value → Option Addr → TS))} {pos : Pos} {tb : WX → TS} {Wout : WX}
end
end L2
namespace Rs
open PySem PySem.Spec PyProof.Rows L2
section
variable {G : Gl} {T : Tab} {F : Call} {k : Nat} {xc : Nat → XC} {X : Cx} {body : List Stmt} {b : List IS} {x y : Str} {p1 p2 p3 p4 p5 p6 rp pos pos' : Pos} {c i : Nat}
/-- the class's facts for a clause -/
structure HaveKl (xc : Nat → XC) (K : PySem.W.Frag) (mg : Str → Option Value) (x : Str) (c : Nat) : Prop where
  m : mg x = some (.ref (xc c).cls)
  ex : PySem.W.exmOne K (.ref (xc c).cls) (.ref (xc c).cls) = some true
  xf : XfC K (xc c).cls
  no : PySem.W.findIn K (.ref (xc c).cls) (xc c).fld = some none
/-- an exception of class c is none of class d -/
abbrev HaveNe (xc : Nat → XC) (K : PySem.W.Frag) (c d : Nat) : Prop := PySem.W.exmOne K (.ref (xc c).cls) (.ref (xc d).cls) = some false
theorem takes_len {W : WX} (tk : Takes X W) : Takes X (fun cls d σ H => σ.length = X.N.length → W cls d σ H) := fun u s' ⟨a, B, sI, pins, σ, H, cls, d, e, I, nb, up, sky, na, os, ag, w⟩ =>
  tk u s' ⟨a, B, sI, pins, σ, H, cls, d, e, I, nb, up, sky, na, os, ag, w I.len⟩
/-- what a suite's text does is what Su says -/
def SuW (G : Gl) (xc : Nat → XC) (T : Tab) (F : Call) (i c : Nat) (u : Su) (ts : Addr → Value → Option Addr → TS) : Prop := ∀ (D : Ends) (σ : L2.St) (C : Cf) (v : Val) (s1 s' : S) (fl : Fl) (a d : Addr) (uu : V), Rel G C s1 σ → i < σ.length → VR G C v uu → C.H d = some (.xd [((xc c).fld, uu)]) → C.H a = none →
  suX T F u v s1 = .ok fl s' → (∀ C' σ', Le C C' → Rel G C' s' σ' → endF G D fl C' σ') → ts a (.ref (xc c).cls) (some d) { nx := fun σ' H' => D.nx (σ'.set i none) H', rt := D.rt, bk := fun σ' H' => D.bk (σ'.set i none) H', ct := fun σ' H' => D.ct (σ'.set i none) H' } (σ.set i (some (.ref a))) C.H
inductive Hdl (G : Gl) (xc : Nat → XC) (T : Tab) (F : Call) (X : Cx) (i : Nat) (n : Str) : List ExceptHandler → List (Nat × Su) → List (Value × (Addr → Value → Option Addr → TS)) → Prop
  | nil : Hdl G xc T F X i n [] [] []
  | cons {x : Str} {c : Nat} {u : Su} {ts : Addr → Value → Option Addr → TS} {b₀ : Stmt} {suite : List Stmt} {np pos' : Pos} {hds : List ExceptHandler} {cl : List (Nat × Su)} {l : List (Value × (Addr → Value → Option Addr → TS))} (hk : HaveKl xc X.K X.mg x c) (hgx : L2.Gl X x)
      (hsu : ∀ (a : Addr) (oe : Obj) (cls : Value) (d : Option Addr) (pn : List (Addr × Obj)), Zc cls d oe → (∃ vs, oe.data = .fields vs) → PSs (X.suite a ((a, oe) :: pn)) (b₀ :: suite) (ts a cls d)) (hw : SuW G xc T F i c u ts) (hne : ∀ c2 ∈ cl.map Prod.fst, HaveNe xc X.K c2 c)
      (r : Hdl G xc T F X i n hds cl l) (hdx : (x == ("__debug__" : Str)) = false := by decide) : Hdl G xc T F X i n (.ExceptHandler (some (.Name x np)) (some n) (b₀ :: suite) pos' :: hds) ((c, u) :: cl) ((.ref (xc c).cls, ts) :: l)
theorem lookup_memS : ∀ {l : List (Nat × Su)} {c : Nat} {u : Su}, l.lookup c = some u → c ∈ l.map Prod.fst
  | [], c, u, z => by cases z
  | p :: r, c, u, z => by
    rw [List.lookup_cons] at z
    by_cases e : c = p.1
    · subst e; simp
    · have e2 : (c == p.1) = false := by simpa using e
      rw [e2] at z
      exact List.mem_cons_of_mem _ (lookup_memS z)
theorem Hdl.as {hds : List ExceptHandler} {cl : List (Nat × Su)} {l : List (Value × (Addr → Value → Option Addr → TS))} (h : Hdl G xc T F X i y hds cl l) : HdsAs X y hds l := by
  induction h with
  | nil => exact .nil
  | cons hk hgx hsu hw hne r hdx ih => exact .cons ⟨hgx, hdx, .inl hk.m⟩ hsu ih
theorem Hdl.wish {hds : List ExceptHandler} {cl : List (Nat × Su)} {l : List (Value × (Addr → Value → Option Addr → TS))} (h : Hdl G xc T F X i y hds cl l) {Wout : WX} {D : Ends} {c : Nat} {u : Su} {v : Val} {s1 s' : S} {fl : Fl} {σ : L2.St} {C : Cf} {d : Addr} {uu : V} (hl : cl.lookup c = some u)
    (rl : Rel G C s1 σ) (hi : i < σ.length) (hu : VR G C v uu) (hd : C.H d = some (.xd [((xc c).fld, uu)])) (ev : suX T F u v s1 = .ok fl s') (kk : ∀ C' σ', Le C C' → Rel G C' s' σ' → endF G D fl C' σ') : wManyAs X.K i Wout D l (.ref (xc c).cls) (some d) σ C.H := by
  induction h with
  | nil => cases hl
  | @cons x2 c2 u2 ts b₀ suite np pos' hds2 cl2 l2 hk hgx hsu hw hne r hdx ih =>
    rw [List.lookup_cons] at hl
    by_cases e : c = c2
    · subst e
      simp only [beq_self_eq_true, Option.some.injEq] at hl
      subst hl
      exact ⟨true, hk.ex, fun _ a ha => hw D σ C v s1 s' fl a d uu rl hi hu hd ha ev kk, fun z => by cases z⟩
    · have e2 : (c == c2) = false := by simpa using e
      rw [e2] at hl
      refine ⟨false, hne c ?_, (fun z => by cases z), fun _ => ih hl⟩
      exact lookup_memS hl
/-! ### suites -/
def rRepr (G : Gl) : List V → Hp → VK → Prop := fun vs H Q => ∃ C v x d, C.H = H ∧ vs = [v] ∧ NR G C x v ∧ toD x = some d ∧ showOk d = true ∧ Q (.str d.shown) H
/-- [x, repr(error.attr)] -/
def tShw (G : Gl) (i : Nat) (t fld : Str) (Cl a : Addr) (cls : Value) (d : Option Addr) : TE := tLst (tCons (tC (.str t)) (tCons (tCB (rRepr G) (tCons (tXf a cls d Cl fld (tVar i)) tNil)) tNil))
abbrev tSuR (G : Gl) (i : Nat) (t fld : Str) (Cl : Addr) : Addr → Value → Option Addr → TS := fun a cls d => tSeq (tRet (tShw G i t fld Cl a cls d)) tNext
abbrev tSuS (G : Gl) (i j : Nat) (t fld : Str) (Cl : Addr) : Addr → Value → Option Addr → TS := fun a cls d => tSeq (tAsg (tShw G i t fld Cl a cls d) (gName j)) tNext
theorem tr_o {X : Cx} (o : XO G k X) {pn : List (Addr × Obj)} {xe : Value → Shared → Prop} : XO G k (X.tr pn xe).nox := ⟨⟨o.K, o.sys, o.calm, o.nd, o.room, rfl⟩, o.gd⟩
end
end Rs
end
section
set_option maxRecDepth 100000
set_option maxHeartbeats 4000000
/-! sorted(e, key=lambda x: x[0]). -/
namespace Rs
open PySem PySem.Spec PyProof.Rows L2
/-- what the making of a lambda asks of the def around -/
def LamOk (G : Gl) (X : Cx) : Prop := ∃ c P, X.env.code = .ref c ∧ LamX.TabB X.base X.mg c P ∧ (P, X.env.qual ++ "<lambda>") ∈ G.T ∧ ∀ p ∈ G.T, p.1 = P → p.2 = X.env.qual ++ "<lambda>"
abbrev parOne (x : Str) (pos : Pos) : Arguments := { posonlyargs := [], args := [{ arg := x, annotation := none, pos := pos }], vararg := none, kwonlyargs := [], kw_defaults := [], kwarg := none, defaults := [] }
abbrev scOne (x : Str) : Scope := { kind := .function, names := [(x, .local)], isGenerator := false, isCoroutine := false, more := [] }
abbrev bodyOne (x : Str) (p1 p2 p3 : Pos) (j : Nat) : Expr := .Subscript (.Name x p1) (.Constant (.int 0) j p2) p3
section
variable {prog : Program} {w : World} {A : Around} {s : Shared}
end
def keyOf : Val → Int
  | .tup (.int i :: _) => i
  | _ => 0
section
variable {G : Gl} {T : Tab} {F : Call} {k : Nat} {X : Cx} {e : Expr} {a : IE} {p pp p1 p2 p3 lpos kpos pos : Pos} {j : Nat}
/-- tables grow, all else stays -/
theorem le_ext {C : Cf} {H' : Hp} {s : S} {σ : L2.St} (r : Rel G C s σ) (x : LamX.ExtN C.H H') : Le C { C with H := H' } :=
  have nt : ∀ {p : Addr}, NT (C.H p) → ∀ u, C.H p = some u → H' p = some u := fun {p} h u e => x p u e fun ps z => by
    obtain ⟨v, e2, n⟩ := h
    rw [e] at e2; cases e2
    exact n ps z
  .of rfl (fun _ h => h) rfl rfl fun q hq u e => by
    rcases hq with h | h
    · exact nt (r.fztr q h) u e
    · exact nt (r.kptr q h) u e
theorem Rel.ext {C : Cf} {H' : Hp} {s : S} {σ : L2.St} (r : Rel G C s σ) (x : LamX.ExtN C.H H') (t : LamX.Tabs G.T H') : Rel G { C with H := H' } s σ :=
  have nt : ∀ {p : Addr}, NT (C.H p) → H' p = C.H p := fun {p} ⟨u, e, n⟩ => (x p u e n).trans e.symm
  r.le (le_ext r x) rfl (fun i c p h a => by
    obtain ⟨q, a', b, _⟩ := r.own i c h
    rw [a] at a'
    cases a'
    exact nt b.nt) (fun p z => .inl z) (fun p h => by
    obtain ⟨n, hn, e⟩ := List.getElem_of_mem h
    have h1 : n < s.h.length := by rw [r.hlen]; exact hn
    exact nt (r.cell n s.h[n] p (by simp [h1]) (by rw [List.getElem?_eq_getElem hn, e])).1.nt) t
def one1 (W : V → Hp → Prop) : List V → Hp → Prop
  | [v], H => W v H
  | _, _ => False
def wSk (G : Gl) (σ : L2.St) (Q : VK) (v : V) (H1 : Hp) : Prop := ∃ C s xs ys ks d, C.H = H1 ∧ Rel G C s σ ∧ v = .ref d ∧ H1 d = some (.lst ys) ∧ VRs G C xs ys ∧ keysI xs = some ks ∧ xs.length ≤ sizeLine ∧
        ∀ H2 l zs, LamX.ExtN H1 H2 → LamX.Tabs G.T H2 → H2 l = none → VRs G { C with H := H2 } (xs.mergeSort (PySem.W.dataLe false fun x => .int (keyOf x))) zs → Q (.ref l) (upd H2 l (.lst zs))
end
end Rs
end
section
set_option maxRecDepth 100000
set_option maxHeartbeats 4000000
/-! The head where a method holds a lambda: its code's table. -/
namespace Rs
open PySem PySem.Spec PyProof.Rows L2
/-- a method that makes a lambda: its class, its name, its full name -/
structure LamD where
  C : Str
  m : Str
  q : Str
def lamA (K : PySem.W.Frag) (l : LamD) : Addr := He.fAd K (l.C, some l.m)
def lamC (K : PySem.W.Frag) (l : LamD) : Addr := match K.lookup (lamA K l) with
  | some ⟨_, _, .func fd, _⟩ => (match fd.code with
    | .ref c => c
    | _ => 0)
  | _ => 0
def lamP (K : PySem.W.Frag) (l : LamD) : Addr := match K.lookup (lamC K l) with
  | some ⟨_, _, .fields vs, _⟩ => (match (vs[11]? : Option Value) with
    | some (.ref P) => P
    | _ => 0)
  | _ => 0
def lamQ (l : LamD) : Str := (l.q ++ ".<locals>.") ++ "<lambda>"
def isStr : Value → Bool
  | .str _ _ => true
  | _ => false
def isInt : Value → Bool
  | .int _ _ => true
  | _ => false
def isBl : Value → Bool
  | .bool _ => true
  | _ => false
def isR : Value → Addr → Bool
  | .ref a, b => decide (a = b)
  | _, _ => false
def isRo : Option Value → Addr → Bool
  | some (.ref a), b => decide (a = b)
  | _, _ => false
def hdB (K : PySem.W.Frag) (l : LamD) : Bool := match K.lookup (lamA K l) with
  | some ⟨_, _, .func fd, _⟩ => isR fd.code (lamC K l) && (match K.lookup (lamC K l) with
    | some ⟨.type c, _, .fields vs, _⟩ => decide (c = "code") && (isRo (vs[11]?) (lamP K l) && (isR (vs.getD 11 .none) (lamP K l) && (isStr (vs.getD 18 .none) && (isInt (vs.getD 7 .none) && (isBl (vs.getD 9 .none) && (isInt (vs.getD 10 .none) && decide (lamC K l ≠ lamP K l)))))))
    | _ => false)
  | _ => false
theorem isR_ok {v : Value} {a : Addr} (h : isR v a = true) : v = .ref a := by
  cases v with
  | ref b => rw [of_decide_eq_true (show decide (b = a) = true from h)]
  | _ => cases h
theorem isRo_ok {v : Option Value} {a : Addr} (h : isRo v a = true) : v = some (.ref a) := by
  cases v with
  | none => cases h
  | some v => cases v with
    | ref b => rw [of_decide_eq_true (show decide (b = a) = true from h)]
    | _ => cases h
theorem hdB_ok {K : PySem.W.Frag} {l : LamD} (h : hdB K l = true) : (∃ o fd, K.lookup (lamA K l) = some o ∧ o.data = .func fd ∧ fd.code = .ref (lamC K l)) ∧ ∀ b : Heap, K.In b → PySem.W.CodeHd b (lamC K l) (lamP K l) := by
  unfold hdB at h
  cases q : K.lookup (lamA K l) with
  | none => rw [q] at h; cases h
  | some o =>
    obtain ⟨oc, od, dt, osl⟩ := o
    rw [q] at h
    cases dt with
    | func fd =>
      obtain ⟨h1, h2⟩ := He.ba (show (isR fd.code (lamC K l) && _) = true from h)
      refine ⟨⟨_, fd, rfl, rfl, isR_ok h1⟩, fun b X => ?_⟩
      cases q2 : K.lookup (lamC K l) with
      | none => rw [q2] at h2; cases h2
      | some o2 =>
        obtain ⟨oc2, od2, dt2, osl2⟩ := o2
        rw [q2] at h2
        cases oc2 with
        | type c =>
          cases dt2 with
          | fields vs =>
            obtain ⟨a1, h2⟩ := He.ba h2
            obtain ⟨a2, h2⟩ := He.ba h2
            obtain ⟨a3, h2⟩ := He.ba h2
            obtain ⟨a4, h2⟩ := He.ba h2
            obtain ⟨a5, h2⟩ := He.ba h2
            obtain ⟨a6, h2⟩ := He.ba h2
            obtain ⟨a7, a8⟩ := He.ba h2
            have s1 : ∃ x t, vs.getD 18 .none = .str x t := by
              revert a4; generalize vs.getD 18 .none = v; intro a4; cases v <;> first | exact ⟨_, _, rfl⟩ | cases a4
            have s2 : ∃ x t, vs.getD 7 .none = .int x t := by
              revert a5; generalize vs.getD 7 .none = v; intro a4; cases v <;> first | exact ⟨_, _, rfl⟩ | cases a4
            have s3 : ∃ x, vs.getD 9 .none = .bool x := by
              revert a6; generalize vs.getD 9 .none = v; intro a4; cases v <;> first | exact ⟨_, rfl⟩ | cases a4
            have s4 : ∃ x t, vs.getD 10 .none = .int x t := by
              revert a7; generalize vs.getD 10 .none = v; intro a4; cases v <;> first | exact ⟨_, _, rfl⟩ | cases a4
            obtain ⟨file, tf, s1⟩ := s1
            obtain ⟨flags, tg, s2⟩ := s2
            obtain ⟨inF, s3⟩ := s3
            obtain ⟨text, tt, s4⟩ := s4
            exact ⟨_, vs, file, tf, flags, tg, inF, text, tt, X _ _ q2, congrArg Value.type (of_decide_eq_true a1), rfl, isRo_ok a2, isR_ok a3, s1, s2, s3, s4, of_decide_eq_true a8⟩
          | _ => cases h2
        | _ => cases h2
    | _ => cases h
/-- a table that is empty yet -/
def tabB : Option Obj → Bool
  | some ⟨.none, none, .fields vs, sl⟩ => decide (vs.size = 0) && decide (sl.size = 0)
  | _ => false
theorem tabB_ok {o : Option Obj} (h : tabB o = true) : o = some { cls := .none, data := .fields #[] } := by
  unfold tabB at h
  split at h
  · rename_i vs sl
    obtain ⟨h1, h2⟩ := He.ba h
    rw [Array.eq_empty_of_size_eq_zero (of_decide_eq_true h1), Array.eq_empty_of_size_eq_zero (of_decide_eq_true h2)]
  · cases h
def frT (g : Addr → Option Obj) (n : Nat) (ls : List LamD) : PySem.W.Frag :=
  let K0 := He.frG g (asR g n)
  let Ps := ls.map (lamP K0)
  He.frG g ((asR g n).filter fun a => Ps.all fun p => decide (a ≠ p))
def lamB (ls : List LamD) (g : Addr → Option Obj) (K : PySem.W.Frag) : Bool := ls.all fun l => hdB K l && ((K.lookup (lamP K l)).isNone && tabB (g (lamP K l)))
def obsT (n : Nat) (ow : PySem.W.Frag → Bool) (fa : List He.Fa) (fn : List PathD) (ls : List LamD) (g : Addr → Option Obj) : AlQ :=
  let K := frT g n ls
  (lamB ls g K && ((sysB K && ow K) && ((fa.all fun f => f.ok K) && fn.all fun p => p.ok K)), fn.map fun p => fnA K (p.path K))
structure SaysT (ow : PySem.W.Frag → Bool) (fa : List He.Fa) (fn : List PathD) (ls : List LamD) (K : PySem.W.Frag) (h : Heap) : Prop where
  q : SaysQ ow fa fn K
  t : ∀ l ∈ ls, hdB K l = true ∧ K.lookup (lamP K l) = none ∧ h.get? (lamP K l) = some { cls := .none, data := .fields #[] }
def hookT (n : Nat) (ow : PySem.W.Frag → Bool) (fa : List He.Fa) (fn : List PathD) (ls : List LamD) : PySem.W.Hook where
  α := AlQ
  obs := fun s => obsT n ow fa fn ls s.heap.get?
  val := fun _ => valQ fn
  says := fun _ h => ∃ K : PySem.W.Frag, K.In h ∧ SaysT ow fa fn ls K h
  of := fun _ _ e => ⟨_, He.frG_in, by
    obtain ⟨e1, e2⟩ := He.ba (congrArg (fun z : AlQ => z.1) e)
    refine ⟨⟨e2, congrArg (fun z : AlQ => z.2) e⟩, fun l hl => ?_⟩
    have := List.all_eq_true.mp e1 l hl
    obtain ⟨a, b⟩ := He.ba this
    obtain ⟨b, c⟩ := He.ba b
    exact ⟨a, Option.isNone_iff_eq_none.mp b, tabB_ok c⟩⟩
  keeps := fun _ _ _ ⟨K, hK, c⟩ k => ⟨K, PySem.W.Frag.In.keeps hK k, c.q, fun l hl => let ⟨a, b, d⟩ := c.t l hl; ⟨a, b, k _ _ d⟩⟩
/-! ### a law's end, with tables -/
theorem SaysT.cs {ow : PySem.W.Frag → Bool} {fa : List He.Fa} {fn : List PathD} {l : LamD} {K : PySem.W.Frag} {h : Heap} (c : SaysT ow fa fn [l] K h) (X : K.In h) : (∀ p ∈ [(lamC K l, lamP K l)], h.get? p.2 = some { cls := .none, data := .fields #[] }) ∧ (∀ p ∈ [(lamC K l, lamP K l)], K.lookup p.2 = none) ∧ (∀ p ∈ [(lamC K l, lamP K l)], PySem.W.CodeHd h p.1 p.2) := by
  obtain ⟨a, b, d⟩ := c.t l (List.mem_singleton.mpr rfl)
  exact ⟨fun p hp => by rw [List.mem_singleton.mp hp]; exact d, fun p hp => by rw [List.mem_singleton.mp hp]; exact b, fun p hp => by rw [List.mem_singleton.mp hp]; exact (hdB_ok a).2 h X⟩
end Rs
end
section
set_option maxRecDepth 100000
set_option maxHeartbeats 4000000
/-! What is looked at of an exception class. -/
namespace Rs
open PySem PySem.Spec PyProof.Rows L2
def isBu : Option Value → String → Bool
  | some (.builtin x), y => decide (x = y)
  | _, _ => false
def oexO (C : Addr) : Option Obj → Bool
  | some ⟨.type t, _, .cls ⟨_, _, m :: bm, _, _, hd, _, _, _, _, hdel⟩, ⟨[_, _, _, _, k4, _]⟩⟩ => decide (t = "type") && (isR m C && (PySem.HandSPX.refsVE bm && (hd && ((!hdel) && isBu k4 "ValueError.__new__"))))
  | _ => false
def excB (K : PySem.W.Frag) (x fld : Str) : Bool :=
  oexO (He.ga K x) (K.lookup (He.ga K x)) && (He.eqO (PySem.W.findIn K (.ref (He.ga K x)) "__setattr__") (some (some (.builtin "object.__setattr__"))) &&
    (decide (PySem.W.typeIn K (.ref (He.ga K x)) = some (.type "type")) && (PySem.W.keepIn K (.ref (He.ga K x)) && (xfB K (He.ga K x) && (He.eqO (PySem.W.findIn K (.ref (He.ga K x)) fld) (some none) &&
    (decide (PySem.W.exmOne K (.ref (He.ga K x)) (.ref (He.ga K x)) = some true) && (He.eqO (PySem.W.findIn K (.ref (He.ga K x)) "__init__") (some (some (.ref (He.fAd K (x, some "__init__"))))) &&
    decide (PySem.W.typeIn K (.ref (He.fAd K (x, some "__init__"))) = some (.type "function")))))))))
def excN (K : PySem.W.Frag) (x y : Str) : Bool := decide (PySem.W.exmOne K (.ref (He.ga K x)) (.ref (He.ga K y)) = some false)
end Rs
end
section
set_option maxRecDepth 100000
set_option maxHeartbeats 4000000
/-! What the written part says of an exception class. -/
namespace Rs
open PySem PySem.Spec PyProof.Rows L2
theorem isBu_ok {o : Option Value} {y : String} (h : isBu o y = true) : o = some (.builtin y) := by
  unfold isBu at h
  split at h
  · rw [of_decide_eq_true h]
  · cases h
theorem oexO_ok {K : PySem.W.Frag} {C : Addr} (h : oexO C (K.lookup C) = true) : ∃ nm q N bs bm sn sub ab col dd k0 k1 k2 k3 k5, K.lookup C = some (excClassObj nm q C N bs bm true sn sub ab col dd k0 k1 k2 k3 k5 "ValueError.__new__") ∧ PySem.HandSPX.refsVE bm = true := by
  unfold oexO at h
  split at h
  · rename_i t dd nm bs m bm N q hd sn sub ab col hdel k0 k1 k2 k3 k4 k5 e
    obtain ⟨h1, h⟩ := He.ba h
    obtain ⟨h2, h⟩ := He.ba h
    obtain ⟨h3, h⟩ := He.ba h
    obtain ⟨h4, h⟩ := He.ba h
    obtain ⟨h5, h6⟩ := He.ba h
    have e1 := of_decide_eq_true h1
    have e2 := isR_ok h2
    have e6 := isBu_ok h6
    have e5 : hdel = false := by simpa using h5
    subst e1 e2 e6 e5 h4
    exact ⟨nm, q, N, bs, bm, sn, sub, ab, col, dd, k0, k1, k2, k3, k5, e, h3⟩
  · cases h
structure ExcF (K : PySem.W.Frag) (x fld : Str) : Prop where
  t : OexC K (He.ga K x)
  xf : XfC K (He.ga K x)
  no : PySem.W.findIn K (.ref (He.ga K x)) fld = some none
  ex : PySem.W.exmOne K (.ref (He.ga K x)) (.ref (He.ga K x)) = some true
  ini : PySem.W.findIn K (.ref (He.ga K x)) "__init__" = some (some (.ref (He.fAd K (x, some "__init__"))))
  fn : PySem.W.typeIn K (.ref (He.fAd K (x, some "__init__"))) = some (.type "function")
theorem excB_ok {K : PySem.W.Frag} {x fld : Str} (h : excB K x fld = true) : ExcF K x fld := by
  obtain ⟨h1, h⟩ := He.ba h
  obtain ⟨h2, h⟩ := He.ba h
  obtain ⟨h3, h⟩ := He.ba h
  obtain ⟨h4, h⟩ := He.ba h
  obtain ⟨h5, h⟩ := He.ba h
  obtain ⟨h6, h⟩ := He.ba h
  obtain ⟨h7, h⟩ := He.ba h
  obtain ⟨h8, h9⟩ := He.ba h
  have xf := xfB_ok h5
  exact ⟨⟨oexO_ok h1, He.eqO_ok h2, xf.exC, of_decide_eq_true h3, h4⟩, xf, He.eqO_ok h6, of_decide_eq_true h7, He.eqO_ok h8, of_decide_eq_true h9⟩
/-- the classes by their numbers -/
def xcL (K : PySem.W.Frag) : Nat → XC := fun c => ([⟨He.ga K "UnknownThing", "name"⟩, ⟨He.ga K "BadOut", "out"⟩, ⟨He.ga K "BadGiven", "given"⟩, ⟨He.ga K "UnknownMark", "number"⟩, ⟨He.ga K "InvalidText", "line"⟩] : List XC).getD c ⟨0, ""⟩
end Rs
end
section
set_option maxRecDepth 100000
set_option maxHeartbeats 4000000
/-! for over the keys of a dict that is a cell. -/
namespace Rs
open PySem PySem.Spec PyProof.Rows L2
section
variable {G : Gl} {T : Tab} {F : Call} {k : Nat} {X : Cx} {tg e : Expr} {pos : Pos}
end
end Rs
end
section
set_option maxRecDepth 100000
set_option maxHeartbeats 4000000
/-! for over the keys of a name's dict that is a value; x.upper(). -/
namespace Rs
open PySem PySem.Spec PyProof.Rows L2
section
variable {G : Gl} {T : Tab} {F : Call} {k : Nat} {X : Cx} {tg e eo : Expr} {pos cpos apos : Pos} {a : IE}
end
end Rs
end
section
set_option maxRecDepth 100000
set_option maxHeartbeats 4000000
/-! min of two texts. -/
namespace PySem
section
variable {prog : Program} {w : World} {A : Around} {E : Value → Shared → Prop} {s : Shared}
end
end PySem
namespace Rs
open PySem PySem.Spec PyProof.Rows L2
section
variable {G : Gl} {k : Nat} {X : Cx}
end
end Rs
end
section
set_option maxRecDepth 100000
set_option maxHeartbeats 1000000
/-! d.update(d2). -/
namespace Rs
open PySem PySem.Spec PyProof.Rows L2
def rDUpd : V → List V → Hp → VK → Prop := fun x vs H Q => ∃ (a b : Addr) (ks ms : List (Key × V)), x = .ref a ∧ vs = [.ref b] ∧ a ≠ b ∧ H a = some (.dK ks) ∧ Rd H b (.dK ms) ∧ ks.length + ms.length ≤ sizeLine ∧ Q .non (upd H a (.dK (mergeK ks ms)))
mutual
/-- changes nothing -/
def pureE : IE → Bool
  | .cst _ => true
  | .var _ => true
  | .dsp es => pureEs es
  | .lst es => pureEs es
  | .tup es => pureEs es
  | _ => false
def pureEs : List IE → Bool
  | [] => true
  | e :: es => pureE e && pureEs es
end
mutual
theorem pureE_ok {T : Tab} {F : Call} : ∀ (a : IE) {s s' : S} {x : Rv}, pureE a = true → evalE T F a s = .ok x s' → s' = s
  | .cst v, s, s', x, _, h => by unfold evalE at h; cases h; rfl
  | .var i, s, s', x, _, h => by
    unfold evalE rdVar at h
    split at h <;> cases h <;> rfl
  | .dsp es, s, s', x, p, h => by
    unfold pureE at p
    unfold evalE at h
    obtain ⟨vs, s1, e1, h2⟩ := bind_ok h
    clear h
    have := pureEs_ok es p e1
    subst this
    split at h2 <;> cases h2 <;> rfl
  | .lst es, s, s', x, p, h => by
    unfold pureE at p
    unfold evalE at h
    obtain ⟨vs, s1, e1, h2⟩ := bind_ok h
    clear h
    have := pureEs_ok es p e1
    subst this
    cases h2; rfl
  | .tup es, s, s', x, p, h => by
    unfold pureE at p
    unfold evalE at h
    obtain ⟨vs, s1, e1, h2⟩ := bind_ok h
    clear h
    have := pureEs_ok es p e1
    subst this
    cases h2; rfl
theorem pureEs_ok {T : Tab} {F : Call} : ∀ (as : List IE) {s s' : S} {vs : List Val}, pureEs as = true → evalVs T F as s = .ok vs s' → s' = s
  | [], s, s', vs, _, h => by unfold evalVs at h; cases h; rfl
  | a :: as, s, s', vs, p, h => by
    unfold pureEs at p
    rw [Bool.and_eq_true] at p
    unfold evalVs at h
    obtain ⟨x, s1, e1, h2⟩ := bind_ok h
    obtain ⟨ys, s2, e2, h3⟩ := bind_ok h2
    cases h3
    obtain ⟨y, s3, e3, e4⟩ := bind_ok e1
    have h1 := pureE_ok a p.1 e3
    have h2 := pureEs_ok as p.2 e2
    have h3 : s1 = s3 := (opt_ok e4).2
    rw [h2, h3, h1]
end
section
variable {G : Gl} {T : Tab} {F : Call} {k : Nat} {X : Cx} {e eo : Expr} {es : List Expr} {pos apos cpos : Pos} {a : IE} {as : List IE}
end
end Rs
end
section
set_option maxRecDepth 100000
set_option maxHeartbeats 4000000
/-! xs[i] op= v. -/
namespace Rs
open PySem PySem.Spec PyProof.Rows L2
section
variable {G : Gl} {T : Tab} {F : Call} {k : Nat} {X : Cx} {e eo ei : Expr} {pos apos : Pos} {a b c : IE}
end
end Rs
end
section
set_option maxRecDepth 100000
set_option maxHeartbeats 4000000
/-! Errors as values: an error object that stands at a place. -/
namespace Rs
open PySem PySem.Spec PyProof.Rows L2
theorem exv_ok {P : Program} {w : World} {H : Hp} {h : Heap} {a : Addr} {u : Obj} (e : h.get? a = some u) : L2.ObjOk P w H h a (exv u) := ⟨e, u, e⟩
theorem pe_of_pmk {X : Cx} {e : Expr} {t : L2.St → Hp → XK → Prop} (he : PMk X e t) : PE X e (fun σ H Q => t σ H fun cls d H' => ∀ a u, H' a = none → ErrO cls d u → Q (.ref a) (upd H' a (exv u))) := by
  refine ⟨fun pins s σ H Q I h => wpAny_mono (he pins s σ H _ I h) (fun v s1 hu => ?_) fun _ _ x => x⟩
  obtain ⟨a, oe, fv, sI, H', cls, d, rfl, J, k, hp, ho, hz, hf, _, hn, os, ag, _, q⟩ := hu
  exact ⟨.ref a, upd H' a (exv oe), J.call' (ch := []) os (Un.laidN k hp hn) (J.hok.laidN k hn (exv_ok ho)) ag (fun b hb => absurd hb List.not_mem_nil), rfl, q a oe hn ⟨hz, fv, hf⟩⟩
end Rs
end
section
set_option maxRecDepth 100000
set_option maxHeartbeats 4000000
/-! isinstance asks an error that has a dict. -/
namespace Rs
open PySem PySem.W PySem.Spec PySem.Calls PyProof.Rows
section
variable {K : PySem.W.Frag} {D x : Addr} {u : Obj} {od : Option Obj}
theorem cls_found (c : L2.ExcC K D) : PySem.W.findObj K D od "__class__" = some (.bind (.builtin "getset_descriptor.__get__") (.builtin "object.__class__")) := by
  obtain ⟨cd, e, _⟩ := PySem.W.any_some c.hd
  unfold PySem.W.findObj
  rw [e, Option.bind_some, c.ha]
  simp [c.hn, c.ht]
theorem cls_asked {P : Program} {w : World} {B : Around} {E : Value → Shared → Prop} {Q : Option Value → Shared → Prop} {s : Shared} (c : L2.ExcC K D) (kin : K.In s.heap) (I : PySem.W.InstAt s.heap x u D od) (q : Q (some (.ref D)) { s with toks := s.toks + 1 }) :
    wpAny (model P w) B (getAttr? (.ref x) "__class__") Q E s := by
  obtain ⟨hh, gg, dd, tt, oo⟩ := s
  have a0 := I.type (M := model P w)
  have a1 := PySem.W.looks_findIn (M := model P w) kin c.hg
  have a2 := PySem.W.looks_findIn (M := model P w) kin c.hk
  have a3 := PySem.W.looks_find (M := model P w) kin I (cls_found c)
  have up : Looks (model P w) hh (isInstance (.ref x) (.type "BaseException")) true := a0.andThen (PySem.W.looks_subIn kin c.hs)
  have n0 : (false && onTheHeap (Value.builtin "BaseException.__getattribute__")) = false := rfl
  have n2 : (Value.builtin "BaseException.__getattribute__" == Value.builtin "object.__getattribute__") = false := by decide +kernel
  have n1 : (onTheHeap (Value.ref D) && Value.builtin "BaseException.__getattribute__" == Value.builtin "object.__getattribute__") = false := by rw [n2]; rfl
  unfold getAttr? getAttrBy? getAttrBy
  refine wpAny_bind (wpAny_mkText ?_)
  refine wpAny_bind (wpAny_attempt (wpAny_holding (wpAny_bind (a0.at ?_))))
  refine wpAny_bind (a1.at ?_)
  dsimp only
  rw [n1, if_neg Bool.false_ne_true]
  unfold getAttrByItsOwn hookBefore
  refine wpAny_bind ?_
  have n3 : onTheHeap (Value.ref D) = true := rfl
  rw [if_pos n3]
  refine a2.at (wpAny_bind (wpAny_attempt (wpAny_holding ?_)))
  unfold callGetattribute boundAndCalled
  rw [n0, if_neg Bool.false_ne_true, PySem.F.excAttr_ValueError.ga.bind (.ref x)]
  refine wpAny_bind (wpAny_pure (?_ : wpAny _ _ (call (.builtin "BaseException.__getattribute__") [.ref x, .str "__class__" tt]) _ _ _))
  refine wpAny_call (codeAny_call_builtin (id PySem.F.excAttr_ValueError.ga.plain) PySem.F.entry_bexc_ga ?_)
  refine check_slot (M := model P w) (s := ⟨hh, gg, dd, tt + 1, oo⟩) (i := "BaseException.__getattribute__") (owner := "BaseException") (n := "__getattribute__") (self := .ref x) (rest := [.str "__class__" tt]) (by decide +kernel) (by decide +kernel) up (PySem.F.args_bexc_ga (.ref x) (.str "__class__" tt)) ?_
  unfold Builtin.«object.__getattribute__»
  refine wpAny_bind (wpAny_of_eq (a := ((Value.ref x : Value), [Value.str "__class__" tt])) (by first | rfl | (simp only [slotArgs]; rfl)) ?_)
  refine wpAny_bind (wpAny_pure ?_)
  refine wpAny_bind (a0.at (wpAny_bind (a3.at ?_)))
  refine (?_ : wpAny _ _ (holding [Value.builtin "object.__class__"] (call (.builtin "getset_descriptor.__get__") [.builtin "object.__class__", .ref x, .ref D]) >>= ret) _ _ _)
  refine wpAny_bind (wpAny_holding (wpAny_call (PySem.W.class_get (s := ⟨hh, gg, dd, tt + 1, oo⟩) (ox := u) (od := od) kin I c.hm ?_)))
  refine wpAny_pure (?_ : wpAny _ _ (handedOut (.ref D)) _ _ _)
  rw [handedOut_of (v := .ref D) rfl]
  first | exact wpAny_pure (wpAny_pure q) | exact wpAny_pure q | exact wpAny_pure (wpAny_bind (wpAny_pure (wpAny_pure q)))
theorem cls_here (c : L2.ExcC K D) : ∃ o : Obj, (∀ h : Heap, K.In h → h.get? D = some o) ∧ ∃ cd, o.data = .cls cd := by
  obtain ⟨cd, e, _⟩ := PySem.W.any_some c.hd
  unfold clsIn at e
  split at e
  · rename_i ho
    exact ⟨_, fun h kin => kin _ _ ho, _, rfl⟩
  · cases e
/-- an error of the class D, whatever its dict holds -/
theorem kit_err (c : L2.ExcC K D) : KitX K (.ref x) (.ref D) (fun h => ∃ (u : Obj) (od : Option Obj), PySem.W.InstAt h x u D od) where
  ty := fun _ _ _ ⟨_, _, I⟩ => I.type
  it := fun M h kin _ => by
    obtain ⟨⟨o1, o2, o3, o4⟩, ho, cd, e⟩ := cls_here c
    dsimp only at e
    subst e
    intro A1 Q1 E1 s1 k1 q1
    unfold isType loadHead
    refine wpAny_bind (wpAny_loadPart (k1 D _ (ho h kin)) ?_)
    exact wpAny_pure q1
  ne := fun h tp _ _ _ _ kin htp => by
    obtain ⟨o, ho, cd, e⟩ := cls_here c
    refine Bool.eq_false_iff.mpr fun z => ?_
    have z : D = tp := Value.ref.inj (beq_iff_eq.mp z)
    rw [← z, ho h kin] at htp
    cases htp
    cases e
  ca := fun kin ⟨_, _, I⟩ q => cls_asked c kin I q
end
end Rs
end
section
set_option maxRecDepth 100000
set_option maxHeartbeats 4000000
/-! An error's kinds and attribute, read where it stands. -/
namespace Rs
open PySem PySem.Spec PyProof.Rows L2
section
variable {X : Cx} {D : Addr}
theorem xd_at {pins : List (Addr × Obj)} {σ : L2.St} {H : Hp} {s : Shared} (I : Inv X pins σ H s) {dd : Addr} {fs : List (Str × V)} (hd : Rd H dd (.xd fs)) : L2.ObjOk X.prog X.w H s.heap dd (.xd fs) := by
  rcases hd with hd | ⟨b, hd⟩
  · exact I.hok dd _ hd
  · exact (I.hok dd _ hd).2
theorem err_at {pins : List (Addr × Obj)} {σ : L2.St} {H : Hp} {s : Shared} (I : Inv X pins σ H s) {a dd : Addr} {u : Obj} {fs : List (Str × V)} (ha : H a = some (exv u)) (eo : ErrO (.ref D) (some dd) u) (hd : Rd H dd (.xd fs)) :
    ∃ (od : Obj) (mA : Str → Option Value), PySem.W.InstAt s.heap a u D (some od) ∧ (∀ f, PySem.W.lookIn f od = some (mA f)) ∧ ∀ f, RelO (fs.lookup f) (mA f) := by
  obtain ⟨ho, _⟩ := I.hok a _ ha
  obtain ⟨hz, fv, hf⟩ := eo
  obtain ⟨mA, hns, hr⟩ := xd_at I hd
  obtain ⟨od, h1, h2⟩ := lookIn_ns hns
  refine ⟨od, mA, ⟨ho, hz.1, by unfold PySem.W.notCls; rw [hf] <;> rfl, by rw [hz.2]; exact h1⟩, h2, hr⟩
/-- isinstance(e, c), e an error that stands at a place -/
theorem call_isV (K : PySem.W.Frag) (hK : X.K = K) : CallR X (.builtin "isinstance") (fun xs H Q => ∃ (D a dd : Addr) (u : Obj) (fs : List (Str × V)) (t : V) (cv : Value) (b : Bool), xs = [.ref a, t] ∧ ExcC K D ∧ H a = some (exv u) ∧ ErrO (.ref D) (some dd) u ∧ Rd H dd (.xd fs) ∧ (∀ u, RelV t u → u = cv) ∧ PySem.W.kitOne K (.ref D) cv = some b ∧ Q (.bl b) H) := by
  intro pins s σ H xs us Q I r h
  subst hK
  obtain ⟨D, a, dd, u, fs, t, cv, b, rfl, c, ha, eo, hd, ht, e, q⟩ := h
  obtain ⟨od, mA, J, _, _⟩ := err_at I ha eo hd
  cases r with
  | cons r1 rr =>
    cases rr with
    | cons r2 rr =>
      cases rr
      cases r1
      have e2 := ht _ r2
      subst e2
      exact PySem.W.kia_one (kit_err c) I.kIn ⟨u, some od, J⟩ e (fun z => nomatch z) fun tk => ⟨.bl b, H, I.tok _, rfl, q⟩
/-- the same of an error that has no dict -/
theorem call_isV0 (c : ExcC X.K D) : CallR X (.builtin "isinstance") (fun xs H Q => ∃ (a : Addr) (u : Obj) (t : V) (cv : Value) (b : Bool), xs = [.ref a, t] ∧ H a = some (exv u) ∧ ErrO (.ref D) none u ∧ (∀ u, RelV t u → u = cv) ∧ PySem.W.kitOne X.K (.ref D) cv = some b ∧ Q (.bl b) H) := by
  intro pins s σ H xs us Q I r h
  obtain ⟨a, u, t, cv, b, rfl, ha, eo, ht, e, q⟩ := h
  obtain ⟨ho, _⟩ := I.hok a _ ha
  obtain ⟨hz, fv, hf⟩ := eo
  have J : PySem.W.InstAt s.heap a u D none := ⟨ho, hz.1, by unfold PySem.W.notCls; rw [hf] <;> rfl, by rw [hz.2]; trivial⟩
  cases r with
  | cons r1 rr =>
    cases rr with
    | cons r2 rr =>
      cases rr
      cases r1
      have e2 := ht _ r2
      subst e2
      exact PySem.W.kia_one (kit_err c) I.kIn ⟨u, none, J⟩ e (fun z => nomatch z) fun tk => ⟨.bl b, H, I.tok _, rfl, q⟩
/-- e.f, e an error that stands at a place -/
theorem pe_xv {e : Expr} {te : TE} {pos : Pos} {n : Str} (K : PySem.W.Frag) (hK : X.K = K) (he : PE X e te) (hb : attributeBase e n X.env (eval e X.env) = eval e X.env := by rfl) :
    PE X (.Attribute e n pos) (fun σ H Q => te σ H fun x H1 => ∃ (D a dd : Addr) (o : Obj) (fs : List (Str × V)) (v : V), x = .ref a ∧ XfC K D ∧ PySem.W.findIn K (.ref D) n = some none ∧ H1 a = some (exv o) ∧ ErrO (.ref D) (some dd) o ∧ Rd H1 dd (.xd fs) ∧ fs.lookup n = some v ∧ Q v H1) := by
  subst hK
  refine ⟨fun pins s σ H Q I h => attr_of hb (thn (he.run pins s σ H _ I h) fun u s1 hh => ?_)⟩
  obtain ⟨x, H1, I1, rx, D, a, dd, oe, fs, v, rfl, T, hno, ha, eo, hd, l, q⟩ := hh
  cases rx
  obtain ⟨od, mA, J, hl, hr⟩ := err_at I1 ha eo hd
  obtain ⟨w, hw, rw1⟩ := RelO.some_of (v := v) (o := mA n) (by rw [← l]; exact hr n)
  exact HandSPX.exc_get I1.kIn J T.ga T.gg T.exC (PySem.W.findObj_own T.hdC hno rfl (by rw [hl, hw])) (handed_of rw1) ⟨v, H1, I1.tok _, rw1, q⟩
end
end Rs
end
section
set_option maxRecDepth 100000
set_option maxHeartbeats 400000
/-! An error of a class without own __init__, made of nothing. -/
namespace Rs
open PySem PySem.Spec PyProof.Rows L2
theorem pe_exc0 {X : Cx} {C : Addr} {bmB : List Value} {B newId initId : String} {x : Str} {p pos : Pos} (F : ExcBaseFacts B newId initId bmB) (q : PySem.W.excIn X.K C bmB newId = true) (gC : X.mg x = some (.ref C)) (kC : PySem.W.keepIn X.K (.ref C) = true) (hg : L2.Gl X x)
    (hdb : (x == ("__debug__" : Str)) = false := by decide) : PE X (.Call (.Name x p) [] [] pos) (fun σ H Q => ∀ a u, H a = none → ErrO (.ref C) none u → Q (.ref a) (upd H a (exv u))) := by
  refine ⟨fun pins s σ H Q I h => wpAny_Call_Name_kw (ld_glob I hg gC ?_ hdb)⟩
  refine PySem.W.callWith_K0 I.kIn kC (?_ : wpAny _ _ (call (.ref C) []) _ _ _)
  obtain ⟨bm, N, nm, qn, bs, hdct, sn, sub, ab, col, dd, k0, k1, k2, k3, k5, mN, hC, hN, hni, T⟩ := exc_obj I.kIn q
  refine wpAny_call_exc_subT F T hC hN hni (rest := []) (fun g a hm => ?_) (by show 0 ≤ sizeLine; omega)
  have hn : H a = none := I.hok.gone hm.new
  obtain ⟨t, ht, _⟩ := hm.there
  exact ⟨.ref a, upd H a (exv _), Inv.laidN I hm.keeps hm.new hn (exv_ok ht), rfl, h a _ hn ⟨⟨rfl, rfl⟩, _, rfl⟩⟩
end Rs
end
section
set_option maxRecDepth 100000
set_option maxHeartbeats 400000
/-! isinstance of the error that a suite has caught, one with a dict. -/
namespace Rs
open PySem PySem.Spec PyProof.Rows L2
theorem call_isP {X : Cx} {a D dd : Addr} {oe : Obj} {pn : List (Addr × Obj)} (c : ExcC X.K D) (eo : ErrO (.ref D) (some dd) oe) : CallR (X.suite a ((a, oe) :: pn)) (.builtin "isinstance") (fun xs H Q => ∃ (fs : List (Str × V)) (t : V) (cv : Value) (b : Bool), xs = [.ref a, t] ∧ H dd = some (.xd fs) ∧ (∀ u, RelV t u → u = cv) ∧ PySem.W.kitOne X.K (.ref D) cv = some b ∧ Q (.bl b) H) := by
  intro pins s σ H xs us Q I r h
  obtain ⟨fs, t, cv, b, rfl, hd, ht, e, q⟩ := h
  obtain ⟨ha, _⟩ := I.pin (a, oe) (by simp [Cx.suite])
  obtain ⟨mA, hns, _⟩ := (I.hok dd _ hd : L2.ObjOk _ _ H s.heap dd (.xd fs))
  obtain ⟨od, h1, _⟩ := lookIn_ns hns
  obtain ⟨hz, fv, hf⟩ := eo
  have J : PySem.W.InstAt s.heap a oe D (some od) := ⟨ha, hz.1, by unfold PySem.W.notCls; rw [hf] <;> rfl, by rw [hz.2]; exact h1⟩
  cases r with
  | cons r1 rr =>
    cases rr with
    | cons r2 rr =>
      cases rr
      cases r1
      have e2 := ht _ r2
      subst e2
      exact PySem.W.kia_one (kit_err c) I.kIn ⟨oe, some od, J⟩ e (fun z => nomatch z) fun tk => ⟨.bl b, H, I.tok _, rfl, q⟩
end Rs
end
section
set_option maxRecDepth 100000
set_option maxHeartbeats 4000000
/-! Errors as values of the interpreter: made, asked. -/
namespace Rs
open PySem PySem.Spec PyProof.Rows L2
section
variable {G : Gl} {T : Tab} {F : Call} {xc : Nat → XC} {X : Cx} {k : Nat} {e : Expr} {es : List Expr} {a o : IE} {p p2 pos cpos np : Pos}
/-- an error stands anew at a place, beside its dict -/
theorem err_new {C : Cf} {s : S} {σ : L2.St} {c f : Nat} {v : Val} {u : V} {dx b : Addr} {w : Obj} (r : Rel G C s σ) (hu : VR G C v u) (hdx : C.H dx = none) (hb : upd C.H dx (.xd [(G.nm f, u)]) b = none) (eo : ErrO (.ref (G.ca c)) (some dx) w) :
    ∃ C', Le C C' ∧ C'.H = upd (upd C.H dx (.xd [(G.nm f, u)])) b (exv w) ∧ Rel G C' { s with h := s.h ++ [.err c f v] } σ ∧ VR G C' (.ref s.h.length) (.ref b) := by
  have l1 : Le C (C.new dx (.xd [(G.nm f, u)])) := .new hdx
  have r1 := r.new (o := .xd [(G.nm f, u)]) hdx
  have fr1 := r.fresh hdx
  have fr1' : Rs.Fr (C.new dx (.xd [(G.nm f, u)])) dx := ⟨fr1.fz, fr1.kp, fr1.ρ, fr1.rs⟩
  have ow1 : ∀ (j : Nat) (c : Cell), s.e[j]? = some (.own c) → σ[j]? ≠ some (some (.ref dx)) := fun j c h z => own_tr r h z hdx
  have r2 := r1.ice fr1' (nt_upd fun ps z => nomatch z) ow1
  have l2 : Le (C.new dx (.xd [(G.nm f, u)])) ((C.new dx (.xd [(G.nm f, u)])).ice dx) := .ice
  generalize hC2 : (C.new dx (.xd [(G.nm f, u)])).ice dx = C2 at r2 l2
  have hH2 : C2.H = upd C.H dx (.xd [(G.nm f, u)]) := by rw [← hC2]
  have hz2 : C2.fz dx := by rw [← hC2]; exact .inr rfl
  have hb2 : C2.H b = none := by rw [hH2]; exact hb
  have hne : dx ≠ b := fun z => by rw [z, upd_same] at hb; cases hb
  have l3 : Le C2 (C2.new b (exv w)) := .new hb2
  have r3 := r2.new (o := exv w) hb2
  have fr2 := r2.fresh hb2
  have fr3 : Rs.Fr (C2.new b (exv w)) b := ⟨fr2.fz, fr2.kp, fr2.ρ, fr2.rs⟩
  have ow2 : ∀ (j : Nat) (c : Cell), s.e[j]? = some (.own c) → σ[j]? ≠ some (some (.ref b)) := fun j c h z => own_tr r2 h z hb2
  have hcr : CR G (C2.new b (exv w)) (.err c f v) ((C2.new b (exv w)).H b) := by
    refine ⟨w, dx, u, upd_same, eo, hz2, .inl ?_, ((hu.mono l1).mono l2).mono l3⟩
    show upd C2.H b (exv w) dx = _
    rw [upd_ne hne, hH2, upd_same]
  have r4 := r3.toHeap hcr fr3 ow2
  refine ⟨(C2.new b (exv w)).cell b, ((l1.trans l2).trans l3).trans .cell, by show upd C2.H b (exv w) = _; rw [hH2], r4, ?_⟩
  unfold VR
  exact ⟨b, by show (C2.ρ ++ [b])[s.h.length]? = some b; rw [r2.hlen]; simp, rfl⟩
/-- C(e) -/
theorem se_mkx (ox : XO G k X) {x : Str} {cn c f k' : Nat} (hv : HaveC xc X.prog X.w X.K X.mg X.base k' x cn) (hk : k' + 1 ≤ k) (hx : (xc cn).cls = G.ca c) (hf : (xc cn).fld = G.nm f) (hg : L2.Gl X x) (ha : PE X e (EE G T F a))
    (hdb : (x == ("__debug__" : Str)) = false := by decide) (st1 : starEach [e] X.env = (false, eval e X.env) :: starEach [] X.env := by rfl) (st2 : (backTo cpos (starEach [] X.env)).any (·.1) = false := by rfl) : PE X (.Call (.Name x np) [e] [] cpos) (EE G T F (.mkx c f a)) := by
  obtain ⟨fI, fd, ps, h1, h2, h3, h4⟩ := hv.ex
  refine PE.weak (pe_of_pmk (pmk_oex hv.t h1 h2 h3 (Room.mono ox.room hk) h4 .nil pass0 hg hv.m (pa_cons ha pa_nil st1) hdb st1 st2)) fun σ H Q ⟨C, s, r, s', hH, rl, ev, kk⟩ => ?_
  unfold evalE at ev
  obtain ⟨v, s1, e1, ev2⟩ := bind_ok ev
  clear ev
  cases ev2
  show EE G T F a σ H fun u H1 => _
  refine EE_of_val hH rl e1 fun C1 u l1 r1 hu => ?_
  refine ⟨by simp, fun b hb => ⟨b, u, rfl, by simp [upd], fun dx hdx hne => ⟨rfl, dx, [((xc cn).fld, u)], by simp [upd], by simp [upd, hne], ?_, ?_⟩⟩⟩
  · simpa [upd, hne] using hdx
  · rw [ini_end hb hne]
    have hd0 : C1.H dx = none := by simpa [upd, hne] using hdx
    intro b2 w hb2 eo
    rw [hx] at eo
    rw [hf] at hb2 ⊢
    obtain ⟨C', l', h', r', v'⟩ := err_new (c := c) (f := f) r1 hu hd0 hb2 eo
    rw [← h']
    exact kk C' _ (l1.trans l') r' v'
/-- what is known where an error stands -/
theorem err_cell {C : Cf} {s : S} {σ : L2.St} {x : Val} {v : V} {c f : Nat} {y : Val} (rl : Rel G C s σ) (h : VR G C x v) (e : errAt s x = some (c, f, y)) :
    ∃ p u dd z, v = .ref p ∧ C.H p = some (exv u) ∧ ErrO (.ref (G.ca c)) (some dd) u ∧ Rd C.H dd (.xd [(G.nm f, z)]) ∧ VR G C y z := by
  unfold errAt at e
  cases x with
  | ref m =>
    simp only at e
    cases q : s.h[m]? with
    | none => simp [q] at e
    | some d =>
      cases d with
      | err c' f' y' =>
        simp only [q, Option.some.injEq, Prod.mk.injEq] at e
        obtain ⟨rfl, rfl, rfl⟩ := e
        unfold VR at h
        obtain ⟨p, hp, rfl⟩ := h
        obtain ⟨u, dd, z, h1, h2, _, h3, h4⟩ := (rl.cell m _ p q hp).1
        exact ⟨p, u, dd, z, rfl, h1, h2, h3, h4⟩
      | ins _ _ => simp [q] at e
      | lst _ _ => simp [q] at e
      | dct _ _ => simp [q] at e
  | _ => cases e
/-- e.f -/
theorem se_xat (ox : XO0 G k X) {fn : Str} (c f : Nat) (T1 : XfC G.K (G.ca c)) (hno : PySem.W.findIn G.K (.ref (G.ca c)) (G.nm f) = some none) (ha : PE X e (EE G T F o)) (hf : G.nm f = fn := by rfl) (hb : attributeBase e fn X.env (eval e X.env) = eval e X.env := by rfl) :
    PE X (.Attribute e fn pos) (EE G T F (.xat c f o)) := by
  subst hf
  refine PE.weak (pe_xv G.K ox.K ha hb) fun σ H Q ⟨C, s, r, s', hH, rl, ev, kk⟩ => ?_
  unfold evalE at ev
  obtain ⟨x, s1, e1, ev2⟩ := bind_ok ev
  clear ev
  cases q : errAt s1 x with
  | none => simp [q] at ev2
  | some t =>
    obtain ⟨c2, f2, y⟩ := t
    simp only [q] at ev2
    split at ev2
    · rename_i hcf
      obtain ⟨rfl, rfl⟩ := hcf
      cases ev2
      refine EE_of_val hH rl e1 fun C1 v l1 r1 h1 => ?_
      obtain ⟨p, u, dd, z, rfl, g1, g2, g3, g4⟩ := err_cell r1 h1 q
      exact ⟨G.ca c2, p, dd, u, _, z, rfl, T1, hno, g1, g2, g3, by simp [List.lookup], kk C1 z l1 r1 g4⟩
    · cases ev2
/-- what the written part says of a class beside error classes -/
def IsTab (G : Gl) (tb : List (Nat × Bool)) (cv : Value) : Prop := ∀ c b, tb.lookup c = some b → ExcC G.K (G.ca c) ∧ PySem.W.kitOne G.K (.ref (G.ca c)) cv = some b
theorem isx_ok {tb : List (Nat × Bool)} {t : V} {cv : Value} {te : TE} {σ : L2.St} {H : Hp} {Q : VK} (ox : XO0 G k X) (it : IsTab G tb cv) (ht : ∀ u, RelV t u → u = cv) (h : EE G T F (.isx o tb) σ H Q) :
    tCons (EE G T F o) (tCons (tC t) tNil) σ H (fun xs H1 => ∃ (D a dd : Addr) (u : Obj) (fs : List (Str × V)) (t : V) (cv : Value) (b : Bool), xs = [.ref a, t] ∧ ExcC G.K D ∧ H1 a = some (exv u) ∧ ErrO (.ref D) (some dd) u ∧ Rd H1 dd (.xd fs) ∧ (∀ u, RelV t u → u = cv) ∧ PySem.W.kitOne G.K (.ref D) cv = some b ∧ Q (.bl b) H1) := by
  obtain ⟨C, s, r, s', hH, rl, ev, kk⟩ := h
  unfold evalE at ev
  obtain ⟨x, s1, e1, ev2⟩ := bind_ok ev
  clear ev
  cases q : errAt s1 x with
  | none => simp [q] at ev2
  | some w =>
    obtain ⟨c2, f2, y⟩ := w
    simp only [q] at ev2
    obtain ⟨q2, rfl⟩ := opt_ok ev2
    cases q3 : tb.lookup c2 with
    | none => simp [q3] at q2
    | some b =>
      simp only [q3, Option.map_some, Option.some.injEq] at q2
      subst q2
      refine EE_of_val hH rl e1 fun C1 v l1 r1 h1 => ?_
      obtain ⟨p, u, dd, z, rfl, g1, g2, g3, g4⟩ := err_cell r1 h1 q
      obtain ⟨i1, i2⟩ := it c2 b q3
      exact ⟨G.ca c2, p, dd, u, _, t, cv, b, rfl, i1, g1, g2, g3, ht, i2, kk C1 _ l1 r1 (show VR G C1 (.bl b) (.bl b) from VR.bl)⟩
/-- isinstance(e, c), c a class of the program -/
theorem se_isx (ox : XO0 G k X) {x : Str} {C : Addr} {tb : List (Nat × Bool)} (it : IsTab G tb (.ref C)) (hc : X.mg x = some (.ref C)) (hgx : L2.Gl X x) (hg : L2.Gl X "isinstance") (hm : X.mg "isinstance" = none) (ha : PE X e (EE G T F o)) (hdx : (x == ("__debug__" : Str)) = false := by decide)
    (hs : starEach [e, .Name x p2] X.env = (false, eval e X.env) :: starEach [.Name x p2] X.env := by rfl) (hs2 : starEach [.Name x p2] X.env = (false, eval (.Name x p2) X.env) :: starEach [] X.env := by rfl)
    (hpl : (backTo pos (starEach [.Name x p2] X.env)).any (·.1) = false := by rfl) : PE X (.Call (.Name "isinstance" p) [e, .Name x p2] [] pos) (EE G T F (.isx o tb)) :=
  PE.weak (pe_callB (call_isV G.K ox.K) hg hm (by decide +kernel) (pa_cons ha (pa_cons (pe_glob (v := .ref C) hgx hc rfl hdx) pa_nil hs2) hs) (by decide) (by decide) hs hpl) fun σ H Q h => isx_ok (te := fun _ _ _ => True) ox it (fun u z => z) h
/-- isinstance(e, c), c a built-in class -/
theorem se_isxB (ox : XO0 G k X) {x : Str} {tT : String} {tb : List (Nat × Bool)} (it : IsTab G tb (.type tT)) (hc : X.mg x = none) (hv : bootBuiltins x = some (.type tT)) (hgx : L2.Gl X x) (hg : L2.Gl X "isinstance") (hm : X.mg "isinstance" = none) (ha : PE X e (EE G T F o)) (hn : x ≠ "__name__" := by decide) (hdx : (x == ("__debug__" : Str)) = false := by decide)
    (hs : starEach [e, .Name x p2] X.env = (false, eval e X.env) :: starEach [.Name x p2] X.env := by rfl) (hs2 : starEach [.Name x p2] X.env = (false, eval (.Name x p2) X.env) :: starEach [] X.env := by rfl)
    (hpl : (backTo pos (starEach [.Name x p2] X.env)).any (·.1) = false := by rfl) : PE X (.Call (.Name "isinstance" p) [e, .Name x p2] [] pos) (EE G T F (.isx o tb)) :=
  PE.weak (pe_callB (call_isV G.K ox.K) hg hm (by decide +kernel) (pa_cons ha (pa_cons (pe_bltn (v := .ty tT) hgx hc hv rfl hn hdx) pa_nil hs2) hs) (by decide) (by decide) hs hpl) fun σ H Q h => isx_ok (te := fun _ _ _ => True) ox it (fun u z => z) h
end
end Rs
end
section
set_option maxRecDepth 100000
set_option maxHeartbeats 4000000
/-! An error made by its attribute's name. -/
namespace PySem
namespace Ekw
open Builtin Builtin.ObjectAttr PySem.W PySem.Calls PyProof.Rows PySem.HandSPX
section
variable {M : Model} {P : Program} {w : World} {A : Around} {E : Value → Shared → Prop} {R : Result → Shared → Prop} {hh : Heap} {g : Array GenState} {dr : Drawn} {tk : Nat} {os : OsState}
variable {nm qn : Str} {C N : Addr} {bs bm bmB : List Value} {hdct : Bool} {sn : List Str} {sub : List Value} {ab : Bool} {col : Option Bool} {dd : Option Addr} {c0 c1 c2 c3 c5 : Option Value} {B nid iid : String}
theorem made_chk (F : ExcBaseFacts B nid iid bmB) (same : ∀ X : String, bm.contains (.type X) = bmB.contains (.type X)) {us : List Value} {kw : List (Str × Value)} {Q : Unit → Shared → Prop}
    (at0 : hh.get? C = some (excClassObj nm qn C N bs bm hdct sn sub ab col dd c0 c1 c2 c3 c5 nid)) (q : Q () ⟨hh, g, dr, tk, os⟩) : wpAny M A (checkBuiltinCall nid ⟨.ref C :: us, kw⟩) Q E ⟨hh, g, dr, tk, os⟩ := by
  have has : (Value.ref C :: bm).contains (.type B) = true := by rw [List.contains_cons, same, F.hasB, Bool.or_true]
  have star := F.noStar
  simp only [checkBuiltinCall, F.newKind, F.newSplit, F.newRow]
  repeat (first | refine wpAny_loadPart_at at0 ?_ | (refine wpAny_isSubtype_exc at0 ?_; rw [has]) | refine wpAny_staticBase_exc at0 ?_ | refine wpAny_madeBy_exc at0 ?_ | simp only [bne_self_eq_false, Bool.false_eq_true, if_false] | wp_step)
  exact q
theorem made_new (F : ExcBaseFacts B nid iid bmB) (same : ∀ X : String, bm.contains (.type X) = bmB.contains (.type X)) {us : List Value} {kw : List (Str × Value)}
    (at0 : hh.get? C = some (excClassObj nm qn C N bs bm hdct sn sub ab col dd c0 c1 c2 c3 c5 nid)) (fits : us.length ≤ sizeLine)
    (q : R (.ok (.ret (.ref (hh.objs.size + 1)))) ⟨(hh.push (kdv_tup us)).push (excO C hh.objs.size), g, dr, tk, os⟩) :
    codeAny (model P w) A (.builtin nid ⟨.ref C :: us, kw⟩) R ⟨hh, g, dr, tk, os⟩ := by
  have ends := F.ends
  have has : (Value.ref C :: bm).contains (.type B) = true := by rw [List.contains_cons, same, F.hasB, Bool.or_true]
  have noA : (Value.ref C :: bm).contains (.type "AttributeError") = false := by rw [List.contains_cons, same, F.noAttr]; rfl
  have noN : (Value.ref C :: bm).contains (.type "NameError") = false := by rw [List.contains_cons, same, F.noName]; rfl
  refine codeAny_builtinAt F.entry ?_
  unfold Builtin.«BaseException.__new__»
  refine wpAt_bind ?_
  show wpAt _ _ _ (stack >>= _) _ _ _
  refine wpAt_bind (wpAt_stack fun p below => wpAt_of_wpAny ?_)
  wp_walk
  refine wpAt_of_wpAny ?_
  rw [F.owner]
  repeat (first | with_reducible refine wpAny_madeHere_exc F.canon at0 ?_ | with_reducible refine wpAny_loadPart_at at0 ?_ | (with_reducible refine wpAny_isSubtype_exc at0 ?_; first | rw [has] | rw [noA] | rw [noN]) | wp_step)
  show R _ _
  rw [Heap.size_push]
  exact q
theorem made_type (F : ExcBaseFacts B nid iid bmB) (same : ∀ X : String, bm.contains (.type X) = bmB.contains (.type X)) {us : List Value} {kw : List (Str × Value)} {fI : Addr} {Q : Fin → Shared → Prop}
    (at0 : hh.get? C = some (excClassObj nm qn C N bs bm hdct sn sub ab col dd c0 c1 c2 c3 c5 nid)) (hi : Looks (model P w) hh (typeLookup (.ref C) "__init__") (some (.ref fI)))
    (hb : ∀ self, Looks (model P w) hh (bindSpecial (.ref fI) self) (.ref fI, [self])) (fits : us.length ≤ sizeLine)
    (q : codeAny (model P w) A (.call (.ref fI) ⟨.ref (hh.objs.size + 1) :: us, kw⟩)
      (fun r s => match r with | .ok (.ret v) => v = .none ∧ Q (.done (.ret (.ref (hh.objs.size + 1)))) s | .ok _ => False | .error e => E e s) ⟨(hh.push (kdv_tup us)).push (excO C hh.objs.size), g, dr, tk, os⟩) :
    wpAny (model P w) A (Builtin.«type.__call__» ⟨.ref C :: us, kw⟩) Q E ⟨hh, g, dr, tk, os⟩ := by
  repeat (first | with_reducible refine wpAny_loadPart_at at0 ?_ | with_reducible refine wpAny_madeBy_exc at0 ?_ | wp_step)
  refine codeAny_call_builtin_code (Code.quiet_builtin _ F.quiet) (made_chk F same at0 ?_)
  refine made_new F same at0 fits ?_
  show wpAny _ _ _ _ _ _
  have keep : ∀ b o, hh.get? b = some o → ((hh.push (kdv_tup us)).push (excO C hh.objs.size)).get? b = some o := fun b o e => Heap.get?_push_of_some _ (Heap.get?_push_of_some _ e)
  have at1 := keep _ _ at0
  have there : ((hh.push (kdv_tup us)).push (excO C hh.objs.size)).get? (hh.objs.size + 1) = some (excO C hh.objs.size) := by heap_get
  have self0 : (Value.ref C :: bm).contains (.ref C) = true := by simp
  have i1 := hi.keeps keep
  have b1 := (hb (.ref (hh.objs.size + 1))).keeps keep
  unfold isInstance
  repeat (first | with_reducible refine wpAny_loadPart_at there ?_ | (with_reducible refine wpAny_isSubtype_exc at1 ?_; rw [self0]) | wp_step)
  show wpAny _ _ (typeLookup (.ref C) _) _ _ _
  refine i1.at ?_
  refine wpAny_holding (wpAny_bind (b1.at ?_))
  refine wpAny_bind (wpAny_call (codeAny_mono q fun r s z => ?_))
  rcases r with e | (v | _ | _ | _) <;> first | exact z | exact z.elim | skip
  obtain ⟨rfl, z⟩ := z
  first
    | exact wpAny_pure (wpAny_pure z)
    | (wp_walk; exact z)
theorem made_call (F : ExcBaseFacts B nid iid bmB) (same : ∀ X : String, bm.contains (.type X) = bmB.contains (.type X)) {us : List Value} {kw : List (Str × Value)} {fI : Addr}
    (at0 : hh.get? C = some (excClassObj nm qn C N bs bm hdct sn sub ab col dd c0 c1 c2 c3 c5 nid)) (hi : Looks (model P w) hh (typeLookup (.ref C) "__init__") (some (.ref fI)))
    (hb : ∀ self, Looks (model P w) hh (bindSpecial (.ref fI) self) (.ref fI, [self])) (fits : us.length ≤ sizeLine)
    (q : codeAny (model P w) (A.under (.builtin "type.__call__" ⟨.ref C :: us, kw⟩)) (.call (.ref fI) ⟨.ref (hh.objs.size + 1) :: us, kw⟩) (InitBack (hh.objs.size + 1) R)
      ⟨(hh.push (kdv_tup us)).push (excO C hh.objs.size), g, dr, tk, os⟩) :
    codeAny (model P w) A (.call (.ref C) ⟨us, kw⟩) R ⟨hh, g, dr, tk, os⟩ := by
  have f1 := tc_lookup
  have f2 := tc_bind (.ref C)
  have typ : (⟨hh, g, dr, tk, os⟩ : Shared).TypeIs (.ref C) "type" := ⟨_, at0, rfl⟩
  have typ2 : Looks (model P w) hh (isInstance (.ref C) (.type "type")) true := (Looks.ld at0).andThen (.of_pure (by kernel_rfl))
  refine codeAny_of_tree ?_
  show wpAny _ _ (callAny (.ref C) _) _ _ _
  repeat (any_goals (first | assumption | with_reducible refine wpAny_loadPart_at at0 ?_ | wp_step))
  refine ⟨rfl, ?_⟩
  refine codeAny_call_builtin_at (Code.quiet_builtin _ (by decide +kernel)) entry_typeCall (check_slot tc_kind tc_split typ2 (tc_args _ _ _) (made_type F same at0 hi hb fits ?_))
  refine codeAny_mono q fun r s z => ?_
  rcases r with e | (v | _ | _ | _) <;> exact z
end
end Ekw
end PySem
namespace Rs
open PySem PySem.Spec PyProof.Rows L2
/-- the class with its __init__, called by the attribute's name -/
structure HaveCK (xc : Nat → XC) (P : Program) (w : World) (K : PySem.W.Frag) (mg : Str → Option Value) (base : Heap) (k : Nat) (x : Str) (c : Nat) : Prop where
  t : OexC K (xc c).cls
  m : mg x = some (.ref (xc c).cls)
  ex : ∃ fI fd ps, PySem.W.findIn K (.ref (xc c).cls) "__init__" = some (some (.ref fI)) ∧ PySem.W.typeIn K (.ref fI) = some (.type "function") ∧ FnOk P w K mg base CX0 k fI fd ps (spIni (xc c).cls (xc c).fld) ∧ ∀ s a u, K.In s.heap → BindsTo s fd ⟨[a], [((xc c).fld, u)]⟩ (ps.zip [a, u])
section
variable {G : Gl} {T : Tab} {F : Call} {xc : Nat → XC} {X : Cx} {k : Nat} {e : Expr} {a o : IE} {p pos : Pos} {kws : List Keyword} {x ks : Str} {tkw : TA}
theorem pmk_kw {C fI : Addr} {j : Nat} {fd : FuncData} {ps : List Str} {sp : Sp} (Tc : OexC X.K C) (iC : PySem.W.findIn X.K (.ref C) "__init__" = some (some (.ref fI))) (tI : PySem.W.typeIn X.K (.ref fI) = some (.type "function"))
    (F1 : FnOk X.prog X.w X.K X.mg X.base CX0 j fI fd ps sp) (hr : Room (j + 1) X.A) (hb : ∀ s a u, X.K.In s.heap → BindsTo s fd ⟨[a], [(ks, u)]⟩ (ps.zip [a, u])) (hg : L2.Gl X x) (hm : X.mg x = some (.ref C)) (hkw : PK X kws tkw)
    (hall : (backToKw pos (keywordEach kws X.env)).all (·.1.isSome) = true := by rfl) (hks : (backToKw pos (keywordEach kws X.env)).filterMap (·.1) = [ks] := by rfl) (hdb : (x == ("__debug__" : Str)) = false := by decide)
    (hpl : ((backTo pos (starEach [] X.env)).any (·.1) || (backToKw pos (keywordEach kws X.env)).any (·.1.isNone)) = false := by rfl) :
    PMk X (.Call (.Name x p) [] kws pos) (fun σ H Q => tkw σ H fun vs H1 => vs.length = 1 ∧ ∀ a, H1 a = none → sp (.ref a :: vs) (upd H1 a (exo a C none))
      (fun v H2 => v = .non ∧ ∃ (d : Addr) (fs : List (Str × V)), H2 a = some (exo a C (some d)) ∧ H2 d = some (exd d fs) ∧ H1 d = none ∧ Q (.ref C) (some d) (upd (del H2 a) d (.xd fs))) (fun _ _ _ => False)) := by
  intro pins s σ H Q I h
  obtain ⟨nm, qn, N, bs, bm, sn, sub, ab, col, dd, c0, c1, c2, c3, c5, hC, hbm⟩ := Tc.cls
  refine wpAny_Call_Name_kw (ld_glob I hg hm ?_ hdb)
  refine PySem.W.callWith_KW0 (h₀ := X.base) I.ok.mod.kin Tc.kC hall ?_ hpl
  refine thn (hkw.run pos pins s σ H _ I h) fun us s1 ⟨vs, H1, I1, r1, hl1, q1⟩ => ⟨I1.kIn, ?_⟩
  rw [hks]
  obtain ⟨v, rfl⟩ := List.length_eq_one_iff.mp hl1
  obtain ⟨u, rfl, ru⟩ := vals1 r1
  show wpAny _ _ (call (.ref C) [] [(ks, u)]) _ _ _
  obtain ⟨hp, g, dr, tk, os⟩ := s1
  have hsz : hp.objs.size ≤ hp.objs.size + 1 := Nat.le_succ _
  have hn : H1 (hp.objs.size + 1) = none := I1.hok.fresh hsz
  have hq := q1 (hp.objs.size + 1) hn
  have kk : ∀ b o, hp.get? b = some o → ((hp.push (PySem.W.kdv_tup [])).push (PySem.HandSPX.excO C hp.objs.size)).get? b = some o := fun b o e => Heap.get?_push_of_some _ (Heap.get?_push_of_some _ e)
  have hget : ((hp.push (PySem.W.kdv_tup [])).push (PySem.HandSPX.excO C hp.objs.size)).get? (hp.objs.size + 1) = some (PySem.HandSPX.excO C hp.objs.size) := by heap_get
  have I2 : Inv X pins σ (upd H1 (hp.objs.size + 1) (exo (hp.objs.size + 1) C none)) ⟨(hp.push (PySem.W.kdv_tup [])).push (PySem.HandSPX.excO C hp.objs.size), g, dr, tk, os⟩ :=
    I1.laid (t' := tk) (a := hp.objs.size + 1) (o := exo (hp.objs.size + 1) C none) (h' := (hp.push (PySem.W.kdv_tup [])).push (PySem.HandSPX.excO C hp.objs.size)) kk hsz (exo_ok hget)
  have r2 : Vals [V.ref (hp.objs.size + 1), v] [Value.ref (hp.objs.size + 1), u] := .cons rfl (.cons ru .nil)
  refine wpAny_call (PySem.Ekw.made_call F.excBase_ValueError (fun Y => PySem.HandSPX.refsVE_contains Y bm hbm) (I1.kIn _ _ hC) (PySem.W.looks_findIn I1.kIn iC) (fun self => PySem.W.bind_fn I1.kIn self tI) (Nat.zero_le _)
    (codeAny_mono (F1.run _ X.stack _ _ ⟨[Value.ref (hp.objs.size + 1)], [(ks, u)]⟩ [Value.ref (hp.objs.size + 1), u] _ _ (fun _ _ _ => False) (hr.make C [] [(ks, u)]) (I2.env0.make C [] [(ks, u)]) (hb _ (Value.ref (hp.objs.size + 1)) u I2.kIn) r2 hq) fun r s' hq' => ?_))
  cases r with
  | error er => exact pass0 pins σ _ _ er s' I2 hq'
  | ok fl =>
    cases fl with
    | ret u9 =>
      obtain ⟨v9, H2, os2, bare2, un2, hok2, rv, ev, d, fs, ea, ed, hd1, q2⟩ := hq'
      subst ev
      obtain ⟨h2, g2, d2, t2, os'⟩ := s'
      exact ⟨rv, mk_end (raises_own Tc.exC Tc.tyC) I1 hsz kk un2 hok2 os2 bare2 ea ed hd1 q2⟩
    | next => exact False.elim hq'
    | brk => exact False.elim hq'
    | cont => exact False.elim hq'
/-- C(f = e) -/
theorem se_mkxK (ox : XO G k X) {cn c f k' : Nat} (hv : HaveCK xc X.prog X.w X.K X.mg X.base k' x cn) (hk : k' + 1 ≤ k) (hx : (xc cn).cls = G.ca c) (hf : (xc cn).fld = G.nm f) (hg : L2.Gl X x) (hkw : PK X kws (tVs G (evalVs T F [a]))) (hfs : (xc cn).fld = ks)
    (hall : (backToKw pos (keywordEach kws X.env)).all (·.1.isSome) = true := by rfl) (hks : (backToKw pos (keywordEach kws X.env)).filterMap (·.1) = [ks] := by rfl) (hdb : (x == ("__debug__" : Str)) = false := by decide)
    (hpl : ((backTo pos (starEach [] X.env)).any (·.1) || (backToKw pos (keywordEach kws X.env)).any (·.1.isNone)) = false := by rfl) : PE X (.Call (.Name x p) [] kws pos) (EE G T F (.mkx c f a)) := by
  subst hfs
  obtain ⟨fI, fd, ps, h1, h2, h3, h4⟩ := hv.ex
  refine PE.weak (pe_of_pmk (pmk_kw hv.t h1 h2 h3 (Room.mono ox.room hk) h4 hg hv.m hkw hall hks hdb hpl)) fun σ H Q ⟨C, s, r, s', hH, rl, ev, kk⟩ => ?_
  unfold evalE at ev
  obtain ⟨v, s1, e1, ev2⟩ := bind_ok ev
  clear ev
  cases ev2
  refine ⟨C, s, [v], s1, hH, rl, by unfold evalVs; rw [e1]; unfold evalVs; rfl, fun C1 us l1 r1 hus => ?_⟩
  unfold VRs at hus
  obtain ⟨u, r0, rfl, hu, hr0⟩ := hus
  unfold VRs at hr0
  subst hr0
  refine ⟨rfl, fun b hb => ⟨b, u, rfl, by simp [upd], fun dx hdx hne => ⟨rfl, dx, [((xc cn).fld, u)], by simp [upd], by simp [upd, hne], ?_, ?_⟩⟩⟩
  · simpa [upd, hne] using hdx
  · rw [ini_end hb hne]
    have hd0 : C1.H dx = none := by simpa [upd, hne] using hdx
    intro b2 w hb2 eo
    rw [hx] at eo
    rw [hf] at hb2 ⊢
    obtain ⟨C', l', h', r', v'⟩ := err_new (c := c) (f := f) r1 hu hd0 hb2 eo
    rw [← h']
    exact kk C' _ (l1.trans l') r' v'
end
end Rs
end
section
set_option maxRecDepth 100000
set_option maxHeartbeats 4000000
/-! try: clauses with names and without, beside each other. -/
namespace L2
open PySem PySem.Spec PyProof.Rows
/-- what the clauses wish of an exception; the Bool tells whether the clause has the name of slot i -/
def wMix (K : PySem.W.Frag) (i : Nat) (Wout : WX) (D : Ends) : List (Bool × Value × (Addr → Value → Option Addr → TS)) → WX
  | [] => Wout
  | (nb, c, ts) :: r => fun cls d σ H => ∃ b, PySem.W.exmOne K cls c = some b ∧
      (b = true → ∀ a, H a = none → (match nb with
        | true => ts a cls d { nx := fun σ' H' => D.nx (σ'.set i none) H', rt := D.rt, bk := fun σ' H' => D.bk (σ'.set i none) H', ct := fun σ' H' => D.ct (σ'.set i none) H' } (σ.set i (some (.ref a))) H
        | false => ts a cls d D σ H)) ∧ (b = false → wMix K i Wout D r cls d σ H)
inductive HdsMix (X : Cx) (n : Str) : List ExceptHandler → List (Bool × Value × (Addr → Value → Option Addr → TS)) → Prop
  | nil : HdsMix X n [] []
  | cons {nb : Bool} {x : Str} {c : Value} {ts : Addr → Value → Option Addr → TS} {b₀ : Stmt} {suite : List Stmt} {np pos' : Pos} {hds : List ExceptHandler} {l : List (Bool × Value × (Addr → Value → Option Addr → TS))} (hc : Names X x c)
      (hsu : ∀ (a : Addr) (oe : Obj) (cls : Value) (d : Option Addr) (pn : List (Addr × Obj)), Zc cls d oe → (∃ vs, oe.data = .fields vs) → PSs (X.suite a ((a, oe) :: pn)) (b₀ :: suite) (ts a cls d)) (r : HdsMix X n hds l) :
      HdsMix X n (.ExceptHandler (some (.Name x np)) (if nb then some n else none) (b₀ :: suite) pos' :: hds) ((nb, c, ts) :: l)
section
variable {X : Cx} {n : Str} {i : Nat} {body : List Stmt} {h₀ : ExceptHandler} {hds : List ExceptHandler} {l : List (Bool × Value × (Addr → Value → Option Addr → TS))} {pos : Pos} {tb : WX → TS} {Wout : WX}
theorem ps_try_mix (hs : X.stack = X.env :: X.outer) (hf : X.env.frame = some X.env.locals) (hN : X.N.Nodup) (hi : X.N[i]? = some n) (hln : X.env.kindOf n = some .local) (tk : Takes X Wout)
    (hb : ∀ (W : WX) (pn : List (Addr × Obj)) (xe : Value → Shared → Prop), Takes (X.tr pn xe) W → PassesOwn (model X.prog X.w) X.A X.env xe → PSs (X.tr pn xe) body (tb W))
    (hh : HdsMix X n (h₀ :: hds) l) : PS X (.Try body (h₀ :: hds) [] [] pos) (fun D σ H => tb (wMix X.K i Wout D l) D σ H) := by
  refine ⟨fun pins s σ H D I h => ?_⟩
  have ok := I.ok
  have hfr : X.A.frames = some (X.env :: X.outer) := by rw [ok.frames, hs]
  have hloc : Loc X.env.scope n := .inl hln
  refine wpAny_Try_except ?_
  refine wpAny_mono ((hb (wMix X.K i Wout D l) (X.pn ++ pins) (fun e s₁ => wpAny (model X.prog X.w) X.A (noteFrame e X.env) (fun _ s₂ => wpAny (model X.prog X.w) X.A (setFlight e none) (fun _ s₃ =>
    wpAny (model X.prog X.w) X.A (handleBy e X.env (h₀ :: hds)) (SP X pins D) X.xe s₃) X.xe s₂) X.xe s₁) (fun u s' xx => ?_) PassesOwn.looking).run [] s σ H D (I.toTry _) h) (fun f s1 hsp => ?_) (fun e s1 he => he)
  · obtain ⟨a, B, sI, pins', σ', H', cls, d, rfl, J', nbare, up, sky, na, os, ag, w⟩ := xx
    have J : Inv X pins σ' H' sI := J'.ofTry ok
    have sky1 : Sky B (X.env :: X.outer) a (Zc cls d) X.env.locals s'.heap := by rw [← hs]; exact sky
    show wpAny (model X.prog X.w) X.A (noteFrame (.ref a) X.env) _ _ _
    refine Sky.land Zc.steady hfr hf sky1 fun hp3 fly3 up3 => ?_
    have J3 : Inv X pins σ' H' { s' with heap := hp3 } := J.landed nbare fly3.1 (up.trans up3) os ag
    obtain ⟨oe3, vs3, he3, hz3, hd3⟩ := fly3.there
    have notFr : ∀ {h : Heap} {o : Obj} {vs : Array Value}, h.FunFrames B (X.env :: X.outer) → h.get? a = some o → o.data = .fields vs → a ∉ frs (X.env :: X.outer) := fun {h o vs} ff e dd hm => by
      obtain ⟨_, o', e', hnf⟩ := ff.mem hm
      rw [e] at e'; cases e'
      exact hnf _ dd
    have nfr := notFr fly3.2.2.1 he3 hd3
    have nL : a ≠ X.env.locals := fun z => nfr (List.mem_filterMap.mpr ⟨X.env, List.mem_cons_self, by rw [hf, z]⟩)
    have nF : a ∉ X.fs := fun hm => by
      obtain ⟨e, he, q⟩ := List.mem_filterMap.mp hm
      exact nfr (List.mem_filterMap.mpr ⟨e, List.mem_cons_of_mem _ he, q⟩)
    have S3 := J3.suite he3 hd3 na nL nF
    have go : ∀ {hds' : List ExceptHandler} {l' : List (Bool × Value × (Addr → Value → Option Addr → TS))}, HdsMix X n hds' l' → wMix X.K i Wout D l' cls d σ' H' →
        wpAny (model X.prog X.w) X.A (handleBy (.ref a) X.env hds') (SP X pins D) X.xe { s' with heap := hp3 } := by
      intro hds' l' hk
      induction hk with
      | nil =>
        intro w
        refine wpAny_handleBy_nil ?_
        obtain ⟨k1, k2, k3, oe, vs, T, oT, ts', he, hz, hd, h1, hr⟩ := id fly3
        unfold PySem.passOn
        refine wpAny_bind (wpAny_field he hd h1 ?_)
        rw [if_neg (show ¬ ((Value.ref T == Value.none) = true) from by simp)]
        have fin : wpAny (model X.prog X.w) X.A (setFlight (.ref a) X.env.frame) (fun _ s4 => wpAny (model X.prog X.w) X.A (throw (.ref a) : Sem Flow) (SP X pins D) X.xe s4) X.xe { s' with heap := hp3 } := by
          rw [hf]
          refine HandSPX.setFlight_upZ fly3 fun hp4 hh4 up4 => wpAny_throw (tk _ _ ?_)
          exact ⟨a, B, sI, pins, σ', H', cls, d, rfl, J, nbare, (up.trans up3).trans up4, .inr (.inr (by rw [hs]; exact hh4)), na, os, ag, w⟩
        first
          | exact wpAny_bind (wpAny_pure (wpAny_bind fin))
          | exact wpAny_bind fin
      | @cons nb x c ts b₀ suite np pos' hds2 l2 hc hsu r ih =>
        intro w
        obtain ⟨b, hb1, hyes, hno⟩ := w
        refine wpAny_handleBy_cons (codeAny_handlers_test ?_) (by intro q; cases q)
        have LT : PySem.W.Looks (model X.prog X.w) hp3 (typeOf (.ref a)) cls := fun A Q E s k q => wpAny_typeOf_ref (k _ _ he3) (by rw [hz3.1]; exact q)
        have LM := PySem.W.exm_one (M := model X.prog X.w) (J3.kIn) LT hb1
        have test : ∀ {Q : Value → Shared → Prop} {E : Value → Shared → Prop}, Q c { s' with heap := hp3 } → wpAny (model X.prog X.w) (X.A.mark (some (.ref a))) (eval (.Name x np) X.env) Q E { s' with heap := hp3 } := fun {Q E} q => by
          obtain ⟨hg, hdbg, hm | ⟨hm, hv, hnn⟩⟩ := hc
          · exact ld_glob (X := X.suite a ((a, oe3) :: (X.pn ++ pins))) S3 hg hm q hdbg
          · exact ld_blt (X := X.suite a ((a, oe3) :: (X.pn ++ pins))) S3 hg hm hv q hnn hdbg
        refine test (LM.here ?_)
        cases b with
        | true =>
          cases nb with
          | true =>
            refine codeAny_handlers_suite_as ?_
            refine HandSPX.lands_againZ fly3 fun hp4 fly4 up4 => ?_
            have J4 : Inv X pins σ' H' { s' with heap := hp4 } := J.landed nbare fly4.1 ((up.trans up3).trans up4) os ag
            obtain ⟨oe4, vs4, he4, hz4, hd4⟩ := fly4.there
            have S4 := J4.suite he4 hd4 na nL nF
            refine store_ok (X := X.suite a ((a, oe4) :: (X.pn ++ pins))) (v := .ref a) S4 hN hi hloc rfl (fun s5 S5 => ?_) (.inr hln)
            refine wpAny_mono ((hsu a oe4 cls d (X.pn ++ pins) hz4 ⟨_, hd4⟩).run [] s5 _ H' _ S5 (hyes rfl a na)) (fun f s6 hsp => ?_) (fun _ _ z => False.elim z)
            have end_ : ∀ {σ6 : St} {H6 : Hp} {Q : Shared → Prop}, Inv (X.suite a ((a, oe4) :: (X.pn ++ pins))) [] σ6 H6 s6 → (∀ s7, Inv X pins (σ6.set i none) H6 s7 → Q s7) →
                wpAny (model X.prog X.w) X.A (do bindName X.env n .none; unbindBehindTheSuite X.env n pos') (fun _ s7 => Q s7) X.xe s6 := fun {σ6 H6 Q} S6 hq => gone_ok (S6.unsuite ok) hN hi hln hq
            cases f with
            | next =>
              obtain ⟨σ6, H6, S6, q6⟩ := hsp
              exact end_ S6 fun s7 J7 => ⟨_, _, J7, q6⟩
            | brk =>
              obtain ⟨σ6, H6, S6, q6⟩ := hsp
              exact end_ S6 fun s7 J7 => ⟨_, _, J7, q6⟩
            | cont =>
              obtain ⟨σ6, H6, S6, q6⟩ := hsp
              exact end_ S6 fun s7 J7 => ⟨_, _, J7, q6⟩
            | ret u =>
              obtain ⟨v6, σ6, H6, S6, r6, q6⟩ := hsp
              exact end_ S6 fun s7 J7 => ⟨_, _, _, J7, r6, q6⟩
          | false =>
            refine codeAny_handlers_suite ?_
            refine HandSPX.lands_againZ fly3 fun hp4 fly4 up4 => ?_
            have J4 : Inv X pins σ' H' { s' with heap := hp4 } := J.landed nbare fly4.1 ((up.trans up3).trans up4) os ag
            obtain ⟨oe4, vs4, he4, hz4, hd4⟩ := fly4.there
            have S4 := J4.suite he4 hd4 na nL nF
            refine wpAny_mono ((hsu a oe4 cls d (X.pn ++ pins) hz4 ⟨_, hd4⟩).run [] _ _ H' _ S4 (hyes rfl a na)) (fun f s6 hsp => ?_) (fun _ _ z => False.elim z)
            cases f with
            | next =>
              obtain ⟨σ6, H6, S6, q6⟩ := hsp
              exact ⟨_, _, S6.unsuite ok, q6⟩
            | brk =>
              obtain ⟨σ6, H6, S6, q6⟩ := hsp
              exact ⟨_, _, S6.unsuite ok, q6⟩
            | cont =>
              obtain ⟨σ6, H6, S6, q6⟩ := hsp
              exact ⟨_, _, S6.unsuite ok, q6⟩
            | ret u =>
              obtain ⟨v6, σ6, H6, S6, r6, q6⟩ := hsp
              exact ⟨_, _, _, S6.unsuite ok, r6, q6⟩
        | false =>
          show wpAny _ X.A (handleBy (.ref a) X.env hds2) _ _ _
          exact ih (hno rfl)
    exact go hh w
  · cases f with
    | next =>
      obtain ⟨σ', H', J', q⟩ := hsp
      exact wpAny_execs_nil ⟨σ', H', J'.ofTry ok, q⟩
    | brk =>
      obtain ⟨σ', H', J', q⟩ := hsp
      exact ⟨σ', H', J'.ofTry ok, q⟩
    | cont =>
      obtain ⟨σ', H', J', q⟩ := hsp
      exact ⟨σ', H', J'.ofTry ok, q⟩
    | ret u =>
      obtain ⟨v, σ', H', J', r, q⟩ := hsp
      exact ⟨v, σ', H', J'.ofTry ok, r, q⟩
end
end L2
namespace Rs
open PySem PySem.Spec PyProof.Rows L2
/-- isinstance of the caught error -/
theorem call_isQ {X : Cx} {a : Addr} {cls : Value} {d : Option Addr} {oe : Obj} {pn : List (Addr × Obj)} (hz : Zc cls d oe) (hf : ∃ vs, oe.data = .fields vs) : CallR (X.suite a ((a, oe) :: pn)) (.builtin "isinstance") (fun xs H Q => ∃ (D dd : Addr) (fs : List (Str × V)) (t : V) (cv : Value) (b : Bool), xs = [.ref a, t] ∧ cls = .ref D ∧ d = some dd ∧ ExcC X.K D ∧ H dd = some (.xd fs) ∧ (∀ u, RelV t u → u = cv) ∧ PySem.W.kitOne X.K (.ref D) cv = some b ∧ Q (.bl b) H) := by
  intro pins s σ H xs us Q I r h
  obtain ⟨D, dd, fs, t, cv, b, rfl, rfl, rfl, c, hd, ht, e, q⟩ := h
  exact call_isP c ⟨hz, hf⟩ pins s σ H _ us Q I r ⟨fs, t, cv, b, rfl, hd, ht, e, q⟩
section
variable {G : Gl} {T : Tab} {F : Call} {xc : Nat → XC} {X : Cx} {k i : Nat} {y : Str} {body : List Stmt} {b : List IS} {pos p1 p2 p3 p4 p5 p6 p7 p8 p9 : Pos}
/-- return n -/
abbrev tRk (n : Int) : Addr → Value → Option Addr → TS := fun _ _ _ => tSeq (tRet (tC (.int n))) tNext
theorem su_k {n : Int} {tj : Nat} (a : Addr) (oe : Obj) (cls : Value) (d : Option Addr) (pn : List (Addr × Obj)) (_ : Zc cls d oe) (_ : ∃ vs, oe.data = .fields vs) : PSs (X.suite a ((a, oe) :: pn)) [.Return (some (.Constant (.int n) tj p1)) p2] (tRk n a cls d) := pss_cons (ps_ret pe_int) pss_nil
/-- return 4 if isinstance(e, c) else 5 -/
def tRis (K : PySem.W.Frag) (i : Nat) (C : Addr) (n : Int) : Addr → Value → Option Addr → TS := fun a cls d D σ H => ∃ (E dd : Addr) (fs : List (Str × V)), σ[i]? = some (some (.ref a)) ∧ cls = .ref E ∧ d = some dd ∧ ExcC K E ∧ H dd = some (.xd fs) ∧ PySem.W.kitOne K (.ref E) (.ref C) = some true ∧ D.rt (.int n) H
theorem su_is {x : Str} {C : Addr} {n m : Int} {tj tk : Nat} (hi : X.N[i]? = some y) (hc : X.mg x = some (.ref C)) (hgx : L2.Gl X x) (hg : L2.Gl X "isinstance") (hm : X.mg "isinstance" = none) (hv : Vis X.env.scope y := by first | exact Or.inl rfl | exact Or.inr (Or.inl rfl)) (hd : (y == ("__debug__" : Str)) = false := by decide) (hcd : (y == ("__classdict__" : Str)) = false := by decide) (hdx : (x == ("__debug__" : Str)) = false := by decide)
    (hs : starEach [.Name y p2, .Name x p3] X.env = (false, eval (.Name y p2) X.env) :: starEach [.Name x p3] X.env := by rfl) (hs2 : starEach [.Name x p3] X.env = (false, eval (.Name x p3) X.env) :: starEach [] X.env := by rfl)
    (hpl : (backTo p4 (starEach [.Name x p3] X.env)).any (·.1) = false := by rfl) (a : Addr) (oe : Obj) (cls : Value) (d : Option Addr) (pn : List (Addr × Obj)) (hz : Zc cls d oe) (hf : ∃ vs, oe.data = .fields vs) :
    PSs (X.suite a ((a, oe) :: pn)) [.Return (some (.IfExp (.Call (.Name "isinstance" p1) [.Name y p2, .Name x p3] [] p4) (.Constant (.int n) tj p5) (.Constant (.int m) tk p6) p7)) p8] (tRis X.K i C n a cls d) := by
  refine PSs.weak (pss_cons (ps_ret (pe_ifExp (pt_val (pe_callB (X := X.suite a ((a, oe) :: pn)) (call_isQ hz hf) hg hm (by decide +kernel) (pa_cons (pe_var hi hv hd hcd) (pa_cons (pe_glob (v := .ref C) hgx hc rfl hdx) pa_nil hs2) hs) (by decide) (by decide) hs hpl)) pe_int pe_int)) pss_nil) fun D σ H ⟨E, dd, fs, h1, h2, h3, h4, h5, h6, h7⟩ => ?_
  exact ⟨.ref a, h1, E, dd, fs, .ref C, .ref C, true, rfl, h2, h3, h4, h5, (fun u z => z), h6, true, rfl, by show if true = true then _ else _; rw [if_pos rfl]; exact h7⟩
/-- the tests of an error's class -/
structure KindsX (xc : Nat → XC) (K : PySem.W.Frag) (CS : Addr) : Prop where
  e0 : PySem.W.exmOne K (.ref (xc 0).cls) (.ref (xc 0).cls) = some true
  e1 : PySem.W.exmOne K (.ref (xc 1).cls) (.ref (xc 1).cls) = some true
  e2 : PySem.W.exmOne K (.ref (xc 2).cls) (.ref (xc 2).cls) = some true
  e3 : PySem.W.exmOne K (.ref (xc 3).cls) (.ref (xc 3).cls) = some true
  n10 : PySem.W.exmOne K (.ref (xc 1).cls) (.ref (xc 0).cls) = some false
  n20 : PySem.W.exmOne K (.ref (xc 2).cls) (.ref (xc 0).cls) = some false
  n21 : PySem.W.exmOne K (.ref (xc 2).cls) (.ref (xc 1).cls) = some false
  n30 : PySem.W.exmOne K (.ref (xc 3).cls) (.ref (xc 0).cls) = some false
  n31 : PySem.W.exmOne K (.ref (xc 3).cls) (.ref (xc 1).cls) = some false
  n32 : PySem.W.exmOne K (.ref (xc 3).cls) (.ref (xc 2).cls) = some false
  n40 : PySem.W.exmOne K (.ref (xc 4).cls) (.ref (xc 0).cls) = some false
  n41 : PySem.W.exmOne K (.ref (xc 4).cls) (.ref (xc 1).cls) = some false
  n42 : PySem.W.exmOne K (.ref (xc 4).cls) (.ref (xc 2).cls) = some false
  n43 : PySem.W.exmOne K (.ref (xc 4).cls) (.ref (xc 3).cls) = some false
  e4 : PySem.W.exmOne K (.ref (xc 4).cls) (.ref CS) = some true
  x4 : ExcC K (xc 4).cls
  k4 : PySem.W.kitOne K (.ref (xc 4).cls) (.ref (xc 4).cls) = some true
abbrev clsM (xc : Nat → XC) (K : PySem.W.Frag) (i : Nat) (CS : Addr) : List (Bool × Value × (Addr → Value → Option Addr → TS)) :=
  [(false, .ref (xc 0).cls, tRk 0), (false, .ref (xc 1).cls, tRk 1), (false, .ref (xc 2).cls, tRk 2), (false, .ref (xc 3).cls, tRk 3), (true, .ref CS, tRis K i (xc 4).cls 4)]
theorem ss_tryX {h₀ : ExceptHandler} {hds : List ExceptHandler} {CS : Addr} (hs : X.stack = X.env :: X.outer) (hf : X.env.frame = some X.env.locals) (hN : X.N.Nodup) (hi : X.N[i]? = some y) (hln : X.env.kindOf y = some .local) (kx : KindsX xc X.K CS)
    (hh : HdsMix X y (h₀ :: hds) (clsM xc X.K i CS))
    (hb : ∀ (W : WX) (pn : List (Addr × Obj)) (xe : Value → Shared → Prop), Takes (X.tr pn xe) W → PassesOwn (model X.prog X.w) X.A X.env xe → PSs (X.tr pn xe) body (SXs G xc T F b W)) :
    PS X (.Try body (h₀ :: hds) [] [] pos) (SS G T F (.tryS b [(0, .cst 0), (1, .cst 1), (2, .cst 2), (3, .cst 3), (4, .cst 4)])) := by
  refine PS.weak (ps_try_mix (i := i) hs hf hN hi hln (takes0 (X := X)) (tb := fun W => SXs G xc T F b (fun cls d σ H => σ.length = X.N.length → W cls d σ H)) (fun W pn xe t po => hb (fun cls d σ H => σ.length = X.N.length → W cls d σ H) pn xe (takes_len t) po) hh) fun D σ H ⟨C, s, fl, s', hH, rl, ev, kk⟩ => ?_
  refine ⟨C, s, hH, rl, ?_⟩
  unfold execS at ev
  split at ev
  · rename_i f1 s1 q
    cases ev
    exact .inl ⟨_, _, q, kk⟩
  · split at ev
    · rename_i c1 v1 s1 q
      split at ev
      · rename_i u hlu
        refine .inr ⟨c1, v1, s1, q, fun C' σ' uu d l r hu hdd hln2 => ?_⟩
        have hi2 : i < σ'.length := by rw [hln2]; exact (List.getElem?_eq_some_iff.mp hi).1
        by_cases h0 : c1 = 0
        · subst h0
          cases hlu
          cases ev
          exact ⟨true, kx.e0, fun _ a ha => kk C' σ' l r _ VR.int, fun z => nomatch z⟩
        by_cases h1 : c1 = 1
        · subst h1
          cases hlu
          cases ev
          exact ⟨false, kx.n10, (fun z => nomatch z), fun _ => ⟨true, kx.e1, fun _ a ha => kk C' σ' l r _ VR.int, fun z => nomatch z⟩⟩
        by_cases h2 : c1 = 2
        · subst h2
          cases hlu
          cases ev
          exact ⟨false, kx.n20, (fun z => nomatch z), fun _ => ⟨false, kx.n21, (fun z => nomatch z), fun _ => ⟨true, kx.e2, fun _ a ha => kk C' σ' l r _ VR.int, fun z => nomatch z⟩⟩⟩
        by_cases h3 : c1 = 3
        · subst h3
          cases hlu
          cases ev
          exact ⟨false, kx.n30, (fun z => nomatch z), fun _ => ⟨false, kx.n31, (fun z => nomatch z), fun _ => ⟨false, kx.n32, (fun z => nomatch z), fun _ => ⟨true, kx.e3, fun _ a ha => kk C' σ' l r _ VR.int, fun z => nomatch z⟩⟩⟩⟩
        by_cases h4 : c1 = 4
        · subst h4
          cases hlu
          cases ev
          exact ⟨false, kx.n40, (fun z => nomatch z), fun _ => ⟨false, kx.n41, (fun z => nomatch z), fun _ => ⟨false, kx.n42, (fun z => nomatch z), fun _ => ⟨false, kx.n43, (fun z => nomatch z), fun _ => ⟨true, kx.e4, fun _ a ha =>
            ⟨(xc 4).cls, d, _, List.getElem?_set_self hi2, rfl, rfl, kx.x4, hdd, kx.k4, kk C' σ' l r _ VR.int⟩, fun z => nomatch z⟩⟩⟩⟩⟩
        · exfalso
          rw [List.lookup_cons, show (c1 == 0) = false by simpa using h0] at hlu
          dsimp only at hlu
          rw [List.lookup_cons, show (c1 == 1) = false by simpa using h1] at hlu
          dsimp only at hlu
          rw [List.lookup_cons, show (c1 == 2) = false by simpa using h2] at hlu
          dsimp only at hlu
          rw [List.lookup_cons, show (c1 == 3) = false by simpa using h3] at hlu
          dsimp only at hlu
          rw [List.lookup_cons, show (c1 == 4) = false by simpa using h4] at hlu
          cases hlu
      · cases ev
    · cases ev
end
end Rs
end
section
set_option maxRecDepth 100000
set_option maxHeartbeats 4000000
/-! What is looked at of the error classes, all at once. -/
namespace Rs
open PySem PySem.Spec PyProof.Rows L2
def excCB (K : PySem.W.Frag) (D : Addr) : Bool :=
  He.eqO (PySem.W.findIn K (.ref D) "__getattribute__") (some (some (.builtin "BaseException.__getattribute__"))) && (He.eqO (PySem.W.findIn K (.ref D) "__getattr__") (some none) && (decide (PySem.W.subIn K (.ref D) (.type "BaseException") = some true) && (PySem.W.hasDictIn K D &&
    (He.eqO (PySem.W.findIn K (.ref D) "__class__") (some (some (.builtin "object.__class__"))) && (He.eqO (PySem.W.specialIn K (.builtin "object.__class__") "__get__") (some (some (.builtin "getset_descriptor.__get__"))) &&
    (decide (PySem.W.takesIn K (.builtin "object.__class__") = some true) && decide (PySem.W.mroIn K D (.type "object") = some true)))))))
theorem excCB_ok {K : PySem.W.Frag} {D : Addr} (h : excCB K D = true) : ExcC K D := by
  obtain ⟨h1, h⟩ := He.ba h
  obtain ⟨h2, h⟩ := He.ba h
  obtain ⟨h3, h⟩ := He.ba h
  obtain ⟨h4, h⟩ := He.ba h
  obtain ⟨h5, h⟩ := He.ba h
  obtain ⟨h6, h⟩ := He.ba h
  obtain ⟨h7, h8⟩ := He.ba h
  exact ⟨He.eqO_ok h1, He.eqO_ok h2, of_decide_eq_true h3, h4, He.eqO_ok h5, He.eqO_ok h6, of_decide_eq_true h7, of_decide_eq_true h8⟩
/-- of every class of errors, what isinstance tells beside cv -/
def isTB (K : PySem.W.Frag) (cv : Value) : List (Addr × Bool) → Bool
  | [] => true
  | (D, b) :: r => decide (PySem.W.kitOne K (.ref D) cv = some b) && isTB K cv r
theorem isTB_mem {K : PySem.W.Frag} {cv : Value} : ∀ {l : List (Addr × Bool)}, isTB K cv l = true → ∀ p ∈ l, PySem.W.kitOne K (.ref p.1) cv = some p.2
  | [], _, p, hp => by cases hp
  | q :: r, h, p, hp => by
    obtain ⟨h1, h2⟩ := He.ba h
    rcases List.mem_cons.mp hp with rfl | hp
    · exact of_decide_eq_true h1
    · exact isTB_mem h2 p hp
def eAd (K : PySem.W.Frag) (n : Nat) : Addr := (xcL K n).cls
def eTab (K : PySem.W.Frag) (bs : List Bool) : List (Addr × Bool) := [(eAd K 0, bs.getD 0 false), (eAd K 1, bs.getD 1 false), (eAd K 2, bs.getD 2 false), (eAd K 3, bs.getD 3 false), (eAd K 4, bs.getD 4 false)]
def exT (K : PySem.W.Frag) (a b : Addr) (r : Bool) : Bool := decide (PySem.W.exmOne K (.ref a) (.ref b) = some r)
abbrev veMro : List Value := [.type "ValueError", .type "Exception", .type "BaseException", .type "object"]
def errB1 (K : PySem.W.Frag) : Bool := excCB K (eAd K 0) && (excCB K (eAd K 1) && (excCB K (eAd K 2) && (excCB K (eAd K 3) && excCB K (eAd K 4))))
def errB2 (K : PySem.W.Frag) : Bool := isTB K (.ref (eAd K 0)) (eTab K [true]) && (isTB K (.ref (eAd K 1)) (eTab K [false, true]) && (isTB K (.ref (eAd K 2)) (eTab K [false, false, true]) && (isTB K (.ref (eAd K 3)) (eTab K [false, false, false, true]) && (isTB K (.ref (eAd K 4)) (eTab K [false, false, false, false, true]) &&
    (isTB K (.ref (He.ga K "ShelfError")) (eTab K [true, true, true, true, true]) && isTB K (.type "ValueError") (eTab K [true, true, true, true, true]))))))
def errB3 (K : PySem.W.Frag) : Bool := exT K (eAd K 1) (eAd K 0) false && (exT K (eAd K 2) (eAd K 0) false && (exT K (eAd K 2) (eAd K 1) false && (exT K (eAd K 3) (eAd K 0) false && (exT K (eAd K 3) (eAd K 1) false && (exT K (eAd K 3) (eAd K 2) false &&
    (exT K (eAd K 4) (eAd K 0) false && (exT K (eAd K 4) (eAd K 1) false && (exT K (eAd K 4) (eAd K 2) false && (exT K (eAd K 4) (eAd K 3) false && exT K (eAd K 4) (He.ga K "ShelfError") true)))))))))
def errB4 (K : PySem.W.Frag) : Bool := PySem.W.excIn K (He.ga K "ShelfError") veMro "ValueError.__new__" && (PySem.W.keepIn K (.ref (He.ga K "ShelfError")) && (excCB K (He.ga K "ShelfError") && decide (PySem.W.kitOne K (.ref (He.ga K "ShelfError")) (.type "ValueError") = some true)))
def errB (K : PySem.W.Frag) : Bool := errB1 K && (errB2 K && (errB3 K && errB4 K))
/-- the tables of isinstance -/
abbrev tbE (bs : List Bool) : List (Nat × Bool) := [(5, bs.getD 0 false), (6, bs.getD 1 false), (7, bs.getD 2 false), (8, bs.getD 3 false), (9, bs.getD 4 false)]
theorem isTab_ok {G : Gl} {cv : Value} {bs : List Bool} (hc : ∀ n, n < 5 → G.ca (5 + n) = eAd G.K n) (h : isTB G.K cv (eTab G.K bs) = true) (hx : ∀ n, n < 5 → ExcC G.K (eAd G.K n)) : IsTab G (tbE bs) cv := fun c b e => by
  have hm : (c, b) ∈ tbE bs := by
    revert e
    generalize tbE bs = l
    induction l with
    | nil => intro e; cases e
    | cons q r ih =>
      intro e
      rw [List.lookup_cons] at e
      by_cases hq : c = q.1
      · rw [show (c == q.1) = true by simpa using hq] at e
        cases e
        rw [hq]
        exact List.mem_cons_self
      · rw [show (c == q.1) = false by simpa using hq] at e
        exact List.mem_cons_of_mem _ (ih e)
  have key : ∀ n, n < 5 → (c, b) = (5 + n, bs.getD n false) → ExcC G.K (G.ca c) ∧ PySem.W.kitOne G.K (.ref (G.ca c)) cv = some b := fun n hn e => by
    cases e
    rw [hc n hn]
    refine ⟨hx n hn, isTB_mem h (eAd G.K n, bs.getD n false) ?_⟩
    unfold eTab
    match n, hn with
    | 0, _ => simp
    | 1, _ => simp
    | 2, _ => simp
    | 3, _ => simp
    | 4, _ => simp
  simp only [List.mem_cons, List.not_mem_nil, or_false] at hm
  rcases hm with e | e | e | e | e
  · exact key 0 (by omega) e
  · exact key 1 (by omega) e
  · exact key 2 (by omega) e
  · exact key 3 (by omega) e
  · exact key 4 (by omega) e
/-- how the __init__ of an error binds its attribute's name -/
theorem ini_kw {K : PySem.W.Frag} {x qual fld : Str} {params : Arguments} {body : List Stmt} {scope : Scope} {f : Addr} {fd : FuncData} {ps : List Str} (F : FunD K x qual params body scope [] [] f fd)
    (h : ∀ (kV doc pmv : Value) (an : Option Addr) (cdv ct a u : Value), bindArgs (PySem.W.fnOf x qual params body scope .none kV doc pmv an cdv ct) ⟨[a], [(fld, u)]⟩ = pure (ps.zip [a, u])) : ∀ s a u, K.In s.heap → BindsTo s fd ⟨[a], [(fld, u)]⟩ (ps.zip [a, u]) := by
  obtain ⟨oc, od, dV, kV, doc, pmv, an, cdv, ct, osl, rfl, lk, hcd, hD, hK⟩ := F.ex
  rcases hD with ⟨_, rfl⟩ | ⟨e, _⟩
  · exact fun s a u _ => .of_eq (h kV doc pmv an cdv ct a u)
  · exact absurd rfl e
/-- all that the law asks of the errors -/
structure ErrF (G : Gl) (mg : Str → Option Value) : Prop where
  mS : mg "ShelfError" = some (.ref (He.ga G.K "ShelfError"))
  x : ∀ n, n < 5 → ExcC G.K (eAd G.K n)
  i0 : IsTab G (tbE [true]) (.ref (eAd G.K 0))
  i1 : IsTab G (tbE [false, true]) (.ref (eAd G.K 1))
  i2 : IsTab G (tbE [false, false, true]) (.ref (eAd G.K 2))
  i3 : IsTab G (tbE [false, false, false, true]) (.ref (eAd G.K 3))
  i4 : IsTab G (tbE [false, false, false, false, true]) (.ref (eAd G.K 4))
  iS : IsTab G (tbE [true, true, true, true, true]) (.ref (He.ga G.K "ShelfError"))
  iV : IsTab G (tbE [true, true, true, true, true]) (.type "ValueError")
  kx : (∀ n, n < 4 → PySem.W.exmOne G.K (.ref (eAd G.K n)) (.ref (eAd G.K n)) = some true) → KindsX (xcL G.K) G.K (He.ga G.K "ShelfError")
  e0 : PySem.W.excIn G.K (He.ga G.K "ShelfError") veMro "ValueError.__new__" = true
  k0 : PySem.W.keepIn G.K (.ref (He.ga G.K "ShelfError")) = true
  c0 : ExcC G.K (He.ga G.K "ShelfError")
  v0 : PySem.W.kitOne G.K (.ref (He.ga G.K "ShelfError")) (.type "ValueError") = some true
theorem errF_ok {G : Gl} {mg : Str → Option Value} (hc : ∀ n, n < 5 → G.ca (5 + n) = eAd G.K n) (h : errB G.K = true) (mS : mg "ShelfError" = some (.ref (He.ga G.K "ShelfError"))) : ErrF G mg := by
  obtain ⟨hA, h⟩ := He.ba h
  obtain ⟨hB, h⟩ := He.ba h
  obtain ⟨hC, hD⟩ := He.ba h
  obtain ⟨a0, hA⟩ := He.ba hA
  obtain ⟨a1, hA⟩ := He.ba hA
  obtain ⟨a2, hA⟩ := He.ba hA
  obtain ⟨a3, a4⟩ := He.ba hA
  have x : ∀ n, n < 5 → ExcC G.K (eAd G.K n) := fun n hn => match n, hn with
    | 0, _ => excCB_ok a0
    | 1, _ => excCB_ok a1
    | 2, _ => excCB_ok a2
    | 3, _ => excCB_ok a3
    | 4, _ => excCB_ok a4
  obtain ⟨b0, hB⟩ := He.ba hB
  obtain ⟨b1, hB⟩ := He.ba hB
  obtain ⟨b2, hB⟩ := He.ba hB
  obtain ⟨b3, hB⟩ := He.ba hB
  obtain ⟨b4, hB⟩ := He.ba hB
  obtain ⟨b5, b6⟩ := He.ba hB
  obtain ⟨c10, hC⟩ := He.ba hC
  obtain ⟨c20, hC⟩ := He.ba hC
  obtain ⟨c21, hC⟩ := He.ba hC
  obtain ⟨c30, hC⟩ := He.ba hC
  obtain ⟨c31, hC⟩ := He.ba hC
  obtain ⟨c32, hC⟩ := He.ba hC
  obtain ⟨c40, hC⟩ := He.ba hC
  obtain ⟨c41, hC⟩ := He.ba hC
  obtain ⟨c42, hC⟩ := He.ba hC
  obtain ⟨c43, c4⟩ := He.ba hC
  obtain ⟨d0, hD⟩ := He.ba hD
  obtain ⟨d1, hD⟩ := He.ba hD
  obtain ⟨d2, d3⟩ := He.ba hD
  have i4 : IsTab G (tbE [false, false, false, false, true]) (.ref (eAd G.K 4)) := isTab_ok hc b4 x
  exact ⟨mS, x, isTab_ok hc b0 x, isTab_ok hc b1 x, isTab_ok hc b2 x, isTab_ok hc b3 x, i4, isTab_ok hc b5 x, isTab_ok hc b6 x, fun se =>
    ⟨se 0 (by omega), se 1 (by omega), se 2 (by omega), se 3 (by omega), of_decide_eq_true c10, of_decide_eq_true c20, of_decide_eq_true c21, of_decide_eq_true c30, of_decide_eq_true c31, of_decide_eq_true c32,
      of_decide_eq_true c40, of_decide_eq_true c41, of_decide_eq_true c42, of_decide_eq_true c43, of_decide_eq_true c4, excCB_ok a4, isTB_mem b4 (eAd G.K 4, true) (by simp [eTab])⟩, d0, d1, excCB_ok d2, of_decide_eq_true d3⟩
section
variable {G : Gl} {T : Tab} {F : Call} {X : Cx} {k : Nat} {p p2 p3 p4 pos : Pos}
/-- isinstance(ShelfError(), ValueError) -/
theorem se_is0 (ox : XO0 G k X) (ef : ErrF G X.mg) (hgx : L2.Gl X "ShelfError") (hgv : L2.Gl X "ValueError") (hmv : X.mg "ValueError" = none) (hg : L2.Gl X "isinstance") (hm : X.mg "isinstance" = none)
    (hs : starEach [.Call (.Name "ShelfError" p2) [] [] p3, .Name "ValueError" p4] X.env = (false, eval (.Call (.Name "ShelfError" p2) [] [] p3) X.env) :: starEach [.Name "ValueError" p4] X.env := by rfl) (hs2 : starEach [.Name "ValueError" p4] X.env = (false, eval (.Name "ValueError" p4) X.env) :: starEach [] X.env := by rfl)
    (hpl : (backTo pos (starEach [.Name "ValueError" p4] X.env)).any (·.1) = false := by rfl) : PE X (.Call (.Name "isinstance" p) [.Call (.Name "ShelfError" p2) [] [] p3, .Name "ValueError" p4] [] pos) (EE G T F (.cst (.bl true))) := by
  refine PE.weak (pe_callB (call_isV0 (D := He.ga G.K "ShelfError") (by rw [ox.K]; exact ef.c0)) hg hm (by decide +kernel) (pa_cons (pe_exc0 PySem.F.excBase_ValueError (by rw [ox.K]; exact ef.e0) ef.mS (by rw [ox.K]; exact ef.k0) hgx) (pa_cons (pe_bltn (v := .ty "ValueError") (u := .type "ValueError") hgv hmv PyProof.Rows.Boot.«ValueError» rfl) pa_nil hs2) hs) (by decide) (by decide) hs hpl) fun σ H Q ⟨C, s, r, s', hH, rl, ev, kk⟩ => ?_
  subst hH
  unfold evalE at ev
  cases ev
  intro a u ha eo
  refine ⟨a, u, .ty "ValueError", .type "ValueError", true, rfl, upd_same, eo, (fun u z => z), by rw [ox.K]; exact ef.v0, ?_⟩
  exact kk (C.new a (exv u)) (.bl true) (.new ha) (rl.new ha) (show VR G (C.new a (exv u)) (.bl true) (.bl true) from VR.bl)
end
end Rs
end
section
set_option maxRecDepth 100000
set_option maxHeartbeats 4000000
namespace Rs
open PySem PySem.Spec PyProof.Rows L2
def top (i : Nat) : Stmt := PySem.Challenge.pw_rentshelf_k03_errors_by_hand.main.body.getD i (.Pass ⟨0, 0, 0, 0⟩)
def memOf : Stmt → List Stmt
  | .ClassDef _ _ _ b _ _ _ _ _ _ _ => b
  | _ => []
def mem (i j : Nat) : Stmt := (memOf (top i)).getD j (.Pass ⟨0, 0, 0, 0⟩)
def nn__law_feed : List Str := ["_law_script", "_law_k", "_law_seed", "_law_digits"]
def nn__law_take : List Str := ["_law_feed_here", "_law_size", "_law_digit"]
def nn__law_pick : List Str := ["_law_feed_here", "_law_choices"]
def is__law_made : List IS := [(.ite (.cmp .lt (.var 0) (.cst (.int 5))) [(.ret (.sub (.lst [(.mkx 5 5 (.var 1)), (.mkx 6 6 (.var 1)), (.mkx 7 7 (.var 1)), (.mkx 8 8 (.var 1)), (.mkx 9 9 (.var 1))]) (.var 0)))] []), (.asg (.nm 2) (.lst [(.mkx 5 5 (.var 1)), (.mkx 6 6 (.var 1)), (.mkx 7 7 (.var 1)), (.mkx 8 8 (.var 1))])), (.ret (.sub (.bin .add (.var 2) (.lst [(.mkx 9 9 (.var 1))])) (.bin .sub (.var 0) (.cst (.int 5)))))]
abbrev fd__law_made : Fd := ⟨2, 3, is__law_made⟩ -- 45
def nn__law_made : List Str := ["_law_way", "_law_value_here", "_law_some"]
def is__law_kinds : List IS := [(.asg (.nm 1) (.lst [(.isx (.var 0) [(5, true), (6, false), (7, false), (8, false), (9, false)]), (.isx (.var 0) [(5, false), (6, true), (7, false), (8, false), (9, false)]), (.isx (.var 0) [(5, false), (6, false), (7, true), (8, false), (9, false)])])), (.asg (.nm 1) (.bin .add (.var 1) (.lst [(.isx (.var 0) [(5, false), (6, false), (7, false), (8, true), (9, false)]), (.isx (.var 0) [(5, false), (6, false), (7, false), (8, false), (9, true)])]))), (.ret (.bin .add (.var 1) (.lst [(.isx (.var 0) [(5, true), (6, true), (7, true), (8, true), (9, true)]), (.isx (.var 0) [(5, true), (6, true), (7, true), (8, true), (9, true)])])))]
abbrev fd__law_kinds : Fd := ⟨1, 2, is__law_kinds⟩ -- 46
def nn__law_kinds : List Str := ["_law_error", "_law_some"]
def is__law_value : List IS := [(.ite (.cmp .eq (.bin .mod (.bi .int [(.var 0)]) (.cst (.int 5))) (.cst (.int 0))) [(.ret (.xat 5 5 (.var 1)))] []), (.ite (.cmp .eq (.bin .mod (.bi .int [(.var 0)]) (.cst (.int 5))) (.cst (.int 1))) [(.ret (.xat 6 6 (.var 1)))] []), (.ite (.cmp .eq (.bin .mod (.bi .int [(.var 0)]) (.cst (.int 5))) (.cst (.int 2))) [(.ret (.xat 7 7 (.var 1)))] []), (.ret (.ite (.cmp .eq (.bin .mod (.bi .int [(.var 0)]) (.cst (.int 5))) (.cst (.int 3))) (.xat 8 8 (.var 1)) (.xat 9 9 (.var 1))))]
abbrev fd__law_value : Fd := ⟨2, 2, is__law_value⟩ -- 47
def nn__law_value : List Str := ["_law_way", "_law_error"]
def is__law_caught : List IS := [(.tryS [(.ite (.cmp .eq (.var 0) (.cst (.int 0))) [(.rais 0 (.var 1))] []), (.ite (.cmp .eq (.var 0) (.cst (.int 1))) [(.rais 1 (.var 1))] []), (.ite (.cmp .eq (.var 0) (.cst (.int 2))) [(.rais 2 (.var 1))] []), (.ite (.cmp .eq (.var 0) (.cst (.int 3))) [(.rais 3 (.var 1))] []), (.rais 4 (.var 1))] [(0, .cst 0), (1, .cst 1), (2, .cst 2), (3, .cst 3), (4, .cst 4)])]
abbrev fd__law_caught : Fd := ⟨2, 3, is__law_caught⟩ -- 48
def nn__law_caught : List Str := ["_law_way", "_law_value_here", "_law_error"]
def is_law_k03 : List IS := [(.asg (.nm 1) (.fn 0 [(.var 0), (.cst (.int 0))] [])), (.for_ (.nm 2) .rng [(.cst (.int 10))] [(.asg (.nm 3) (.lst [(.cst .non), (.cst (.bl true)), (.cst (.str "jug")), (.tup []), (.tup [(.cst (.str "a")), (.cst (.str "b"))]), (.lst [(.cst (.int 1)), (.lst [(.cst (.int 2))])]), (.dsp []), (.dsp [(.cst (.str "a")), (.lst [(.cst (.int 3))])]), (.bin .pow (.cst (.int 10)) (.cst (.int 50))), (.neg (.cst (.int 5))), (.cst (.str "")), (.lst [(.cst (.str "out"))])])), (.asg (.nm 4) (.fn 2 [(.var 1), (.var 3)] [])), (.asg (.nm 5) (.bi .repr [(.var 4)])), (.par 6 7 false true (.fn 45 [(.var 2), (.var 4)] []) (.bin .add (.bin .mul (.lst [(.cst (.bl false))]) (.cst (.int 5))) (.lst [(.cst (.bl true)), (.cst (.bl true))]))), (.asg (.sub (.var 7) (.bin .mod (.bi .int [(.var 2)]) (.cst (.int 5)))) (.cst (.bl true))), (.ite (.or (.cmp .ne (.fn 46 [(.var 6)] []) (.var 7)) (.or (.cmp .ne (.bi .repr [(.fn 47 [(.var 2), (.var 6)] [])]) (.var 5)) (.cmp .ne (.bi .repr [(.var 4)]) (.var 5)))) [(.ret (.cst (.bl false)))] []), (.ite (.cmp .ne (.fn 48 [(.bin .mod (.bi .int [(.var 2)]) (.cst (.int 5))), (.var 4)] []) (.bin .mod (.bi .int [(.var 2)]) (.cst (.int 5)))) [(.ret (.cst (.bl false)))] [])]), (.ret (.cst (.bl true)))]
abbrev fd_law_k03 : Fd := ⟨1, 8, is_law_k03⟩ -- 49
def nn_law_k03 : List Str := ["_law_script", "_law_feed_here", "_law_way", "_law_some", "_law_value_here", "_law_shown", "_law_error", "_law_due"]
def fds : List Fd := [fd__law_feed, fd__law_take, fd__law_pick, ⟨0, 0, []⟩, ⟨0, 0, []⟩, ⟨0, 0, []⟩, ⟨0, 0, []⟩, ⟨0, 0, []⟩, ⟨0, 0, []⟩, ⟨0, 0, []⟩, ⟨0, 0, []⟩, ⟨0, 0, []⟩, ⟨0, 0, []⟩, ⟨0, 0, []⟩, ⟨0, 0, []⟩, ⟨0, 0, []⟩, ⟨0, 0, []⟩, ⟨0, 0, []⟩, ⟨0, 0, []⟩, ⟨0, 0, []⟩, ⟨0, 0, []⟩, ⟨0, 0, []⟩, ⟨0, 0, []⟩, ⟨0, 0, []⟩, ⟨0, 0, []⟩, ⟨0, 0, []⟩, ⟨0, 0, []⟩, ⟨0, 0, []⟩, ⟨0, 0, []⟩, ⟨0, 0, []⟩, ⟨0, 0, []⟩, ⟨0, 0, []⟩, ⟨0, 0, []⟩, ⟨0, 0, []⟩, ⟨0, 0, []⟩, ⟨0, 0, []⟩, ⟨0, 0, []⟩, ⟨0, 0, []⟩, ⟨0, 0, []⟩, ⟨0, 0, []⟩] ++ [⟨0, 0, []⟩, ⟨0, 0, []⟩, ⟨0, 0, []⟩, ⟨0, 0, []⟩, ⟨0, 0, []⟩, fd__law_made, fd__law_kinds, fd__law_value, fd__law_caught, fd_law_k03]
instance : HasD fds 0 fd__law_feed := ⟨rfl⟩
instance : HasD fds 1 fd__law_take := ⟨rfl⟩
instance : HasD fds 2 fd__law_pick := ⟨rfl⟩
instance : HasD fds 45 fd__law_made := ⟨rfl⟩
instance : HasD fds 46 fd__law_kinds := ⟨rfl⟩
instance : HasD fds 47 fd__law_value := ⟨rfl⟩
instance : HasD fds 48 fd__law_caught := ⟨rfl⟩
instance : HasD fds 49 fd_law_k03 := ⟨rfl⟩
def mthL : Nat → List (Nat × Nat) := fun m => match m with
  | _ => []
def prpL : Nat → List (Nat × Nat) := fun m => match m with
  | _ => []
def iniL : List (Nat × Nat) := []
def fldL : List (Nat × Nat) := []
def tabL : Tab := ⟨fun c m => (mthL m).lookup c, fun c => iniL.lookup c, fun c p => (prpL p).lookup c, fun c f => decide ((c, f) ∈ fldL), 1000000000000⟩
def glL (K : PySem.W.Frag) : Gl := ⟨K, nmG, okG, injG, fun c => He.ga K (clsL.getD c ""), []⟩
theorem b_abs : bootBuiltins "abs" = some (.builtin "abs") := by decide +kernel
theorem b_int : bootBuiltins "int" = some (.type "int") := by decide +kernel
theorem b_len : bootBuiltins "len" = some (.builtin "len") := by decide +kernel
theorem b_list : bootBuiltins "list" = some (.type "list") := by decide +kernel
theorem b_max : bootBuiltins "max" = some (.builtin "max") := by decide +kernel
theorem b_repr : bootBuiltins "repr" = some (.builtin "repr") := by decide +kernel
section
variable {P : Program} {w : World} {mg : Str → Option Value} {base : Heap} {f : Addr} {cdv : Value} {A : Around} {outer : List Env} {s : Shared} {H : Hp} {F : Call} {k : Nat}
variable {K : PySem.W.Frag}
theorem b_def__law_feed (o : XO (glL K) k (cxOf CX0 P w (glL K).K mg base nn__law_feed "_law_feed" (defScope (top 8)) f cdv A outer s H E0).nox) (m_abs : mg "abs" = none) (m_int : mg "int" = none) (m_list : mg "list" = none) (m_max : mg "max" = none) : PSs (cxOf CX0 P w (glL K).K mg base nn__law_feed "_law_feed" (defScope (top 8)) f cdv A outer s H E0).nox (defBody (top 8)) (SSs (glL K) tabL F is__law_feed) :=
  (ss_cons (ss_set o.toXO0 2 (se_sub o.toXO0 (se_bin o.toXO0 .add (se_bt (x := "list") (bi_list o.toXO0) (by rfl) m_list b_list (so_cons (se_slc o.toXO0 (se_var 0) (po_so (se_var 1)) (po_so (se_bin o.toXO0 .add (se_var 1) se_int))) so_nil)) (se_lst (sa_cons (se_bin o.toXO0 .add (se_bin o.toXO0 .mul se_int (se_var 1)) se_int) sa_nil))) se_int)) (ss_cons (ss_set o.toXO0 3 (se_bi (x := "max") (bi_max o.toXO0) (by rfl) m_max b_max (so_cons se_int (so_cons (se_bin o.toXO0 .sub (se_bi (x := "abs") bi_abs (by rfl) m_abs b_abs (so_cons (se_var 2) so_nil)) (se_bin o.toXO0 .pow se_int se_int)) so_nil)))) (ss_cons (ss_ret (se_heap (se_lst (sa_cons (se_var 3) (sa_cons (se_bin o.toXO0 .mod (se_bt (x := "int") bi_int (by rfl) m_int b_int (so_cons (se_bin o.toXO0 .add (se_bin o.toXO0 .add (se_bin o.toXO0 .mul (se_bin o.toXO0 .mod (se_bt (x := "int") bi_int (by rfl) m_int b_int (so_cons (se_bi (x := "abs") bi_abs (by rfl) m_abs b_abs (so_cons (se_var 2) so_nil)) so_nil)) se_int) se_int) (se_bin o.toXO0 .mul se_int (se_var 1))) se_int) so_nil)) se_int) sa_nil))))) ss_nil)))
theorem b_def__law_take (o : XO (glL K) k (cxOf CX0 P w (glL K).K mg base nn__law_take "_law_take" (defScope (top 9)) f cdv A outer s H E0).nox) (m_int : mg "int" = none) : PSs (cxOf CX0 P w (glL K).K mg base nn__law_take "_law_take" (defScope (top 9)) f cdv A outer s H E0).nox (defBody (top 9)) (SSs (glL K) tabL F is__law_take) :=
  (ss_cons (ss_if (st_cmp o.toXO0 .gt (se_sub o.toXO0 (se_var 0) se_int) se_int) (ss_cons (ss_set o.toXO0 2 (se_bin o.toXO0 .mod (se_bt (x := "int") bi_int (by rfl) m_int b_int (so_cons (se_sub o.toXO0 (se_var 0) se_int) so_nil)) (se_var 1))) (ss_cons (ss_asg (se_bin o.toXO0 .fdiv (se_sub o.toXO0 (se_var 0) se_int) (se_var 1)) (gt_sub o.toXO0 (se_var 0) se_int)) (ss_cons (ss_ret (se_var 2)) ss_nil))) ss_nil) (ss_cons (ss_asg (se_bin o.toXO0 .mod (se_bt (x := "int") bi_int (by rfl) m_int b_int (so_cons (se_bin o.toXO0 .add (se_bin o.toXO0 .mul (se_sub o.toXO0 (se_var 0) se_int) se_int) se_int) so_nil)) se_int) (gt_sub o.toXO0 (se_var 0) se_int)) (ss_cons (ss_ret (se_bin o.toXO0 .mod (se_bt (x := "int") bi_int (by rfl) m_int b_int (so_cons (se_bin o.toXO0 .fdiv (se_sub o.toXO0 (se_var 0) se_int) se_int) so_nil)) (se_var 1))) ss_nil)))
theorem b_def__law_pick (o : XO (glL K) k (cxOf CX0 P w (glL K).K mg base nn__law_pick "_law_pick" (defScope (top 10)) f cdv A outer s H E0).nox) (m_len : mg "len" = none) {k_hv__law_take : Nat} (hv__law_take : Have (glL K) F P w (glL K).K mg base k_hv__law_take "_law_take" 1 2) (hk__law_take : k_hv__law_take ≤ k) : PSs (cxOf CX0 P w (glL K).K mg base nn__law_pick "_law_pick" (defScope (top 10)) f cdv A outer s H E0).nox (defBody (top 10)) (SSs (glL K) tabL F is__law_pick) :=
  (ss_cons (ss_ret (se_sub o.toXO0 (se_var 1) (se_fn o hv__law_take hk__law_take (by rfl) (sa_cons (se_var 0) (sa_cons (se_bi (x := "len") (bi_len o.toXO0) (by rfl) m_len b_len (so_cons (se_var 1) so_nil)) sa_nil))))) ss_nil)
theorem b_def__law_made (o : XO (glL K) k (cxOf CX0 P w (glL K).K mg base nn__law_made "_law_made" (defScope (top 11)) f cdv A outer s H E0).nox) {k_hc_UnknownThing : Nat} (hc_UnknownThing : HaveC (xcL K) P w (glL K).K mg base k_hc_UnknownThing "UnknownThing" 0) (kc_UnknownThing : k_hc_UnknownThing + 1 ≤ k) {k_hc_BadOut : Nat} (hc_BadOut : HaveC (xcL K) P w (glL K).K mg base k_hc_BadOut "BadOut" 1) (kc_BadOut : k_hc_BadOut + 1 ≤ k) {k_hc_BadGiven : Nat} (hc_BadGiven : HaveC (xcL K) P w (glL K).K mg base k_hc_BadGiven "BadGiven" 2) (kc_BadGiven : k_hc_BadGiven + 1 ≤ k) {k_hc_UnknownMark : Nat} (hc_UnknownMark : HaveC (xcL K) P w (glL K).K mg base k_hc_UnknownMark "UnknownMark" 3) (kc_UnknownMark : k_hc_UnknownMark + 1 ≤ k) {k_hc_InvalidText : Nat} (hc_InvalidText : HaveC (xcL K) P w (glL K).K mg base k_hc_InvalidText "InvalidText" 4) (kc_InvalidText : k_hc_InvalidText + 1 ≤ k) {k_hd_UnknownThing : Nat} (hd_UnknownThing : HaveCK (xcL K) P w (glL K).K mg base k_hd_UnknownThing "UnknownThing" 0) (kd_UnknownThing : k_hd_UnknownThing + 1 ≤ k) {k_hd_BadOut : Nat} (hd_BadOut : HaveCK (xcL K) P w (glL K).K mg base k_hd_BadOut "BadOut" 1) (kd_BadOut : k_hd_BadOut + 1 ≤ k) {k_hd_BadGiven : Nat} (hd_BadGiven : HaveCK (xcL K) P w (glL K).K mg base k_hd_BadGiven "BadGiven" 2) (kd_BadGiven : k_hd_BadGiven + 1 ≤ k) {k_hd_UnknownMark : Nat} (hd_UnknownMark : HaveCK (xcL K) P w (glL K).K mg base k_hd_UnknownMark "UnknownMark" 3) (kd_UnknownMark : k_hd_UnknownMark + 1 ≤ k) {k_hd_InvalidText : Nat} (hd_InvalidText : HaveCK (xcL K) P w (glL K).K mg base k_hd_InvalidText "InvalidText" 4) (kd_InvalidText : k_hd_InvalidText + 1 ≤ k) : PSs (cxOf CX0 P w (glL K).K mg base nn__law_made "_law_made" (defScope (top 11)) f cdv A outer s H E0).nox (defBody (top 11)) (SSs (glL K) tabL F is__law_made) :=
  (ss_cons (ss_if (st_cmp o.toXO0 .lt (se_var 0) se_int) (ss_cons (ss_ret (se_sub o.toXO0 (se_lst (sa_cons (se_mkx (xc := xcL K) (cn := 0) o hc_UnknownThing kc_UnknownThing rfl rfl (by rfl) (se_var 1)) (sa_cons (se_mkx (xc := xcL K) (cn := 1) o hc_BadOut kc_BadOut rfl rfl (by rfl) (se_var 1)) (sa_cons (se_mkx (xc := xcL K) (cn := 2) o hc_BadGiven kc_BadGiven rfl rfl (by rfl) (se_var 1)) (sa_cons (se_mkx (xc := xcL K) (cn := 3) o hc_UnknownMark kc_UnknownMark rfl rfl (by rfl) (se_var 1)) (sa_cons (se_mkx (xc := xcL K) (cn := 4) o hc_InvalidText kc_InvalidText rfl rfl (by rfl) (se_var 1)) sa_nil)))))) (se_var 0))) ss_nil) ss_nil) (ss_cons (ss_set o.toXO0 2 (se_lst (sa_cons (se_mkxK (xc := xcL K) (cn := 0) (ks := "name") o hd_UnknownThing kd_UnknownThing rfl rfl (by rfl) (sk_cons (se_var 1) sk_nil) rfl) (sa_cons (se_mkxK (xc := xcL K) (cn := 1) (ks := "out") o hd_BadOut kd_BadOut rfl rfl (by rfl) (sk_cons (se_var 1) sk_nil) rfl) (sa_cons (se_mkxK (xc := xcL K) (cn := 2) (ks := "given") o hd_BadGiven kd_BadGiven rfl rfl (by rfl) (sk_cons (se_var 1) sk_nil) rfl) (sa_cons (se_mkxK (xc := xcL K) (cn := 3) (ks := "number") o hd_UnknownMark kd_UnknownMark rfl rfl (by rfl) (sk_cons (se_var 1) sk_nil) rfl) sa_nil)))))) (ss_cons (ss_ret (se_sub o.toXO0 (se_bin o.toXO0 .add (se_var 2) (se_lst (sa_cons (se_mkxK (xc := xcL K) (cn := 4) (ks := "line") o hd_InvalidText kd_InvalidText rfl rfl (by rfl) (sk_cons (se_var 1) sk_nil) rfl) sa_nil))) (se_bin o.toXO0 .sub (se_var 0) se_int))) ss_nil)))
theorem b_def__law_kinds (o : XO (glL K) k (cxOf CX0 P w (glL K).K mg base nn__law_kinds "_law_kinds" (defScope (top 12)) f cdv A outer s H E0).nox) (m_ValueError : mg "ValueError" = none) (m_isinstance : mg "isinstance" = none) (ef :  ErrF (glL K) mg) (hl_UnknownThing :  HaveKl (xcL K) (glL K).K mg "UnknownThing" 0) (hl_BadOut :  HaveKl (xcL K) (glL K).K mg "BadOut" 1) (hl_BadGiven :  HaveKl (xcL K) (glL K).K mg "BadGiven" 2) (hl_UnknownMark :  HaveKl (xcL K) (glL K).K mg "UnknownMark" 3) (hl_InvalidText :  HaveKl (xcL K) (glL K).K mg "InvalidText" 4) : PSs (cxOf CX0 P w (glL K).K mg base nn__law_kinds "_law_kinds" (defScope (top 12)) f cdv A outer s H E0).nox (defBody (top 12)) (SSs (glL K) tabL F is__law_kinds) :=
  (ss_cons (ss_set o.toXO0 1 (se_lst (sa_cons (se_isx o.toXO0 ef.i0 hl_UnknownThing.m (by rfl) (by rfl) m_isinstance (se_var 0)) (sa_cons (se_isx o.toXO0 ef.i1 hl_BadOut.m (by rfl) (by rfl) m_isinstance (se_var 0)) (sa_cons (se_isx o.toXO0 ef.i2 hl_BadGiven.m (by rfl) (by rfl) m_isinstance (se_var 0)) sa_nil))))) (ss_cons (ss_set o.toXO0 1 (se_bin o.toXO0 .add (se_var 1) (se_lst (sa_cons (se_isx o.toXO0 ef.i3 hl_UnknownMark.m (by rfl) (by rfl) m_isinstance (se_var 0)) (sa_cons (se_isx o.toXO0 ef.i4 hl_InvalidText.m (by rfl) (by rfl) m_isinstance (se_var 0)) sa_nil))))) (ss_cons (ss_ret (se_bin o.toXO0 .add (se_var 1) (se_lst (sa_cons (se_isx o.toXO0 ef.iS ef.mS (by rfl) (by rfl) m_isinstance (se_var 0)) (sa_cons (se_isxB o.toXO0 ef.iV m_ValueError PyProof.Rows.Boot.«ValueError» (by rfl) (by rfl) m_isinstance (se_var 0)) sa_nil))))) ss_nil)))
theorem b_def__law_value (o : XO (glL K) k (cxOf CX0 P w (glL K).K mg base nn__law_value "_law_value" (defScope (top 13)) f cdv A outer s H E0).nox) (m_int : mg "int" = none) (hl_UnknownThing :  HaveKl (xcL K) (glL K).K mg "UnknownThing" 0) (hl_BadOut :  HaveKl (xcL K) (glL K).K mg "BadOut" 1) (hl_BadGiven :  HaveKl (xcL K) (glL K).K mg "BadGiven" 2) (hl_UnknownMark :  HaveKl (xcL K) (glL K).K mg "UnknownMark" 3) (hl_InvalidText :  HaveKl (xcL K) (glL K).K mg "InvalidText" 4) : PSs (cxOf CX0 P w (glL K).K mg base nn__law_value "_law_value" (defScope (top 13)) f cdv A outer s H E0).nox (defBody (top 13)) (SSs (glL K) tabL F is__law_value) :=
  (ss_cons (ss_if (st_cmp o.toXO0 .eq (se_bin o.toXO0 .mod (se_bt (x := "int") bi_int (by rfl) m_int b_int (so_cons (se_var 0) so_nil)) se_int) se_int) (ss_cons (ss_ret (se_xat o.toXO0 5 5 hl_UnknownThing.xf hl_UnknownThing.no (se_var 1) (by rfl))) ss_nil) ss_nil) (ss_cons (ss_if (st_cmp o.toXO0 .eq (se_bin o.toXO0 .mod (se_bt (x := "int") bi_int (by rfl) m_int b_int (so_cons (se_var 0) so_nil)) se_int) se_int) (ss_cons (ss_ret (se_xat o.toXO0 6 6 hl_BadOut.xf hl_BadOut.no (se_var 1) (by rfl))) ss_nil) ss_nil) (ss_cons (ss_if (st_cmp o.toXO0 .eq (se_bin o.toXO0 .mod (se_bt (x := "int") bi_int (by rfl) m_int b_int (so_cons (se_var 0) so_nil)) se_int) se_int) (ss_cons (ss_ret (se_xat o.toXO0 7 7 hl_BadGiven.xf hl_BadGiven.no (se_var 1) (by rfl))) ss_nil) ss_nil) (ss_cons (ss_ret (se_ite (st_cmp o.toXO0 .eq (se_bin o.toXO0 .mod (se_bt (x := "int") bi_int (by rfl) m_int b_int (so_cons (se_var 0) so_nil)) se_int) se_int) (se_xat o.toXO0 8 8 hl_UnknownMark.xf hl_UnknownMark.no (se_var 1) (by rfl)) (se_xat o.toXO0 9 9 hl_InvalidText.xf hl_InvalidText.no (se_var 1) (by rfl)))) ss_nil))))
theorem b_def__law_caught (o : XO (glL K) k (cxOf CX0 P w (glL K).K mg base nn__law_caught "_law_caught" (defScope (top 14)) f cdv A outer s H E0).nox) (m_isinstance : mg "isinstance" = none) (hl_UnknownThing :  HaveKl (xcL K) (glL K).K mg "UnknownThing" 0) (hl_BadOut :  HaveKl (xcL K) (glL K).K mg "BadOut" 1) (hl_BadGiven :  HaveKl (xcL K) (glL K).K mg "BadGiven" 2) (hl_UnknownMark :  HaveKl (xcL K) (glL K).K mg "UnknownMark" 3) (hl_InvalidText :  HaveKl (xcL K) (glL K).K mg "InvalidText" 4) (ef :  ErrF (glL K) mg) {k_hc_UnknownThing : Nat} (hc_UnknownThing : HaveC (xcL K) P w (glL K).K mg base k_hc_UnknownThing "UnknownThing" 0) (kc_UnknownThing : k_hc_UnknownThing + 1 ≤ k) {k_hc_BadOut : Nat} (hc_BadOut : HaveC (xcL K) P w (glL K).K mg base k_hc_BadOut "BadOut" 1) (kc_BadOut : k_hc_BadOut + 1 ≤ k) {k_hc_BadGiven : Nat} (hc_BadGiven : HaveC (xcL K) P w (glL K).K mg base k_hc_BadGiven "BadGiven" 2) (kc_BadGiven : k_hc_BadGiven + 1 ≤ k) {k_hc_UnknownMark : Nat} (hc_UnknownMark : HaveC (xcL K) P w (glL K).K mg base k_hc_UnknownMark "UnknownMark" 3) (kc_UnknownMark : k_hc_UnknownMark + 1 ≤ k) {k_hc_InvalidText : Nat} (hc_InvalidText : HaveC (xcL K) P w (glL K).K mg base k_hc_InvalidText "InvalidText" 4) (kc_InvalidText : k_hc_InvalidText + 1 ≤ k) : PSs (cxOf CX0 P w (glL K).K mg base nn__law_caught "_law_caught" (defScope (top 14)) f cdv A outer s H E0).nox (defBody (top 14)) (SSs (glL K) tabL F is__law_caught) :=
  (ss_cons (ss_tryX (i := 2) rfl rfl o.nd rfl rfl (ef.kx (fun n hn => match n, hn with | 0, _ => hl_UnknownThing.ex | 1, _ => hl_BadOut.ex | 2, _ => hl_BadGiven.ex | 3, _ => hl_UnknownMark.ex)) (.cons (nb := false) ⟨(by rfl), (by decide), .inl hl_UnknownThing.m⟩ su_k (.cons (nb := false) ⟨(by rfl), (by decide), .inl hl_BadOut.m⟩ su_k (.cons (nb := false) ⟨(by rfl), (by decide), .inl hl_BadGiven.m⟩ su_k (.cons (nb := false) ⟨(by rfl), (by decide), .inl hl_UnknownMark.m⟩ su_k (.cons (nb := true) ⟨(by rfl), (by decide), .inl ef.mS⟩ (su_is rfl hl_InvalidText.m (by rfl) (by rfl) m_isinstance) .nil))))) (fun _ pn xe t0 _ => (sx_cons (sx_if (X := Cx.tr (cxOf CX0 P w (glL K).K mg base nn__law_caught "_law_caught" (defScope (top 14)) f cdv A outer s H E0).nox pn xe) (st_cmp (tr_o o).toXO0 .eq (se_var 0) se_int) (sx_cons (sx_raise (X := Cx.tr (cxOf CX0 P w (glL K).K mg base nn__law_caught "_law_caught" (defScope (top 14)) f cdv A outer s H E0).nox pn xe) t0 (tr_o o) hc_UnknownThing kc_UnknownThing (by rfl) (se_var 1)) sx_nil) sx_nil) (sx_cons (sx_if (X := Cx.tr (cxOf CX0 P w (glL K).K mg base nn__law_caught "_law_caught" (defScope (top 14)) f cdv A outer s H E0).nox pn xe) (st_cmp (tr_o o).toXO0 .eq (se_var 0) se_int) (sx_cons (sx_raise (X := Cx.tr (cxOf CX0 P w (glL K).K mg base nn__law_caught "_law_caught" (defScope (top 14)) f cdv A outer s H E0).nox pn xe) t0 (tr_o o) hc_BadOut kc_BadOut (by rfl) (se_var 1)) sx_nil) sx_nil) (sx_cons (sx_if (X := Cx.tr (cxOf CX0 P w (glL K).K mg base nn__law_caught "_law_caught" (defScope (top 14)) f cdv A outer s H E0).nox pn xe) (st_cmp (tr_o o).toXO0 .eq (se_var 0) se_int) (sx_cons (sx_raise (X := Cx.tr (cxOf CX0 P w (glL K).K mg base nn__law_caught "_law_caught" (defScope (top 14)) f cdv A outer s H E0).nox pn xe) t0 (tr_o o) hc_BadGiven kc_BadGiven (by rfl) (se_var 1)) sx_nil) sx_nil) (sx_cons (sx_if (X := Cx.tr (cxOf CX0 P w (glL K).K mg base nn__law_caught "_law_caught" (defScope (top 14)) f cdv A outer s H E0).nox pn xe) (st_cmp (tr_o o).toXO0 .eq (se_var 0) se_int) (sx_cons (sx_raise (X := Cx.tr (cxOf CX0 P w (glL K).K mg base nn__law_caught "_law_caught" (defScope (top 14)) f cdv A outer s H E0).nox pn xe) t0 (tr_o o) hc_UnknownMark kc_UnknownMark (by rfl) (se_var 1)) sx_nil) sx_nil) (sx_cons (sx_raise (X := Cx.tr (cxOf CX0 P w (glL K).K mg base nn__law_caught "_law_caught" (defScope (top 14)) f cdv A outer s H E0).nox pn xe) t0 (tr_o o) hc_InvalidText kc_InvalidText (by rfl) (se_var 1)) sx_nil))))))) ss_nil)
theorem b_def_law_k03 (o : XO (glL K) k (cxOf CX0 P w (glL K).K mg base nn_law_k03 "law" (defScope (top 15)) f cdv A outer s H E0).nox) (m_ValueError : mg "ValueError" = none) (m_int : mg "int" = none) (m_isinstance : mg "isinstance" = none) (m_range : mg "range" = none) (m_repr : mg "repr" = none) {k_hv__law_feed : Nat} (hv__law_feed : Have (glL K) F P w (glL K).K mg base k_hv__law_feed "_law_feed" 0 2) (hk__law_feed : k_hv__law_feed ≤ k) {k_hv__law_pick : Nat} (hv__law_pick : Have (glL K) F P w (glL K).K mg base k_hv__law_pick "_law_pick" 2 2) (hk__law_pick : k_hv__law_pick ≤ k) {k_hv__law_made : Nat} (hv__law_made : Have (glL K) F P w (glL K).K mg base k_hv__law_made "_law_made" 45 2) (hk__law_made : k_hv__law_made ≤ k) {k_hv__law_kinds : Nat} (hv__law_kinds : Have (glL K) F P w (glL K).K mg base k_hv__law_kinds "_law_kinds" 46 1) (hk__law_kinds : k_hv__law_kinds ≤ k) {k_hv__law_value : Nat} (hv__law_value : Have (glL K) F P w (glL K).K mg base k_hv__law_value "_law_value" 47 2) (hk__law_value : k_hv__law_value ≤ k) {k_hv__law_caught : Nat} (hv__law_caught : Have (glL K) F P w (glL K).K mg base k_hv__law_caught "_law_caught" 48 2) (hk__law_caught : k_hv__law_caught ≤ k) (ef :  ErrF (glL K) mg) : PSs (cxOf CX0 P w (glL K).K mg base nn_law_k03 "law" (defScope (top 15)) f cdv A outer s H E0).nox (defBody (top 15)) (SSs (glL K) tabL F is_law_k03) :=
  (ss_cons (ss_set o.toXO0 1 (se_fn o hv__law_feed hk__law_feed (by rfl) (sa_cons (se_var 0) (sa_cons se_int sa_nil)))) (ss_cons (ss_for o.toXO0 (pw_rng1 o.toXO0 (by rfl) m_range (so_cons se_int so_nil)) (sp_nm o.toXO0 2) (ss_cons (ss_set o.toXO0 3 (se_lst (sa_cons se_non (sa_cons se_bl (sa_cons se_str (sa_cons (se_tup sa_nil) (sa_cons (se_tup (sa_cons se_str (sa_cons se_str sa_nil))) (sa_cons (se_lst (sa_cons se_int (sa_cons (se_lst (sa_cons se_int sa_nil)) sa_nil))) (sa_cons se_dsp0 (sa_cons (se_dsp o.toXO0 (sd_cons se_str (se_lst (sa_cons se_int sa_nil)) sd_nil)) (sa_cons (se_bin o.toXO0 .pow se_int se_int) (sa_cons (se_neg o.toXO0 se_int) (sa_cons se_str (sa_cons (se_lst (sa_cons se_str sa_nil)) sa_nil)))))))))))))) (ss_cons (ss_set o.toXO0 4 (se_fn o hv__law_pick hk__law_pick (by rfl) (sa_cons (se_var 1) (sa_cons (se_var 3) sa_nil)))) (ss_cons (ss_set o.toXO0 5 (se_bi (x := "repr") (bi_repr o) (by rfl) m_repr b_repr (so_cons (se_var 4) so_nil))) (ss_cons (ss_par o.toXO0 6 7 false true (se_fn o hv__law_made hk__law_made (by rfl) (sa_cons (se_var 2) (sa_cons (se_var 4) sa_nil))) (se_bin o.toXO0 .add (se_bin o.toXO0 .mul (se_lst (sa_cons se_bl sa_nil)) se_int) (se_lst (sa_cons se_bl (sa_cons se_bl sa_nil)))) (by with_unfolding_all rfl)) (ss_cons (ss_asg se_bl (gt_sub o.toXO0 (se_var 7) (se_bin o.toXO0 .mod (se_bt (x := "int") bi_int (by rfl) m_int b_int (so_cons (se_var 2) so_nil)) se_int))) (ss_cons (ss_if (PW.pt (st_or (st_cmp o.toXO0 .ne (se_fn o hv__law_kinds hk__law_kinds (by rfl) (sa_cons (se_var 6) sa_nil)) (se_var 7)) (st_or (st_cmp o.toXO0 .ne (se_bi (x := "repr") (bi_repr o) (by rfl) m_repr b_repr (so_cons (se_fn o hv__law_value hk__law_value (by rfl) (sa_cons (se_var 2) (sa_cons (se_var 6) sa_nil))) so_nil)) (se_var 5)) (st_or1 (st_cmp o.toXO0 .ne (se_bi (x := "repr") (bi_repr o) (by rfl) m_repr b_repr (so_cons (se_var 4) so_nil)) (se_var 5)))))) (ss_cons (ss_ret se_bl) ss_nil) ss_nil) (ss_cons (ss_if (st_cmp o.toXO0 .ne (se_fn o hv__law_caught hk__law_caught (by rfl) (sa_cons (se_bin o.toXO0 .mod (se_bt (x := "int") bi_int (by rfl) m_int b_int (so_cons (se_var 2) so_nil)) se_int) (sa_cons (se_var 4) sa_nil))) (se_bin o.toXO0 .mod (se_bt (x := "int") bi_int (by rfl) m_int b_int (so_cons (se_var 2) so_nil)) se_int)) (ss_cons (ss_ret se_bl) ss_nil) ss_nil) ss_nil))))))) PassesOwn.never) (ss_cons (ss_ret (se_is0 o.toXO0 ef (by rfl) (by rfl) m_ValueError (by rfl) m_isinstance)) ss_nil)))
end
def fnD : List PathD := [⟨(fun K => He.fAd K ("_law_feed", none)), ⟨("_law_feed", none), "_law_feed", "_law_feed", defArgs (top 8), defBody (top 8), defScope (top 8), [], []⟩⟩,
  ⟨(fun K => He.fAd K ("_law_take", none)), ⟨("_law_take", none), "_law_take", "_law_take", defArgs (top 9), defBody (top 9), defScope (top 9), [], []⟩⟩,
  ⟨(fun K => He.fAd K ("_law_pick", none)), ⟨("_law_pick", none), "_law_pick", "_law_pick", defArgs (top 10), defBody (top 10), defScope (top 10), [], []⟩⟩,
  ⟨(fun K => He.fAd K ("_law_made", none)), ⟨("_law_made", none), "_law_made", "_law_made", defArgs (top 11), defBody (top 11), defScope (top 11), [], []⟩⟩,
  ⟨(fun K => He.fAd K ("_law_kinds", none)), ⟨("_law_kinds", none), "_law_kinds", "_law_kinds", defArgs (top 12), defBody (top 12), defScope (top 12), [], []⟩⟩,
  ⟨(fun K => He.fAd K ("_law_value", none)), ⟨("_law_value", none), "_law_value", "_law_value", defArgs (top 13), defBody (top 13), defScope (top 13), [], []⟩⟩,
  ⟨(fun K => He.fAd K ("_law_caught", none)), ⟨("_law_caught", none), "_law_caught", "_law_caught", defArgs (top 14), defBody (top 14), defScope (top 14), [], []⟩⟩,
  ⟨(fun K => He.fAd K ("law", none)), ⟨("law", none), "law", "law", defArgs (top 15), defBody (top 15), defScope (top 15), [], []⟩⟩,
  ⟨(fun K => He.fAd K ("UnknownThing", some "__init__")), ⟨("UnknownThing", some "__init__"), "__init__", "UnknownThing.__init__", defArgs (mem 2 0), defBody (mem 2 0), defScope (mem 2 0), [], []⟩⟩,
  ⟨(fun K => He.fAd K ("BadOut", some "__init__")), ⟨("BadOut", some "__init__"), "__init__", "BadOut.__init__", defArgs (mem 3 0), defBody (mem 3 0), defScope (mem 3 0), [], []⟩⟩,
  ⟨(fun K => He.fAd K ("BadGiven", some "__init__")), ⟨("BadGiven", some "__init__"), "__init__", "BadGiven.__init__", defArgs (mem 4 0), defBody (mem 4 0), defScope (mem 4 0), [], []⟩⟩,
  ⟨(fun K => He.fAd K ("UnknownMark", some "__init__")), ⟨("UnknownMark", some "__init__"), "__init__", "UnknownMark.__init__", defArgs (mem 5 0), defBody (mem 5 0), defScope (mem 5 0), [], []⟩⟩,
  ⟨(fun K => He.fAd K ("InvalidText", some "__init__")), ⟨("InvalidText", some "__init__"), "__init__", "InvalidText.__init__", defArgs (mem 6 0), defBody (mem 6 0), defScope (mem 6 0), [], []⟩⟩]
def owD (K : PySem.W.Frag) : Bool := (excB K "UnknownThing" "name" && (excB K "BadOut" "out" && (excB K "BadGiven" "given" && (excB K "UnknownMark" "number" && (excB K "InvalidText" "line" && (errB K && true))))))
theorem ow_0 {K : PySem.W.Frag} (h : owD K = true) : excB K "UnknownThing" "name" = true := by
  unfold owD at h
  simp only [Bool.and_eq_true] at h
  exact h.1
theorem ow_1 {K : PySem.W.Frag} (h : owD K = true) : excB K "BadOut" "out" = true := by
  unfold owD at h
  simp only [Bool.and_eq_true] at h
  exact h.2.1
theorem ow_2 {K : PySem.W.Frag} (h : owD K = true) : excB K "BadGiven" "given" = true := by
  unfold owD at h
  simp only [Bool.and_eq_true] at h
  exact h.2.2.1
theorem ow_3 {K : PySem.W.Frag} (h : owD K = true) : excB K "UnknownMark" "number" = true := by
  unfold owD at h
  simp only [Bool.and_eq_true] at h
  exact h.2.2.2.1
theorem ow_4 {K : PySem.W.Frag} (h : owD K = true) : excB K "InvalidText" "line" = true := by
  unfold owD at h
  simp only [Bool.and_eq_true] at h
  exact h.2.2.2.2.1
theorem ow_5 {K : PySem.W.Frag} (h : owD K = true) : errB K = true := by
  unfold owD at h
  simp only [Bool.and_eq_true] at h
  exact h.2.2.2.2.2.1
def faD : List He.Fa := [.glo "_law_feed", .glo "_law_take", .glo "_law_pick", .glo "_law_made", .glo "_law_kinds", .glo "_law_value", .glo "_law_caught", .glo "law", .free "ValueError", .free "abs", .free "int", .free "isinstance", .free "len", .free "list", .free "max", .free "range", .free "repr", .glo "UnknownThing", .glo "BadOut", .glo "BadGiven", .glo "UnknownMark", .glo "InvalidText", .glo "ShelfError"]
theorem sc__law_feed : FnScope nn__law_feed ["_law_script", "_law_k"] (defScope (top 8)) := ⟨rfl, rfl, rfl, by decide +kernel, rfl, by decide +kernel, by decide +kernel⟩
theorem sc__law_take : FnScope nn__law_take ["_law_feed_here", "_law_size"] (defScope (top 9)) := ⟨rfl, rfl, rfl, by decide +kernel, rfl, by decide +kernel, by decide +kernel⟩
theorem sc__law_pick : FnScope nn__law_pick ["_law_feed_here", "_law_choices"] (defScope (top 10)) := ⟨rfl, rfl, rfl, by decide +kernel, rfl, by decide +kernel, by decide +kernel⟩
theorem sc__law_made : FnScope nn__law_made ["_law_way", "_law_value_here"] (defScope (top 11)) := ⟨rfl, rfl, rfl, by decide +kernel, rfl, by decide +kernel, by decide +kernel⟩
theorem sc__law_kinds : FnScope nn__law_kinds ["_law_error"] (defScope (top 12)) := ⟨rfl, rfl, rfl, by decide +kernel, rfl, by decide +kernel, by decide +kernel⟩
theorem sc__law_value : FnScope nn__law_value ["_law_way", "_law_error"] (defScope (top 13)) := ⟨rfl, rfl, rfl, by decide +kernel, rfl, by decide +kernel, by decide +kernel⟩
theorem sc__law_caught : FnScope nn__law_caught ["_law_way", "_law_value_here"] (defScope (top 14)) := ⟨rfl, rfl, rfl, by decide +kernel, rfl, by decide +kernel, by decide +kernel⟩
theorem sc_law_k03 : FnScope nn_law_k03 ["_law_script"] (defScope (top 15)) := ⟨rfl, rfl, rfl, by decide +kernel, rfl, by decide +kernel, by decide +kernel⟩
theorem sc_ini_UnknownThing : FnScope ["self", "name"] ["self", "name"] (defScope (mem 2 0)) := ⟨rfl, rfl, rfl, by decide +kernel, rfl, by decide +kernel, by decide +kernel⟩
theorem sc_ini_BadOut : FnScope ["self", "out"] ["self", "out"] (defScope (mem 3 0)) := ⟨rfl, rfl, rfl, by decide +kernel, rfl, by decide +kernel, by decide +kernel⟩
theorem sc_ini_BadGiven : FnScope ["self", "given"] ["self", "given"] (defScope (mem 4 0)) := ⟨rfl, rfl, rfl, by decide +kernel, rfl, by decide +kernel, by decide +kernel⟩
theorem sc_ini_UnknownMark : FnScope ["self", "number"] ["self", "number"] (defScope (mem 5 0)) := ⟨rfl, rfl, rfl, by decide +kernel, rfl, by decide +kernel, by decide +kernel⟩
theorem sc_ini_InvalidText : FnScope ["self", "line"] ["self", "line"] (defScope (mem 6 0)) := ⟨rfl, rfl, rfl, by decide +kernel, rfl, by decide +kernel, by decide +kernel⟩
structure Haves (K : PySem.W.Frag) (F : Call) (P : Program) (w : World) (mg : Str → Option Value) (base : Heap) (k : Nat) : Prop where
  v__law_take : Have (glL K) F P w (glL K).K mg base k "_law_take" 1 2
  c_UnknownThing : HaveC (xcL K) P w (glL K).K mg base 1 "UnknownThing" 0
  c_BadOut : HaveC (xcL K) P w (glL K).K mg base 1 "BadOut" 1
  c_BadGiven : HaveC (xcL K) P w (glL K).K mg base 1 "BadGiven" 2
  c_UnknownMark : HaveC (xcL K) P w (glL K).K mg base 1 "UnknownMark" 3
  c_InvalidText : HaveC (xcL K) P w (glL K).K mg base 1 "InvalidText" 4
  d_UnknownThing : HaveCK (xcL K) P w (glL K).K mg base 1 "UnknownThing" 0
  d_BadOut : HaveCK (xcL K) P w (glL K).K mg base 1 "BadOut" 1
  d_BadGiven : HaveCK (xcL K) P w (glL K).K mg base 1 "BadGiven" 2
  d_UnknownMark : HaveCK (xcL K) P w (glL K).K mg base 1 "UnknownMark" 3
  d_InvalidText : HaveCK (xcL K) P w (glL K).K mg base 1 "InvalidText" 4
  ef : ErrF (glL K) mg
  l_UnknownThing : HaveKl (xcL K) (glL K).K mg "UnknownThing" 0
  l_BadOut : HaveKl (xcL K) (glL K).K mg "BadOut" 1
  l_BadGiven : HaveKl (xcL K) (glL K).K mg "BadGiven" 2
  l_UnknownMark : HaveKl (xcL K) (glL K).K mg "UnknownMark" 3
  l_InvalidText : HaveKl (xcL K) (glL K).K mg "InvalidText" 4
  v__law_feed : Have (glL K) F P w (glL K).K mg base k "_law_feed" 0 2
  v__law_pick : Have (glL K) F P w (glL K).K mg base k "_law_pick" 2 2
  v__law_made : Have (glL K) F P w (glL K).K mg base k "_law_made" 45 2
  v__law_kinds : Have (glL K) F P w (glL K).K mg base k "_law_kinds" 46 1
  v__law_value : Have (glL K) F P w (glL K).K mg base k "_law_value" 47 2
  v__law_caught : Have (glL K) F P w (glL K).K mg base k "_law_caught" 48 2
theorem haves_of {K : PySem.W.Frag} {F : Call} {P : Program} {w : World} {mg : Str → Option Value} {base h : Heap} {k : Nat} (X : K.In h) (N : h.Ns mainGlobals mg) (c : SaysQ owD faD fnD K) {fx__law_feed : FuncData} {fx__law_take : FuncData} {fx__law_pick : FuncData} {fx__law_made : FuncData} {fx__law_kinds : FuncData} {fx__law_value : FuncData} {fx__law_caught : FuncData} {fx_law_k03 : FuncData} {fi_UnknownThing : FuncData} {fi_BadOut : FuncData} {fi_BadGiven : FuncData} {fi_UnknownMark : FuncData} {fi_InvalidText : FuncData}
  (F__law_feed : FunD K "_law_feed" "_law_feed" (defArgs (top 8)) (defBody (top 8)) (defScope (top 8)) [] [] (He.fAd K ("_law_feed", none)) fx__law_feed) (g__law_feed : FnG P w (glL K).K mg base k (He.fAd K ("_law_feed", none)) fx__law_feed ["_law_script", "_law_k"] (spI (glL K) F 0 2))
  (F__law_take : FunD K "_law_take" "_law_take" (defArgs (top 9)) (defBody (top 9)) (defScope (top 9)) [] [] (He.fAd K ("_law_take", none)) fx__law_take) (g__law_take : FnG P w (glL K).K mg base k (He.fAd K ("_law_take", none)) fx__law_take ["_law_feed_here", "_law_size"] (spI (glL K) F 1 2))
  (F__law_pick : FunD K "_law_pick" "_law_pick" (defArgs (top 10)) (defBody (top 10)) (defScope (top 10)) [] [] (He.fAd K ("_law_pick", none)) fx__law_pick) (g__law_pick : FnG P w (glL K).K mg base k (He.fAd K ("_law_pick", none)) fx__law_pick ["_law_feed_here", "_law_choices"] (spI (glL K) F 2 2))
  (F__law_made : FunD K "_law_made" "_law_made" (defArgs (top 11)) (defBody (top 11)) (defScope (top 11)) [] [] (He.fAd K ("_law_made", none)) fx__law_made) (g__law_made : FnG P w (glL K).K mg base k (He.fAd K ("_law_made", none)) fx__law_made ["_law_way", "_law_value_here"] (spI (glL K) F 45 2))
  (F__law_kinds : FunD K "_law_kinds" "_law_kinds" (defArgs (top 12)) (defBody (top 12)) (defScope (top 12)) [] [] (He.fAd K ("_law_kinds", none)) fx__law_kinds) (g__law_kinds : FnG P w (glL K).K mg base k (He.fAd K ("_law_kinds", none)) fx__law_kinds ["_law_error"] (spI (glL K) F 46 1))
  (F__law_value : FunD K "_law_value" "_law_value" (defArgs (top 13)) (defBody (top 13)) (defScope (top 13)) [] [] (He.fAd K ("_law_value", none)) fx__law_value) (g__law_value : FnG P w (glL K).K mg base k (He.fAd K ("_law_value", none)) fx__law_value ["_law_way", "_law_error"] (spI (glL K) F 47 2))
  (F__law_caught : FunD K "_law_caught" "_law_caught" (defArgs (top 14)) (defBody (top 14)) (defScope (top 14)) [] [] (He.fAd K ("_law_caught", none)) fx__law_caught) (g__law_caught : FnG P w (glL K).K mg base k (He.fAd K ("_law_caught", none)) fx__law_caught ["_law_way", "_law_value_here"] (spI (glL K) F 48 2))
  (F_law_k03 : FunD K "law" "law" (defArgs (top 15)) (defBody (top 15)) (defScope (top 15)) [] [] (He.fAd K ("law", none)) fx_law_k03) (g_law_k03 : FnG P w (glL K).K mg base k (He.fAd K ("law", none)) fx_law_k03 ["_law_script"] (spI (glL K) F 49 1))
  (FI_UnknownThing : FunD K "__init__" "UnknownThing.__init__" (defArgs (mem 2 0)) (defBody (mem 2 0)) (defScope (mem 2 0)) [] [] (He.fAd K ("UnknownThing", some "__init__")) fi_UnknownThing)
  (FI_BadOut : FunD K "__init__" "BadOut.__init__" (defArgs (mem 3 0)) (defBody (mem 3 0)) (defScope (mem 3 0)) [] [] (He.fAd K ("BadOut", some "__init__")) fi_BadOut)
  (FI_BadGiven : FunD K "__init__" "BadGiven.__init__" (defArgs (mem 4 0)) (defBody (mem 4 0)) (defScope (mem 4 0)) [] [] (He.fAd K ("BadGiven", some "__init__")) fi_BadGiven)
  (FI_UnknownMark : FunD K "__init__" "UnknownMark.__init__" (defArgs (mem 5 0)) (defBody (mem 5 0)) (defScope (mem 5 0)) [] [] (He.fAd K ("UnknownMark", some "__init__")) fi_UnknownMark)
  (FI_InvalidText : FunD K "__init__" "InvalidText.__init__" (defArgs (mem 6 0)) (defBody (mem 6 0)) (defScope (mem 6 0)) [] [] (He.fAd K ("InvalidText", some "__init__")) fi_InvalidText) : Haves K F P w mg base k := by
  constructor
  · exact ⟨_, _, ["_law_feed_here", "_law_size"], g__law_take, He.glo_ok X N (c.fact 1 rfl), F__law_take.kp, (F__law_take.bindsN fun _ _ _ _ _ _ us hl => match us, hl with | [_, _], _ => rfl)⟩
  · exact ⟨(excB_ok (ow_0 c.own)).t, He.glo_ok X N (c.fact 17 rfl), ⟨_, _, _, (excB_ok (ow_0 c.own)).ini, (excB_ok (ow_0 c.own)).fn, (fn_ini FI_UnknownThing sc_ini_UnknownThing (excB_ok (ow_0 c.own)).t (excB_ok (ow_0 c.own)).no (.inl rfl) (.inl rfl) (by decide) (by decide) (fun _ => rfl)), (FI_UnknownThing.bindsN fun _ _ _ _ _ _ us hl => match us, hl with | [_, _], _ => rfl)⟩⟩
  · exact ⟨(excB_ok (ow_1 c.own)).t, He.glo_ok X N (c.fact 18 rfl), ⟨_, _, _, (excB_ok (ow_1 c.own)).ini, (excB_ok (ow_1 c.own)).fn, (fn_ini FI_BadOut sc_ini_BadOut (excB_ok (ow_1 c.own)).t (excB_ok (ow_1 c.own)).no (.inl rfl) (.inl rfl) (by decide) (by decide) (fun _ => rfl)), (FI_BadOut.bindsN fun _ _ _ _ _ _ us hl => match us, hl with | [_, _], _ => rfl)⟩⟩
  · exact ⟨(excB_ok (ow_2 c.own)).t, He.glo_ok X N (c.fact 19 rfl), ⟨_, _, _, (excB_ok (ow_2 c.own)).ini, (excB_ok (ow_2 c.own)).fn, (fn_ini FI_BadGiven sc_ini_BadGiven (excB_ok (ow_2 c.own)).t (excB_ok (ow_2 c.own)).no (.inl rfl) (.inl rfl) (by decide) (by decide) (fun _ => rfl)), (FI_BadGiven.bindsN fun _ _ _ _ _ _ us hl => match us, hl with | [_, _], _ => rfl)⟩⟩
  · exact ⟨(excB_ok (ow_3 c.own)).t, He.glo_ok X N (c.fact 20 rfl), ⟨_, _, _, (excB_ok (ow_3 c.own)).ini, (excB_ok (ow_3 c.own)).fn, (fn_ini FI_UnknownMark sc_ini_UnknownMark (excB_ok (ow_3 c.own)).t (excB_ok (ow_3 c.own)).no (.inl rfl) (.inl rfl) (by decide) (by decide) (fun _ => rfl)), (FI_UnknownMark.bindsN fun _ _ _ _ _ _ us hl => match us, hl with | [_, _], _ => rfl)⟩⟩
  · exact ⟨(excB_ok (ow_4 c.own)).t, He.glo_ok X N (c.fact 21 rfl), ⟨_, _, _, (excB_ok (ow_4 c.own)).ini, (excB_ok (ow_4 c.own)).fn, (fn_ini FI_InvalidText sc_ini_InvalidText (excB_ok (ow_4 c.own)).t (excB_ok (ow_4 c.own)).no (.inl rfl) (.inl rfl) (by decide) (by decide) (fun _ => rfl)), (FI_InvalidText.bindsN fun _ _ _ _ _ _ us hl => match us, hl with | [_, _], _ => rfl)⟩⟩
  · exact ⟨(excB_ok (ow_0 c.own)).t, He.glo_ok X N (c.fact 17 rfl), ⟨_, _, _, (excB_ok (ow_0 c.own)).ini, (excB_ok (ow_0 c.own)).fn, (fn_ini FI_UnknownThing sc_ini_UnknownThing (excB_ok (ow_0 c.own)).t (excB_ok (ow_0 c.own)).no (.inl rfl) (.inl rfl) (by decide) (by decide) (fun _ => rfl)), ini_kw FI_UnknownThing (fun _ _ _ _ _ _ _ _ => rfl)⟩⟩
  · exact ⟨(excB_ok (ow_1 c.own)).t, He.glo_ok X N (c.fact 18 rfl), ⟨_, _, _, (excB_ok (ow_1 c.own)).ini, (excB_ok (ow_1 c.own)).fn, (fn_ini FI_BadOut sc_ini_BadOut (excB_ok (ow_1 c.own)).t (excB_ok (ow_1 c.own)).no (.inl rfl) (.inl rfl) (by decide) (by decide) (fun _ => rfl)), ini_kw FI_BadOut (fun _ _ _ _ _ _ _ _ => rfl)⟩⟩
  · exact ⟨(excB_ok (ow_2 c.own)).t, He.glo_ok X N (c.fact 19 rfl), ⟨_, _, _, (excB_ok (ow_2 c.own)).ini, (excB_ok (ow_2 c.own)).fn, (fn_ini FI_BadGiven sc_ini_BadGiven (excB_ok (ow_2 c.own)).t (excB_ok (ow_2 c.own)).no (.inl rfl) (.inl rfl) (by decide) (by decide) (fun _ => rfl)), ini_kw FI_BadGiven (fun _ _ _ _ _ _ _ _ => rfl)⟩⟩
  · exact ⟨(excB_ok (ow_3 c.own)).t, He.glo_ok X N (c.fact 20 rfl), ⟨_, _, _, (excB_ok (ow_3 c.own)).ini, (excB_ok (ow_3 c.own)).fn, (fn_ini FI_UnknownMark sc_ini_UnknownMark (excB_ok (ow_3 c.own)).t (excB_ok (ow_3 c.own)).no (.inl rfl) (.inl rfl) (by decide) (by decide) (fun _ => rfl)), ini_kw FI_UnknownMark (fun _ _ _ _ _ _ _ _ => rfl)⟩⟩
  · exact ⟨(excB_ok (ow_4 c.own)).t, He.glo_ok X N (c.fact 21 rfl), ⟨_, _, _, (excB_ok (ow_4 c.own)).ini, (excB_ok (ow_4 c.own)).fn, (fn_ini FI_InvalidText sc_ini_InvalidText (excB_ok (ow_4 c.own)).t (excB_ok (ow_4 c.own)).no (.inl rfl) (.inl rfl) (by decide) (by decide) (fun _ => rfl)), ini_kw FI_InvalidText (fun _ _ _ _ _ _ _ _ => rfl)⟩⟩
  · exact errF_ok (G := glL K) (fun n hn => match n, hn with | 0, _ => rfl | 1, _ => rfl | 2, _ => rfl | 3, _ => rfl | 4, _ => rfl) (ow_5 c.own) (He.glo_ok X N (c.fact 22 rfl))
  · exact ⟨He.glo_ok X N (c.fact 17 rfl), (excB_ok (ow_0 c.own)).ex, (excB_ok (ow_0 c.own)).xf, (excB_ok (ow_0 c.own)).no⟩
  · exact ⟨He.glo_ok X N (c.fact 18 rfl), (excB_ok (ow_1 c.own)).ex, (excB_ok (ow_1 c.own)).xf, (excB_ok (ow_1 c.own)).no⟩
  · exact ⟨He.glo_ok X N (c.fact 19 rfl), (excB_ok (ow_2 c.own)).ex, (excB_ok (ow_2 c.own)).xf, (excB_ok (ow_2 c.own)).no⟩
  · exact ⟨He.glo_ok X N (c.fact 20 rfl), (excB_ok (ow_3 c.own)).ex, (excB_ok (ow_3 c.own)).xf, (excB_ok (ow_3 c.own)).no⟩
  · exact ⟨He.glo_ok X N (c.fact 21 rfl), (excB_ok (ow_4 c.own)).ex, (excB_ok (ow_4 c.own)).xf, (excB_ok (ow_4 c.own)).no⟩
  · exact ⟨_, _, ["_law_script", "_law_k"], g__law_feed, He.glo_ok X N (c.fact 0 rfl), F__law_feed.kp, (F__law_feed.bindsN fun _ _ _ _ _ _ us hl => match us, hl with | [_, _], _ => rfl)⟩
  · exact ⟨_, _, ["_law_feed_here", "_law_choices"], g__law_pick, He.glo_ok X N (c.fact 2 rfl), F__law_pick.kp, (F__law_pick.bindsN fun _ _ _ _ _ _ us hl => match us, hl with | [_, _], _ => rfl)⟩
  · exact ⟨_, _, ["_law_way", "_law_value_here"], g__law_made, He.glo_ok X N (c.fact 3 rfl), F__law_made.kp, (F__law_made.bindsN fun _ _ _ _ _ _ us hl => match us, hl with | [_, _], _ => rfl)⟩
  · exact ⟨_, _, ["_law_error"], g__law_kinds, He.glo_ok X N (c.fact 4 rfl), F__law_kinds.kp, (F__law_kinds.bindsN fun _ _ _ _ _ _ us hl => match us, hl with | [_], _ => rfl)⟩
  · exact ⟨_, _, ["_law_way", "_law_error"], g__law_value, He.glo_ok X N (c.fact 5 rfl), F__law_value.kp, (F__law_value.bindsN fun _ _ _ _ _ _ us hl => match us, hl with | [_, _], _ => rfl)⟩
  · exact ⟨_, _, ["_law_way", "_law_value_here"], g__law_caught, He.glo_ok X N (c.fact 6 rfl), F__law_caught.kp, (F__law_caught.bindsN fun _ _ _ _ _ _ us hl => match us, hl with | [_, _], _ => rfl)⟩
theorem haves {K : PySem.W.Frag} {P : Program} {w : World} {mg : Str → Option Value} {base h : Heap} (hs : (glL K).Sys) (X : K.In h) (N : h.Ns mainGlobals mg) (c : SaysQ owD faD fnD K) : ∀ n, Haves K (callI tabL fds n) P w mg base (2 * n + 6)
  | 0 => by
    obtain ⟨fx__law_feed, F__law_feed⟩ := c.def_ 0 rfl
    obtain ⟨fx__law_take, F__law_take⟩ := c.def_ 1 rfl
    obtain ⟨fx__law_pick, F__law_pick⟩ := c.def_ 2 rfl
    obtain ⟨fx__law_made, F__law_made⟩ := c.def_ 3 rfl
    obtain ⟨fx__law_kinds, F__law_kinds⟩ := c.def_ 4 rfl
    obtain ⟨fx__law_value, F__law_value⟩ := c.def_ 5 rfl
    obtain ⟨fx__law_caught, F__law_caught⟩ := c.def_ 6 rfl
    obtain ⟨fx_law_k03, F_law_k03⟩ := c.def_ 7 rfl
    obtain ⟨fi_UnknownThing, FI_UnknownThing⟩ := c.def_ 8 rfl
    obtain ⟨fi_BadOut, FI_BadOut⟩ := c.def_ 9 rfl
    obtain ⟨fi_BadGiven, FI_BadGiven⟩ := c.def_ 10 rfl
    obtain ⟨fi_UnknownMark, FI_UnknownMark⟩ := c.def_ 11 rfl
    obtain ⟨fi_InvalidText, FI_InvalidText⟩ := c.def_ 12 rfl
    exact haves_of X N c F__law_feed fn_0 F__law_take fn_0 F__law_pick fn_0 F__law_made fn_0 F__law_kinds fn_0 F__law_value fn_0 F__law_caught fn_0 F_law_k03 fn_0 FI_UnknownThing FI_BadOut FI_BadGiven FI_UnknownMark FI_InvalidText
  | n + 1 => by
    have v := haves (base := base) (P := P) (w := w) hs X N c n
    obtain ⟨fx__law_feed, F__law_feed⟩ := c.def_ 0 rfl
    obtain ⟨fx__law_take, F__law_take⟩ := c.def_ 1 rfl
    obtain ⟨fx__law_pick, F__law_pick⟩ := c.def_ 2 rfl
    obtain ⟨fx__law_made, F__law_made⟩ := c.def_ 3 rfl
    obtain ⟨fx__law_kinds, F__law_kinds⟩ := c.def_ 4 rfl
    obtain ⟨fx__law_value, F__law_value⟩ := c.def_ 5 rfl
    obtain ⟨fx__law_caught, F__law_caught⟩ := c.def_ 6 rfl
    obtain ⟨fx_law_k03, F_law_k03⟩ := c.def_ 7 rfl
    obtain ⟨fi_UnknownThing, FI_UnknownThing⟩ := c.def_ 8 rfl
    obtain ⟨fi_BadOut, FI_BadOut⟩ := c.def_ 9 rfl
    obtain ⟨fi_BadGiven, FI_BadGiven⟩ := c.def_ 10 rfl
    obtain ⟨fi_UnknownMark, FI_UnknownMark⟩ := c.def_ 11 rfl
    obtain ⟨fi_InvalidText, FI_InvalidText⟩ := c.def_ 12 rfl
    refine haves_of X N c F__law_feed ?_ F__law_take ?_ F__law_pick ?_ F__law_made ?_ F__law_kinds ?_ F__law_value ?_ F__law_caught ?_ F_law_k03 ?_ FI_UnknownThing FI_BadOut FI_BadGiven FI_UnknownMark FI_InvalidText
    · exact fn_R (G := glL K) (d := fd__law_feed) (k := 2 * n + 7) hs F__law_feed sc__law_feed rfl rfl (by decide) rfl (fun _ _ _ _ _ o => b_def__law_feed o (He.free_ok X N (c.fact 9 rfl)) (He.free_ok X N (c.fact 10 rfl)) (He.free_ok X N (c.fact 13 rfl)) (He.free_ok X N (c.fact 14 rfl)))
    · exact fn_R (G := glL K) (d := fd__law_take) (k := 2 * n + 7) hs F__law_take sc__law_take rfl rfl (by decide) rfl (fun _ _ _ _ _ o => b_def__law_take o (He.free_ok X N (c.fact 10 rfl)))
    · exact fn_R (G := glL K) (d := fd__law_pick) (k := 2 * n + 7) hs F__law_pick sc__law_pick rfl rfl (by decide) rfl (fun _ _ _ _ _ o => b_def__law_pick o (He.free_ok X N (c.fact 12 rfl)) v.v__law_take (by omega))
    · exact fn_R (G := glL K) (d := fd__law_made) (k := 2 * n + 7) hs F__law_made sc__law_made rfl rfl (by decide) rfl (fun _ _ _ _ _ o => b_def__law_made o v.c_UnknownThing (by omega) v.c_BadOut (by omega) v.c_BadGiven (by omega) v.c_UnknownMark (by omega) v.c_InvalidText (by omega) v.d_UnknownThing (by omega) v.d_BadOut (by omega) v.d_BadGiven (by omega) v.d_UnknownMark (by omega) v.d_InvalidText (by omega))
    · exact fn_R (G := glL K) (d := fd__law_kinds) (k := 2 * n + 7) hs F__law_kinds sc__law_kinds rfl rfl (by decide) rfl (fun _ _ _ _ _ o => b_def__law_kinds o (He.free_ok X N (c.fact 8 rfl)) (He.free_ok X N (c.fact 11 rfl)) v.ef v.l_UnknownThing v.l_BadOut v.l_BadGiven v.l_UnknownMark v.l_InvalidText)
    · exact fn_R (G := glL K) (d := fd__law_value) (k := 2 * n + 7) hs F__law_value sc__law_value rfl rfl (by decide) rfl (fun _ _ _ _ _ o => b_def__law_value o (He.free_ok X N (c.fact 10 rfl)) v.l_UnknownThing v.l_BadOut v.l_BadGiven v.l_UnknownMark v.l_InvalidText)
    · exact fn_R (G := glL K) (d := fd__law_caught) (k := 2 * n + 7) hs F__law_caught sc__law_caught rfl rfl (by decide) rfl (fun _ _ _ _ _ o => b_def__law_caught o (He.free_ok X N (c.fact 11 rfl)) v.l_UnknownThing v.l_BadOut v.l_BadGiven v.l_UnknownMark v.l_InvalidText v.ef v.c_UnknownThing (by omega) v.c_BadOut (by omega) v.c_BadGiven (by omega) v.c_UnknownMark (by omega) v.c_InvalidText (by omega))
    · exact fn_R (G := glL K) (d := fd_law_k03) (k := 2 * n + 7) hs F_law_k03 sc_law_k03 rfl rfl (by decide) rfl (fun _ _ _ _ _ o => b_def_law_k03 o (He.free_ok X N (c.fact 8 rfl)) (He.free_ok X N (c.fact 10 rfl)) (He.free_ok X N (c.fact 11 rfl)) (He.free_ok X N (c.fact 15 rfl)) (He.free_ok X N (c.fact 16 rfl)) v.v__law_feed (by omega) v.v__law_pick (by omega) v.v__law_made (by omega) v.v__law_kinds (by omega) v.v__law_value (by omega) v.v__law_caught (by omega) v.ef)
end Rs
end
section
set_option maxRecDepth 100000
set_option maxHeartbeats 0
namespace Rs
open PySem PySem.Spec PyProof.Rows L2
abbrev rowL : PySem.W.OpenRow := PySem.W.OpenLaw.row PySem.Challenge.rw_rentshelf_k03_errors_by_hand
abbrev hkL : PySem.W.Hook := hookQ 6 owD faD fnD
def obL (s : PySem.W.SharedT) : AlQ := obsQ 6 owD faD fnD (HandSHeadRun.getT s)
theorem obL_eq (s : PySem.W.SharedT) : obL s = hkL.obs s.abs := obsQ_eq (HandSHeadRun.getT_eq s)
theorem runL (w : World) : HandSHeadRun.RunEq rowL (PySem.W.view rowL.prog [15]) hkL obL 40000 ["ShelfError", "UnknownThing", "BadOut", "BadGiven", "UnknownMark", "InvalidText", "_law_feed", "_law_take", "_law_pick", "_law_made", "_law_kinds", "_law_value", "_law_caught"] w := by
  intro os
  kernel_rfl
end Rs
open PySem PySem.W PySem.Calls PyProof.Rows
theorem law_of (plain : ∀ ns : List Int, ns.length ≤ 63 → ∃ s2, Rs.callI Rs.tabL Rs.fds 12 49 [.scr ns] [] = .ok (.bl true) s2) : PySem.Challenge.rw_rentshelf_k03_errors_by_hand.Holds := by
  w_on; o_law
  refine HandSHeadRun.head_any (r := Rs.rowL) (q := view Rs.rowL.prog [15]) (H := Rs.hkL) (ob := Rs.obL) (M := 40000) (loose := ["ShelfError", "UnknownThing", "BadOut", "BadGiven", "UnknownMark", "InvalidText", "_law_feed", "_law_take", "_law_pick", "_law_made", "_law_kinds", "_law_value", "_law_caught"]) (d := HandSHeadRun.topDef Rs.rowL.prog 15) (kwd := []) Rs.obL_eq
    (by kernel_rfl) (fun s => by kernel_rfl) Rs.runL (by kernel_rfl) (by kernel_rfl) (by kernel_rfl) (by rfl) (by first | assumption | decide +kernel) (by decide +kernel) ⟨rfl, rfl, rfl, rfl, rfl, by decide +kernel⟩ ?hw ?hc
  case hw => w_witness2
  case hc =>
    refine Rs.walk_R (l := PySem.Challenge.rw_rentshelf_k03_errors_by_hand) (n := 63) (k := 30) (x := "_law_script") rfl (by decide) (by kernel_rfl) ⟨rfl, by decide, by decide⟩ ?F
    intro w mg fa h Y N hm0
    obtain ⟨K, KX, c⟩ := Y
    have hm : mg ("law" : PySem.Str) = some (.ref fa) := by
      have e : (HandSHeadRun.topDef Rs.rowL.prog 15).name = ("law" : PySem.Str) := by kernel_rfl
      rw [← e]
      exact hm0
    obtain ⟨fd, FL⟩ := c.def_ 7 rfl
    have e2 := hm.symm.trans (He.glo_ok KX N (c.fact 7 (f := .glo "law") rfl))
    cases e2
    refine ⟨K, fd, Rs.spI (Rs.glL K) (Rs.callI Rs.tabL Rs.fds 12) 49 1, KX, fun s u => L2.FunD.bindsA (ps := ["_law_script"]) FL (fun _ _ _ _ _ _ us hl => match us, hl with | [_], _ => rfl) s [u] rfl, fun H a ns hl only seq => ?_, fun base inB nsB => ?_⟩
    · obtain ⟨s2, e⟩ := plain ns hl
      exact Rs.law_end (G := Rs.glL K) e seq
    · have hs : (Rs.glL K).Sys := Rs.sys_ok c.sys
      have v := Rs.haves (K := K) (P := PySem.Challenge.rw_rentshelf_k03_errors_by_hand.prog) (w := w) (mg := mg) (base := base) hs inB nsB c 11
      exact Rs.fn_R (G := Rs.glL K) (k := 29) (d := Rs.fd_law_k03) hs FL Rs.sc_law_k03 rfl rfl (by decide) rfl (fun _ _ _ _ _ o => Rs.b_def_law_k03 o (He.free_ok inB nsB (c.fact 8 rfl)) (He.free_ok inB nsB (c.fact 10 rfl)) (He.free_ok inB nsB (c.fact 11 rfl)) (He.free_ok inB nsB (c.fact 15 rfl)) (He.free_ok inB nsB (c.fact 16 rfl)) v.v__law_feed (by omega) v.v__law_pick (by omega) v.v__law_made (by omega) v.v__law_kinds (by omega) v.v__law_value (by omega) v.v__law_caught (by omega) v.ef)
end
section
set_option maxRecDepth 100000
set_option maxHeartbeats 4000000
/-! The interpreter's equations, for simp: they go forward at states that are written out. -/
namespace Rs
open PySem L2
section
set_option autoImplicit true
def R.bnd {α β : Type} (r : R α) (k : α → S → R β) : R β := r.bind k
def R.vl (r : R Rv) : R Val := r.val
def R.op {α : Type} (o : Option α) (s : S) : R α := R.opt o s
def R.bck (r : R Val) (e : List Slot) : R Rv := r.back e
/-- a branch -/
def R.two {α : Type} (b : Bool) (x y : R α) : R α := match b with
  | true => x
  | false => y
@[simp] theorem two_t {α : Type} {x y : R α} : R.two true x y = x := rfl
@[simp] theorem two_f {α : Type} {x y : R α} : R.two false x y = y := rfl
@[simp] theorem bnd_ok {α β : Type} (a : α) (s : S) (k : α → S → R β) : (R.ok a s).bnd k = k a s := rfl
@[simp] theorem bnd_bad {α β : Type} (k : α → S → R β) : (R.bad : R α).bnd k = .bad := rfl
@[simp] theorem bnd_exc {α β : Type} (c : Nat) (v : Val) (s : S) (k : α → S → R β) : (R.exc c v s : R α).bnd k = .exc c v s := rfl
@[simp] theorem vl_v (x : Val) (s : S) : (R.ok (.v x) s).vl = .ok x s := rfl
@[simp] theorem vl_f (c : Cell) (s : S) : (R.ok (.f c) s).vl = .ok (imm c) s := rfl
@[simp] theorem vl_exc (c : Nat) (v : Val) (s : S) : (R.exc c v s).vl = .exc c v s := rfl
@[simp] theorem vl_bad : (R.bad : R Rv).vl = .bad := rfl
@[simp] theorem op_some {α : Type} (a : α) (s : S) : R.op (some a) s = .ok a s := rfl
@[simp] theorem op_none {α : Type} (s : S) : R.op (none : Option α) s = .bad := rfl
@[simp] theorem bck_ok (v : Val) (e2 : List Slot) (h2 : List Cell) (e : List Slot) : (R.ok v ⟨e2, h2⟩).bck e = .ok (.v v) ⟨e, h2⟩ := rfl
@[simp] theorem bck_exc (c : Nat) (v : Val) (e2 : List Slot) (h2 : List Cell) (e : List Slot) : (R.exc c v ⟨e2, h2⟩).bck e = .exc c v ⟨e, h2⟩ := rfl
@[simp] theorem bck_bad (e : List Slot) : (R.bad).bck e = .bad := rfl
@[simp] theorem imm_lst (xs : List Val) (l : Bool) : imm (.lst xs l) = .lst xs := rfl
@[simp] theorem imm_dct (xs : List (Key × Val)) (l : Bool) : imm (.dct xs l) = .dct xs := rfl
@[simp] theorem opnd_v (x : Val) : opnd (.v x) = .v x := rfl
@[simp] theorem opnd_f (c : Cell) : opnd (.f c) = .v (imm c) := rfl
@[simp] theorem opnd_sl (i : Nat) : opnd (.sl i) = .sl i := rfl
@[simp] theorem freeze_v (x : Val) : freeze (.v x) = some x := rfl
@[simp] theorem freeze_f (c : Cell) : freeze (.f c) = some (imm c) := rfl
@[simp] theorem permV_nil (vs : List Val) : permV vs [] = vs := rfl
@[simp] theorem asB_bl (b : Bool) : asB (.bl b) = some b := rfl
@[simp] theorem veqX_non {w : Val} : veqX .non w = veq .non w := by cases w <;> rfl
@[simp] theorem veqX_bl {w : Val} : veqX (.bl b) w = veq (.bl b) w := by cases w <;> rfl
@[simp] theorem veqX_int {w : Val} : veqX (.int b) w = veq (.int b) w := by cases w <;> rfl
@[simp] theorem veqX_str {w : Val} : veqX (.str b) w = veq (.str b) w := by cases w <;> rfl
@[simp] theorem veqX_ll {b c : List Val} : veqX (.lst b) (.lst c) = (veq (.lst b) (.lst c)).elim (if b.length = c.length then eqL (veqT 2) b c else some false) some := by simp only [veqX]; cases veq (.lst b) (.lst c) <;> rfl
@[simp] theorem veqX_tt {b c : List Val} : veqX (.tup b) (.tup c) = (veq (.tup b) (.tup c)).elim (if c.length = 0 ∧ b.length ≠ 0 then some false else none) some := by simp only [veqX]; cases veq (.tup b) (.tup c) <;> rfl
@[simp] theorem veqX_tnon {b : List Val} : veqX (.tup b) .non = veq (.tup b) .non := rfl
@[simp] theorem veqX_tbl {b : List Val} {c : Bool} : veqX (.tup b) (.bl c) = veq (.tup b) (.bl c) := rfl
@[simp] theorem veqX_tint {b : List Val} {c : Int} : veqX (.tup b) (.int c) = veq (.tup b) (.int c) := rfl
@[simp] theorem veqX_tstr {b : List Val} {c : Str} : veqX (.tup b) (.str c) = veq (.tup b) (.str c) := rfl
@[simp] theorem veqX_tlst {b : List Val} {c : List Val} : veqX (.tup b) (.lst c) = veq (.tup b) (.lst c) := rfl
@[simp] theorem veqX_tdct {b : List Val} {c : List (Key × Val)} : veqX (.tup b) (.dct c) = veq (.tup b) (.dct c) := rfl
variable {T : Tab} {C : Call} {s : S} {e0 : List Slot} {h0 : List Cell}
@[simp] theorem deref_non : deref s (.v .non) = .non := rfl
@[simp] theorem deref_bl : deref s (.v (.bl b)) = .bl b := rfl
@[simp] theorem deref_int : deref s (.v (.int b)) = .int b := rfl
@[simp] theorem deref_str : deref s (.v (.str b)) = .str b := rfl
@[simp] theorem deref_lst : deref s (.v (.lst b)) = .lst b := rfl
@[simp] theorem deref_tup : deref s (.v (.tup b)) = .tup b := rfl
@[simp] theorem deref_dct : deref s (.v (.dct b)) = .dct b := rfl
@[simp] theorem deref_scr : deref s (.v (.scr b)) = .scr b := rfl
@[simp] theorem deref_ref : deref ⟨e0, h0⟩ (.v (.ref i)) = (match h0[i]? with
    | some (.lst xs _) => .lst xs
    | some (.dct kvs _) => .dct kvs
    | _ => .ref i) := rfl
@[simp] theorem deref_sl : deref ⟨e0, h0⟩ (.sl i) = (match e0[i]? with
    | some (.own c) => imm c
    | _ => .bad) := rfl
@[simp] theorem slotOf_mk : slotOf ⟨e0, h0⟩ i = e0.getD i .no := rfl
@[simp] theorem rdVar_mk : rdVar ⟨e0, h0⟩ i = (match e0.getD i .no with
  | .val v => .ok (.v v) ⟨e0, h0⟩
  | .own _ => .ok (.sl i) ⟨e0, h0⟩
  | .no => .bad) := rfl
@[simp] theorem frzVar_mk : frzVar ⟨e0, h0⟩ i = (match e0.getD i .no with
  | .val v => .ok (.v v) ⟨e0, h0⟩
  | .own c => if unlocked c then .ok (.v (imm c)) ⟨e0.set i (.val (imm c)), h0⟩ else .bad
  | .no => .bad) := rfl
@[simp] theorem mvVar_mk : mvVar ⟨e0, h0⟩ i = (match e0.getD i .no with
  | .own c => if unlocked c then .ok (.v (.ref h0.length)) ⟨e0.set i (.val (.ref h0.length)), h0 ++ [c]⟩ else .bad
  | _ => .bad) := rfl
@[simp] theorem toHeap_mk (c : Cell) : toHeap c ⟨e0, h0⟩ = .ok (.v (.ref h0.length)) ⟨e0, h0 ++ [c]⟩ := rfl
@[simp] theorem setLoc_sl : setLoc ⟨e0, h0⟩ (.sl i) c = (match e0.getD i .no with
    | .own d => if unlocked d then some ⟨e0.set i (.own c), h0⟩ else none
    | _ => none) := rfl
@[simp] theorem setLoc_ref : setLoc ⟨e0, h0⟩ (.v (.ref n)) c = (match h0[n]? with
    | some d => if unlocked d then some ⟨e0, h0.set n c⟩ else none
    | none => none) := rfl
@[simp] theorem putLoc_none : putLoc s o none = some s := rfl
@[simp] theorem putLoc_some : putLoc s o (some c) = setLoc s o c := rfl
@[simp] theorem unlocked_l : unlocked (.lst xs lk) = !lk := rfl
@[simp] theorem unlocked_d : unlocked (.dct kvs lk) = !lk := rfl
@[simp] theorem evalB_mk : evalB T C e ⟨e0, h0⟩ = (evalE T C e ⟨e0, h0⟩).vl.bnd fun x s => R.op (asB x) s := rfl
@[simp] theorem put1_t : put1 true (.f c) = some (.own c) := rfl
@[simp] theorem put1_fv : put1 false (.v x) = some (.val x) := rfl
@[simp] theorem put1_ff : put1 false (.f c) = some (.val (imm c)) := rfl
@[simp] theorem evalE_1 : evalE T C (.var i) ⟨e0, h0⟩ = (fun s : S => (rdVar s i)) ⟨e0, h0⟩ := by first | (rw [evalE]; done) | (rw [evalE]; rfl) | (cases v <;> simp [evalE])
@[simp] theorem evalE_2 : evalE T C (.frz i) ⟨e0, h0⟩ = (fun s : S => (frzVar s i)) ⟨e0, h0⟩ := by first | (rw [evalE]; done) | (rw [evalE]; rfl) | (cases v <;> simp [evalE])
@[simp] theorem evalE_3 : evalE T C (.mv i) ⟨e0, h0⟩ = (fun s : S => (mvVar s i)) ⟨e0, h0⟩ := by first | (rw [evalE]; done) | (rw [evalE]; rfl) | (cases v <;> simp [evalE])
@[simp] theorem evalE_4 : evalE T C (.cst v) ⟨e0, h0⟩ = (fun s : S => (.ok (.v v) s)) ⟨e0, h0⟩ := by first | (rw [evalE]; done) | (rw [evalE]; rfl) | (cases v <;> simp [evalE])
@[simp] theorem evalE_5 : evalE T C (.glb y v) ⟨e0, h0⟩ = (fun s : S => (.ok (.v v) s)) ⟨e0, h0⟩ := by first | (rw [evalE]; done) | (rw [evalE]; rfl) | (cases v <;> simp [evalE])
@[simp] theorem evalE_6 : evalE T C (.bin op a b) ⟨e0, h0⟩ = (fun s : S => ((evalE T C a s).bnd fun x s => (evalE T C b s).bnd fun y s => R.op (binop op (deref s (opnd x)) (deref s (opnd y))) s)) ⟨e0, h0⟩ := by first | (rw [evalE]; done) | (rw [evalE]; rfl) | (cases v <;> simp [evalE])
@[simp] theorem evalE_7 : evalE T C (.neg a) ⟨e0, h0⟩ = (fun s : S => ((evalE T C a s).bnd fun x s => match deref s x with
    | .int i => .ok (.v (.int (-i))) s
    | _ => .bad)) ⟨e0, h0⟩ := by first | (rw [evalE]; done) | (rw [evalE]; rfl) | (cases v <;> simp [evalE])
@[simp] theorem evalE_8 : evalE T C (.cmp op a b) ⟨e0, h0⟩ = (fun s : S => ((evalE T C a s).bnd fun x s => (evalE T C b s).bnd fun y s => R.op ((cmpop op (deref s (opnd x)) (deref s (opnd y))).map fun b => .v (.bl b)) s)) ⟨e0, h0⟩ := by first | (rw [evalE]; done) | (rw [evalE]; rfl) | (cases v <;> simp [evalE])
@[simp] theorem evalE_9 : evalE T C (.deq ne a b) ⟨e0, h0⟩ = (fun s : S => ((evalE T C a s).bnd fun x s => (evalE T C b s).bnd fun y s => R.op ((veq (dp 3 s.h (deref s (opnd x))) (dp 3 s.h (deref s (opnd y)))).map fun k => .v (.bl (k != ne))) s)) ⟨e0, h0⟩ := by first | (rw [evalE]; done) | (rw [evalE]; rfl) | (cases v <;> simp [evalE])
@[simp] theorem evalE_10 : evalE T C (.chn o1 o2 a b c) ⟨e0, h0⟩ = (fun s : S => ((evalE T C a s).bnd fun x s => (evalE T C b s).bnd fun y s => (R.op (cmpop o1 (deref s (opnd x)) (deref s (opnd y))) s).bnd fun k s => R.two k ((evalE T C c s).bnd fun z s => R.op ((cmpop o2 (deref s (opnd y)) (deref s (opnd z))).map fun b => .v (.bl b)) s) (.ok (.v (.bl false)) s))) ⟨e0, h0⟩ := by first | (rw [evalE]; done) | (rw [evalE]; rfl) | (cases v <;> simp [evalE])
@[simp] theorem evalE_11 : evalE T C (.and a b) ⟨e0, h0⟩ = (fun s : S => ((evalE T C a s).vl.bnd fun x s => (R.op (asB x) s).bnd fun k s => R.two k (evalE T C b s) (.ok (.v (.bl false)) s))) ⟨e0, h0⟩ := by first | (rw [evalE]; done) | (rw [evalE]; rfl) | (cases v <;> simp [evalE])
@[simp] theorem evalE_12 : evalE T C (.or a b) ⟨e0, h0⟩ = (fun s : S => ((evalE T C a s).vl.bnd fun x s => (R.op (asB x) s).bnd fun k s => R.two k (.ok (.v (.bl true)) s) (evalE T C b s))) ⟨e0, h0⟩ := by first | (rw [evalE]; done) | (rw [evalE]; rfl) | (cases v <;> simp [evalE])
@[simp] theorem evalE_13 : evalE T C (.not a) ⟨e0, h0⟩ = (fun s : S => ((evalE T C a s).vl.bnd fun x s => (R.op (asB x) s).bnd fun k s => .ok (.v (.bl (!k))) s)) ⟨e0, h0⟩ := by first | (rw [evalE]; done) | (rw [evalE]; rfl) | (cases v <;> simp [evalE])
@[simp] theorem evalE_14 : evalE T C (.ite c a b) ⟨e0, h0⟩ = (fun s : S => ((evalE T C c s).vl.bnd fun x s => (R.op (asB x) s).bnd fun k s => R.two k ((evalE T C a s).vl.bnd fun x s => .ok (.v x) s) ((evalE T C b s).vl.bnd fun x s => .ok (.v x) s))) ⟨e0, h0⟩ := by first | (rw [evalE]; done) | (rw [evalE]; rfl) | (cases v <;> simp [evalE])
@[simp] theorem evalE_15 : evalE T C (.sub a b) ⟨e0, h0⟩ = (fun s : S => ((evalE T C a s).bnd fun x s => (evalE T C b s).vl.bnd fun y s => R.op ((vsub (deref s (opnd x)) y).map .v) s)) ⟨e0, h0⟩ := by first | (rw [evalE]; done) | (rw [evalE]; rfl) | (cases v <;> simp [evalE])
@[simp] theorem evalE_16 : evalE T C (.slc a lo hi) ⟨e0, h0⟩ = (fun s : S => ((evalE T C a s).bnd fun x s => (evalVs T C lo s).bnd fun l s => (evalVs T C hi s).bnd fun h s => match partV l, partV h with
    | some l, some h => R.op (vslice (deref s (opnd x)) l h) s
    | _, _ => .bad)) ⟨e0, h0⟩ := by first | (rw [evalE]; done) | (rw [evalE]; rfl) | (cases v <;> simp [evalE])
@[simp] theorem evalE_17 : evalE T C (.sls a st) ⟨e0, h0⟩ = (fun s : S => ((evalE T C a s).bnd fun x s => (evalE T C st s).vl.bnd fun k s => match k with
    | .int k => R.op (vstep (deref s (opnd x)) k) s
    | _ => .bad)) ⟨e0, h0⟩ := by first | (rw [evalE]; done) | (rw [evalE]; rfl) | (cases v <;> simp [evalE])
@[simp] theorem evalE_18 : evalE T C (.lst es) ⟨e0, h0⟩ = (fun s : S => ((evalVs T C es s).bnd fun vs s => .ok (.f (.lst vs false)) s)) ⟨e0, h0⟩ := by first | (rw [evalE]; done) | (rw [evalE]; rfl) | (cases v <;> simp [evalE])
@[simp] theorem evalE_19 : evalE T C (.tup es) ⟨e0, h0⟩ = (fun s : S => ((evalVs T C es s).bnd fun vs s => .ok (.v (.tup vs)) s)) ⟨e0, h0⟩ := by first | (rw [evalE]; done) | (rw [evalE]; rfl) | (cases v <;> simp [evalE])
theorem evalE_20 : evalE T C (.dsp es) ⟨e0, h0⟩ = (fun s : S => ((evalVs T C es s).bnd fun vs s => match kvsOf vs with
    | some kvs => .ok (.f (.dct (dmerge [] kvs) false)) s
    | none => .bad)) ⟨e0, h0⟩ := by first | (rw [evalE]; done) | (rw [evalE]; rfl) | (cases v <;> simp [evalE])
theorem evalE_21 : evalE T C (.lc elt p k src conds vs) (s) = ((evalOs T C src s).bind fun os s => match srcItems k (os.map (deref s)) with
    | none => .bad
    | some items => (compL (patSet p) (evalTs T C conds) (fun s => (evalE T C elt s).val) vs putL items { lockAll s os with e := wipeE (lockAll s os).e vs } []).bind fun acc s2 => .ok (.f (.lst acc false)) (unlockAll s { s2 with e := restE s.e s2.e vs } os)) := by first | (rw [evalE]; done) | (rw [evalE]; rfl)
@[simp] theorem evalE_24 : evalE T C (.bi f es) ⟨e0, h0⟩ = (fun s : S => ((evalOs T C es s).bnd fun os s => if (os.map (deref s)).all okV then R.op (biop f (os.map (deref s))) s else .bad)) ⟨e0, h0⟩ := by first | (rw [evalE]; done) | (rw [evalE]; rfl) | (cases v <;> simp [evalE])
theorem evalE_25 : evalE T C (.mt m o es) ⟨e0, h0⟩ = (fun s : S => ((evalE T C o s).bnd fun x s => match mkind m (deref s (opnd x)) with
    | false => .bad
    | true => (evalVs T C es s).bnd fun vs s => match mtop m (deref s (opnd x)) vs with
      | none => .bad
      | some (r, oc) => match putLoc s (opnd x) oc with
        | some s => .ok r s
        | none => .bad)) ⟨e0, h0⟩ := by first | (rw [evalE]; done) | (rw [evalE]; rfl) | (cases v <;> simp [evalE])
@[simp] theorem evalE_26 : evalE T C (.fn f es pm) ⟨e0, h0⟩ = (fun s : S => ((evalVs T C es s).bnd fun vs s => (C f (permV vs pm) s.h).bck s.e)) ⟨e0, h0⟩ := by first | (rw [evalE]; done) | (rw [evalE]; rfl) | (cases v <;> simp [evalE])
theorem evalE_27 : evalE T C (.me cs m o es pm) ⟨e0, h0⟩ = (fun s : S => ((evalE T C o s).vl.bnd fun x s => match insAt s x with
    | none => .bad
    | some (_, c, fs) => match decide (c ∈ cs), fs.lookup (m % 1000), T.mth c m with
      | true, none, some f => (evalVs T C es s).bnd fun vs s => (C f (x :: permV vs pm) s.h).bck s.e
      | _, _, _ => .bad)) ⟨e0, h0⟩ := by first | (rw [evalE]; done) | (rw [evalE]; rfl) | (cases v <;> simp [evalE])
theorem evalE_28 : evalE T C (.new c es pm) ⟨e0, h0⟩ = (fun s : S => ((evalVs T C es s).bnd fun vs s => match T.ini c with
    | none => .bad
    | some f => match C f (.ref s.h.length :: permV vs pm) (s.h ++ [.ins c []]) with
      | .ok .non s2 => .ok (.v (.ref s.h.length)) { s2 with e := s.e }
      | .exc c p s2 => .exc c p { s2 with e := s.e }
      | _ => .bad)) ⟨e0, h0⟩ := by first | (rw [evalE]; done) | (rw [evalE]; rfl) | (cases v <;> simp [evalE])
theorem evalE_29 : evalE T C (.att o f) ⟨e0, h0⟩ = (fun s : S => ((evalE T C o s).vl.bnd fun x s => match insAt s x with
    | none => .bad
    | some (_, c, fs) => if T.fld c f then R.op ((fs.lookup f).map .v) s else .bad)) ⟨e0, h0⟩ := by first | (rw [evalE]; done) | (rw [evalE]; rfl) | (cases v <;> simp [evalE])
theorem evalE_30 : evalE T C (.prp o p) ⟨e0, h0⟩ = (fun s : S => ((evalE T C o s).vl.bnd fun x s => match insAt s x with
    | none => .bad
    | some (_, c, fs) => match T.prp c p with
      | some f => (C f [x] s.h).bck s.e
      | none => .bad)) ⟨e0, h0⟩ := by first | (rw [evalE]; done) | (rw [evalE]; rfl) | (cases v <;> simp [evalE])
theorem evalE_31 : evalE T C (.inown ng m a o) ⟨e0, h0⟩ = (fun s : S => ((evalE T C a s).vl.bnd fun x s => (evalE T C o s).vl.bnd fun y s => match insAt s y with
    | none => .bad
    | some (_, c, fs) => match T.mth c m with
      | none => .bad
      | some f => match (C f [y, x] s.h).bck s.e with
        | .ok (.v (.bl b)) s2 => .ok (.v (.bl (b != ng))) s2
        | .exc c p s2 => .exc c p s2
        | _ => .bad)) ⟨e0, h0⟩ := by first | (rw [evalE]; done) | (rw [evalE]; rfl) | (cases v <;> simp [evalE])
theorem evalE_32 : evalE T C (.lenown m o) ⟨e0, h0⟩ = (fun s : S => ((evalE T C o s).vl.bnd fun y s => match insAt s y with
    | none => .bad
    | some (_, c, fs) => match T.mth c m with
      | none => .bad
      | some f => match (C f [y] s.h).bck s.e with
        | .ok (.v (.int i)) s2 => if decide (0 ≤ i) && decide (i < 2 ^ 63) then .ok (.v (.int i)) s2 else .bad
        | .exc c p s2 => .exc c p s2
        | _ => .bad)) ⟨e0, h0⟩ := by first | (rw [evalE]; done) | (rw [evalE]; rfl) | (cases v <;> simp [evalE])
theorem evalE_33 : evalE T C (.heap a) ⟨e0, h0⟩ = (fun s : S => ((evalE T C a s).bnd fun x s => match x with
    | .f c => toHeap c s
    | _ => .bad)) ⟨e0, h0⟩ := by first | (rw [evalE]; done) | (rw [evalE]; rfl) | (cases v <;> simp [evalE])
@[simp] theorem evalE_36 : evalE T C (.drep a) ⟨e0, h0⟩ = (fun s : S => ((evalE T C a s).bnd fun x s => R.op (biop .repr [dp 3 s.h (deref s (opnd x))]) s)) ⟨e0, h0⟩ := by first | (rw [evalE]; done) | (rw [evalE]; rfl) | (cases v <;> simp [evalE])
theorem evalE_37 : evalE T C (.mkx c f a) ⟨e0, h0⟩ = (fun s : S => ((evalE T C a s).vl.bnd fun v s => .ok (.v (.ref s.h.length)) { s with h := s.h ++ [.err c f v] })) ⟨e0, h0⟩ := by first | (rw [evalE]; done) | (rw [evalE]; rfl) | (cases v <;> simp [evalE])
theorem evalE_38 : evalE T C (.xat c f o) ⟨e0, h0⟩ = (fun s : S => ((evalE T C o s).vl.bnd fun x s => match errAt s x with
    | some (c2, f2, v) => if c2 = c ∧ f2 = f then .ok (.v v) s else .bad
    | none => .bad)) ⟨e0, h0⟩ := by first | (rw [evalE]; done) | (rw [evalE]; rfl) | (cases v <;> simp [evalE])
theorem evalE_39 : evalE T C (.isx o tb) ⟨e0, h0⟩ = (fun s : S => ((evalE T C o s).vl.bnd fun x s => match errAt s x with
    | some (c, _, _) => R.op ((tb.lookup c).map fun b => .v (.bl b)) s
    | none => .bad)) ⟨e0, h0⟩ := by first | (rw [evalE]; done) | (rw [evalE]; rfl) | (cases v <;> simp [evalE])
@[simp] theorem evalVs_1 : evalVs T C ([]) ⟨e0, h0⟩ = (fun s : S => (.ok [] s)) ⟨e0, h0⟩ := by first | (rw [evalVs]; done) | (rw [evalVs]; rfl) | (cases v <;> simp [evalVs])
@[simp] theorem evalVs_2 : evalVs T C (e :: es) ⟨e0, h0⟩ = (fun s : S => ((evalE T C e s).vl.bnd fun v s => (evalVs T C es s).bnd fun vs s => .ok (v :: vs) s)) ⟨e0, h0⟩ := by first | (rw [evalVs]; done) | (rw [evalVs]; rfl) | (cases v <;> simp [evalVs])
@[simp] theorem evalOs_1 : evalOs T C ([]) ⟨e0, h0⟩ = (fun s : S => (.ok [] s)) ⟨e0, h0⟩ := by first | (rw [evalOs]; done) | (rw [evalOs]; rfl) | (cases v <;> simp [evalOs])
@[simp] theorem evalOs_2 : evalOs T C (e :: es) ⟨e0, h0⟩ = (fun s : S => ((evalE T C e s).bnd fun v s => (evalOs T C es s).bnd fun vs s => .ok (opnd v :: vs) s)) ⟨e0, h0⟩ := by first | (rw [evalOs]; done) | (rw [evalOs]; rfl) | (cases v <;> simp [evalOs])
@[simp] theorem evalTs_1 : evalTs T C ([]) ⟨e0, h0⟩ = (fun s : S => (.ok true s)) ⟨e0, h0⟩ := by first | (rw [evalTs]; done) | (rw [evalTs]; rfl) | (cases v <;> simp [evalTs])
@[simp] theorem evalTs_2 : evalTs T C (e :: es) ⟨e0, h0⟩ = (fun s : S => ((evalE T C e s).vl.bnd fun x s => (R.op (asB x) s).bnd fun k s => R.two k (evalTs T C es s) (.ok false s))) ⟨e0, h0⟩ := by first | (rw [evalTs]; done) | (rw [evalTs]; rfl) | (cases v <;> simp [evalTs])
@[simp] theorem tgtSet_1 : tgtSet T C (.nm i) (v) ⟨e0, h0⟩ = (fun s : S => (.ok () { s with e := s.e.set i (.val v) })) ⟨e0, h0⟩ := by first | (rw [tgtSet]; done) | (rw [tgtSet]; rfl) | (cases v <;> simp [tgtSet])
theorem tgtSet_2 : tgtSet T C (.tp ts) (v) ⟨e0, h0⟩ = (fun s : S => (match v with
    | .tup vs => tgtSets T C ts vs s
    | .lst vs => tgtSets T C ts vs s
    | _ => .bad)) ⟨e0, h0⟩ := by first | (rw [tgtSet]; done) | (rw [tgtSet]; rfl) | (cases v <;> simp [tgtSet])
theorem tgtSet_3 : tgtSet T C (.sub o k) (v) ⟨e0, h0⟩ = (fun s : S => ((evalE T C o s).bnd fun x s => (evalE T C k s).vl.bnd fun i s => match deref s (opnd x) with
    | .lst xs => match i with
      | .int i => match ixN xs.length i with
        | some j => R.op (setLoc s (opnd x) (.lst (xs.set j v) false)) s |>.bnd fun s _ => .ok () s
        | none => .bad
      | _ => .bad
    | .dct kvs => match keyV i with
      | some k => if kvs.length < sizeLine then R.op (setLoc s (opnd x) (.dct (dput kvs k v) false)) s |>.bnd fun s _ => .ok () s else .bad
      | none => .bad
    | _ => .bad)) ⟨e0, h0⟩ := by first | (rw [tgtSet]; done) | (rw [tgtSet]; rfl) | (cases v <;> simp [tgtSet])
theorem tgtSet_4 : tgtSet T C (.att o f) (v) ⟨e0, h0⟩ = (fun s : S => ((evalE T C o s).vl.bnd fun x s => match insAt s x with
    | none => .bad
    | some (n, c, fs) => if T.fld c f && decide (fs.length < 900) then .ok () { s with h := s.h.set n (.ins c (putFs f v fs)) } else .bad)) ⟨e0, h0⟩ := by first | (rw [tgtSet]; done) | (rw [tgtSet]; rfl) | (cases v <;> simp [tgtSet])
@[simp] theorem tgtSet_5 : tgtSet T C (.sla o) (v) ⟨e0, h0⟩ = (fun s : S => ((evalE T C o s).bnd fun x s => match deref s (opnd x), v with
    | .lst xs, .lst ys => if xs.length + ys.length ≤ sizeLine then R.op (setLoc s (opnd x) (.lst ys false)) s |>.bnd fun s _ => .ok () s else .bad
    | _, _ => .bad)) ⟨e0, h0⟩ := by first | (rw [tgtSet]; done) | (rw [tgtSet]; rfl) | (cases v <;> simp [tgtSet])
@[simp] theorem tgtSets_1 : tgtSets T C ([]) ([]) ⟨e0, h0⟩ = (fun s : S => (.ok () s)) ⟨e0, h0⟩ := by first | (rw [tgtSets]; done) | (rw [tgtSets]; rfl) | (cases v <;> simp [tgtSets])
@[simp] theorem tgtSets_2 : tgtSets T C (t :: ts) (v :: vs) ⟨e0, h0⟩ = (fun s : S => ((tgtSet T C t v s).bnd fun _ s => tgtSets T C ts vs s)) ⟨e0, h0⟩ := by first | (rw [tgtSets]; done) | (rw [tgtSets]; rfl) | (cases v <;> simp [tgtSets])
@[simp] theorem execS_1 : execS T C (.ex e) ⟨e0, h0⟩ = (fun s : S => ((evalE T C e s).bnd fun _ s => .ok .nx s)) ⟨e0, h0⟩ := by first | (rw [execS]; done) | (rw [execS]; rfl) | (cases v <;> simp [execS])
@[simp] theorem execS_2 : execS T C (.asg t e) ⟨e0, h0⟩ = (fun s : S => ((evalE T C e s).vl.bnd fun v s => (tgtSet T C t v s).bnd fun _ s => .ok .nx s)) ⟨e0, h0⟩ := by first | (rw [execS]; done) | (rw [execS]; rfl) | (cases v <;> simp [execS])
theorem execS_3 : execS T C (.own i e) ⟨e0, h0⟩ = (fun s : S => ((evalE T C e s).bnd fun x s => match x with
    | .f c => .ok .nx { s with e := s.e.set i (.own c) }
    | _ => .bad)) ⟨e0, h0⟩ := by first | (rw [execS]; done) | (rw [execS]; rfl) | (cases v <;> simp [execS])
theorem execS_4 : execS T C (.par i j oi oj a b) ⟨e0, h0⟩ = (fun s : S => ((evalE T C a s).bnd fun x s => (evalE T C b s).bnd fun y s => match put1 oi x, put1 oj y with
    | some u, some v => .ok .nx { s with e := (s.e.set i u).set j v }
    | _, _ => .bad)) ⟨e0, h0⟩ := by first | (rw [execS]; done) | (rw [execS]; rfl) | (cases v <;> simp [execS])
theorem execS_5 : execS T C (.par3 i j l oi oj ol a b c) ⟨e0, h0⟩ = (fun s : S => ((evalE T C a s).bnd fun x s => (evalE T C b s).bnd fun y s => (evalE T C c s).bnd fun z s => match put1 oi x, put1 oj y, put1 ol z with
    | some u, some v, some w => .ok .nx { s with e := ((s.e.set i u).set j v).set l w }
    | _, _, _ => .bad)) ⟨e0, h0⟩ := by first | (rw [execS]; done) | (rw [execS]; rfl) | (cases v <;> simp [execS])
theorem execS_6 : execS T C (.aug i op e) ⟨e0, h0⟩ = (fun s : S => (match slotOf s i with
    | .val x => (evalE T C e s).bnd fun y s => (R.op (iop op x (deref s (opnd y))) s).vl.bnd fun z s => .ok .nx { s with e := s.e.set i (.val z) }
    | _ => .bad)) ⟨e0, h0⟩ := by first | (rw [execS]; done) | (rw [execS]; rfl) | (cases v <;> simp [execS])
theorem execS_7 : execS T C (.augS o k op e) ⟨e0, h0⟩ = (fun s : S => ((evalE T C o s).bnd fun x s => (evalE T C k s).vl.bnd fun i s => match vsubL (deref s (opnd x)) i with
    | none => .bad
    | some old => (evalE T C e s).vl.bnd fun y s => (R.op (iop op old y) s).vl.bnd fun z s => match deref s (opnd x), i with
      | .lst xs, .int i => match ixN xs.length i with
        | some j => R.op (setLoc s (opnd x) (.lst (xs.set j z) false)) s |>.bnd fun s _ => .ok .nx s
        | none => .bad
      | _, _ => .bad)) ⟨e0, h0⟩ := by first | (rw [execS]; done) | (rw [execS]; rfl) | (cases v <;> simp [execS])
theorem execS_8 : execS T C (.augA o f op e) ⟨e0, h0⟩ = (fun s : S => ((evalE T C o s).vl.bnd fun x s => match insAt s x with
    | none => .bad
    | some (_, c, fs) => match T.fld c f, fs.lookup f with
      | true, some old => (evalE T C e s).vl.bnd fun y s => (R.op (iop op old y) s).vl.bnd fun z s => match insAt s x with
        | some (n, c2, fs) => if decide (c2 = c) && decide (fs.length < 900) then .ok .nx { s with h := s.h.set n (.ins c (putFs f z fs)) } else .bad
        | none => .bad
      | _, _ => .bad)) ⟨e0, h0⟩ := by first | (rw [execS]; done) | (rw [execS]; rfl) | (cases v <;> simp [execS])
theorem execS_9 : execS T C (.del o k) ⟨e0, h0⟩ = (fun s : S => ((evalE T C o s).bnd fun x s => (evalE T C k s).vl.bnd fun i s => match deref s (opnd x), keyV i with
    | .dct kvs, some k => if (dget kvs k).isSome then R.op (setLoc s (opnd x) (.dct (ddrop kvs k) false)) s |>.bnd fun s _ => .ok .nx s else .bad
    | _, _ => .bad)) ⟨e0, h0⟩ := by first | (rw [execS]; done) | (rw [execS]; rfl) | (cases v <;> simp [execS])
theorem execS_10 : execS T C (.ite c a b) ⟨e0, h0⟩ = (fun s : S => ((evalB T C c s).bnd fun k s => R.two k (execSs T C a s) (execSs T C b s))) ⟨e0, h0⟩ := by first | (rw [execS]; done) | (rw [execS]; rfl) | (cases v <;> simp [execS])
theorem execS_11 : execS T C (.whl c b) (s) = (whileL (evalB T C c) (execSs T C b) T.fuel s) := by first | (rw [execS]; done) | (rw [execS]; rfl)
theorem execS_12 : execS T C (.for_ p k src b) (s) = ((evalOs T C src s).bind fun os s => match noSl os, srcItems k (os.map (deref s)) with
    | true, some items => (forL (patSet p) (execSs T C b) items (lockAll s os)).bind fun fl s2 => .ok fl (unlockAll s s2 os)
    | _, _ => .bad) := by first | (rw [execS]; done) | (rw [execS]; rfl)
@[simp] theorem execS_13 : execS T C (.ret e) ⟨e0, h0⟩ = (fun s : S => ((evalE T C e s).vl.bnd fun x s => .ok (.rt x) s)) ⟨e0, h0⟩ := by first | (rw [execS]; done) | (rw [execS]; rfl) | (cases v <;> simp [execS])
@[simp] theorem execS_14 : execS T C (.retN) ⟨e0, h0⟩ = (fun s : S => (.ok (.rt .non) s)) ⟨e0, h0⟩ := by first | (rw [execS]; done) | (rw [execS]; rfl) | (cases v <;> simp [execS])
@[simp] theorem execS_15 : execS T C (.pas) ⟨e0, h0⟩ = (fun s : S => (.ok .nx s)) ⟨e0, h0⟩ := by first | (rw [execS]; done) | (rw [execS]; rfl) | (cases v <;> simp [execS])
@[simp] theorem execS_16 : execS T C (.bk) ⟨e0, h0⟩ = (fun s : S => (.ok .bk s)) ⟨e0, h0⟩ := by first | (rw [execS]; done) | (rw [execS]; rfl) | (cases v <;> simp [execS])
@[simp] theorem execS_17 : execS T C (.ct) ⟨e0, h0⟩ = (fun s : S => (.ok .ct s)) ⟨e0, h0⟩ := by first | (rw [execS]; done) | (rw [execS]; rfl) | (cases v <;> simp [execS])
@[simp] theorem execS_23 : execS T C (.rais c e) ⟨e0, h0⟩ = (fun s : S => (.bad)) ⟨e0, h0⟩ := by first | (rw [execS]; done) | (rw [execS]; rfl) | (cases v <;> simp [execS])
@[simp] theorem execSs_1 : execSs T C ([]) ⟨e0, h0⟩ = (fun s : S => (.ok .nx s)) ⟨e0, h0⟩ := by first | (rw [execSs]; done) | (rw [execSs]; rfl) | (cases v <;> simp [execSs])
theorem execSs_2 : execSs T C (st :: r) ⟨e0, h0⟩ = (fun s : S => (match execS T C st s with
    | .ok .nx s => execSs T C r s
    | x => x)) ⟨e0, h0⟩ := by first | (rw [execSs]; done) | (rw [execSs]; rfl) | (cases v <;> simp [execSs])
end
end Rs
end
section
set_option maxRecDepth 100000
set_option maxHeartbeats 4000000
/-! The laws' own draws: what they give, whatever the script. -/
namespace Rs
open PySem L2
def fc (d x : Int) : Cell := .lst [.int d, .int x] false
def IsFeed (h : List Cell) (i : Nat) : Prop := ∃ d x, h[i]? = some (fc d x)
theorem IsFeed.lt {h : List Cell} {i : Nat} (f : IsFeed h i) : i < h.length := by
  obtain ⟨d, x, e⟩ := f
  exact (List.getElem?_eq_some_iff.mp e).1
theorem IsFeed.set {h : List Cell} {i : Nat} (f : IsFeed h i) (d x : Int) : IsFeed (h.set i (fc d x)) i := ⟨d, x, List.getElem?_set_self f.lt⟩
/-- two lists, item by item -/
def All2 {α β : Type} (P : α → β → Prop) : List α → List β → Prop
  | [], [] => True
  | a :: as, b :: bs => P a b ∧ All2 P as bs
  | _, _ => False
theorem All2.len {α β : Type} {P : α → β → Prop} : ∀ {as : List α} {bs : List β}, All2 P as bs → bs.length = as.length
  | [], [], _ => rfl
  | _ :: _, [], h => h.elim
  | [], _ :: _, h => h.elim
  | _ :: as, _ :: bs, h => by simp [execSs_2, execS_10, evalE_20, evalE_25, evalE_27, evalE_28, evalE_29, evalE_30, evalE_31, evalE_32, evalE_33, tgtSet_2, tgtSet_3, tgtSet_4, execS_3, execS_4, execS_5, execS_6, execS_7, execS_8, execS_9, All2.len h.2]
theorem All2.mem {α β : Type} {P : α → β → Prop} : ∀ {as : List α} {bs : List β}, All2 P as bs → ∀ b ∈ bs, ∃ a ∈ as, P a b
  | [], [], _, b, hb => by simp at hb
  | _ :: _, [], h, _, _ => h.elim
  | [], _ :: _, h, _, _ => h.elim
  | a :: as, c :: bs, h, b, hb => by
    rcases List.mem_cons.mp hb with rfl | hb
    · exact ⟨a, by simp, h.1⟩
    · obtain ⟨a', h1, h2⟩ := All2.mem h.2 b hb
      exact ⟨a', by simp [execSs_2, execS_10, evalE_20, evalE_25, evalE_27, evalE_28, evalE_29, evalE_30, evalE_31, evalE_32, evalE_33, tgtSet_2, tgtSet_3, tgtSet_4, execS_3, execS_4, execS_5, execS_6, execS_7, execS_8, execS_9, h1], h2⟩
section
variable {T : Tab}
theorem call_eq {fs : List Fd} {n i : Nat} {d : Fd} (vs : List Val) (h : List Cell) (e : fs[i]? = some d) (l : vs.length = d.np) : callI T fs (n + 1) i vs h = match execSs T (callI T fs n) d.body ⟨vs.map .val ++ List.replicate (d.nn - d.np) .no, h⟩ with
    | .ok .nx s => .ok .non ⟨[], s.h⟩
    | .ok (.rt v) s => .ok v ⟨[], s.h⟩
    | .ok _ _ => .bad
    | _ => exOut (excSs T (callI T fs n) d.body ⟨vs.map .val ++ List.replicate (d.nn - d.np) .no, h⟩) := by
  show (match fs[i]? with
    | some d => runFd T (callI T fs n) d vs h
    | none => .bad) = _
  rw [e]
  show runFd T (callI T fs n) d vs h = _
  generalize callI T fs n = Fc
  unfold runFd
  rw [if_pos l] <;> rfl
theorem call_rt {fs : List Fd} {n i : Nat} {d : Fd} {vs : List Val} {h : List Cell} {env : List Slot} {v : Val} {s2 : S} (e : fs[i]? = some d) (l : vs.length = d.np) (he : vs.map .val ++ List.replicate (d.nn - d.np) .no = env) (hb : execSs T (callI T fs n) d.body ⟨env, h⟩ = .ok (.rt v) s2) : callI T fs (n + 1) i vs h = .ok v ⟨[], s2.h⟩ := by
  rw [call_eq vs h e l, he, hb]
theorem call_nx {fs : List Fd} {n i : Nat} {d : Fd} {vs : List Val} {h : List Cell} {env : List Slot} {s2 : S} (e : fs[i]? = some d) (l : vs.length = d.np) (he : vs.map .val ++ List.replicate (d.nn - d.np) .no = env) (hb : execSs T (callI T fs n) d.body ⟨env, h⟩ = .ok .nx s2) : callI T fs (n + 1) i vs h = .ok .non ⟨[], s2.h⟩ := by
  rw [call_eq vs h e l, he, hb]
/-! ### loops -/
end
section
variable {T : Tab}
end
/-! ### texts in order -/
def strLe (a b : Str) : Bool := PySem.W.dataLe false dD (.str a) (.str b)
def sortS (xs : List Str) : List Str := xs.mergeSort strLe
/-! ### the draws -/
structure HasGen (fs : List Fd) : Prop where
  f0 : fs[0]? = some fd__law_feed
  f1 : fs[1]? = some fd__law_take
  f2 : fs[2]? = some fd__law_pick
  f3 : fs[3]? = some fd__law_names
  f4 : fs[4]? = some fd__law_things
  f5 : fs[5]? = some fd__law_event
  f6 : fs[6]? = some fd__law_row
section
variable {T : Tab} {fs : List Fd}
theorem take_ok (f1 : fs[1]? = some fd__law_take) (n : Nat) (h : List Cell) (i : Nat) (size : Int) (hc : IsFeed h i) (h0 : 0 < size) (h1 : size < 1073741824) :
    ∃ r d' x' e2, callI T fs (n + 1) 1 [.ref i, .int size] h = .ok (.int r) ⟨e2, h.set i (fc d' x')⟩ ∧ 0 ≤ r ∧ r < size := by
  obtain ⟨d, x, hc⟩ := hc
  unfold fc at hc
  have hi : i < h.length := (List.getElem?_eq_some_iff.mp hc).1
  have c1 : (h.set i (.lst [.int d, .int ((x * 69069 + 12345) % 4294967311)] false))[i]? = some (.lst [.int d, .int ((x * 69069 + 12345) % 4294967311)] false) := List.getElem?_set_self hi
  suffices ∃ r d' x' s2, callI T fs (n + 1) 1 [.ref i, .int size] h = .ok (.int r) s2 ∧ s2.h = h.set i (.lst [.int d', .int x'] false) ∧ 0 ≤ r ∧ r < size by
    obtain ⟨r, d', x', ⟨e2, h2⟩, a, b, c⟩ := this
    cases b
    exact ⟨r, d', x', e2, a, c⟩
  rw [call_eq _ _ f1 rfl]
  by_cases hd : 0 < d
  · refine ⟨d % size, d / size, x, ?_⟩
    simp [execSs_2, execS_10, evalE_20, evalE_25, evalE_27, evalE_28, evalE_29, evalE_30, evalE_31, evalE_32, evalE_33, tgtSet_2, tgtSet_3, tgtSet_4, execS_3, execS_4, execS_5, execS_6, execS_7, execS_8, execS_9, is__law_take, hc, cmpop, vlt, vsub, atI, ixN, binop, biop, okV, h0, h1, hd]
    exact ⟨Int.emod_nonneg _ (by omega), Int.emod_lt_of_pos _ h0⟩
  · refine ⟨((x * 69069 + 12345) % 4294967311 / 65536) % size, d, (x * 69069 + 12345) % 4294967311, ?_⟩
    simp [execSs_2, execS_10, evalE_20, evalE_25, evalE_27, evalE_28, evalE_29, evalE_30, evalE_31, evalE_32, evalE_33, tgtSet_2, tgtSet_3, tgtSet_4, execS_3, execS_4, execS_5, execS_6, execS_7, execS_8, execS_9, is__law_take, hc, c1, cmpop, vlt, vsub, atI, ixN, binop, biop, okV, okMul, h0, h1, hd]
    exact ⟨Int.emod_nonneg _ (by omega), Int.emod_lt_of_pos _ h0⟩
theorem feed_ok (f0 : fs[0]? = some fd__law_feed) (n : Nat) (h : List Cell) (ns : List Int) (k : Int) (hl : ns.length ≤ 63) : ∃ d x e2, callI T fs (n + 1) 0 [.scr ns, .int k] h = .ok (.ref h.length) ⟨e2, h ++ [fc d x]⟩ := by
  suffices ∃ d x s2, callI T fs (n + 1) 0 [.scr ns, .int k] h = .ok (.ref h.length) s2 ∧ s2.h = h ++ [.lst [.int d, .int x] false] by
    obtain ⟨d', x', ⟨e2, h2⟩, a, b⟩ := this
    cases b
    exact ⟨d', x', e2, a⟩
  rw [call_eq _ _ f0 rfl]
  have hc : ((cut ns (some k) (some (k + 1))).map Val.int).length + 1 ≤ sizeLine := by
    have : (cut ns (some k) (some (k + 1))).length ≤ ns.length := by unfold cut; simp; omega
    simp only [List.length_map]
    have h2 : (64 : Nat) ≤ sizeLine := by decide
    omega
  have hc2 : (cut ns (some k) (some (k + 1))).length < sizeLine := by simp only [List.length_map] at hc; omega
  have hc3 : (cut ns (some k) (some (k + 1))).length + 1 ≤ sizeLine := hc2
  obtain ⟨v, hv⟩ : ∃ v : Int, ∃ r, (cut ns (some k) (some (k + 1))).map Val.int ++ [.int (71 * k + 23)] = .int v :: r := by
    cases cut ns (some k) (some (k + 1)) with
    | nil => exact ⟨_, [], rfl⟩
    | cons a b => exact ⟨a, _, rfl⟩
  obtain ⟨r, hv⟩ := hv
  refine ⟨if (if v < 0 then -v else v) - 10 ^ 18 > 0 then (if v < 0 then -v else v) - 10 ^ 18 else 0, ((if v < 0 then -v else v) % 1000003 * 7919 + 31 * k + 17) % 1000033, ?_⟩
  simp [execSs_2, execS_10, evalE_20, evalE_25, evalE_27, evalE_28, evalE_29, evalE_30, evalE_31, evalE_32, evalE_33, tgtSet_2, tgtSet_3, tgtSet_4, execS_3, execS_4, execS_5, execS_6, execS_7, execS_8, execS_9, is__law_feed, hc, hc2, hc3, hv, cmpop, vlt, vsub, atI, ixN, binop, biop, okV, okMul, vslice, partV, itemsV]
theorem pick_ok (f1 : fs[1]? = some fd__law_take) (f2 : fs[2]? = some fd__law_pick) (n : Nat) (h : List Cell) (i : Nat) (cs : List Val) (hc : IsFeed h i) (h0 : cs ≠ []) (h1 : cs.length < 1073741824) :
    ∃ r d' x' e2, callI T fs (n + 2) 2 [.ref i, .lst cs] h = .ok r ⟨e2, h.set i (fc d' x')⟩ ∧ r ∈ cs := by
  have h2 : 0 < cs.length := List.length_pos_iff.mpr h0
  obtain ⟨r, d', x', e2, e, g1, g2⟩ := take_ok (T := T) f1 n h i cs.length hc (by omega) (by omega)
  have hr : r.toNat < cs.length := by omega
  suffices ∃ s2, callI T fs (n + 2) 2 [.ref i, .lst cs] h = .ok cs[r.toNat] s2 ∧ s2.h = h.set i (fc d' x') by
    obtain ⟨⟨e2, h2⟩, a, b⟩ := this
    cases b
    exact ⟨_, d', x', e2, a, by simp⟩
  rw [call_eq _ _ f2 rfl]
  simp [execSs_2, execS_10, evalE_20, evalE_25, evalE_27, evalE_28, evalE_29, evalE_30, evalE_31, evalE_32, evalE_33, tgtSet_2, tgtSet_3, tgtSet_4, execS_3, execS_4, execS_5, execS_6, execS_7, execS_8, execS_9, is__law_pick, cmpop, vlt, vsub, atI, ixN, binop, biop, okV, e, g1, g2, hr]
end
end Rs
end
section
set_option maxRecDepth 100000
set_option maxHeartbeats 400000
/-! Steps of the interpreter, forwards: what stands after. -/
namespace Rs
open PySem L2
/-- r ends well, and Q stands then -/
def Wp {α : Type} (r : R α) (Q : α → S → Prop) : Prop := ∃ a s, r = .ok a s ∧ Q a s
def Vl (Q : Val → S → Prop) (x : Rv) (s : S) : Prop := ∃ v, freeze x = some v ∧ Q v s
def Op {α : Type} (o : Option α) (K : α → Prop) : Prop := ∃ a, o = some a ∧ K a
section
variable {α β : Type}
@[simp] theorem wp_ok {a : α} {s : S} {Q : α → S → Prop} : Wp (.ok a s) Q = Q a s := propext ⟨fun ⟨_, _, e, q⟩ => by cases e; exact q, fun q => ⟨a, s, rfl, q⟩⟩
@[simp] theorem wp_bad {Q : α → S → Prop} : Wp (.bad : R α) Q = False := propext ⟨fun ⟨_, _, e, _⟩ => (nomatch e), False.elim⟩
@[simp] theorem wp_exc {c : Nat} {p : Val} {s : S} {Q : α → S → Prop} : Wp (.exc c p s : R α) Q = False := propext ⟨fun ⟨_, _, e, _⟩ => (nomatch e), False.elim⟩
@[simp] theorem wp_bnd {r : R α} {k : α → S → R β} {Q : β → S → Prop} : Wp (r.bnd k) Q = Wp r (fun a s => Wp (k a s) Q) := by
  cases r with
  | ok a s => rw [wp_ok]; rfl
  | exc c p s => rw [wp_exc]; exact wp_exc
  | bad => rw [wp_bad]; exact wp_bad
@[simp] theorem wp_vl {r : R Rv} {Q : Val → S → Prop} : Wp r.vl Q = Wp r (Vl Q) := by
  cases r with
  | ok a s =>
    rw [wp_ok]
    show Wp (R.opt (freeze a) s) Q = Vl Q a s
    unfold Vl
    cases freeze a with
    | none => exact propext ⟨fun ⟨_, _, e, _⟩ => (nomatch e), fun ⟨_, e, _⟩ => nomatch e⟩
    | some v => exact wp_ok.trans (propext ⟨fun q => ⟨v, rfl, q⟩, fun ⟨_, e, q⟩ => by cases e; exact q⟩)
  | exc c p s => rw [wp_exc]; exact wp_exc
  | bad => rw [wp_bad]; exact wp_bad
@[simp] theorem wp_bck {r : R Val} {e : List Slot} {Q : Rv → S → Prop} : Wp (r.bck e) Q = Wp r (fun v s => Q (.v v) ⟨e, s.h⟩) := by
  cases r with
  | ok a s => rw [wp_ok]; exact wp_ok
  | exc c p s => rw [wp_exc]; exact wp_exc
  | bad => rw [wp_bad]; exact wp_bad
@[simp] theorem vl_kv {Q : Val → S → Prop} {x : Val} {s : S} : Vl Q (.v x) s = Q x s := propext ⟨fun ⟨_, e, q⟩ => (Option.some.inj e) ▸ q, fun q => ⟨x, rfl, q⟩⟩
@[simp] theorem vl_kf {Q : Val → S → Prop} {c : Cell} {s : S} : Vl Q (.f c) s = Q (imm c) s := propext ⟨fun ⟨_, e, q⟩ => (Option.some.inj e) ▸ q, fun q => ⟨_, rfl, q⟩⟩
@[simp] theorem wp_op {o : Option α} {s : S} {Q : α → S → Prop} : Wp (R.op o s) Q = Op o fun a => Q a s := by
  unfold Op
  cases o with
  | none => exact propext ⟨fun ⟨_, _, e, _⟩ => (nomatch e), fun ⟨_, e, _⟩ => nomatch e⟩
  | some v => exact wp_ok.trans (propext ⟨fun q => ⟨v, rfl, q⟩, fun ⟨_, e, q⟩ => by cases e; exact q⟩)
@[simp] theorem op_s {a : α} {K : α → Prop} : Op (some a) K = K a := propext ⟨fun ⟨_, e, q⟩ => (Option.some.inj e) ▸ q, fun q => ⟨a, rfl, q⟩⟩
@[simp] theorem op_n {K : α → Prop} : Op (none : Option α) K = False := propext ⟨fun ⟨_, e, _⟩ => (nomatch e), False.elim⟩
@[simp] theorem op_map {o : Option α} {f : α → β} {K : β → Prop} : Op (o.map f) K = Op o fun a => K (f a) := by
  cases o with
  | none => rw [op_n]; exact op_n
  | some v => rw [op_s]; exact op_s
@[simp] theorem op_if {c : Prop} [Decidable c] {a : α} {K : α → Prop} : Op (if c then some a else none) K = (c ∧ K a) := by
  by_cases h : c
  · rw [if_pos h, op_s]; exact propext ⟨fun q => ⟨h, q⟩, fun q => q.2⟩
  · rw [if_neg h, op_n]; exact propext ⟨False.elim, fun q => h q.1⟩
theorem wp_eq {r : R α} {a : α} {s : S} (h : Wp r fun b t => b = a ∧ t = s) : r = .ok a s := by
  obtain ⟨b, t, e, rfl, rfl⟩ := h
  exact e
theorem wp_of {r : R α} {a : α} {s : S} {Q : α → S → Prop} (e : r = .ok a s) (q : Q a s) : Wp r Q := ⟨a, s, e, q⟩
end
section
variable {T : Tab} {C : Call} {fs : List Fd} {n : Nat}
/-- what is left -/
def Sq (T : Tab) (C : Call) (r : List IS) (Q : Fl → S → Prop) (fl : Fl) (s : S) : Prop := match fl with
  | .nx => Wp (execSs T C r s) Q
  | fl => Q fl s
@[simp] theorem sq_nx {r : List IS} {Q : Fl → S → Prop} {s : S} : Sq T C r Q .nx s = Wp (execSs T C r s) Q := rfl
@[simp] theorem sq_rt {r : List IS} {Q : Fl → S → Prop} {s : S} {v : Val} : Sq T C r Q (.rt v) s = Q (.rt v) s := rfl
@[simp] theorem sq_bk {r : List IS} {Q : Fl → S → Prop} {s : S} : Sq T C r Q .bk s = Q .bk s := rfl
@[simp] theorem sq_ct {r : List IS} {Q : Fl → S → Prop} {s : S} : Sq T C r Q .ct s = Q .ct s := rfl
@[simp] theorem wp_ss {st : IS} {r : List IS} {e : List Slot} {h : List Cell} {Q : Fl → S → Prop} : Wp (execSs T C (st :: r) ⟨e, h⟩) Q = Wp (execS T C st ⟨e, h⟩) (Sq T C r Q) := by
  rw [execSs_2]
  show Wp (match execS T C st ⟨e, h⟩ with
    | .ok .nx s => execSs T C r s
    | x => x) Q = _
  cases execS T C st ⟨e, h⟩ with
  | ok fl s => cases fl <;> first | exact wp_ok.symm ▸ rfl | (rw [wp_ok, wp_ok]; rfl)
  | exc c p s => rw [wp_exc, wp_exc]
  | bad => rw [wp_bad, wp_bad]
@[simp] theorem wp_s0 {e : List Slot} {h : List Cell} {Q : Fl → S → Prop} : Wp (execSs T C [] ⟨e, h⟩) Q = Q .nx ⟨e, h⟩ := by
  rw [execSs_1]; exact wp_ok
@[simp] theorem execS_if {c : IE} {a b : List IS} {e0 : List Slot} {h0 : List Cell} : execS T C (.ite c a b) ⟨e0, h0⟩ = (evalB T C c ⟨e0, h0⟩).bnd fun k s => R.two k (execSs T C a s) (execSs T C b s) := by
  exact execS_10
def RetK (Q : Val → S → Prop) : Fl → S → Prop
  | .nx, s => Q .non ⟨[], s.h⟩
  | .rt v, s => Q v ⟨[], s.h⟩
  | _, _ => False
@[simp] theorem retK_nx {Q : Val → S → Prop} {e : List Slot} {h : List Cell} : RetK Q .nx ⟨e, h⟩ = Q .non ⟨[], h⟩ := rfl
@[simp] theorem retK_rt {Q : Val → S → Prop} {v : Val} {e : List Slot} {h : List Cell} : RetK Q (.rt v) ⟨e, h⟩ = Q v ⟨[], h⟩ := rfl
theorem wp_def {i : Nat} {d : Fd} {vs : List Val} {h : List Cell} {env : List Slot} {Q : Val → S → Prop} (e : fs[i]? = some d) (l : vs.length = d.np) (he : vs.map .val ++ List.replicate (d.nn - d.np) .no = env) (hb : Wp (execSs T (callI T fs n) d.body ⟨env, h⟩) (RetK Q)) : Wp (callI T fs (n + 1) i vs h) Q := by
  obtain ⟨fl, s, e2, q⟩ := hb
  cases fl with
  | nx => exact wp_of (call_nx e l he e2) q
  | rt v => exact wp_of (call_rt e l he e2) q
  | bk => exact q.elim
  | ct => exact q.elim
end
/-! ### loops -/
/-- some slots are changed -/
def Up : List Slot → List Nat → List Slot → List Slot
  | e, i :: is, a :: as => Up (e.set i a) is as
  | e, _, _ => e
@[simp] theorem up_0 {e : List Slot} {as : List Slot} : Up e [] as = e := by cases as <;> rfl
@[simp] theorem up_s {e : List Slot} {i : Nat} {is : List Nat} {a : Slot} {as : List Slot} : Up e (i :: is) (a :: as) = Up (e.set i a) is as := rfl
@[simp] theorem wipe_0 {e : List Slot} : wipeE e [] = e := rfl
@[simp] theorem wipe_s {e : List Slot} {v : Nat} {vs : List Nat} : wipeE e (v :: vs) = (wipeE e vs).set v .no := rfl
@[simp] theorem pat_nm {i : Nat} {v : Val} {e : List Slot} : patSet (.nm i) v e = some (e.set i (.val v)) := rfl
@[simp] theorem pat_tp {ps : List Pat} {vs : List Val} {e : List Slot} : patSet (.tp ps) (.tup vs) e = patSets ps vs e := rfl
@[simp] theorem pats_0 {e : List Slot} : patSets [] [] e = some e := rfl
@[simp] theorem pats_s {i : Nat} {ps : List Pat} {v : Val} {vs : List Val} {e : List Slot} : patSets (.nm i :: ps) (v :: vs) e = patSets ps vs (e.set i (.val v)) := rfl
@[simp] theorem filt_t {α : Type} {l : List α} : l.filter (fun _ => true) = l := by simp
section
variable {T : Tab} {C : Call}
theorem wp_forL {st : Val → List Slot → Option (List Slot)} {body : S → R Fl} {Q : Fl → S → Prop} (I : List Val → S → Prop) : ∀ (xs done : List Val) (s : S), I done s →
    (∀ pre x post s, done ++ xs = pre ++ x :: post → I pre s → ∃ e, st x s.e = some e ∧ Wp (body ⟨e, s.h⟩) fun fl s' => match fl with
      | .nx => I (pre ++ [x]) s'
      | .ct => I (pre ++ [x]) s'
      | .bk => Q .nx s'
      | .rt v => Q (.rt v) s') → (∀ s, I (done ++ xs) s → Q .nx s) → Wp (forL st body xs s) Q
  | [], done, s, h, _, f => wp_of (by simp [forL]) (f s (by simpa using h))
  | x :: xs, done, s, h, k, f => by
    obtain ⟨e, h1, fl, s1, h2, h3⟩ := k done x xs s rfl h
    have go : I (done ++ [x]) s1 → Wp (forL st body xs s1) Q := fun h3 => wp_forL I xs (done ++ [x]) s1 h3 (fun pre y post s hp hi => k pre y post s (by rw [← hp]; simp) hi) (fun s hs => f s (by simpa using hs))
    unfold forL
    have h2 : body { s with e := e } = .ok fl s1 := h2
    simp only [h1, h2]
    cases fl with
    | nx => exact go h3
    | ct => exact go h3
    | bk => exact wp_of rfl h3
    | rt v => exact wp_of rfl h3
/-! the source is walked, then the loop stands -/
def ForK (T : Tab) (C : Call) (p : Pat) (k : Sk) (b : List IS) (Q : Fl → S → Prop) (os : List Rv) (s : S) : Prop :=
  ∃ items, noSl os = true ∧ srcItems k (os.map (deref s)) = some items ∧ Wp (forL (patSet p) (execSs T C b) items (lockAll s os)) fun fl s2 => Q fl (unlockAll s s2 os)
@[simp] theorem wp_for {p : Pat} {k : Sk} {src : List IE} {b : List IS} {e : List Slot} {h : List Cell} {Q : Fl → S → Prop} : Wp (execS T C (.for_ p k src b) ⟨e, h⟩) Q = Wp (evalOs T C src ⟨e, h⟩) (ForK T C p k b Q) := by
  rw [execS_12]
  cases evalOs T C src ⟨e, h⟩ with
  | ok os s =>
    rw [wp_ok]
    show Wp (match noSl os, srcItems k (os.map (deref s)) with
      | true, some items => (forL (patSet p) (execSs T C b) items (lockAll s os)).bnd fun fl s2 => .ok fl (unlockAll s s2 os)
      | _, _ => .bad) Q = _
    unfold ForK
    cases noSl os with
    | false =>
      show Wp .bad Q = _
      rw [wp_bad]
      exact propext ⟨False.elim, fun ⟨_, z, _⟩ => nomatch z⟩
    | true =>
      cases srcItems k (os.map (deref s)) with
      | none =>
        show Wp .bad Q = _
        rw [wp_bad]
        exact propext ⟨False.elim, fun ⟨_, _, z, _⟩ => nomatch z⟩
      | some items =>
        show Wp ((forL (patSet p) (execSs T C b) items (lockAll s os)).bnd fun fl s2 => .ok fl (unlockAll s s2 os)) Q = _
        rw [wp_bnd]
        conv => lhs; simp only [wp_ok]
        exact propext ⟨fun z => ⟨items, rfl, rfl, z⟩, fun ⟨_, _, y, z⟩ => by cases y; exact z⟩
  | exc c v s => exact wp_exc.trans wp_exc.symm
  | bad => exact wp_bad.trans wp_bad.symm
/-- the end of a turn -/
def TurnK (e : List Slot) (ix : List Nat) (I : Nat → List Slot → List Cell → Prop) (Q : Fl → S → Prop) (i : Nat) (fl : Fl) (s : S) : Prop := match fl with
  | .nx => ∃ as, Up e ix as = s.e ∧ I i as s.h
  | .ct => ∃ as, Up e ix as = s.e ∧ I i as s.h
  | .bk => Q .nx s
  | .rt v => Q (.rt v) s
section
variable {e e0 : List Slot} {ix : List Nat} {I : Nat → List Slot → List Cell → Prop} {Q : Fl → S → Prop} {i : Nat} {h : List Cell}
@[simp] theorem turn_rt {v : Val} {s : S} : TurnK e ix I Q i (.rt v) s = Q (.rt v) s := rfl
@[simp] theorem turn_bk {s : S} : TurnK e ix I Q i .bk s = Q .nx s := rfl
end
/-- a for over what stays; the slots that its turns change are told -/
theorem forK_at {p : Pat} {k : Sk} {b : List IS} {e : List Slot} {h : List Cell} {os : List Rv} {items : List Val} {Q : Fl → S → Prop} (ix : List Nat) (I : Nat → List Slot → List Cell → Prop) (as0 : List Slot)
    (q2 : srcItems k (os.map (deref ⟨e, h⟩)) = some items) (he : Up e ix as0 = e) (h0 : I 0 as0 h)
    (hb : ∀ i x as g, items[i]? = some x → I i as g → ∀ K : Fl → S → Prop, (∀ as' g', I (i + 1) as' g' → K .nx ⟨Up e ix as', g'⟩) → (∀ v s, Q (.rt v) s → K (.rt v) s) → (∀ as' g', I (i + 1) as' g' → K .ct ⟨Up e ix as', g'⟩) → (∀ s, Q .nx s → K .bk s) → ∃ e', patSet p x (Up e ix as) = some e' ∧ Wp (execSs T C b ⟨e', g⟩) K)
    (hf : ∀ as g, I items.length as g → Q .nx ⟨Up e ix as, g⟩) (q0 : noSl os = true) (hl : lockAll ⟨e, h⟩ os = ⟨e, h⟩) (hu : ∀ s2, unlockAll ⟨e, h⟩ s2 os = s2) : ForK T C p k b Q os ⟨e, h⟩ := by
  refine ⟨items, q0, q2, ?_⟩
  rw [hl]
  simp only [hu]
  refine wp_forL (fun pre s => ∃ as, s.e = Up e ix as ∧ I pre.length as s.h) items [] ⟨e, h⟩ ⟨as0, he.symm, h0⟩ (fun pre x post s hp ⟨as, h2, h3⟩ => ?_) fun s ⟨as, h2, h3⟩ => ?_
  · rw [List.nil_append] at hp
    obtain ⟨e', h4, fl, s1, h5, h6⟩ := hb pre.length x as s.h (by rw [hp]; simp) h3 (TurnK e ix I Q (pre.length + 1)) (fun as' g' z => ⟨as', rfl, z⟩) (fun v s z => z) (fun as' g' z => ⟨as', rfl, z⟩) fun s z => z
    refine ⟨e', by rw [h2]; exact h4, fl, s1, h5, ?_⟩
    cases fl with
    | nx => obtain ⟨as', z1, z2⟩ := h6; exact ⟨as', z1.symm, by rw [List.length_append]; exact z2⟩
    | ct => obtain ⟨as', z1, z2⟩ := h6; exact ⟨as', z1.symm, by rw [List.length_append]; exact z2⟩
    | bk => exact h6
    | rt v => exact h6
  · have := hf as s.h h3
    rw [← h2] at this
    exact this
theorem forK_rng {p : Pat} {b : List IS} {e : List Slot} {h : List Cell} {os : List Rv} {Q : Fl → S → Prop} (ix : List Nat) (I : Nat → List Slot → List Cell → Prop) (as0 : List Slot) (lo : Int) (n : Nat)
    (q2 : srcItems .rng (os.map (deref ⟨e, h⟩)) = some (rangeV lo n)) (he : Up e ix as0 = e) (h0 : I 0 as0 h)
    (hb : ∀ i as g, i < n → I i as g → ∀ K : Fl → S → Prop, (∀ as' g', I (i + 1) as' g' → K .nx ⟨Up e ix as', g'⟩) → (∀ v s, Q (.rt v) s → K (.rt v) s) → (∀ as' g', I (i + 1) as' g' → K .ct ⟨Up e ix as', g'⟩) → (∀ s, Q .nx s → K .bk s) → ∃ e', patSet p (.int (lo + (i : Nat))) (Up e ix as) = some e' ∧ Wp (execSs T C b ⟨e', g⟩) K)
    (hf : ∀ as g, I n as g → Q .nx ⟨Up e ix as, g⟩) (q0 : noSl os = true := by rfl) (hl : lockAll ⟨e, h⟩ os = ⟨e, h⟩ := by rfl) (hu : ∀ s2, unlockAll ⟨e, h⟩ s2 os = s2 := by intro s2; rfl) : ForK T C p .rng b Q os ⟨e, h⟩ :=
  forK_at (items := rangeV lo n) ix I as0 q2 he h0 (fun i x as g hx hi => by
    unfold rangeV at hx
    rw [List.getElem?_map] at hx
    by_cases hn : i < n
    · rw [List.getElem?_range hn] at hx
      simp only [Option.map_some, Option.some.injEq] at hx
      rw [← hx]
      exact hb i as g hn hi
    · rw [List.getElem?_eq_none (by simpa using hn)] at hx
      cases hx) (fun as g hi => hf as g (by simpa [rangeV] using hi)) q0 hl hu
/-! comprehensions -/
def LcK (T : Tab) (C : Call) (elt : IE) (p : Pat) (k : Sk) (conds : List IE) (vs : List Nat) (Q : Rv → S → Prop) (os : List Rv) (s : S) : Prop :=
  ∃ items, srcItems k (os.map (deref s)) = some items ∧ Wp (compL (patSet p) (evalTs T C conds) (fun s => (evalE T C elt s).val) vs putL items { lockAll s os with e := wipeE (lockAll s os).e vs } []) fun acc s2 => Q (.f (.lst acc false)) (unlockAll s { s2 with e := restE s.e s2.e vs } os)
@[simp] theorem wp_lc {elt : IE} {p : Pat} {k : Sk} {src conds : List IE} {vs : List Nat} {e : List Slot} {h : List Cell} {Q : Rv → S → Prop} : Wp (evalE T C (.lc elt p k src conds vs) ⟨e, h⟩) Q = Wp (evalOs T C src ⟨e, h⟩) (LcK T C elt p k conds vs Q) := by
  rw [evalE_21]
  cases evalOs T C src ⟨e, h⟩ with
  | ok os s =>
    rw [wp_ok]
    show Wp (match srcItems k (os.map (deref s)) with
      | none => .bad
      | some items => (compL (patSet p) (evalTs T C conds) (fun s => (evalE T C elt s).val) vs putL items { lockAll s os with e := wipeE (lockAll s os).e vs } []).bnd fun acc s2 => .ok (.f (.lst acc false)) (unlockAll s { s2 with e := restE s.e s2.e vs } os)) Q = _
    unfold LcK
    cases srcItems k (os.map (deref s)) with
    | none =>
      show Wp .bad Q = _
      rw [wp_bad]
      exact propext ⟨False.elim, fun ⟨_, z, _⟩ => nomatch z⟩
    | some items =>
      show Wp (R.bnd _ _) Q = _
      rw [wp_bnd]
      conv => lhs; simp only [wp_ok]
      exact propext ⟨fun z => ⟨items, rfl, z⟩, fun ⟨_, y, z⟩ => by cases y; exact z⟩
  | exc c v s => exact wp_exc.trans wp_exc.symm
  | bad => exact wp_bad.trans wp_bad.symm
/-! while -/
@[simp] theorem wp_whl {c : IE} {b : List IS} {e : List Slot} {h : List Cell} {Q : Fl → S → Prop} : Wp (execS T C (.whl c b) ⟨e, h⟩) Q = Wp (whileL (evalB T C c) (execSs T C b) T.fuel ⟨e, h⟩) Q := by
  rw [execS_11]
end
end Rs
end
section
set_option maxRecDepth 100000
set_option maxHeartbeats 400000
/-! Forward steps of the larger parts. -/
namespace Rs
open PySem L2
section
variable {T : Tab} {C : Call} {e : List Slot} {h : List Cell}
theorem pr_ext {α : Type} {r : R α} {P Q : α → S → Prop} (h : ∀ a s, P a s = Q a s) : Wp r P = Wp r Q := by rw [show P = Q from funext fun a => funext fun s => h a s]
@[simp] theorem wp_mt {m : Mt} {o : IE} {es : List IE} {Q : Rv → S → Prop} : Wp (evalE T C (.mt m o es) ⟨e, h⟩) Q = Wp (evalE T C o ⟨e, h⟩) fun x s => mkind m (deref s (opnd x)) = true ∧ Wp (evalVs T C es s) fun vs s => Op (mtop m (deref s (opnd x)) vs) fun ro => Op (putLoc s (opnd x) ro.2) fun s2 => Q ro.1 s2 := by
  rw [evalE_25, wp_bnd]
  refine pr_ext fun x s => ?_
  cases mkind m (deref s (opnd x)) with
  | false => simp
  | true =>
    simp only [wp_bnd, true_and]
    refine pr_ext fun vs s => ?_
    cases mtop m (deref s (opnd x)) vs with
    | none => simp
    | some ro =>
      obtain ⟨r, oc⟩ := ro
      simp only [op_s]
      cases putLoc s (opnd x) oc <;> simp
/-- a method's call, once the receiver stands -/
def MeK (T : Tab) (C : Call) (cs : List Nat) (m : Nat) (es : List IE) (pm : List (Nat ⊕ Val)) (Q : Rv → S → Prop) (x : Val) (s : S) : Prop :=
  Op (insAt s x) fun t => t.2.1 ∈ cs ∧ t.2.2.lookup (m % 1000) = none ∧ Op (T.mth t.2.1 m) fun f => Wp (evalVs T C es s) fun vs s => Wp (C f (x :: permV vs pm) s.h) fun v s2 => Q (.v v) ⟨s.e, s2.h⟩
@[simp] theorem wp_me {cs : List Nat} {m : Nat} {o : IE} {es : List IE} {pm : List (Nat ⊕ Val)} {Q : Rv → S → Prop} : Wp (evalE T C (.me cs m o es pm) ⟨e, h⟩) Q = Wp (evalE T C o ⟨e, h⟩) (Vl (MeK T C cs m es pm Q)) := by
  rw [evalE_27, wp_bnd, wp_vl]
  refine pr_ext fun x s => ?_
  unfold Vl
  refine propext ⟨fun ⟨v, h1, h2⟩ => ⟨v, h1, ?_⟩, fun ⟨v, h1, h2⟩ => ⟨v, h1, ?_⟩⟩
  · unfold MeK
    cases q : insAt s v with
    | none => simp [q] at h2
    | some t =>
      obtain ⟨n, c, fs⟩ := t
      simp only [q] at h2
      by_cases hc : c ∈ cs
      · cases q1 : fs.lookup (m % 1000) with
        | some _ => simp [q1, hc] at h2
        | none =>
          cases q2 : T.mth c m with
          | none => simp [q1, q2, hc] at h2
          | some f =>
            rw [q1, q2, decide_eq_true hc] at h2
            rw [op_s]
            refine ⟨hc, q1, ?_⟩
            show Op (T.mth c m) _
            rw [q2, op_s]
            simpa using h2
      · simp [hc] at h2
  · unfold MeK at h2
    cases q : insAt s v with
    | none => simp [q] at h2
    | some t =>
      obtain ⟨n, c, fs⟩ := t
      simp only [q, op_s] at h2
      obtain ⟨hc, q1, h2⟩ := h2
      cases q2 : T.mth c m with
      | none => simp [q2] at h2
      | some f =>
        have q1 : fs.lookup (m % 1000) = none := q1
        have hc : c ∈ cs := hc
        simp only [q, q1, q2, decide_eq_true hc]
        rw [q2, op_s] at h2
        simpa using h2
def NewK (T : Tab) (C : Call) (c : Nat) (pm : List (Nat ⊕ Val)) (Q : Rv → S → Prop) (vs : List Val) (s : S) : Prop :=
  Op (T.ini c) fun f => Wp (C f (.ref s.h.length :: permV vs pm) (s.h ++ [.ins c []])) fun v s2 => v = .non ∧ Q (.v (.ref s.h.length)) ⟨s.e, s2.h⟩
@[simp] theorem wp_new {c : Nat} {es : List IE} {pm : List (Nat ⊕ Val)} {Q : Rv → S → Prop} : Wp (evalE T C (.new c es pm) ⟨e, h⟩) Q = Wp (evalVs T C es ⟨e, h⟩) (NewK T C c pm Q) := by
  rw [evalE_28, wp_bnd]
  refine pr_ext fun vs s => ?_
  unfold NewK
  cases T.ini c with
  | none => simp
  | some f =>
    simp only [op_s]
    cases C f (.ref s.h.length :: permV vs pm) (s.h ++ [.ins c []]) with
    | ok v s2 => cases v <;> simp
    | exc c p s2 => simp
    | bad => simp
def AttK (T : Tab) (f : Nat) (Q : Rv → S → Prop) (x : Val) (s : S) : Prop := Op (insAt s x) fun t => T.fld t.2.1 f = true ∧ Op (t.2.2.lookup f) fun v => Q (.v v) s
@[simp] theorem wp_att {o : IE} {f : Nat} {Q : Rv → S → Prop} : Wp (evalE T C (.att o f) ⟨e, h⟩) Q = Wp (evalE T C o ⟨e, h⟩) (Vl (AttK T f Q)) := by
  rw [evalE_29, wp_bnd, wp_vl]
  refine pr_ext fun x s => ?_
  unfold Vl
  refine propext ⟨fun ⟨v, h1, h2⟩ => ⟨v, h1, ?_⟩, fun ⟨v, h1, h2⟩ => ⟨v, h1, ?_⟩⟩
  · unfold AttK
    cases q : insAt s v with
    | none => simp [q] at h2
    | some t =>
      obtain ⟨n, c, fs⟩ := t
      simp only [q] at h2
      cases q1 : T.fld c f with
      | false => simp [q1] at h2
      | true => simpa [q1] using h2
  · unfold AttK at h2
    cases q : insAt s v with
    | none => simp [q] at h2
    | some t =>
      obtain ⟨n, c, fs⟩ := t
      simp only [q, op_s] at h2
      simp only [q, h2.1, if_true]
      simpa using h2.2
def PrpK (T : Tab) (C : Call) (p : Nat) (Q : Rv → S → Prop) (x : Val) (s : S) : Prop := Op (insAt s x) fun t => Op (T.prp t.2.1 p) fun f => Wp (C f [x] s.h) fun v s2 => Q (.v v) ⟨s.e, s2.h⟩
@[simp] theorem wp_prp {o : IE} {p : Nat} {Q : Rv → S → Prop} : Wp (evalE T C (.prp o p) ⟨e, h⟩) Q = Wp (evalE T C o ⟨e, h⟩) (Vl (PrpK T C p Q)) := by
  rw [evalE_30, wp_bnd, wp_vl]
  refine pr_ext fun x s => ?_
  unfold Vl
  refine propext ⟨fun ⟨v, h1, h2⟩ => ⟨v, h1, ?_⟩, fun ⟨v, h1, h2⟩ => ⟨v, h1, ?_⟩⟩
  · unfold PrpK
    cases q : insAt s v with
    | none => simp [q] at h2
    | some t =>
      obtain ⟨n, c, fs⟩ := t
      simp only [q] at h2
      cases q1 : T.prp c p with
      | none => simp [q1] at h2
      | some f => simpa [q1] using h2
  · unfold PrpK at h2
    cases q : insAt s v with
    | none => simp [q] at h2
    | some t =>
      obtain ⟨n, c, fs⟩ := t
      simp only [q, op_s] at h2
      cases q1 : T.prp c p with
      | none => simp [q1] at h2
      | some f =>
        simp only [q, q1]
        rw [q1, op_s] at h2
        simpa using h2
def InK (T : Tab) (C : Call) (ng : Bool) (m : Nat) (Q : Rv → S → Prop) (x y : Val) (s : S) : Prop := Op (insAt s y) fun t => Op (T.mth t.2.1 m) fun f => Wp (C f [y, x] s.h) fun v s2 => Op (asB v) fun b => Q (.v (.bl (b != ng))) ⟨s.e, s2.h⟩
@[simp] theorem wp_in {ng : Bool} {m : Nat} {a o : IE} {Q : Rv → S → Prop} : Wp (evalE T C (.inown ng m a o) ⟨e, h⟩) Q = Wp (evalE T C a ⟨e, h⟩) (Vl fun x s => Wp (evalE T C o s) (Vl (InK T C ng m Q x))) := by
  rw [evalE_31, wp_bnd, wp_vl]
  refine congrArg (fun k => Wp (evalE T C a ⟨e, h⟩) (Vl k)) (funext fun x => funext fun s => ?_)
  rw [wp_bnd, wp_vl]
  refine congrArg (fun k => Wp (evalE T C o s) (Vl k)) (funext fun y => funext fun s => ?_)
  unfold InK
  cases insAt s y with
  | none => simp
  | some t =>
    obtain ⟨n, c, fs⟩ := t
    simp only [op_s]
    cases T.mth c m with
    | none => simp
    | some f =>
      simp only [op_s]
      cases C f [y, x] s.h with
      | ok v s2 =>
        obtain ⟨e2, h2⟩ := s2
        cases v <;> simp [asB]
      | exc c p s2 => obtain ⟨e2, h2⟩ := s2; simp
      | bad => simp
def LenK (T : Tab) (C : Call) (m : Nat) (Q : Rv → S → Prop) (y : Val) (s : S) : Prop := Op (insAt s y) fun t => Op (T.mth t.2.1 m) fun f => Wp (C f [y] s.h) fun v s2 => ∃ i : Int, v = .int i ∧ 0 ≤ i ∧ i < 2 ^ 63 ∧ Q (.v (.int i)) ⟨s.e, s2.h⟩
@[simp] theorem wp_len {m : Nat} {o : IE} {Q : Rv → S → Prop} : Wp (evalE T C (.lenown m o) ⟨e, h⟩) Q = Wp (evalE T C o ⟨e, h⟩) (Vl (LenK T C m Q)) := by
  rw [evalE_32, wp_bnd, wp_vl]
  refine congrArg (fun k => Wp (evalE T C o ⟨e, h⟩) (Vl k)) (funext fun y => funext fun s => ?_)
  unfold LenK
  cases insAt s y with
  | none => simp
  | some t =>
    obtain ⟨n, c, fs⟩ := t
    simp only [op_s]
    cases T.mth c m with
    | none => simp
    | some f =>
      simp only [op_s]
      cases C f [y] s.h with
      | ok v s2 =>
        obtain ⟨e2, h2⟩ := s2
        cases v with
        | int i =>
          simp only [bck_ok, wp_ok]
          by_cases hc : (decide (0 ≤ i) && decide (i < 2 ^ 63)) = true
          · rw [if_pos hc, wp_ok]
            simp only [Bool.and_eq_true, decide_eq_true_eq] at hc
            exact propext ⟨fun q => ⟨i, rfl, hc.1, hc.2, q⟩, fun ⟨j, z, _, _, q⟩ => by cases z; exact q⟩
          · rw [if_neg hc, wp_bad]
            simp only [Bool.and_eq_true, decide_eq_true_eq] at hc
            exact propext ⟨False.elim, fun ⟨j, z, a, b, q⟩ => by cases z; exact hc ⟨a, b⟩⟩
        | _ => simp
      | exc c p s2 => obtain ⟨e2, h2⟩ := s2; simp
      | bad => simp
def HeapK (Q : Rv → S → Prop) (x : Rv) (s : S) : Prop := match x with
  | .f c => Q (.v (.ref s.h.length)) { s with h := s.h ++ [c] }
  | _ => False
@[simp] theorem heapK_f {Q : Rv → S → Prop} {c : Cell} : HeapK Q (.f c) ⟨e, h⟩ = Q (.v (.ref h.length)) ⟨e, h ++ [c]⟩ := rfl
@[simp] theorem wp_heap {a : IE} {Q : Rv → S → Prop} : Wp (evalE T C (.heap a) ⟨e, h⟩) Q = Wp (evalE T C a ⟨e, h⟩) (HeapK Q) := by
  rw [evalE_33, wp_bnd]
  refine pr_ext fun x s => ?_
  cases x with
  | f c => exact wp_ok
  | v x => exact wp_bad
  | sl i => exact wp_bad
@[simp] theorem wp_dsp {es : List IE} {Q : Rv → S → Prop} : Wp (evalE T C (.dsp es) ⟨e, h⟩) Q = Wp (evalVs T C es ⟨e, h⟩) fun vs s => Op (kvsOf vs) fun kvs => Q (.f (.dct (dmerge [] kvs) false)) s := by
  rw [evalE_20, wp_bnd]
  refine pr_ext fun vs s => ?_
  cases kvsOf vs <;> simp
/-! targets -/
def TpK (T : Tab) (C : Call) (ts : List Tgt) (Q : Unit → S → Prop) (v : Val) (s : S) : Prop := ∃ vs, (v = .tup vs ∨ v = .lst vs) ∧ Wp (tgtSets T C ts vs s) Q
@[simp] theorem tpK_t {ts : List Tgt} {vs : List Val} {Q : Unit → S → Prop} {s : S} : TpK T C ts Q (.tup vs) s = Wp (tgtSets T C ts vs s) Q := propext ⟨fun ⟨_, z, q⟩ => by rcases z with z | z <;> cases z; exact q, fun q => ⟨_, .inl rfl, q⟩⟩
@[simp] theorem tpK_l {ts : List Tgt} {vs : List Val} {Q : Unit → S → Prop} {s : S} : TpK T C ts Q (.lst vs) s = Wp (tgtSets T C ts vs s) Q := propext ⟨fun ⟨_, z, q⟩ => by rcases z with z | z <;> cases z; exact q, fun q => ⟨_, .inr rfl, q⟩⟩
@[simp] theorem wp_tp {ts : List Tgt} {v : Val} {Q : Unit → S → Prop} : Wp (tgtSet T C (.tp ts) v ⟨e, h⟩) Q = TpK T C ts Q v ⟨e, h⟩ := by
  rw [tgtSet_2]
  cases v with
  | tup vs => exact tpK_t.symm
  | lst vs => exact tpK_l.symm
  | _ => exact wp_bad.trans (propext ⟨False.elim, fun ⟨_, z, _⟩ => by rcases z with z | z <;> cases z⟩)
/-- a store at a place of a list or a dict -/
def subV (o k v : Val) : Option Cell := match o with
  | .lst xs => match k with
    | .int i => (ixN xs.length i).map fun j => .lst (xs.set j v) false
    | _ => none
  | .dct kvs => match keyV k with
    | some k => if kvs.length < sizeLine then some (.dct (dput kvs k v) false) else none
    | none => none
  | _ => none
@[simp] theorem wp_sub {o k : IE} {v : Val} {Q : Unit → S → Prop} : Wp (tgtSet T C (.sub o k) v ⟨e, h⟩) Q = Wp (evalE T C o ⟨e, h⟩) fun x s => Wp (evalE T C k s) (Vl fun i s => Op (subV (deref s (opnd x)) i v) fun c => Op (setLoc s (opnd x) c) fun s => Q () s) := by
  rw [tgtSet_3, wp_bnd]
  refine pr_ext fun x s => ?_
  rw [wp_bnd, wp_vl]
  refine congrArg (fun k' => Wp (evalE T C k s) (Vl k')) (funext fun y => funext fun s => ?_)
  unfold subV
  cases deref s (opnd x) with
  | lst xs =>
    cases y with
    | int i =>
      cases q0 : ixN xs.length i with
      | none => simp [q0]
      | some j => cases q : setLoc s (opnd x) (.lst (xs.set j v) false) <;> simp [q0, q]
    | _ => simp
  | dct kvs =>
    simp only []
    cases keyV y with
    | none => simp
    | some k =>
      simp only []
      by_cases hl : kvs.length < sizeLine
      · rw [if_pos hl, if_pos hl]
        cases q : setLoc s (opnd x) (.dct (dput kvs k v) false) <;> simp [q]
      · rw [if_neg hl, if_neg hl]; simp
  | _ => simp
def SetAK (T : Tab) (f : Nat) (v : Val) (Q : Unit → S → Prop) (x : Val) (s : S) : Prop := Op (insAt s x) fun t => T.fld t.2.1 f = true ∧ t.2.2.length < 900 ∧ Q () { s with h := s.h.set t.1 (.ins t.2.1 (putFs f v t.2.2)) }
@[simp] theorem wp_setA {o : IE} {f : Nat} {v : Val} {Q : Unit → S → Prop} : Wp (tgtSet T C (.att o f) v ⟨e, h⟩) Q = Wp (evalE T C o ⟨e, h⟩) (Vl (SetAK T f v Q)) := by
  rw [tgtSet_4, wp_bnd, wp_vl]
  refine congrArg (fun k => Wp (evalE T C o ⟨e, h⟩) (Vl k)) (funext fun x => funext fun s => ?_)
  unfold SetAK
  cases insAt s x with
  | none => simp
  | some t =>
    obtain ⟨n, c, fs⟩ := t
    simp only [op_s]
    by_cases hc : (T.fld c f && decide (fs.length < 900)) = true
    · rw [if_pos hc, wp_ok]
      simp only [Bool.and_eq_true, decide_eq_true_eq] at hc
      simp [hc]
    · rw [if_neg hc, wp_bad]
      simp only [Bool.and_eq_true, decide_eq_true_eq] at hc
      exact propext ⟨False.elim, fun ⟨a, b, _⟩ => hc ⟨a, b⟩⟩
/-! statements -/
def OwnK (i : Nat) (Q : Fl → S → Prop) (x : Rv) (s : S) : Prop := match x with
  | .f c => Q .nx { s with e := s.e.set i (.own c) }
  | _ => False
@[simp] theorem ownK_f {i : Nat} {Q : Fl → S → Prop} {c : Cell} : OwnK i Q (.f c) ⟨e, h⟩ = Q .nx ⟨e.set i (.own c), h⟩ := rfl
@[simp] theorem wp_own {i : Nat} {a : IE} {Q : Fl → S → Prop} : Wp (execS T C (.own i a) ⟨e, h⟩) Q = Wp (evalE T C a ⟨e, h⟩) (OwnK i Q) := by
  rw [execS_3, wp_bnd]
  refine pr_ext fun x s => ?_
  cases x with
  | f c => exact wp_ok
  | v x => exact wp_bad
  | sl i => exact wp_bad
@[simp] theorem wp_par {i j : Nat} {oi oj : Bool} {a b : IE} {Q : Fl → S → Prop} : Wp (execS T C (.par i j oi oj a b) ⟨e, h⟩) Q = Wp (evalE T C a ⟨e, h⟩) fun x s => Wp (evalE T C b s) fun y s => Op (put1 oi x) fun u => Op (put1 oj y) fun v => Q .nx ⟨(s.e.set i u).set j v, s.h⟩ := by
  rw [execS_4, wp_bnd]
  refine pr_ext fun x s => ?_
  rw [wp_bnd]
  refine pr_ext fun y s => ?_
  cases put1 oi x with
  | none => simp
  | some u => cases put1 oj y <;> simp
@[simp] theorem wp_par3 {i j l : Nat} {oi oj ol : Bool} {a b c : IE} {Q : Fl → S → Prop} : Wp (execS T C (.par3 i j l oi oj ol a b c) ⟨e, h⟩) Q = Wp (evalE T C a ⟨e, h⟩) fun x s => Wp (evalE T C b s) fun y s => Wp (evalE T C c s) fun z s => Op (put1 oi x) fun u => Op (put1 oj y) fun v => Op (put1 ol z) fun w => Q .nx ⟨((s.e.set i u).set j v).set l w, s.h⟩ := by
  rw [execS_5, wp_bnd]
  refine pr_ext fun x s => ?_
  rw [wp_bnd]
  refine pr_ext fun y s => ?_
  rw [wp_bnd]
  refine pr_ext fun z s => ?_
  cases put1 oi x with
  | none => simp
  | some u =>
    cases put1 oj y with
    | none => simp
    | some v => cases put1 ol z <;> simp
def AugK (T : Tab) (C : Call) (i : Nat) (op : Bop) (a : IE) (Q : Fl → S → Prop) (x : Slot) (s : S) : Prop := match x with
  | .val x => Wp (evalE T C a s) fun y s => Op (iop op x (deref s (opnd y))) fun r => Op (freeze r) fun z => Q .nx { s with e := s.e.set i (.val z) }
  | _ => False
@[simp] theorem augK_v {i : Nat} {op : Bop} {a : IE} {Q : Fl → S → Prop} {x : Val} {s : S} : AugK T C i op a Q (.val x) s = Wp (evalE T C a s) fun y s => Op (iop op x (deref s (opnd y))) fun r => Op (freeze r) fun z => Q .nx { s with e := s.e.set i (.val z) } := rfl
@[simp] theorem wp_aug {i : Nat} {op : Bop} {a : IE} {Q : Fl → S → Prop} : Wp (execS T C (.aug i op a) ⟨e, h⟩) Q = AugK T C i op a Q (e.getD i .no) ⟨e, h⟩ := by
  rw [execS_6]
  show Wp (match slotOf ⟨e, h⟩ i with
    | .val x => (evalE T C a ⟨e, h⟩).bnd fun y s => (R.op (iop op x (deref s (opnd y))) s).vl.bnd fun z s => .ok .nx { s with e := s.e.set i (.val z) }
    | _ => .bad) Q = _
  rw [slotOf_mk]
  cases e.getD i .no with
  | val x =>
    simp only [wp_bnd, augK_v]
    refine pr_ext fun y s => ?_
    rw [wp_vl]
    cases iop op x (deref s (opnd y)) with
    | none => simp
    | some r =>
      simp only [wp_op, op_s, wp_ok]
      unfold Vl Op
      rfl
  | own c => exact wp_bad
  | no => exact wp_bad
def AugAK (T : Tab) (C : Call) (f : Nat) (op : Bop) (a : IE) (Q : Fl → S → Prop) (x : Val) (s : S) : Prop :=
  Op (insAt s x) fun t => T.fld t.2.1 f = true ∧ Op (t.2.2.lookup f) fun old => Wp (evalE T C a s) (Vl fun y s => Op (iop op old y) fun r => Op (freeze r) fun z => Op (insAt s x) fun t2 => t2.2.1 = t.2.1 ∧ t2.2.2.length < 900 ∧ Q .nx { s with h := s.h.set t2.1 (.ins t2.2.1 (putFs f z t2.2.2)) })
@[simp] theorem wp_augA {o : IE} {f : Nat} {op : Bop} {a : IE} {Q : Fl → S → Prop} : Wp (execS T C (.augA o f op a) ⟨e, h⟩) Q = Wp (evalE T C o ⟨e, h⟩) (Vl (AugAK T C f op a Q)) := by
  rw [execS_8, wp_bnd, wp_vl]
  refine congrArg (fun k => Wp (evalE T C o ⟨e, h⟩) (Vl k)) (funext fun x => funext fun s => ?_)
  unfold AugAK
  cases insAt s x with
  | none => simp
  | some t =>
    obtain ⟨n, c, fs⟩ := t
    simp only [op_s]
    cases T.fld c f with
    | false => cases fs.lookup f <;> simp
    | true =>
      simp only [true_and]
      cases fs.lookup f with
      | none => simp
      | some old =>
        simp only [op_s, wp_bnd, wp_vl]
        refine congrArg (fun k => Wp (evalE T C a s) (Vl k)) (funext fun y => funext fun s => ?_)
        cases iop op old y with
        | none => simp
        | some r =>
          simp only [wp_op, op_s]
          unfold Vl
          show (∃ v, freeze r = some v ∧ _) = Op (freeze r) _
          unfold Op
          refine propext ⟨fun ⟨z, h1, h2⟩ => ⟨z, h1, ?_⟩, fun ⟨z, h1, h2⟩ => ⟨z, h1, ?_⟩⟩
          · cases q : insAt s x with
            | none => simp [q] at h2
            | some t2 =>
              obtain ⟨n2, c2, fs2⟩ := t2
              simp only [q] at h2
              refine ⟨_, rfl, ?_⟩
              by_cases hc : (decide (c2 = c) && decide (fs2.length < 900)) = true
              · rw [if_pos hc, wp_ok] at h2
                simp only [Bool.and_eq_true, decide_eq_true_eq] at hc
                exact ⟨hc.1, hc.2, by have := hc.1; subst this; exact h2⟩
              · rw [if_neg hc, wp_bad] at h2; exact h2.elim
          · obtain ⟨⟨n2, c2, fs2⟩, q, h3, h4, h5⟩ := h2
            simp only [q]
            have h3 : c2 = c := h3
            have h4 : fs2.length < 900 := h4
            subst h3
            rw [if_pos (by simp; exact h4), wp_ok]
            exact h5
@[simp] theorem vsubL_l {xs : List Val} {i : Val} : vsubL (.lst xs) i = vsub (.lst xs) i := if_pos (by simp only [kindV])
@[simp] theorem wp_augS {o k : IE} {op : Bop} {a : IE} {Q : Fl → S → Prop} : Wp (execS T C (.augS o k op a) ⟨e, h⟩) Q = Wp (evalE T C o ⟨e, h⟩) fun x s => Wp (evalE T C k s) (Vl fun i s => Op (vsubL (deref s (opnd x)) i) fun old => Wp (evalE T C a s) (Vl fun y s => Op (iop op old y) fun r => Op (freeze r) fun z => ∃ xs j, deref s (opnd x) = .lst xs ∧ i = .int j ∧ Op (ixN xs.length j) fun q => Op (setLoc s (opnd x) (.lst (xs.set q z) false)) fun s => Q .nx s)) := by
  rw [execS_7, wp_bnd]
  refine pr_ext fun x s => ?_
  rw [wp_bnd, wp_vl]
  refine congrArg (fun k' => Wp (evalE T C k s) (Vl k')) (funext fun i => funext fun s => ?_)
  generalize vsubL (deref s (opnd x)) i = oo
  cases oo with
  | none => simp
  | some old =>
    simp only [op_s, wp_bnd, wp_vl]
    refine congrArg (fun k => Wp (evalE T C a s) (Vl k)) (funext fun y => funext fun s => ?_)
    cases iop op old y with
    | none => simp
    | some r =>
      simp only [wp_op, op_s]
      show (∃ v, freeze r = some v ∧ _) = Op (freeze r) _
      unfold Op
      refine propext ⟨fun ⟨z, h1, h2⟩ => ⟨z, h1, ?_⟩, fun ⟨z, h1, h2⟩ => ⟨z, h1, ?_⟩⟩
      · simp only [] at h2
        cases hd : deref s (opnd x) with
        | lst xs =>
          cases i with
          | int j =>
            refine ⟨xs, j, rfl, rfl, ?_⟩
            simp only [hd] at h2
            cases q : ixN xs.length j with
            | none => simp [q] at h2
            | some p =>
              refine ⟨p, rfl, ?_⟩
              simp only [q] at h2
              cases q2 : setLoc s (opnd x) (.lst (xs.set p z) false) with
              | none => simp [q2] at h2
              | some s2 => exact ⟨s2, q2, by simpa [q2] using h2⟩
          | _ => simp [hd] at h2
        | _ => simp [hd] at h2
      · obtain ⟨xs, j, h3, rfl, p, h4, s2, h5, h6⟩ := h2
        simp only [h3, h4, h5, bnd_ok, op_some, wp_ok]
        exact h6
@[simp] theorem wp_del {o k : IE} {Q : Fl → S → Prop} : Wp (execS T C (.del o k) ⟨e, h⟩) Q = Wp (evalE T C o ⟨e, h⟩) fun x s => Wp (evalE T C k s) (Vl fun i s => ∃ kvs k, deref s (opnd x) = .dct kvs ∧ keyV i = some k ∧ (dget kvs k).isSome = true ∧ Op (setLoc s (opnd x) (.dct (ddrop kvs k) false)) fun s => Q .nx s) := by
  rw [execS_9, wp_bnd]
  refine pr_ext fun x s => ?_
  rw [wp_bnd, wp_vl]
  refine congrArg (fun k' => Wp (evalE T C k s) (Vl k')) (funext fun i => funext fun s => ?_)
  refine propext ⟨fun h2 => ?_, fun ⟨kvs, k, h1, h2, h3, h4⟩ => ?_⟩
  · split at h2
    · rename_i kvs k h3 h4
      refine ⟨kvs, k, h3, h4, ?_⟩
      by_cases hc : (dget kvs k).isSome = true
      · rw [if_pos hc] at h2
        refine ⟨hc, ?_⟩
        simpa using h2
      · rw [if_neg hc] at h2; simp at h2
    · simp at h2
  · simp only [h1, h2, h3, if_true]
    simpa using h4
/-! values stored by op= -/
@[simp] theorem iop_add {i j : Int} : iop .add (.int i) (.int j) = some (.v (.int (i + j))) := rfl
@[simp] theorem iop_sub {i j : Int} : iop .sub (.int i) (.int j) = some (.v (.int (i - j))) := rfl
end
end Rs
end
section
set_option maxRecDepth 100000
set_option maxHeartbeats 4000000
/-! Names, things, events, rows that are drawn. -/
namespace Rs
open PySem L2
def base1 : List Str := ["a", "b", "c", "d", "e", "f", "g", "h", "jug", "lamp", "map"]
def base2 : List Str := ["call", "void", "zz", "quilts", "abcdefgh", "n", "m", "rook", "waxy"]
def baseN : List Str := base1 ++ base2
def arr (k : Nat) (rev : Bool) : List Str := if rev then (baseN.drop k ++ baseN.take k).reverse else baseN.drop k ++ baseN.take k
structure NamesOK (ns : List Str) (m : Int) : Prop where
  nd : ns.Nodup
  sub : ∀ x ∈ ns, x ∈ baseN
  len : ns.length = min m.toNat 20
section
variable {T : Tab} {fs : List Fd}
end
end Rs
end
section
set_option maxRecDepth 100000
set_option maxHeartbeats 4000000
/-! Events and rows that are drawn. -/
namespace Rs
open PySem L2
theorem size_big : (1000000 : Nat) ≤ sizeLine := by decide
def evV (e : Bool × Str) : Val := .tup [.str (if e.1 then "void" else "call"), .str e.2]
def rowV (r : List (Bool × Str)) : Val := .lst (r.map evV)
theorem veq_int (a b : Int) : veq (.int a) (.int b) = some (decide (a = b)) := by
  simp [execSs_2, execS_10, evalE_20, evalE_25, evalE_27, evalE_28, evalE_29, evalE_30, evalE_31, evalE_32, evalE_33, tgtSet_2, tgtSet_3, tgtSet_4, execS_3, execS_4, execS_5, execS_6, execS_7, execS_8, execS_9, veq, toD, okD, PyData.plain, PyData.depth, PyData.eqv, Bool.beq_eq_decide_eq]
theorem veq_str (a b : Str) : veq (.str a) (.str b) = some (decide (a = b)) := by
  simp [execSs_2, execS_10, evalE_20, evalE_25, evalE_27, evalE_28, evalE_29, evalE_30, evalE_31, evalE_32, evalE_33, tgtSet_2, tgtSet_3, tgtSet_4, execS_3, execS_4, execS_5, execS_6, execS_7, execS_8, execS_9, veq, toD, okD, PyData.plain, PyData.depth, PyData.eqv, Bool.beq_eq_decide_eq]
theorem veq_bl (a b : Bool) : veq (.bl a) (.bl b) = some (decide (a = b)) := by
  simp [execSs_2, execS_10, evalE_20, evalE_25, evalE_27, evalE_28, evalE_29, evalE_30, evalE_31, evalE_32, evalE_33, tgtSet_2, tgtSet_3, tgtSet_4, execS_3, execS_4, execS_5, execS_6, execS_7, execS_8, execS_9, veq, toD, okD, PyData.plain, PyData.depth, PyData.eqv, Bool.beq_eq_decide_eq]
section
variable {T : Tab} {fs : List Fd}
end
end Rs
end
section
set_option maxRecDepth 100000
set_option maxHeartbeats 4000000
/-! Dicts from names to whole numbers. -/
namespace Rs
open PySem L2
abbrev AL := List (Str × Int)
def alV (al : AL) : List (Key × Val) := al.map fun p => (.inr p.1, .int p.2)
def AL.get (al : AL) (x : Str) : Option Int := (al.find? fun p => decide (p.1 = x)).map (·.2)
def AL.put (al : AL) (x : Str) (k : Int) : AL := if x ∈ al.map (·.1) then al.map fun p => if p.1 = x then (p.1, k) else p else al ++ [(x, k)]
def AL.drop (al : AL) (x : Str) : AL := al.filter fun p => decide (p.1 ≠ x)
/-! ### the least of pairs of a number and a name -/
def nxV (p : Str × Int) : Val := .tup [.int p.2, .str p.1]
end Rs
end
section
set_option maxRecDepth 100000
set_option maxHeartbeats 4000000
/-! Texts of rows. -/
namespace Rs
open PySem L2
def evD (e : Bool × Str) : PyData := .tuple [.str (if e.1 then "void" else "call"), .str e.2]
end Rs
end
section
set_option maxRecDepth 100000
set_option maxHeartbeats 4000000
/-! Stretches of a row. -/
namespace Rs
open PySem L2
abbrev Ev := Bool × Str
abbrev Pr := Int × Int
def pV (p : Pr) : Val := .tup [.int p.1, .int p.2]
def pD (p : Pr) : PyData := .tuple [.int p.1, .int p.2]
section
variable {T : Tab}
end
/-! ### pairs in order -/
def pLe (a b : Pr) : Bool := PySem.W.dataLe false dD (pV a) (pV b)
def sortP (xs : List Pr) : List Pr := xs.mergeSort pLe
/-! ### the program's stretches -/
def strF : Nat → AL → List Ev → List Pr
  | _, _, [] => []
  | n, al, e :: es => if e.1 then strF (n + 1) (AL.drop al e.2) es else (match AL.get al e.2 with
    | none => []
    | some i => [(i, (n : Int))]) ++ strF (n + 1) (AL.put al e.2 n) es
def strA : Nat → AL → List Ev → AL
  | _, al, [] => al
  | n, al, e :: es => strA (n + 1) (if e.1 then AL.drop al e.2 else AL.put al e.2 n) es
/-- a stretch, by its two calls -/
structure IsStr (es : List Ev) (i j : Nat) : Prop where
  lt : i < j
  ex : ∃ x, es[i]? = some (false, x) ∧ es[j]? = some (false, x) ∧ ∀ k e, i < k → k < j → es[k]? = some e → e.2 ≠ x
/-- what the dict of last calls holds behind a row -/
def LastOK (es : List Ev) (al : AL) : Prop := (al.map (·.1)).Nodup ∧ ∀ x i, (x, i) ∈ al ↔ ∃ n : Nat, i = n ∧ es[n]? = some (false, x) ∧ ∀ k e, n < k → es[k]? = some e → e.2 ≠ x
end Rs
end
section
set_option maxRecDepth 100000
set_option maxHeartbeats 4000000
/-! The program's stretches, run. -/
namespace Rs
open PySem L2
section
variable {T : Tab}
def strBody : List IS := [(.ite (.cmp .eq (.var 4) (.cst (.str "void"))) [(.ex (.mt .dpop (.var 2) [(.var 5), (.cst .non)]))] [(.ite (.cmp .isin (.var 5) (.var 2)) [(.ex (.mt .append (.var 1) [(.tup [(.sub (.var 2) (.var 5)), (.var 3)])]))] []), (.asg (.sub (.var 2) (.var 5)) (.var 3))])]
def strsOf (es : List Ev) : List Pr := sortP (strF 0 [] es)
/-! ### calls -/
def callsF : Nat → List Ev → List Nat
  | _, [] => []
  | n, e :: es => (if e.1 then [] else [n]) ++ callsF (n + 1) es
end
end Rs
end
section
set_option maxRecDepth 100000
set_option maxHeartbeats 4000000
/-! Costs. -/
namespace Rs
open PySem L2
def priceOf (ts : AL) (x : Str) : Int := (AL.get ts x).getD 0
def evAt (es : List Ev) (k : Nat) : Ev := es.getD k (true, "")
def Known (ts : AL) (es : List Ev) : Prop := ∀ e ∈ es, e.2 ∈ ts.map (·.1)
section
variable {T : Tab} {fs : List Fd}
def callSum (ts : AL) (es : List Ev) : Int := (es.filterMap fun e => if e.1 then none else some (priceOf ts e.2)).sum
/-- stretches that a row has, as pairs -/
def PlanIn (es : List Ev) (pl : List Pr) : Prop := ∀ p ∈ pl, ∃ i j : Nat, p = ((i : Int), (j : Int)) ∧ IsStr es i j
def planSum (ts : AL) (es : List Ev) (pl : List Pr) : Int := (pl.map fun p => priceOf ts (evAt es p.1.toNat).2).sum
end
end Rs
end
section
set_option maxRecDepth 100000
set_option maxHeartbeats 4000000
/-! How long a repr is, at most. -/
namespace Rs
open PySem L2 Builtin.Str
mutual
def szD : PyData → Nat
  | .none => 4
  | .bool _ => 5
  | .int _ => 1921
  | .str x => 2 + 4 * x.length
  | .list xs => 2 + szDs xs
  | .tuple xs => 3 + szDs xs
  | .dict kvs => 2 + szDk kvs
def szDs : List PyData → Nat
  | [] => 0
  | x :: xs => szD x + 2 + szDs xs
def szDk : List (PyData × PyData) → Nat
  | [] => 0
  | (k, v) :: r => szD k + szD v + 4 + szDk r
end
def lowS (x : Str) : Bool := x.cps.toList.all fun c => decide (c < 128)
mutual
/-- texts of plain signs alone -/
def lowD : PyData → Bool
  | .str x => lowS x
  | .int i => decide (i.natAbs.log2 < 1920)
  | .list xs => lowDs xs
  | .tuple xs => lowDs xs
  | .dict kvs => lowDk kvs
  | _ => true
def lowDs : List PyData → Bool
  | [] => true
  | x :: xs => lowD x && lowDs xs
def lowDk : List (PyData × PyData) → Bool
  | [] => true
  | (k, v) :: r => lowD k && (lowD v && lowDk r)
end
theorem reprChar_le : ∀ c < 128, (reprChar 34 c).length ≤ 4 ∧ (reprChar 39 c).length ≤ 4 := by decide +kernel
theorem reprText_le (x : Str) (h : lowS x = true) : (reprText x).length ≤ 2 + 4 * x.length := by
  rw [← reprLen_eq, ← Array.foldl_toList]
  have q : reprQuote x = 34 ∨ reprQuote x = 39 := by unfold reprQuote; split <;> simp
  have : ∀ (l : List Nat) (n : Nat), (l.all fun c => decide (c < 128)) = true → l.foldl (fun n c => n + (reprChar (reprQuote x) c).length) n ≤ n + 4 * l.length := by
    intro l
    induction l with
    | nil => intro n _; simp
    | cons c l ih =>
      intro n hl
      simp only [List.all_cons, Bool.and_eq_true, decide_eq_true_eq] at hl
      have h1 := ih (n + (reprChar (reprQuote x) c).length) hl.2
      have h2 := reprChar_le c hl.1
      have h3 : (reprChar (reprQuote x) c).length ≤ 4 := by 
        rcases q with q | q
        · rw [q]; exact h2.1
        · rw [q]; exact h2.2
      simp only [List.foldl_cons, List.length_cons]
      omega
  have := this x.cps.toList 2 h
  rw [Array.length_toList] at this
  exact this
theorem piled_cons (t : Str) (ts : List Str) : piled (t :: ts) = t.length + 2 + piled ts := by simp [execSs_2, execS_10, evalE_20, evalE_25, evalE_27, evalE_28, evalE_29, evalE_30, evalE_31, evalE_32, evalE_33, tgtSet_2, tgtSet_3, tgtSet_4, execS_3, execS_4, execS_5, execS_6, execS_7, execS_8, execS_9, piled]
theorem listText_piled (ts : List Str) : (listText ts).length ≤ 2 + piled ts := by
  have : ∀ (ts : List Str) (k : Nat) (acc : Str), (textFrom k acc ts).length ≤ acc.length + piled ts := by
    intro ts
    induction ts with
    | nil => intro k acc; show acc.length ≤ _; omega
    | cons t r ih =>
      intro k acc
      have ih := ih (k + 1) (acc ++ (if k > 0 then ", " else "" : String) ++ t)
      have e : (acc ++ (if k > 0 then ", " else "" : String) ++ t).length = acc.length + (if k > 0 then 2 else 0) + t.length := by
        rw [strLen_append, strLen_append]
        split <;> rfl
      have e2 : (if k > 0 then 2 else 0) ≤ 2 := by split <;> omega
      show (textFrom (k + 1) (acc ++ (if k > 0 then ", " else "" : String) ++ t) r).length ≤ _
      rw [e] at ih
      rw [piled_cons]
      omega
  have h1 := this ts 0 "["
  have e : (listText ts).length = (textFrom 0 "[" ts).length + 1 := by
    unfold listText
    rw [strLen_append]; rfl
  have e2 : (("[" : String) : Str).length = 1 := rfl
  omega
theorem join_piled (ts : List Str) : (Str.join ", " ts).length ≤ piled ts := by
  by_cases h : ts = []
  · subst h; show (Str.join ", " []).length ≤ _; exact Nat.zero_le _
  · have := join_length_add ts h
    omega
theorem tupleText_piled (ts : List Str) : (tupleText ts).length ≤ 3 + piled ts := by
  have e : (tupleText ts).length ≤ 1 + (Str.join ", " ts).length + 2 := by
    unfold tupleText
    rw [strLen_append, strLen_append]
    split
    · exact Nat.le_refl _
    · exact Nat.add_le_add_left (by decide) _
  have := join_piled ts
  omega
theorem dictText_piled (ts : List Str) : (dictText ts).length ≤ 2 + piled ts := by
  have e : (dictText ts).length = 1 + (Str.join ", " ts).length + 1 := by
    unfold dictText
    rw [strLen_append, strLen_append]; rfl
  have := join_piled ts
  omega
mutual
theorem shown_le : ∀ d : PyData, lowD d = true → d.shown.length ≤ szD d
  | .none, _ => by unfold PyData.shown szD; decide
  | .bool b, _ => by unfold PyData.shown szD; cases b <;> decide
  | .int i, h => by
    unfold lowD at h
    unfold PyData.shown szD
    exact PyProof.Rows.int_text_len_1921 (of_decide_eq_true h)
  | .str x, h => by
    unfold lowD at h
    unfold PyData.shown szD
    exact reprText_le x h
  | .list xs, h => by
    unfold lowD at h
    unfold PyData.shown szD
    exact Nat.le_trans (listText_piled _) (Nat.add_le_add_left (shownAll_le xs h) 2)
  | .tuple xs, h => by
    unfold lowD at h
    unfold PyData.shown szD
    exact Nat.le_trans (tupleText_piled _) (Nat.add_le_add_left (shownAll_le xs h) 3)
  | .dict kvs, h => by
    unfold lowD at h
    unfold PyData.shown szD
    exact Nat.le_trans (dictText_piled _) (Nat.add_le_add_left (shownKv_le kvs h) 2)
theorem shownAll_le : ∀ xs : List PyData, lowDs xs = true → piled (PyData.shownAll xs) ≤ szDs xs
  | [], _ => by unfold PyData.shownAll szDs; exact Nat.le_refl _
  | x :: xs, h => by
    unfold lowDs at h
    rw [Bool.and_eq_true] at h
    unfold PyData.shownAll szDs
    rw [piled_cons]
    have h1 := shown_le x h.1
    have h2 := shownAll_le xs h.2
    omega
theorem shownKv_le : ∀ xs : List (PyData × PyData), lowDk xs = true → piled (PyData.shownKv xs) ≤ szDk xs
  | [], _ => by unfold PyData.shownKv szDk; exact Nat.le_refl _
  | (k, v) :: r, h => by
    unfold lowDk at h
    rw [Bool.and_eq_true, Bool.and_eq_true] at h
    unfold PyData.shownKv szDk
    rw [piled_cons]
    have h1 := shown_le k h.1
    have h2 := shown_le v h.2.1
    have h3 := shownKv_le r h.2.2
    have e : (k.shown ++ ": " ++ v.shown).length = k.shown.length + 2 + v.shown.length := by
      rw [strLen_append, strLen_append]; rfl
    omega
end
end Rs
end
section
set_option maxRecDepth 100000
set_option maxHeartbeats 4000000
/-! The laws' own stretches: the same as the program's. -/
namespace Rs
open PySem L2
def latF (es : List Ev) (x : Str) : Nat → Nat → List Nat
  | _, 0 => []
  | s, n + 1 => (if (evAt es s).2 = x then [s] else []) ++ latF es x (s + 1) n
def lawF (es : List Ev) (i : Nat) : List Pr := if (evAt es i).1 then [] else match latF es (evAt es i).2 (i + 1) (es.length - (i + 1)) with
  | [] => []
  | j :: _ => if (evAt es j).1 then [] else [((i : Int), (j : Int))]
def lawS (es : List Ev) (k : Nat) : List Pr := (List.range k).flatMap (lawF es)
section
variable {T : Tab} {fs : List Fd}
def lawBody : List IS := [(.ite (.cmp .eq (.var 3) (.cst (.str "call"))) [(.asg (.nm 5) (.lc (.var 6) (.nm 6) .rng [(.bin .add (.var 2) (.cst (.int 1))), (.bi .len [(.var 0)])] [(.cmp .eq (.sub (.sub (.var 0) (.var 6)) (.cst (.int 1))) (.var 4))] [6])), (.ite (.and (.cmp .ne (.var 5) (.lst [])) (.cmp .eq (.sub (.sub (.var 0) (.sub (.var 5) (.cst (.int 0)))) (.cst (.int 0))) (.cst (.str "call")))) [(.ex (.mt .append (.var 1) [(.tup [(.var 2), (.sub (.var 5) (.cst (.int 0)))])]))] [])] [])]
end
end Rs
end
section
set_option maxRecDepth 100000
set_option maxHeartbeats 4000000
/-! The reprs of rows, of things, of pairs. -/
namespace Rs
open PySem L2
def alD (ts : AL) : List (PyData × PyData) := ts.map fun p => (.str p.1, .int p.2)
structure GoodT (ts : AL) : Prop where
  sub : ∀ p ∈ ts, p.1 ∈ baseN
  val : ∀ p ∈ ts, 1 ≤ p.2 ∧ p.2 ≤ 1000000
  nd : (ts.map (·.1)).Nodup
  len : ts.length ≤ 20
  ne : ts ≠ []
end Rs
end
section
set_option maxRecDepth 100000
set_option maxHeartbeats 4000000
/-! What most laws begin with; values that are data of a bounded size. -/
namespace Rs
open PySem L2
/-! ### data of a bounded size -/
def bdD (n dp : Nat) (d : PyData) : Bool := d.showable && (decide (d.depth ≤ dp) && (lowD d && decide (szD d ≤ n)))
def bdV (n dp : Nat) (v : Val) : Bool := match toD v with
  | some d => bdD n dp d
  | none => false
end Rs
end
section
set_option maxRecDepth 100000
set_option maxHeartbeats 400000
/-! Values under the operators, for simp. -/
namespace Rs
open PySem L2
section
variable {i j : Int} {a b : Bool} {x y : Str} {xs ys : List Val} {kvs : List (Key × Val)} {v w : Val} {n : Nat}
@[simp] theorem okV_non : okV .non = true := rfl
@[simp] theorem okV_bl : okV (.bl a) = true := rfl
@[simp] theorem okV_int : okV (.int i) = true := rfl
@[simp] theorem okV_str : okV (.str x) = true := rfl
@[simp] theorem okV_lst : okV (.lst xs) = true := rfl
@[simp] theorem okV_tup : okV (.tup xs) = true := rfl
@[simp] theorem okV_dct : okV (.dct kvs) = true := rfl
@[simp] theorem okV_scr {ns : List Int} : okV (.scr ns) = true := rfl
@[simp] theorem okV_ref : okV (.ref n) = true := rfl
@[simp] theorem kd_non : kindV .non = 0 := by simp only [kindV]
@[simp] theorem kd_bl : kindV (.bl a) = 1 := by simp only [kindV]
@[simp] theorem kd_int : kindV (.int i) = 2 := by simp only [kindV]
@[simp] theorem kd_str : kindV (.str x) = 3 := by simp only [kindV]
@[simp] theorem kd_lst : kindV (.lst xs) = 4 := by simp only [kindV]
@[simp] theorem kd_tup : kindV (.tup xs) = 5 := by simp only [kindV]
@[simp] theorem kd_dct : kindV (.dct kvs) = 6 := by simp only [kindV]
@[simp] theorem bq_isInt' (h : kindV v < 7) : biop .isInt [v] = some (.v (.bl (kindV v == 1 || kindV v == 2))) := by simp only [biop, kInt]; rw [if_neg (by omega)]; rfl
@[simp] theorem bq_isBool' (h : kindV v < 7) : biop .isBool [v] = some (.v (.bl (kindV v == 1))) := by simp only [biop, kBool]; rw [if_neg (by omega)]; rfl
@[simp] theorem bq_isStr' (h : kindV v < 7) : biop .isStr [v] = some (.v (.bl (kindV v == 3))) := by simp only [biop, kStr]; rw [if_neg (by omega)]; rfl
@[simp] theorem bq_isLst' (h : kindV v < 7) : biop .isLst [v] = some (.v (.bl (kindV v == 4))) := by simp only [biop, kLst]; rw [if_neg (by omega)]; rfl
@[simp] theorem bq_isTup' (h : kindV v < 7) : biop .isTup [v] = some (.v (.bl (kindV v == 5))) := by simp only [biop, kTup]; rw [if_neg (by omega)]; rfl
@[simp] theorem bq_isDct' (h : kindV v < 7) : biop .isDct [v] = some (.v (.bl (kindV v == 6))) := by simp only [biop, kDct]; rw [if_neg (by omega)]; rfl
@[simp] theorem bo_addI : binop .add (.int i) (.int j) = some (.v (.int (i + j))) := rfl
@[simp] theorem bo_subI : binop .sub (.int i) (.int j) = some (.v (.int (i - j))) := rfl
@[simp] theorem bo_mulI : binop .mul (.int i) (.int j) = if okMul i j then some (.v (.int (i * j))) else none := rfl
@[simp] theorem bo_divI : binop .fdiv (.int i) (.int j) = if 0 < j ∧ j < 1073741824 then some (.v (.int (i / j))) else none := rfl
@[simp] theorem bo_modI : binop .mod (.int i) (.int j) = if 0 < j then some (.v (.int (i % j))) else none := rfl
@[simp] theorem bo_addS : binop .add (.str x) (.str y) = if x.length + y.length ≤ sizeLine then some (.v (.str (x ++ y))) else none := rfl
@[simp] theorem bo_addL : binop .add (.lst xs) (.lst ys) = if xs.length + ys.length ≤ sizeLine then some (.f (.lst (xs ++ ys) false)) else none := rfl
@[simp] theorem bo_addT : binop .add (.tup xs) (.tup ys) = if xs.length + ys.length ≤ sizeLine then some (.v (.tup (xs ++ ys))) else none := rfl
@[simp] theorem bo_mulL : binop .mul (.lst xs) (.int i) = if -(2 ^ 63) ≤ i ∧ i < 2 ^ 63 ∧ xs.length * i.toNat ≤ sizeLine then some (.f (.lst (rep xs i) false)) else none := rfl
@[simp] theorem co_eqI : cmpop .eq (.int i) (.int j) = some (decide (i = j)) := veq_int _ _
@[simp] theorem co_eqS : cmpop .eq (.str x) (.str y) = some (decide (x = y)) := veq_str _ _
@[simp] theorem co_eqB : cmpop .eq (.bl a) (.bl b) = some (decide (a = b)) := veq_bl _ _
@[simp] theorem co_neI : cmpop .ne (.int i) (.int j) = some (!decide (i = j)) := by simp [cmpop, veq_int]
@[simp] theorem co_neS : cmpop .ne (.str x) (.str y) = some (!decide (x = y)) := by simp [cmpop, veq_str]
@[simp] theorem co_ltI : cmpop .lt (.int i) (.int j) = some (decide (i < j)) := rfl
@[simp] theorem co_gtI : cmpop .gt (.int i) (.int j) = some (decide (j < i)) := rfl
@[simp] theorem co_leI : cmpop .le (.int i) (.int j) = some (!decide (j < i)) := rfl
@[simp] theorem co_geI : cmpop .ge (.int i) (.int j) = some (!decide (i < j)) := rfl
@[simp] theorem co_in : cmpop .isin v w = vin v w := rfl
@[simp] theorem co_nin : cmpop .notin v w = (vin v w).map (!·) := rfl
@[simp] theorem co_isN : cmpop .is_ .non .non = some true := rfl
@[simp] theorem co_isB : cmpop .is_ (.bl a) (.bl b) = some (a == b) := rfl
@[simp] theorem co_isntB : cmpop .isnot (.bl a) (.bl b) = some (!(a == b)) := rfl
@[simp] theorem co_isntN : cmpop .isnot .non .non = some false := rfl
@[simp] theorem bq_lenL : biop .len [.lst xs] = some (.v (.int xs.length)) := rfl
@[simp] theorem bq_lenT : biop .len [.tup xs] = some (.v (.int xs.length)) := rfl
@[simp] theorem bq_lenD : biop .len [.dct kvs] = some (.v (.int kvs.length)) := rfl
@[simp] theorem bq_lenS : biop .len [.str x] = if x.length ≤ sizeLine then some (.v (.int x.length)) else none := rfl
@[simp] theorem bq_lenG {ns : List Int} : biop .len [.scr ns] = some (.v (.int ns.length)) := rfl
@[simp] theorem bq_max2 : biop .max [.int i, .int j] = some (.v (.int (if j > i then j else i))) := rfl
@[simp] theorem bq_min2 : biop .min [.int i, .int j] = some (.v (.int (if j < i then j else i))) := rfl
@[simp] theorem bq_tupL : biop .tuple [.lst xs] = some (.v (.tup xs)) := rfl
@[simp] theorem bq_tupT : biop .tuple [.tup xs] = some (.v (.tup xs)) := rfl
@[simp] theorem bq_dictD : biop .dict [.dct kvs] = some (.f (.dct kvs false)) := rfl
@[simp] theorem bq_listL : biop .list [.lst xs] = some (.f (.lst xs false)) := rfl
@[simp] theorem bq_listT : biop .list [.tup xs] = some (.f (.lst xs false)) := rfl
@[simp] theorem bq_listD : biop .list [.dct kvs] = some (.f (.lst (kvs.map fun kv => vKey kv.1) false)) := rfl
@[simp] theorem bq_intI : biop .int [.int i] = some (.v (.int i)) := rfl
@[simp] theorem mk_app : mkind .append (.lst xs) = true := rfl
@[simp] theorem mk_pop : mkind .pop (.lst xs) = true := rfl
@[simp] theorem mk_ins : mkind .insert (.lst xs) = true := rfl
@[simp] theorem mk_dget : mkind .dget (.dct kvs) = true := rfl
@[simp] theorem mk_dpop : mkind .dpop (.dct kvs) = true := rfl
@[simp] theorem mk_dclear : mkind .dclear (.dct kvs) = true := rfl
@[simp] theorem mk_upd : mkind .upd (.dct kvs) = true := rfl
@[simp] theorem mk_join : mkind .join (.str x) = true := rfl
@[simp] theorem mk_split : mkind .split (.str x) = true := rfl
@[simp] theorem mk_upper : mkind .upper (.str x) = true := rfl
@[simp] theorem vs_lst : vsub (.lst xs) (.int i) = atI xs i := rfl
@[simp] theorem vs_tup : vsub (.tup xs) (.int i) = atI xs i := rfl
@[simp] theorem vs_dctS : vsub (.dct kvs) (.str x) = dget kvs (.inr x) := rfl
@[simp] theorem vsl_lst {lo hi : Option Int} : vslice (.lst xs) lo hi = some (.f (.lst (cut xs lo hi) false)) := rfl
@[simp] theorem vsl_tup {lo hi : Option Int} : vslice (.tup xs) lo hi = some (.v (.tup (cut xs lo hi))) := rfl
@[simp] theorem part_0 : partV [] = some none := rfl
@[simp] theorem part_i : partV [.int i] = some (some i) := rfl
@[simp] theorem step_m1 : vstep (.lst xs) (-1) = some (.f (.lst xs.reverse false)) := rfl
@[simp] theorem step_1 : vstep (.lst xs) 1 = some (.f (.lst xs false)) := rfl
@[simp] theorem src_itL : srcItems .it [.lst xs] = some xs := rfl
@[simp] theorem src_itT : srcItems .it [.tup xs] = some xs := rfl
@[simp] theorem mt_appL {xs : List Val} : mtop .append (.lst xs) [v] = if xs.length < sizeLine then some (.v .non, some (.lst (xs ++ [v]) false)) else none := rfl
@[simp] theorem noSl_v : noSl [.v v] = true := rfl
end
@[simp] theorem beq_no {v : Val} {k : Nat} (h : ¬ kindV v = k) : (kindV v == k) = false := by simpa using h
end Rs
end
section
set_option maxRecDepth 100000
set_option maxHeartbeats 400000
/-! The laws' own draws, forwards. -/
namespace Rs
open PySem L2
/-- the law's own draws stand there -/
class Gen (fs : List Fd) : Prop where
  g : HasGen fs
instance {fs : List Fd} [HasD fs 0 fd__law_feed] [HasD fs 1 fd__law_take] [HasD fs 2 fd__law_pick] [HasD fs 3 fd__law_names] [HasD fs 4 fd__law_things] [HasD fs 5 fd__law_event] [HasD fs 6 fd__law_row] : Gen fs :=
  ⟨⟨HasD.e, HasD.e, HasD.e, HasD.e, HasD.e, HasD.e, HasD.e⟩⟩
@[simp] theorem feed_set (h : List Cell) (i : Nat) (c c' : Cell) : (h.set i c).set i c' = h.set i c' := List.set_set ..
section
variable {T : Tab} {fs : List Fd}
theorem call_e {n i : Nat} {vs : List Val} {h : List Cell} {v : Val} {s : S} (e : callI T fs n i vs h = .ok v s) : s.e = [] := by
  cases n with
  | zero => cases e
  | succ n =>
    unfold callI at e
    cases q : fs[i]? with
    | none => rw [q] at e; cases e
    | some d =>
      rw [q] at e
      simp only [runFd] at e
      split at e
      · split at e <;> first | (cases e; rfl) | (cases e; done) | (exact absurd e exOut_ne)
      · cases e
theorem call_e' {n i : Nat} {vs : List Val} {h h2 : List Cell} {v : Val} {e2 : List Slot} (e : callI T fs n i vs h = .ok v ⟨e2, h2⟩) : callI T fs n i vs h = .ok v ⟨[], h2⟩ := by
  have := call_e e
  simp only at this
  rw [this] at e
  exact e
theorem feed_wp {n : Nat} {h : List Cell} {ns : List Int} {k : Int} {Q : Val → S → Prop} [HasD fs 0 fd__law_feed] (hl : ns.length ≤ 63) (q : ∀ d x, Q (.ref h.length) ⟨[], h ++ [fc d x]⟩) : Wp (callI T fs (n + 1) 0 [.scr ns, .int k] h) Q := by
  obtain ⟨d, x, s2, e⟩ := feed_ok (T := T) (HasD.e (fs := fs) (i := 0)) n h ns k hl
  exact wp_of (call_e' e) (q d x)
theorem pick_wp {n : Nat} {h : List Cell} {i : Nat} {cs : List Val} {Q : Val → S → Prop} [HasD fs 1 fd__law_take] [HasD fs 2 fd__law_pick] (hc : IsFeed h i) (h0 : cs ≠ []) (h1 : cs.length < 1073741824) (q : ∀ y d x, y ∈ cs → Q y ⟨[], h.set i (fc d x)⟩) : Wp (callI T fs (n + 2) 2 [.ref i, .lst cs] h) Q := by
  obtain ⟨r, d, x, s2, e, g⟩ := pick_ok (T := T) (HasD.e (fs := fs) (i := 1)) (HasD.e (fs := fs) (i := 2)) n h i cs hc h0 h1
  exact wp_of (call_e' e) (q r d x g)
end
/-- repr's text -/
def rp (v : Val) : Str := ((toD v).map PyData.shown).getD ""
@[simp] theorem dp_str {n : Nat} {h : List Cell} {x : Str} : dp n h (.str x) = .str x := by cases n <;> rfl
@[simp] theorem dp_int {n : Nat} {h : List Cell} {x : Int} : dp n h (.int x) = .int x := by cases n <;> rfl
@[simp] theorem dp_bl {n : Nat} {h : List Cell} {x : Bool} : dp n h (.bl x) = .bl x := by cases n <;> rfl
@[simp] theorem dp_non {n : Nat} {h : List Cell} : dp n h .non = .non := by cases n <;> rfl
@[simp] theorem veq_strs (a b : Str) : veq (.str a) (.str b) = some (decide (a = b)) := veq_str a b
@[simp] theorem veq_ints (a b : Int) : veq (.int a) (.int b) = some (decide (a = b)) := veq_int a b
/-- how many cells of the script a law looks at -/
def cellsN (N : Int) (ns : List Int) : Int := if (if (ns.length : Int) < N then (ns.length : Int) else N) > 1 then (if (ns.length : Int) < N then (ns.length : Int) else N) else 1
end Rs
end
section
set_option maxRecDepth 100000
set_option maxHeartbeats 1000000
namespace Rs
open PySem L2
section
variable {T : Tab} {C : Call} {e : List Slot} {h : List Cell}
@[simp] theorem wp_mkx {c f : Nat} {a : IE} {Q : Rv → S → Prop} : Wp (evalE T C (.mkx c f a) ⟨e, h⟩) Q = Wp (evalE T C a ⟨e, h⟩) (Vl fun v s => Q (.v (.ref s.h.length)) ⟨s.e, s.h ++ [.err c f v]⟩) := by
  rw [evalE_37, wp_bnd, wp_vl]
  simp only [wp_ok]
@[simp] theorem wp_xat {c f : Nat} {o : IE} {Q : Rv → S → Prop} : Wp (evalE T C (.xat c f o) ⟨e, h⟩) Q = Wp (evalE T C o ⟨e, h⟩) (Vl fun x s => Op (errAt s x) fun t => t.1 = c ∧ t.2.1 = f ∧ Q (.v t.2.2) s) := by
  rw [evalE_38, wp_bnd, wp_vl]
  refine congrArg (fun k => Wp (evalE T C o ⟨e, h⟩) (Vl k)) (funext fun x => funext fun s => ?_)
  cases errAt s x with
  | none => simp
  | some t =>
    obtain ⟨c2, f2, v⟩ := t
    simp only [op_s]
    by_cases hc : c2 = c ∧ f2 = f
    · rw [if_pos hc, wp_ok]
      exact propext ⟨fun q => ⟨hc.1, hc.2, q⟩, fun q => q.2.2⟩
    · rw [if_neg hc, wp_bad]
      exact propext ⟨False.elim, fun q => hc ⟨q.1, q.2.1⟩⟩
@[simp] theorem wp_isx {o : IE} {tb : List (Nat × Bool)} {Q : Rv → S → Prop} : Wp (evalE T C (.isx o tb) ⟨e, h⟩) Q = Wp (evalE T C o ⟨e, h⟩) (Vl fun x s => Op (errAt s x) fun t => Op (tb.lookup t.1) fun b => Q (.v (.bl b)) s) := by
  rw [evalE_39, wp_bnd, wp_vl]
  refine congrArg (fun k => Wp (evalE T C o ⟨e, h⟩) (Vl k)) (funext fun x => funext fun s => ?_)
  cases errAt s x with
  | none => simp
  | some t => simp
@[simp] theorem errAt_ref {r : Nat} : errAt ⟨e, h⟩ (.ref r) = (match h[r]? with
    | some (.err c f x) => some (c, f, x)
    | _ => none) := rfl
end
def errsC (v : Val) : List Cell := [.err 5 5 v, .err 6 6 v, .err 7 7 v, .err 8 8 v, .err 9 9 v]
theorem ten {P : Nat → Prop} (h : P 0 ∧ P 1 ∧ P 2 ∧ P 3 ∧ P 4 ∧ P 5 ∧ P 6 ∧ P 7 ∧ P 8 ∧ P 9) : ∀ i, i < 10 → P i
  | 0, _ => h.1
  | 1, _ => h.2.1
  | 2, _ => h.2.2.1
  | 3, _ => h.2.2.2.1
  | 4, _ => h.2.2.2.2.1
  | 5, _ => h.2.2.2.2.2.1
  | 6, _ => h.2.2.2.2.2.2.1
  | 7, _ => h.2.2.2.2.2.2.2.1
  | 8, _ => h.2.2.2.2.2.2.2.2.1
  | 9, _ => h.2.2.2.2.2.2.2.2.2
  | n + 10, h => by omega
theorem five {P : Nat → Prop} (h : P 0 ∧ P 1 ∧ P 2 ∧ P 3 ∧ P 4) : ∀ i, i < 5 → P i
  | 0, _ => h.1
  | 1, _ => h.2.1
  | 2, _ => h.2.2.1
  | 3, _ => h.2.2.2.1
  | 4, _ => h.2.2.2.2
  | n + 5, h => by omega
theorem made_ok (n : Nat) (h : List Cell) (v : Val) : ∀ i : Nat, i < 10 → callI tabL fds (n + 1) 45 [.int (i : Int), v] h = .ok (.ref (h.length + i % 5)) ⟨[], h ++ errsC v⟩ := by
  have sz : 10 ≤ sizeLine := by decide
  refine ten ?_
  refine ⟨?_, ?_, ?_, ?_, ?_, ?_, ?_, ?_, ?_, ?_⟩
  all_goals
    refine wp_eq (wp_def (d := fd__law_made) HasD.e rfl rfl ?_)
    show Wp (execSs tabL (callI tabL fds n) is__law_made ⟨[_, _, .no], h⟩) _
    unfold is__law_made
    simp [vlt, cmpop, atI, errsC, binop, vsub, ixN]
    try omega
theorem kinds_ok (n : Nat) (h : List Cell) (r : Nat) : ∀ i : Nat, i < 5 → (∃ f v, h[r]? = some (.err (5 + i) f v)) → callI tabL fds (n + 1) 46 [.ref r] h = .ok (.lst ([.bl (i == 0), .bl (i == 1), .bl (i == 2), .bl (i == 3), .bl (i == 4), .bl true, .bl true])) ⟨[], h⟩ := by
  have sz : 10 ≤ sizeLine := by decide
  refine five ?_
  refine ⟨?_, ?_, ?_, ?_, ?_⟩
  all_goals
    intro ⟨f, v, e⟩
    refine wp_eq (wp_def (d := fd__law_kinds) HasD.e rfl rfl ?_)
    show Wp (execSs tabL (callI tabL fds n) is__law_kinds ⟨[_, .no], h⟩) _
    unfold is__law_kinds
    simp [e, binop, List.lookup]
    omega
theorem value_ok (n : Nat) (h : List Cell) (r : Nat) (v : Val) : ∀ i : Nat, i < 10 → h[r]? = some (.err (5 + i % 5) (5 + i % 5) v) → callI tabL fds (n + 1) 47 [.int (i : Int), .ref r] h = .ok v ⟨[], h⟩ := by
  refine ten ?_
  refine ⟨?_, ?_, ?_, ?_, ?_, ?_, ?_, ?_, ?_, ?_⟩
  all_goals
    intro e
    refine wp_eq (wp_def (d := fd__law_value) HasD.e rfl rfl ?_)
    show Wp (execSs tabL (callI tabL fds n) is__law_value ⟨[_, _], h⟩) _
    unfold is__law_value
    simp [e, binop, biop, cmpop]
theorem caught_ok (n : Nat) (h : List Cell) (v : Val) : ∀ i : Nat, i < 5 → callI tabL fds (n + 1) 48 [.int (i : Int), v] h = .ok (.int (i : Int)) ⟨[], h⟩ := by
  refine five ?_
  refine ⟨?_, ?_, ?_, ?_, ?_⟩ <;> rfl
/-- the twelve values -/
def vals12 : List Val := [.non, .bl true, .str "jug", .tup [], .tup [.str "a", .str "b"], .lst [.int 1, .lst [.int 2]], .dct [], .dct [(.inr "a", .lst [.int 3])], .int (10 ^ 50), .int (-5), .str "", .lst [.str "out"]]
def shOk (v : Val) : Bool := match toD v with
  | some d => showOk d
  | none => false
theorem shOk_rep {v : Val} (h : shOk v = true) : biop .repr [v] = some (.v (.str (rp v))) := by
  unfold shOk at h
  simp only [biop]
  unfold rp
  cases q : toD v with
  | none => rw [q] at h; cases h
  | some d =>
    rw [q] at h
    simp only at h
    simp only [h, if_true]
    rfl
theorem vals_sh : vals12.all shOk = true := by decide +kernel
theorem vals_d (s : S) : ∀ y ∈ vals12, deref s (.v y) = y := by
  unfold vals12
  simp
theorem vals_o : vals12.all okV = true := by decide +kernel
def dueL (b0 b1 b2 b3 b4 : Bool) : Val := .lst [.bl b0, .bl b1, .bl b2, .bl b3, .bl b4, .bl true, .bl true]
theorem due_ne : ∀ b0 b1 b2 b3 b4 : Bool, cmpop .ne (dueL b0 b1 b2 b3 b4) (dueL b0 b1 b2 b3 b4) = some false := by decide +kernel
theorem due_set : ∀ j : Nat, j < 5 → subV (.lst [.bl false, .bl false, .bl false, .bl false, .bl false, .bl true, .bl true]) (.int (j : Int)) (.bl true) = some (.lst [.bl (j == 0), .bl (j == 1), .bl (j == 2), .bl (j == 3), .bl (j == 4), .bl true, .bl true] false) :=
  five ⟨rfl, rfl, rfl, rfl, rfl⟩
theorem plain03 (ns : List Int) (hns : ns.length ≤ 63) : ∃ s2, callI tabL fds 12 49 [.scr ns] [] = .ok (.bl true) s2 := by
  suffices Wp (callI tabL fds 12 49 [.scr ns] []) fun v s => v = .bl true by
    obtain ⟨v, s, e, rfl⟩ := this
    exact ⟨s, e⟩
  have hb := size_big
  refine wp_def (d := fd_law_k03) HasD.e rfl rfl ?_
  show Wp (execSs tabL (callI tabL fds 11) is_law_k03 ⟨[.val (.scr ns), .no, .no, .no, .no, .no, .no, .no], []⟩) _
  unfold is_law_k03
  simp
  refine feed_wp hns fun d x => ?_
  simp
  refine forK_rng [2, 3, 4, 5, 6, 7] (fun i as g => IsFeed g 0 ∧ ∃ a1 a2 a3 a4 a5 a6, as = [a1, a2, a3, a4, a5, a6]) [_, _, _, _, _, _] 0 10 rfl rfl ⟨⟨d, x, rfl⟩, _, _, _, _, _, _, rfl⟩ (fun i as g hi ⟨hg, a1, a2, a3, a4, a5, a6, has⟩ K hn hr _ _ => ?_) fun as g ⟨hg, a1, a2, a3, a4, a5, a6, has⟩ => ?_
  · subst has
    refine ⟨_, rfl, ?_⟩
    have k0 : kvsOf [] = some [] := rfl
    have k1 : kvsOf [Val.str "a", Val.lst [Val.int 3]] = some [(.inr "a", .lst [.int 3])] := rfl
    have k2 : dmerge [] [] = [] := rfl
    have k3 : dmerge [] [((.inr "a" : Key), Val.lst [.int 3])] = [(.inr "a", .lst [.int 3])] := rfl
    have k4 : binop .pow (.int 10) (.int 50) = some (.v (.int (10 ^ 50))) := by
      show (if (0 : Int) ≤ 50 ∧ (50 : Int) ≤ 1000000 ∧ (10 : Int).natAbs < 2 ^ 64 then some (Rv.v (.int (10 ^ (50 : Int).toNat))) else none) = _
      rw [if_pos (by decide)]
      rfl
    simp [k0, k1, k2, k3, k4, -Int.reducePow]
    refine pick_wp (T := tabL) (fs := fds) (n := 9) (h := g) (i := 0) (cs := vals12) hg (by simp [vals12]) (by simp [vals12]) fun y d x hy => ?_
    have hdy : ∀ s : S, deref s (.v y) = y := fun s => vals_d s y hy
    have hoy : okV y = true := List.all_eq_true.mp vals_o y hy
    have hrp := shOk_rep (List.all_eq_true.mp vals_sh y hy)
    have hg2 : IsFeed (g.set 0 (fc d x)) 0 := hg.set d x
    generalize g.set 0 (fc d x) = g at hg2
    have hm := fun h => made_ok 10 h y i hi
    have hk := fun h r => kinds_ok 10 h r (i % 5) (by omega)
    have hv := fun h r => value_ok 10 h r y i hi
    have hc := fun h => caught_ok 10 h y (i % 5) (by omega)
    have hg3 : IsFeed (g ++ errsC y) 0 := by
      obtain ⟨d, x, e⟩ := hg2
      exact ⟨d, x, by rw [List.getElem?_append_left (List.getElem?_eq_some_iff.mp e).1]; exact e⟩
    have he : (g ++ errsC y)[g.length + i % 5]? = some (.err (5 + i % 5) (5 + i % 5) y) := by
      rw [List.getElem?_append_right (by omega), Nat.add_sub_cancel_left]
      have : i % 5 < 5 := by omega
      generalize i % 5 = j at this
      revert j
      exact five ⟨rfl, rfl, rfl, rfl, rfl⟩
    have hk := hk (g ++ errsC y) (g.length + i % 5) ⟨_, _, he⟩
    have hv := hv (g ++ errsC y) (g.length + i % 5) he
    have hc := hc (g ++ errsC y)
    have hb1 : binop .mul (.lst [.bl false]) (.int 5) = some (.f (.lst [.bl false, .bl false, .bl false, .bl false, .bl false] false)) := by
      show (if -(2 ^ 63 : Int) ≤ 5 ∧ (5 : Int) < 2 ^ 63 ∧ 1 * (5 : Int).toNat ≤ sizeLine then some (Rv.f (.lst (rep [.bl false] 5) false)) else none) = _
      rw [if_pos (by refine ⟨by decide, by decide, ?_⟩; show 5 ≤ sizeLine; omega)]
      rfl
    have hb2 : binop .add (.lst [.bl false, .bl false, .bl false, .bl false, .bl false]) (.lst [.bl true, .bl true]) = some (.f (.lst [.bl false, .bl false, .bl false, .bl false, .bl false, .bl true, .bl true] false)) := by
      show (if 7 ≤ sizeLine then some (Rv.f (.lst _ false)) else none) = _
      rw [if_pos (by omega)]
      rfl
    have hb3 : ∀ j : Int, biop .int [.int j] = some (.v (.int j)) := fun _ => rfl
    have hb4 : ∀ j : Int, binop .mod (.int j) (.int 5) = some (.v (.int (j % 5))) := fun _ => rfl
    have hmod : ((i : Int) % 5) = ((i % 5 : Nat) : Int) := by omega
    have hset := due_set (i % 5) (by omega)
    have hne := due_ne (i % 5 == 0) (i % 5 == 1) (i % 5 == 2) (i % 5 == 3) (i % 5 == 4)
    unfold dueL at hne
    rw [← hmod] at hset hc
    simp [hdy, hoy, hrp, hm, hk, hv, hc, hb1, hb2, hb3, hb4, hset, hne]
    exact hn [_, _, _, _, _, _] _ ⟨hg3, _, _, _, _, _, _, rfl⟩
  · subst has
    simp
end Rs
open PySem PySem.W PySem.Calls PyProof.Rows
theorem PySem.Challenge.cw_rentshelf_k03_errors_by_hand_holds : PySem.Challenge.rw_rentshelf_k03_errors_by_hand.Holds :=
  law_of Rs.plain03
end
